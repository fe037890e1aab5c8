import PyProof.Rows.All
import Wide.All
import OpenK.AllK
import HandS.Dict
import HandS.Words
import HandS.Walk
import Wide.FinOn
import HandS.ForMost
import HandS.ForExc
import HandS.TupAny
import HandS.IsInst
import HandS.ExcField
import HandS.Property
import HandS.Zip
import HandS.Lambda
import KE.GoesMore
import HandS.ExcBuiltin
import KE.KExcSuper
import KE.RegKSuper
import HandS.ExcSuper
import HandS.Defaults
import HandS.Head0
import HandS.Head1
import HandS.Head2
import HandS.HeadEnd
import HandS.HeadHook1
import HandS.HeadHook2
import HandS.WordsExc
import KE.KNestM
import HandS.DictComp
import HandS.WordsDict
import HandS.Style
import HandS.More
import HandS.List
import HandS.Star
import KE.KDictSum
import PyProof.DictCopy
import PyProof.DictUpdate
import HandS.DictEq
import PyProof.TupleOfSeq
import PyProof.Rows.SortStr
import HandS.ListItems
import KE.SortData
import HandS.Deep
import HandS.Comp
import HandS.Iter
import KE.DataMinMax
import HandS.Sort
import KE.KDictZip
import KE.KExcIs
import HandS.EndOwn
import HandS.OwnEq
import HandS.SetFor
import PyProof.TupleOfGen
import KE.KDictList
import HandS.SortKw
import HandS.DictTup
import HandS.TupMul
import HandS.ListEq
import KE.KRevSl
import PyProof.EqAt
import HandS.TryMany
import HandS.Finally
import KE.DataCmp
import KE.KDflt
import HandS.Small
import PySem.Challenge.RW_lostdesk_k02_notes
set_option Elab.async false
set_option linter.all false
set_option maxRecDepth 100000
set_option maxHeartbeats 0
set_option synthInstance.maxSize 10000
set_option synthInstance.maxHeartbeats 1000000
/-! keys that are tuples of ints, texts, and tuples of these -/
namespace DL
open PySem L2
abbrev NI := Key ⊕ List Key
abbrev NK := List NI
section
variable {prog : Program} {w : World}
def NIs (prog : Program) (w : World) (h : Heap) : NI → Value → Prop
  | .inl k, v => (mixKind prog w).is k v = true
  | .inr ks, v => ∃ b, v = .ref b ∧ IsTupleKey (mixKind prog w) h ks b
inductive NItems (prog : Program) (w : World) (h : Heap) : NK → List Value → Prop
  | nil : NItems prog w h [] []
  | cons {k : NI} {v : Value} {ks : NK} {vs : List Value} : NIs prog w h k v → NItems prog w h ks vs → NItems prog w h (k :: ks) (v :: vs)
def IsNK (prog : Program) (w : World) (h : Heap) (ks : NK) (a : Addr) : Prop := ∃ o items n, h.get? a = some o ∧ o.cls = .type "tuple" ∧ o.data = .seq items n ∧ NItems prog w h ks items.toList
theorem NIs.inj {h : Heap} {x y : NI} {v : Value} (hx : NIs prog w h x v) (hy : NIs prog w h y v) : x = y := by
  cases x with
  | inl k => cases y with
    | inl j => rw [(mixKind prog w).inj v k j hx hy]
    | inr js =>
      obtain ⟨b, rfl, _⟩ := hy
      have := (mixKind prog w).byValue k _ hx
      simp [carriedByValue] at this
  | inr ks => cases y with
    | inl j =>
      obtain ⟨b, rfl, _⟩ := hx
      have := (mixKind prog w).byValue j _ hy
      simp [carriedByValue] at this
    | inr js =>
      obtain ⟨b, rfl, hb⟩ := hx
      obtain ⟨c, e, hc⟩ := hy
      cases e
      rw [hb.inj hc]
theorem NItems.inj {h : Heap} {x y : NK} {vs : List Value} (hx : NItems prog w h x vs) (hy : NItems prog w h y vs) : x = y := by
  induction hx generalizing y with
  | nil => cases hy; rfl
  | cons h1 _ ih =>
    cases hy with
    | cons h2 t2 => rw [h1.inj h2, ih t2]
theorem IsNK.inj {h : Heap} {a : Addr} {x y : NK} (hx : IsNK prog w h x a) (hy : IsNK prog w h y a) : x = y := by
  obtain ⟨o, items, n, ho, _, hd, hi⟩ := hx
  obtain ⟨o', items', n', ho', _, hd', hi'⟩ := hy
  obtain rfl : o = o' := Option.some.inj (ho.symm.trans ho')
  rw [hd] at hd'
  injection hd' with h1 _
  subst h1
  exact hi.inj hi'
variable {A : Around} {E : Value → Shared → Prop} {s : Shared}
/-- the shape: which items are tuples -/
def shp (ks : NK) : List Bool := ks.map fun k => k.isRight
end
end DL

/-! dicts whose keys are such tuples -/
namespace DL
open PySem L2
def niH (w : World) : NI → Int
  | .inl k => keyH w k
  | .inr ks => reduceHash (Builtin.Tuple.tupleHashOf (ks.map (keyH w)))
def nkH (w : World) (ks : NK) : Int := reduceHash (Builtin.Tuple.tupleHashOf (ks.map (niH w)))
def entN (w : World) (x : NK × Addr × Value) : DictEntry := ⟨nkH w x.1, .ref x.2.1, x.2.2⟩
/-- the dict at a has these entries -/
def TDO (w : World) (a : Addr) (xs : List (NK × Addr × Value)) : HO := .ext fun h => (a == sysModules) = false ∧ ∃ o ep, h.get? a = some o ∧ o.ExactDict ∧ o.data = .dict (xs.map (entN w)).toArray ep
def NIH (K : PySem.W.Frag) (H : Hp) : NI → V → Prop
  | .inl k, v => v = kV k
  | .inr ks, v => ∃ b, v = .ref b ∧ SqT K H b (ks.map kV)
/-- the tuple at a is the key -/
def NKH (K : PySem.W.Frag) (H : Hp) (k : NK) (a : Addr) : Prop := ∃ vs, SqT K H a vs ∧ Paired (NIH K H) k vs
section
variable {X : Cx} {pins : List (Addr × Obj)} {σ : L2.St} {H : Hp} {s : Shared}
/-- keys and values against the entries -/
abbrev TdR (K : PySem.W.Frag) (H : Hp) : List (NK × V) → List (NK × Addr × Value) → Prop := Paired fun p q => p.1 = q.1 ∧ NKH K H p.1 q.2.1 ∧ RelV p.2 q.2.2
theorem TdR.mono {K : PySem.W.Frag} {H H' : Hp} (ht : ∀ k a, NKH K H k a → NKH K H' k a) {kvs : List (NK × V)} {xs : List (NK × Addr × Value)} (r : TdR K H kvs xs) : TdR K H' kvs xs :=
  Paired.mapP r fun _ _ z => ⟨z.1, ht _ _ z.2.1, z.2.2⟩
variable {A : Around} {E : Value → Shared → Prop} {a b : Addr} {sh : List Bool} {kvs : List (NK × V)} {xs : List (NK × Addr × Value)} {k : NK} {v : V} {r : Value}
end
/-! ### rules -/
section
variable {X : Cx} {o i value : Expr} {pos pos' : Pos} {td ty tv : TE}
end
end DL

namespace DL
open PySem L2
/-! ### data: trees that never change; T: a tree or a cell -/
inductive D where
  | non | bl (b : Bool) | int (i : Int) | str (x : Str)
  | tup (xs : List D) | lst (xs : List D) | dic (kvs : List (Key × D))
  | ins (C : Addr) (fs : List (Str × D))
  | exc (a dd : Addr) (cls : Value) (fs : List (Str × D))
  | raw (v : V)
inductive T where
  | d (x : D) | cel (k : Nat)
  /-- a tuple of trees and cells -/
  | tup (es : List (D ⊕ Nat))
mutual
def Rep (K : PySem.W.Frag) (G : Hp) : D → V → Prop
  | .non, v => v = .non
  | .bl b, v => v = .bl b
  | .int i, v => v = .int i
  | .str x, v => v = .str x
  | .tup ds, v => ∃ a vs, v = .ref a ∧ SqT K G a vs ∧ RepL K G ds vs
  | .lst ds, v => ∃ a vs, v = .ref a ∧ SqL K G a vs ∧ RepL K G ds vs
  | .dic kvs, v => ∃ a ws, v = .ref a ∧ G a = some (.dK ws) ∧ RepK K G kvs ws
  | .ins C fs, v => ∃ a dx ws, v = .ref a ∧ G a = some (.ins C dx ws) ∧ RepF K G fs ws
  | .exc a dd cls fs, v => v = .ref a ∧ ∃ ws, G dd = some (.xd ws) ∧ RepF K G fs ws
  | .raw u, v => v = u
def RepL (K : PySem.W.Frag) (G : Hp) : List D → List V → Prop
  | [], vs => vs = []
  | d :: ds, vs => ∃ v r, vs = v :: r ∧ Rep K G d v ∧ RepL K G ds r
def RepK (K : PySem.W.Frag) (G : Hp) : List (Key × D) → List (Key × V) → Prop
  | [], vs => vs = []
  | (k, d) :: ds, vs => ∃ v r, vs = (k, v) :: r ∧ Rep K G d v ∧ RepK K G ds r
def RepF (K : PySem.W.Frag) (G : Hp) : List (Str × D) → List (Str × V) → Prop
  | [], vs => vs = []
  | (k, d) :: ds, vs => ∃ v r, vs = (k, v) :: r ∧ Rep K G d v ∧ RepF K G ds r
end
/-- G says nothing less -/
def Gg (G G' : Hp) : Prop := ∀ a u, G a = some u → G' a = some u
theorem Gg.refl (G : Hp) : Gg G G := fun _ _ h => h
theorem Gg.trans {G G1 G2 : Hp} (a : Gg G G1) (b : Gg G1 G2) : Gg G G2 := fun x u h => b x u (a x u h)
theorem Gg.sqT {K : PySem.W.Frag} {G G' : Hp} (g : Gg G G') {a : Addr} {xs : List V} (h : SqT K G a xs) : SqT K G' a xs := by
  rcases h with (h | ⟨o, h⟩) | h
  · exact .inl (.inl (g _ _ h))
  · exact .inl (.inr ⟨o, g _ _ h⟩)
  · exact .inr h
theorem Gg.sqL {K : PySem.W.Frag} {G G' : Hp} (g : Gg G G') {a : Addr} {xs : List V} (h : SqL K G a xs) : SqL K G' a xs := by
  rcases h with (h | ⟨o, h⟩) | h
  · exact .inl (.inl (g _ _ h))
  · exact .inl (.inr ⟨o, g _ _ h⟩)
  · exact .inr h
theorem pre_get {m m' : List Addr} (p : m <+: m') {k : Nat} {a : Addr} (h : m[k]? = some a) : m'[k]? = some a := by
  obtain ⟨t, rfl⟩ := p
  rw [List.getElem?_append_left (List.getElem?_eq_some_iff.mp h).1]
  exact h
mutual
theorem Rep.mono {K : PySem.W.Frag} {G G' : Hp} (g : Gg G G') : ∀ (d : D) (v : V), Rep K G d v → Rep K G' d v
  | .non, v, h => h
  | .bl b, v, h => h
  | .int i, v, h => h
  | .str x, v, h => h
  | .tup ds, v, ⟨a, vs, e, hs, r⟩ => ⟨a, vs, e, g.sqT hs, RepL.mono g ds vs r⟩
  | .lst ds, v, ⟨a, vs, e, hs, r⟩ => ⟨a, vs, e, g.sqL hs, RepL.mono g ds vs r⟩
  | .dic kvs, v, ⟨a, ws, e, hs, r⟩ => ⟨a, ws, e, g _ _ hs, RepK.mono g kvs ws r⟩
  | .ins C fs, v, ⟨a, dx, ws, e, hs, r⟩ => ⟨a, dx, ws, e, g _ _ hs, RepF.mono g fs ws r⟩
  | .exc a dd cls fs, v, ⟨e, ws, hs, r⟩ => ⟨e, ws, g _ _ hs, RepF.mono g fs ws r⟩
  | .raw u, v, h => h
theorem RepL.mono {K : PySem.W.Frag} {G G' : Hp} (g : Gg G G') : ∀ (ds : List D) (vs : List V), RepL K G ds vs → RepL K G' ds vs
  | [], vs, h => h
  | d :: ds, vs, ⟨v, r, e, h, hr⟩ => ⟨v, r, e, Rep.mono g d v h, RepL.mono g ds r hr⟩
theorem RepK.mono {K : PySem.W.Frag} {G G' : Hp} (g : Gg G G') : ∀ (ds : List (Key × D)) (vs : List (Key × V)), RepK K G ds vs → RepK K G' ds vs
  | [], vs, h => h
  | (k, d) :: ds, vs, ⟨v, r, e, h, hr⟩ => ⟨v, r, e, Rep.mono g d v h, RepK.mono g ds r hr⟩
theorem RepF.mono {K : PySem.W.Frag} {G G' : Hp} (g : Gg G G') : ∀ (ds : List (Str × D)) (vs : List (Str × V)), RepF K G ds vs → RepF K G' ds vs
  | [], vs, h => h
  | (k, d) :: ds, vs, ⟨v, r, e, h, hr⟩ => ⟨v, r, e, Rep.mono g d v h, RepF.mono g ds r hr⟩
end
/-! ### tops -/
def RepE (K : PySem.W.Frag) (m : List Addr) (G : Hp) : List (D ⊕ Nat) → List V → Prop
  | [], vs => vs = []
  | .inl d :: es, vs => ∃ v r, vs = v :: r ∧ Rep K G d v ∧ RepE K m G es r
  | .inr k :: es, vs => ∃ a r, vs = .ref a :: r ∧ m[k]? = some a ∧ RepE K m G es r
theorem RepE.mono {K : PySem.W.Frag} {m m' : List Addr} {G G' : Hp} (p : m <+: m') (g : Gg G G') : ∀ {es : List (D ⊕ Nat)} {vs : List V}, RepE K m G es vs → RepE K m' G' es vs
  | [], vs, h => h
  | .inl d :: es, vs, ⟨v, r, e, h, hr⟩ => ⟨v, r, e, Rep.mono g d v h, RepE.mono p g hr⟩
  | .inr k :: es, vs, ⟨a, r, e, h, hr⟩ => ⟨a, r, e, pre_get p h, RepE.mono p g hr⟩
def RepT (K : PySem.W.Frag) (m : List Addr) (G : Hp) : T → V → Prop
  | .d x, v => Rep K G x v
  | .cel k, v => ∃ a, m[k]? = some a ∧ v = .ref a
  | .tup es, v => ∃ a vs, v = .ref a ∧ SqT K G a vs ∧ RepE K m G es vs
def RepTL (K : PySem.W.Frag) (m : List Addr) (G : Hp) : List T → List V → Prop
  | [], vs => vs = []
  | d :: ds, vs => ∃ v r, vs = v :: r ∧ RepT K m G d v ∧ RepTL K m G ds r
def RepTK {κ : Type} (K : PySem.W.Frag) (m : List Addr) (G : Hp) : List (κ × T) → List (κ × V) → Prop
  | [], vs => vs = []
  | (k, d) :: ds, vs => ∃ v r, vs = (k, v) :: r ∧ RepT K m G d v ∧ RepTK K m G ds r
theorem RepT.mono {K : PySem.W.Frag} {m m' : List Addr} {G G' : Hp} (p : m <+: m') (g : Gg G G') : ∀ {t : T} {v : V}, RepT K m G t v → RepT K m' G' t v
  | .d x, v, h => Rep.mono g x v h
  | .cel k, v, ⟨a, hk, e⟩ => ⟨a, pre_get p hk, e⟩
  | .tup es, v, ⟨a, vs, e, hs, r⟩ => ⟨a, vs, e, g.sqT hs, r.mono p g⟩
theorem RepTL.mono {K : PySem.W.Frag} {m m' : List Addr} {G G' : Hp} (p : m <+: m') (g : Gg G G') : ∀ {ts : List T} {vs : List V}, RepTL K m G ts vs → RepTL K m' G' ts vs
  | [], vs, h => h
  | d :: ds, vs, ⟨v, r, e, h, hr⟩ => ⟨v, r, e, h.mono p g, RepTL.mono p g hr⟩
theorem RepTK.mono {κ : Type} {K : PySem.W.Frag} {m m' : List Addr} {G G' : Hp} (p : m <+: m') (g : Gg G G') : ∀ {ts : List (κ × T)} {vs : List (κ × V)}, RepTK K m G ts vs → RepTK K m' G' ts vs
  | [], vs, h => h
  | (k, d) :: ds, vs, ⟨v, r, e, h, hr⟩ => ⟨v, r, e, h.mono p g, RepTK.mono p g hr⟩
/-! ### lists of data -/
section
variable {K : PySem.W.Frag} {m : List Addr} {G : Hp}
theorem RepL.length : ∀ {ds : List D} {vs : List V}, RepL K G ds vs → vs.length = ds.length
  | [], _, h => by cases h; rfl
  | d :: ds, _, ⟨v, r, e, _, hr⟩ => by subst e; simp [RepL.length hr]
theorem RepL.get : ∀ {ds : List D} {vs : List V} {i : Nat} {d : D}, RepL K G ds vs → ds[i]? = some d → ∃ v, vs[i]? = some v ∧ Rep K G d v
  | d :: ds, _, 0, d', ⟨v, r, e, h, _⟩, hi => by subst e; cases hi; exact ⟨v, rfl, h⟩
  | d :: ds, _, i + 1, d', ⟨v, r, e, _, hr⟩, hi => by subst e; exact RepL.get (i := i) hr hi
theorem RepL.append : ∀ {ds es : List D} {vs ws : List V}, RepL K G ds vs → RepL K G es ws → RepL K G (ds ++ es) (vs ++ ws)
  | [], es, _, ws, h, h' => by cases h; exact h'
  | d :: ds, es, _, ws, ⟨v, r, e, h, hr⟩, h' => by subst e; exact ⟨v, r ++ ws, rfl, h, RepL.append hr h'⟩
theorem RepL.one {d : D} {v : V} (h : Rep K G d v) : RepL K G [d] [v] := ⟨v, [], rfl, h, rfl⟩
theorem RepL.take : ∀ {ds : List D} {vs : List V} (n : Nat), RepL K G ds vs → RepL K G (ds.take n) (vs.take n)
  | [], _, n, h => by cases h; simp [RepL]
  | d :: ds, _, 0, h => by simp [RepL]
  | d :: ds, _, n + 1, ⟨v, r, e, h, hr⟩ => by subst e; exact ⟨v, r.take n, rfl, h, RepL.take n hr⟩
theorem RepL.drop : ∀ {ds : List D} {vs : List V} (n : Nat), RepL K G ds vs → RepL K G (ds.drop n) (vs.drop n)
  | [], _, n, h => by cases h; simp [RepL]
  | d :: ds, _, 0, h => h
  | d :: ds, _, n + 1, ⟨v, r, e, h, hr⟩ => by subst e; exact RepL.drop n hr
theorem RepL.isEmpty : ∀ {ds : List D} {vs : List V}, RepL K G ds vs → vs.isEmpty = ds.isEmpty
  | [], _, h => by cases h; rfl
  | _ :: _, _, ⟨_, _, e, _⟩ => by subst e; rfl
theorem RepF.lookup : ∀ {fs : List (Str × D)} {ws : List (Str × V)} {f : Str} {d : D}, RepF K G fs ws → fs.lookup f = some d → ∃ v, ws.lookup f = some v ∧ Rep K G d v
  | (k, c) :: fs, _, f, d, ⟨v, r, e, h, hr⟩, hi => by
    subst e
    rw [List.lookup_cons] at hi ⊢
    cases q : (f == k) with
    | true => rw [q] at hi; cases hi; exact ⟨v, rfl, h⟩
    | false => rw [q] at hi; exact RepF.lookup hr hi
theorem RepF.none : ∀ {fs : List (Str × D)} {ws : List (Str × V)} {f : Str}, RepF K G fs ws → fs.lookup f = .none → ws.lookup f = .none
  | [], _, f, h, _ => by cases h; rfl
  | (k, c) :: fs, _, f, ⟨v, r, e, h, hr⟩, hi => by
    subst e
    rw [List.lookup_cons] at hi ⊢
    cases q : (f == k) with
    | true => rw [q] at hi; cases hi
    | false => rw [q] at hi; exact RepF.none hr hi
theorem RepTL.length : ∀ {ds : List T} {vs : List V}, RepTL K m G ds vs → vs.length = ds.length
  | [], _, h => by cases h; rfl
  | d :: ds, _, ⟨v, r, e, _, hr⟩ => by subst e; simp [RepTL.length hr]
theorem RepTL.get : ∀ {ds : List T} {vs : List V} {i : Nat} {d : T}, RepTL K m G ds vs → ds[i]? = some d → ∃ v, vs[i]? = some v ∧ RepT K m G d v
  | d :: ds, _, 0, d', ⟨v, r, e, h, _⟩, hi => by subst e; cases hi; exact ⟨v, rfl, h⟩
  | d :: ds, _, i + 1, d', ⟨v, r, e, _, hr⟩, hi => by subst e; exact RepTL.get (i := i) hr hi
theorem RepTL.append : ∀ {ds es : List T} {vs ws : List V}, RepTL K m G ds vs → RepTL K m G es ws → RepTL K m G (ds ++ es) (vs ++ ws)
  | [], es, _, ws, h, h' => by cases h; exact h'
  | d :: ds, es, _, ws, ⟨v, r, e, h, hr⟩, h' => by subst e; exact ⟨v, r ++ ws, rfl, h, RepTL.append hr h'⟩
theorem RepTL.one {d : T} {v : V} (h : RepT K m G d v) : RepTL K m G [d] [v] := ⟨v, [], rfl, h, rfl⟩
theorem RepTL.set : ∀ {ds : List T} {vs : List V} (i : Nat) {d : T} {v : V}, RepTL K m G ds vs → RepT K m G d v → RepTL K m G (ds.set i d) (vs.set i v)
  | [], _, i, d, v, h, _ => by cases h; simp [RepTL]
  | c :: ds, _, 0, d, v, ⟨u, r, e, h, hr⟩, h' => by subst e; exact ⟨v, r, rfl, h', hr⟩
  | c :: ds, _, i + 1, d, v, ⟨u, r, e, h, hr⟩, h' => by subst e; exact ⟨u, r.set i v, rfl, h, RepTL.set i hr h'⟩
theorem RepTL.erase : ∀ {ds : List T} {vs : List V} (i : Nat), RepTL K m G ds vs → RepTL K m G (ds.eraseIdx i) (vs.eraseIdx i)
  | [], _, i, h => by cases h; simp [RepTL]
  | c :: ds, _, 0, ⟨u, r, e, h, hr⟩ => by subst e; exact hr
  | c :: ds, _, i + 1, ⟨u, r, e, h, hr⟩ => by subst e; exact ⟨u, r.eraseIdx i, rfl, h, RepTL.erase i hr⟩
theorem RepTL.isEmpty : ∀ {ds : List T} {vs : List V}, RepTL K m G ds vs → vs.isEmpty = ds.isEmpty
  | [], _, h => by cases h; rfl
  | _ :: _, _, ⟨_, _, e, _⟩ => by subst e; rfl
/-- all trees -/
def unT : List T → Option (List D)
  | [] => some []
  | .d x :: r => match unT r with
    | some xs => some (x :: xs)
    | none => none
  | .cel _ :: _ => none
  | .tup _ :: _ => none
theorem unT_ok : ∀ {ts : List T} {vs : List V} {ds : List D}, RepTL K m G ts vs → unT ts = some ds → RepL K G ds vs
  | [], vs, ds, r, h => by cases r; cases h; exact rfl
  | .d x :: ts, vs, ds, ⟨v, t, e, r, rs⟩, h => by
    simp only [unT] at h
    cases q : unT ts with
    | none => rw [q] at h; cases h
    | some ys => rw [q] at h; cases h; exact ⟨v, t, e, r, unT_ok rs q⟩
  | .cel _ :: ts, vs, ds, _, h => nomatch h
  | .tup _ :: ts, vs, ds, _, h => nomatch h
theorem toT : ∀ {ds : List D} {vs : List V}, RepL K G ds vs → RepTL K m G (ds.map T.d) vs
  | [], _, h => h
  | d :: ds, _, ⟨v, r, e, h, hr⟩ => ⟨v, r, e, h, toT hr⟩
theorem unT_map : ∀ ds : List D, unT (ds.map T.d) = some ds
  | [] => rfl
  | d :: ds => by simp [unT, unT_map ds]
def unK : List (Key × T) → Option (List (Key × D))
  | [] => some []
  | (k, .d x) :: r => match unK r with
    | some xs => some ((k, x) :: xs)
    | none => none
  | (_, .cel _) :: _ => none
  | (_, .tup _) :: _ => none
theorem unK_ok : ∀ {ts : List (Key × T)} {vs : List (Key × V)} {ds : List (Key × D)}, RepTK K m G ts vs → unK ts = some ds → RepK K G ds vs
  | [], vs, ds, r, h => by cases r; cases h; exact rfl
  | (k, .d x) :: ts, vs, ds, ⟨v, t, e, r, rs⟩, h => by
    simp only [unK] at h
    cases q : unK ts with
    | none => rw [q] at h; cases h
    | some ys => rw [q] at h; cases h; exact ⟨v, t, e, r, unK_ok rs q⟩
  | (k, .cel _) :: ts, vs, ds, _, h => nomatch h
  | (k, .tup _) :: ts, vs, ds, _, h => nomatch h
theorem RepTK.lookup : ∀ {fs : List (Str × T)} {ws : List (Str × V)} {f : Str} {d : T}, RepTK K m G fs ws → fs.lookup f = some d → ∃ v, ws.lookup f = some v ∧ RepT K m G d v
  | (k, c) :: fs, _, f, d, ⟨v, r, e, h, hr⟩, hi => by
    subst e
    rw [List.lookup_cons] at hi ⊢
    cases q : (f == k) with
    | true => rw [q] at hi; cases hi; exact ⟨v, rfl, h⟩
    | false => rw [q] at hi; exact RepTK.lookup hr hi
theorem RepTK.length {κ : Type} : ∀ {fs : List (κ × T)} {ws : List (κ × V)}, RepTK K m G fs ws → ws.length = fs.length
  | [], _, h => by cases h; rfl
  | (k, d) :: ds, _, ⟨v, r, e, _, hr⟩ => by subst e; simp [RepTK.length hr]
def putD (f : Str) (d : T) : List (Str × T) → List (Str × T)
  | [] => [(f, d)]
  | (g, x) :: r => if g = f then (g, d) :: r else (g, x) :: putD f d r
theorem RepTK.put {f : Str} {d : T} {v : V} (h' : RepT K m G d v) : ∀ {fs : List (Str × T)} {ws : List (Str × V)}, RepTK K m G fs ws → RepTK K m G (putD f d fs) (putF f v ws)
  | [], _, h => by cases h; exact ⟨v, [], rfl, h', rfl⟩
  | (k, c) :: fs, _, ⟨u, r, e, h, hr⟩ => by
    subst e
    by_cases q : k = f
    · simp only [putD, putF, if_pos q]; exact ⟨v, r, rfl, h', hr⟩
    · simp only [putD, putF, if_neg q]; exact ⟨u, _, rfl, h, RepTK.put h' hr⟩
end
/-! ### cells, the state -/
inductive Cell where
  | lst (xs : List T) | dic (kvs : List (Key × T)) | ins (C : Addr) (fs : List (Str × T))
  /-- a dict with tuples as keys -/
  | tdic (sh : List Bool) (kvs : List (NK × T))
  /-- the table of code objects at P: each bears the name q, and is known -/
  | tab (P : Addr) (q : Str)
  /-- what was here is data now -/
  | gone
/-- what G says stands in H, locked perhaps -/
def Gs (G H : Hp) : Prop := ∀ a u, G a = some u → H a = some u ∨ ((∃ kvs, u = .dK kvs) ∧ ∃ o, H a = some (.frz o u))
def CellOk (K : PySem.W.Frag) (wd : World) (m : List Addr) (G H : Hp) (a : Addr) : Cell → Prop
  | .lst ds => ∃ vs, H a = some (.lst vs) ∧ RepTL K m G ds vs
  | .dic kvs => ∃ ws, H a = some (.dK ws) ∧ RepTK K m G kvs ws
  | .ins C fs => ∃ dx ws, H a = some (.ins C dx ws) ∧ RepTK K m G fs ws
  | .tdic sh kvs => ∃ ws xs, RepTK K m G kvs ws ∧ ws.length ≤ sizeLine ∧ H a = some (TDO wd a xs) ∧ TdR K G ws xs ∧ (∀ p ∈ ws, shp p.1 = sh) ∧ (ws.map (·.1)).Nodup
  | .tab P q => a = P ∧ ∃ ps : Array Value, H a = some (.tbl ps) ∧ PySem.TriplesOk ps.toList ∧ ∀ (pos : Pos) (cv : Value), codeAmong pos ps.toList = some cv → ∃ c, cv = .ref c ∧ G c = some (LamX.CodeO c q)
  | .gone => H a ≠ none
structure RelS (K : PySem.W.Frag) (wd : World) (H : Hp) (ce : List Cell) (G : Hp) (m : List Addr) : Prop where
  gh : Gs G H
  nd : m.Nodup
  len : m.length = ce.length
  out : ∀ (k : Nat) (a : Addr), m[k]? = some a → ce[k]? ≠ some .gone → G a = none
  cel : ∀ (k : Nat) (a : Addr) (c : Cell), m[k]? = some a → ce[k]? = some c → CellOk K wd m G H a c
/-- it stands as it stood, or is a dict that is locked now -/
def Kp (H' : Hp) (a : Addr) (o : HO) : Prop := H' a = some o ∨ ∃ kvs od, o = .dK kvs ∧ H' a = some (.frz od o)
theorem Kp.lst {H' : Hp} {a : Addr} {xs : List V} (h : Kp H' a (.lst xs)) : H' a = some (.lst xs) := by
  rcases h with h | ⟨_, _, e, _⟩
  · exact h
  · cases e
theorem Kp.upd {H' : Hp} {a p : Addr} {o o' : HO} (ne : a ≠ p) (h : Kp H' a o) : Kp (upd H' p o') a o := by
  rcases h with h | ⟨k, d, e, h⟩
  · exact .inl (by rw [upd_ne ne]; exact h)
  · exact .inr ⟨k, d, e, by rw [upd_ne ne]; exact h⟩
structure Stp (H : Hp) (m : List Addr) (G : Hp) (H' : Hp) (m' : List Addr) (G' : Hp) : Prop where
  keep : ∀ a o, H a = some o → a ∉ m → Kp H' a o
  pre : m <+: m'
  new : ∀ a ∈ m', a ∈ m ∨ H a = none
  gg : Gg G G'
  stay : ∀ a, H a ≠ none → H' a ≠ none
  gnew : ∀ a u, G' a = some u → G a = some u ∨ H a = none ∨ a ∈ m
  kg : ∀ a o u, G a ≠ none → H a = some (.frz o u) → H' a = some (.frz o u)
theorem Stp.refl {H : Hp} {m : List Addr} {G : Hp} : Stp H m G H m G := ⟨fun _ _ h _ => .inl h, List.prefix_refl m, fun _ h => .inl h, Gg.refl G, fun _ h => h, fun _ _ h => .inl h, fun _ _ _ _ h => h⟩
theorem Stp.trans {H H1 H2 : Hp} {m m1 m2 : List Addr} {G G1 G2 : Hp} (a : Stp H m G H1 m1 G1) (b : Stp H1 m1 G1 H2 m2 G2) : Stp H m G H2 m2 G2 where
  keep := fun x o h n => by
    have nm : x ∉ m1 := fun h1 => (a.new x h1).elim n fun q => by rw [q] at h; cases h
    rcases a.keep x o h n with h1 | ⟨k, d, e, h1⟩
    · exact b.keep x o h1 nm
    · rcases b.keep x _ h1 nm with h2 | ⟨_, _, e2, _⟩
      · exact .inr ⟨k, d, e, h2⟩
      · cases e2
  pre := a.pre.trans b.pre
  new := fun x h => (b.new x h).elim (fun h1 => a.new x h1) fun q => by
    cases e : H x with
    | none => exact .inr rfl
    | some o => exact absurd q (a.stay x (by rw [e]; exact fun z => nomatch z))
  gg := a.gg.trans b.gg
  stay := fun x h => b.stay x (a.stay x h)
  gnew := fun x u h => by
    rcases b.gnew x u h with h1 | q | q
    · exact a.gnew x u h1
    · cases e : H x with
      | none => exact .inr (.inl rfl)
      | some o => exact absurd q (a.stay x (by rw [e]; exact fun z => nomatch z))
    · rcases a.new x q with z | z
      · exact .inr (.inr z)
      · exact .inr (.inl z)
  kg := fun x o u hg h => b.kg x o u (fun z => by
    cases e : G x with
    | none => exact hg e
    | some v => rw [a.gg x v e] at z; cases z) (a.kg x o u hg h)
/-- what is locked stays locked -/
def Fz (H H' G : Hp) : Prop := ∀ a o u, H a = some (.frz o u) → G a ≠ none → H' a = some (.frz o u)
theorem Stp.fz {H H1 : Hp} {m m1 : List Addr} {G G1 : Hp} (a : Stp H m G H1 m1 G1) : Fz H H1 G := fun x o u h n => a.kg x o u n h
theorem upd_stay {H : Hp} {p : Addr} {o : HO} (a : Addr) (h : H a ≠ none) : upd H p o a ≠ none := by
  by_cases e : a = p
  · subst e; rw [upd_same]; exact fun z => nomatch z
  · rw [upd_ne e]; exact h
abbrev Sl := List (Option T)
abbrev Ce := List Cell
structure Rel (K : PySem.W.Frag) (wd : World) (σ : St) (H : Hp) (sl : Sl) (ce : Ce) (G : Hp) (m : List Addr) : Prop extends RelS K wd H ce G m where
  sln : σ.length = sl.length
  sls : ∀ (i : Nat) (d : T), sl[i]? = some (some d) → ∃ v, σ[i]? = some (some v) ∧ RepT K m G d v
theorem Rel.step {K : PySem.W.Frag} {σ : St} {H H' : Hp} {sl : Sl} {ce ce' : Ce} {G G' : Hp} {m m' : List Addr} (R : Rel K wd σ H sl ce G m) (s : Stp H m G H' m' G') (R' : RelS K wd H' ce' G' m') : Rel K wd σ H' sl ce' G' m' :=
  { R' with sln := R.sln, sls := fun i d h => let ⟨v, e, r⟩ := R.sls i d h; ⟨v, e, r.mono s.pre s.gg⟩ }
/-- what is raised, as data -/
structure Exc where
  cls : Value
  fs : List (Str × D)
def RepX (K : PySem.W.Frag) (G : Hp) (cls : Value) (dd : Option Addr) (x : Exc) : Prop :=
  x.cls = cls ∧ match dd with
    | none => x.fs = []
    | some d => ∃ ws, G d = some (.xd ws) ∧ RepF K G x.fs ws
/-! ### how the state goes on -/
section
variable {K : PySem.W.Frag} {H : Hp} {ce : Ce} {G : Hp} {m : List Addr}
theorem Gs.fresh (g : Gs G H) {p : Addr} (hp : H p = none) : G p = none := by
  cases e : G p with
  | none => rfl
  | some u =>
    rcases g p u e with h | ⟨_, o, h⟩ <;> rw [hp] at h <;> cases h
theorem Gs.rdT (g : Gs G H) {a : Addr} {xs : List V} (h : SqT K G a xs) : SqT K H a xs := by
  rcases h with (h | ⟨o, h⟩) | h
  · rcases g _ _ h with h | ⟨mu, _⟩
    · exact .inl (.inl h)
    · obtain ⟨_, q⟩ := mu; cases q
  · rcases g _ _ h with h | ⟨mu, _⟩
    · exact .inl (.inr ⟨o, h⟩)
    · obtain ⟨_, q⟩ := mu; cases q
  · exact .inr h
theorem Gs.rdL (g : Gs G H) {a : Addr} {xs : List V} (h : SqL K G a xs) : SqL K H a xs := by
  rcases h with (h | ⟨o, h⟩) | h
  · rcases g _ _ h with h | ⟨mu, o, h⟩
    · exact .inl (.inl h)
    · obtain ⟨_, q⟩ := mu; cases q
  · rcases g _ _ h with h | ⟨mu, _⟩
    · exact .inl (.inr ⟨o, h⟩)
    · obtain ⟨_, q⟩ := mu; cases q
  · exact .inr h
theorem CellOk.there {a : Addr} {c : Cell} (h : CellOk K wd m G H a c) : H a ≠ none := by
  cases c with
  | lst ds => obtain ⟨vs, h, _⟩ := h; rw [h]; exact fun z => nomatch z
  | dic ds => obtain ⟨vs, h, _⟩ := h; rw [h]; exact fun z => nomatch z
  | ins C fs => obtain ⟨dx, vs, h, _⟩ := h; rw [h]; exact fun z => nomatch z
  | tdic sh kvs => obtain ⟨ws, xs, _, _, h, _⟩ := h; rw [h]; exact fun z => nomatch z
  | tab P q => obtain ⟨_, ps, h, _⟩ := h; rw [h]; exact fun z => nomatch z
  | gone => exact h
theorem RelS.mem (R : RelS K wd H ce G m) {a : Addr} (h : a ∈ m) : H a ≠ none := by
  obtain ⟨k, hk, e⟩ := List.getElem_of_mem h
  have hk' : k < ce.length := by rw [← R.len]; exact hk
  exact (R.cel k a (ce[k]'hk') (by rw [List.getElem?_eq_getElem hk, e]) (List.getElem?_eq_getElem hk')).there
theorem RelS.nmem (R : RelS K wd H ce G m) {p : Addr} (hp : H p = none) : p ∉ m := fun h => R.mem h hp
theorem NKH.mono {G G' : Hp} (g : Gg G G') {k : NK} {a : Addr} (h : NKH K G k a) : NKH K G' k a := by
  obtain ⟨vs, hs, hp⟩ := h
  refine ⟨vs, g.sqT hs, Paired.mapP hp fun ni v z => ?_⟩
  cases ni with
  | inl _ => exact z
  | inr ks => obtain ⟨b, e, hb⟩ := z; exact ⟨b, e, g.sqT hb⟩
theorem CellOk.mono {m' : List Addr} {G' H' : Hp} {a : Addr} {c : Cell} (h : CellOk K wd m G H a c) (p : m <+: m') (g : Gg G G') (hH : ∀ o, H a = some o → H' a = some o) : CellOk K wd m' G' H' a c := by
  cases c with
  | lst ds => obtain ⟨vs, h, r⟩ := h; exact ⟨vs, hH _ h, r.mono p g⟩
  | dic ds => obtain ⟨vs, h, r⟩ := h; exact ⟨vs, hH _ h, r.mono p g⟩
  | ins C fs => obtain ⟨dx, vs, h, r⟩ := h; exact ⟨dx, vs, hH _ h, r.mono p g⟩
  | tdic sh kvs => obtain ⟨ws, xs, r, hl, h, rt, hs, hn⟩ := h; exact ⟨ws, xs, r.mono p g, hl, hH _ h, TdR.mono (fun _ _ z => z.mono g) rt, hs, hn⟩
  | tab P q =>
    obtain ⟨e, ps, h, ht, hc⟩ := h
    refine ⟨e, ps, hH _ h, ht, fun pos cv q => ?_⟩
    obtain ⟨c, e1, e2⟩ := hc pos cv q
    exact ⟨c, e1, g _ _ e2⟩
  | gone =>
    have h : H a ≠ none := h
    show H' a ≠ none
    cases e : H a with
    | none => exact absurd e h
    | some o => rw [hH o e]; exact fun z => nomatch z
theorem Gg.new {p : Addr} {o : HO} (h : G p = none) : Gg G (upd G p o) := fun a u e => by
  rw [upd_ne (ne_of_none e h)]
  exact e
/-- a new thing that never changes -/
theorem RelS.laid (R : RelS K wd H ce G m) {p : Addr} (o : HO) (hp : H p = none) : RelS K wd (upd H p o) ce (upd G p o) m ∧ Stp H m G (upd H p o) m (upd G p o) := by
  have gp := R.gh.fresh hp
  have g : Gg G (upd G p o) := Gg.new gp
  have nm := R.nmem hp
  refine ⟨⟨fun a u h => ?_, R.nd, R.len, fun k a hm hg => ?_, fun k a c hm hc => ?_⟩, ⟨fun a u h _ => ?_, List.prefix_refl m, fun a h => .inl h, g, upd_stay, fun a u h => ?_, fun b ob ub hb hz => by rw [upd_ne (fun z => by subst z; rw [hp] at hz; cases hz)]; exact hz⟩⟩
  · by_cases e : a = p
    · subst e; rw [upd_same] at h; cases h; exact .inl upd_same
    · rw [upd_ne e] at h ⊢; exact R.gh a u h
  · have ne : a ≠ p := fun e => nm (e ▸ List.mem_of_getElem? hm)
    rw [upd_ne ne]; exact R.out k a hm hg
  · have ne : a ≠ p := fun e => R.mem (List.mem_of_getElem? hm) (e ▸ hp)
    exact (R.cel k a c hm hc).mono (List.prefix_refl m) g (fun o h => by rw [upd_ne ne]; exact h)
  · exact .inl (by rw [upd_ne (ne_of_none h hp)]; exact h)
  · by_cases e : a = p
    · subst e; exact .inr (.inl hp)
    · rw [upd_ne e] at h; exact .inl h
/-- a thing that the machine lays beside (not said in G) -/
theorem RelS.beside (R : RelS K wd H ce G m) {p : Addr} (o : HO) (hp : H p = none) : RelS K wd (upd H p o) ce G m ∧ Stp H m G (upd H p o) m G := by
  refine ⟨⟨fun a u h => ?_, R.nd, R.len, R.out, fun k a c hm hc => ?_⟩, ⟨fun a u h _ => ?_, List.prefix_refl m, fun a h => .inl h, Gg.refl G, upd_stay, fun _ _ h => .inl h, fun b ob ub hb hz => by rw [upd_ne (fun z => by subst z; rw [hp] at hz; cases hz)]; exact hz⟩⟩
  · have ne : a ≠ p := fun e => by
      subst e
      rcases R.gh _ _ h with z | ⟨_, o, z⟩ <;> rw [hp] at z <;> cases z
    rw [upd_ne ne]; exact R.gh a u h
  · have ne : a ≠ p := fun e => R.mem (List.mem_of_getElem? hm) (e ▸ hp)
    exact (R.cel k a c hm hc).mono (List.prefix_refl m) (Gg.refl G) (fun o h => by rw [upd_ne ne]; exact h)
  · exact .inl (by rw [upd_ne (ne_of_none h hp)]; exact h)
theorem nodup_snoc {m : List Addr} (h : m.Nodup) {p : Addr} (n : p ∉ m) : (m ++ [p]).Nodup := by
  rw [List.nodup_append]
  exact ⟨h, List.pairwise_singleton _ _, fun a ha b hb e => by simp at hb; subst hb; subst e; exact n ha⟩
/-- a new cell -/
theorem RelS.cell (R : RelS K wd H ce G m) {p : Addr} {o : HO} {c : Cell} (hp : H p = none) (hc : CellOk K wd (m ++ [p]) G (upd H p o) p c) : RelS K wd (upd H p o) (ce ++ [c]) G (m ++ [p]) ∧ Stp H m G (upd H p o) (m ++ [p]) G := by
  have nm := R.nmem hp
  refine ⟨⟨fun a u h => ?_, nodup_snoc R.nd nm, by simp [R.len], fun k a hm hg => ?_, fun k a c' hm hc' => ?_⟩, ⟨fun a u h _ => ?_, List.prefix_append m [p], fun a h => ?_, Gg.refl G, upd_stay, fun _ _ h => .inl h, fun b ob ub hb hz => by rw [upd_ne (fun z => by subst z; rw [hp] at hz; cases hz)]; exact hz⟩⟩
  · have ne : a ≠ p := fun e => by
      subst e
      rcases R.gh _ _ h with z | ⟨_, o, z⟩ <;> rw [hp] at z <;> cases z
    rw [upd_ne ne]; exact R.gh a u h
  · by_cases hk : k < m.length
    · rw [List.getElem?_append_left hk] at hm
      rw [List.getElem?_append_left (by rw [← R.len]; exact hk)] at hg
      exact R.out k a hm hg
    · rcases List.mem_append.mp (List.mem_of_getElem? hm) with h | h
      · have hk0 : k = m.length := by
          have := (List.getElem?_eq_some_iff.mp hm).1
          simp at this; omega
        subst hk0
        rw [List.getElem?_append_right (Nat.le_refl _)] at hm
        simp at hm
        subst hm; exact R.gh.fresh hp
      · simp at h; subst h; exact R.gh.fresh hp
  · by_cases hk : k < m.length
    · rw [List.getElem?_append_left hk] at hm
      rw [List.getElem?_append_left (by rw [← R.len]; exact hk)] at hc'
      have ne : a ≠ p := fun e => nm (e ▸ List.mem_of_getElem? hm)
      exact (R.cel k a c' hm hc').mono (List.prefix_append m [p]) (Gg.refl G) (fun o h => by rw [upd_ne ne]; exact h)
    · have hk0 : k = m.length := by
        have := (List.getElem?_eq_some_iff.mp hm).1
        simp at this; omega
      subst hk0
      rw [List.getElem?_append_right (Nat.le_refl _)] at hm
      rw [R.len, List.getElem?_append_right (Nat.le_refl _)] at hc'
      simp at hm hc'
      subst hm; subst hc'
      exact hc
  · exact .inl (by rw [upd_ne (ne_of_none h hp)]; exact h)
  · rw [List.mem_append] at h
    rcases h with h | h
    · exact .inl h
    · simp at h; subst h; exact .inr hp
/-- a cell is written -/
theorem RelS.write (R : RelS K wd H ce G m) {k : Nat} {a : Addr} {o : HO} {c : Cell} (hk : m[k]? = some a) (hlv : ce[k]? ≠ some .gone) (hc : CellOk K wd m G (upd H a o) a c) : RelS K wd (upd H a o) (ce.set k c) G m ∧ Stp H m G (upd H a o) m G := by
  have ha : a ∈ m := List.mem_of_getElem? hk
  have hg := R.out k a hk hlv
  refine ⟨⟨fun b u h => ?_, R.nd, by simp [R.len], fun j b hm hgo => ?_, fun j b c' hm hc' => ?_⟩, ⟨fun b u h nb => ?_, List.prefix_refl m, fun a h => .inl h, Gg.refl G, upd_stay, fun _ _ h => .inl h, fun b ob ub hb hz => by rw [upd_ne (fun z => by subst z; exact hb hg)]; exact hz⟩⟩
  · have ne : b ≠ a := fun e => by subst e; rw [hg] at h; cases h
    rw [upd_ne ne]; exact R.gh b u h
  · by_cases e : j = k
    · subst e
      rw [hk] at hm; cases hm
      exact hg
    · rw [List.getElem?_set_ne (Ne.symm e)] at hgo
      exact R.out j b hm hgo
  · by_cases e : j = k
    · subst e
      rw [hk] at hm; cases hm
      have hl : j < ce.length := by rw [← R.len]; exact (List.getElem?_eq_some_iff.mp hk).1
      rw [List.getElem?_set_self hl] at hc'
      cases hc'
      exact hc
    · rw [List.getElem?_set_ne (Ne.symm e)] at hc'
      have ne : b ≠ a := fun z => by
        subst z
        exact e (nd_ix R.nd hm hk)
      exact (R.cel j b c' hm hc').mono (List.prefix_refl m) (Gg.refl G) (fun o h => by rw [upd_ne ne]; exact h)
  · have ne : b ≠ a := fun z => nb (z ▸ ha)
    exact .inl (by rw [upd_ne ne]; exact h)
/-! ### cells are let go -/
def elB (n : Nat) : D ⊕ Nat → Bool
  | .inl _ => true
  | .inr k => decide (k < n)
def topB (n : Nat) : T → Bool
  | .d _ => true
  | .cel k => decide (k < n)
  | .tup es => es.all (elB n)
theorem RepE.less {n : Nat} (hn : n ≤ m.length) : ∀ {es : List (D ⊕ Nat)} {vs : List V}, es.all (elB n) = true → RepE K m G es vs → RepE K (m.take n) G es vs
  | [], vs, _, h => h
  | .inl d :: es, vs, hb, ⟨v, r, e, h, hr⟩ => ⟨v, r, e, h, RepE.less hn (by rw [List.all_cons, Bool.and_eq_true] at hb; exact hb.2) hr⟩
  | .inr k :: es, vs, hb, ⟨a, r, e, h, hr⟩ => by
    rw [List.all_cons, Bool.and_eq_true] at hb
    have hk : k < n := of_decide_eq_true hb.1
    exact ⟨a, r, e, by rw [List.getElem?_take_of_lt hk]; exact h, RepE.less hn hb.2 hr⟩
theorem RepE.top : ∀ {es : List (D ⊕ Nat)} {vs : List V}, RepE K m G es vs → es.all (elB m.length) = true
  | [], vs, _ => rfl
  | .inl d :: es, vs, ⟨v, r, e, h, hr⟩ => by rw [List.all_cons, RepE.top hr]; rfl
  | .inr k :: es, vs, ⟨a, r, e, h, hr⟩ => by
    rw [List.all_cons, RepE.top hr, Bool.and_true]
    exact decide_eq_true (List.getElem?_eq_some_iff.mp h).1
def cellB (n : Nat) : Cell → Bool
  | .lst xs => xs.all (topB n)
  | .dic xs => xs.all fun p => topB n p.2
  | .ins _ xs => xs.all fun p => topB n p.2
  | .tdic _ xs => xs.all fun p => topB n p.2
  | .tab _ _ => true
  | .gone => true
theorem RepT.less {n : Nat} {t : T} {v : V} (hn : n ≤ m.length) (hb : topB n t = true) (r : RepT K m G t v) : RepT K (m.take n) G t v := by
  cases t with
  | d x => exact r
  | cel k =>
    obtain ⟨a, h, e⟩ := r
    have hk : k < n := of_decide_eq_true hb
    exact ⟨a, by rw [List.getElem?_take_of_lt hk]; exact h, e⟩
  | tup es =>
    obtain ⟨a, vs, e, hs, r⟩ := r
    exact ⟨a, vs, e, hs, r.less hn hb⟩
theorem RepTL.less {n : Nat} (hn : n ≤ m.length) : ∀ {ts : List T} {vs : List V}, ts.all (topB n) = true → RepTL K m G ts vs → RepTL K (m.take n) G ts vs
  | [], vs, _, h => h
  | d :: ds, vs, hb, ⟨v, r, e, h, hr⟩ => by
    rw [List.all_cons, Bool.and_eq_true] at hb
    exact ⟨v, r, e, h.less hn hb.1, RepTL.less hn hb.2 hr⟩
theorem RepTK.less {κ : Type} {n : Nat} (hn : n ≤ m.length) : ∀ {ts : List (κ × T)} {vs : List (κ × V)}, (ts.all fun p => topB n p.2) = true → RepTK K m G ts vs → RepTK K (m.take n) G ts vs
  | [], vs, _, h => h
  | (k, d) :: ds, vs, hb, ⟨v, r, e, h, hr⟩ => by
    rw [List.all_cons, Bool.and_eq_true] at hb
    exact ⟨v, r, e, h.less hn hb.1, RepTK.less hn hb.2 hr⟩
theorem CellOk.less {n : Nat} {a : Addr} {c : Cell} (hn : n ≤ m.length) (hb : cellB n c = true) (h : CellOk K wd m G H a c) : CellOk K wd (m.take n) G H a c := by
  cases c with
  | lst ds => obtain ⟨vs, h, r⟩ := h; exact ⟨vs, h, r.less hn hb⟩
  | dic ds => obtain ⟨vs, h, r⟩ := h; exact ⟨vs, h, r.less hn hb⟩
  | ins C fs => obtain ⟨dx, vs, h, r⟩ := h; exact ⟨dx, vs, h, r.less hn hb⟩
  | tdic sh kvs => obtain ⟨ws, xs, r, hl, h, rt, hs, hd⟩ := h; exact ⟨ws, xs, r.less hn hb, hl, h, rt, hs, hd⟩
  | tab P q => exact h
  | gone => exact h
theorem RelS.less (R : RelS K wd H ce G m) (n : Nat) (hn : n ≤ ce.length) (hb : (ce.take n).all (cellB n) = true) : RelS K wd H (ce.take n) G (m.take n) := by
  have hn' : n ≤ m.length := by rw [R.len]; exact hn
  refine ⟨R.gh, R.nd.sublist (List.take_sublist n m), by simp [R.len], fun k a hm hg => ?_, fun k a c hm hc => ?_⟩
  · have hk : k < n := by
      have := (List.getElem?_eq_some_iff.mp hm).1
      simp at this; omega
    rw [List.getElem?_take_of_lt hk] at hm hg
    exact R.out k a hm hg
  have hk : k < n := by
    have := (List.getElem?_eq_some_iff.mp hm).1
    simp at this; omega
  have hmem : c ∈ ce.take n := List.mem_of_getElem? hc
  rw [List.getElem?_take_of_lt hk] at hm hc
  exact (R.cel k a c hm hc).less hn' (List.all_eq_true.mp hb c hmem)
/-- the cells of a state speak of its cells alone -/
theorem RepT.top {t : T} {v : V} (r : RepT K m G t v) : topB m.length t = true := by
  cases t with
  | d x => rfl
  | cel k =>
    obtain ⟨a, h, _⟩ := r
    exact decide_eq_true (List.getElem?_eq_some_iff.mp h).1
  | tup es =>
    obtain ⟨a, vs, e, hs, r⟩ := r
    exact r.top
theorem RepTL.top : ∀ {ts : List T} {vs : List V}, RepTL K m G ts vs → ts.all (topB m.length) = true
  | [], vs, _ => rfl
  | d :: ds, vs, ⟨v, r, e, h, hr⟩ => by rw [List.all_cons, h.top, RepTL.top hr]; rfl
theorem RepTK.top {κ : Type} : ∀ {ts : List (κ × T)} {vs : List (κ × V)}, RepTK K m G ts vs → (ts.all fun p => topB m.length p.2) = true
  | [], vs, _ => rfl
  | (k, d) :: ds, vs, ⟨v, r, e, h, hr⟩ => by
    have h2 := RepTK.top hr
    rw [List.all_cons, h2]
    simp [h.top]
theorem RelS.tops (R : RelS K wd H ce G m) : ce.all (cellB ce.length) = true := by
  rw [List.all_eq_true]
  intro c hc
  obtain ⟨k, hk, e⟩ := List.getElem_of_mem hc
  have hk' : k < m.length := by rw [R.len]; exact hk
  have h := R.cel k (m[k]'hk') c (List.getElem?_eq_getElem hk') (by rw [List.getElem?_eq_getElem hk, e])
  rw [← R.len]
  cases c with
  | lst ds => obtain ⟨vs, _, r⟩ := h; exact r.top
  | dic ds => obtain ⟨vs, _, r⟩ := h; exact r.top
  | ins C fs => obtain ⟨dx, vs, _, r⟩ := h; exact r.top
  | tdic sh kvs => obtain ⟨ws, xs, r, _⟩ := h; exact r.top
  | tab P q => rfl
  | gone => rfl
/-- what never changes again -/
theorem RelS.freeze (R : RelS K wd H ce G m) {a : Addr} {o : HO} (h : H a = some o) (ha : a ∉ m) (hg : G a = none) : RelS K wd H ce (upd G a o) m ∧ Gg G (upd G a o) := by
  have g : Gg G (upd G a o) := Gg.new hg
  refine ⟨⟨fun b u hb => ?_, R.nd, R.len, fun k b hb hgo => ?_, fun k b c hm hc => (R.cel k b c hm hc).mono (List.prefix_refl m) g fun o h => h⟩, g⟩
  · by_cases e : b = a
    · subst e; rw [upd_same] at hb; cases hb; exact .inl h
    · rw [upd_ne e] at hb; exact R.gh b u hb
  · have ne : b ≠ a := fun e => ha (e ▸ List.mem_of_getElem? hb)
    rw [upd_ne ne]; exact R.out k b hb hgo
/-- a cell's content is data from now on -/
theorem RelS.taken (R : RelS K wd H ce G m) {k : Nat} {a : Addr} {o : HO} (hk : m[k]? = some a) (hlv : ce[k]? ≠ some .gone) (ho : H a = some o) : RelS K wd H (ce.set k .gone) (upd G a o) m ∧ Stp H m G H m (upd G a o) := by
  have hg := R.out k a hk hlv
  have g : Gg G (upd G a o) := Gg.new hg
  refine ⟨⟨fun b u hb => ?_, R.nd, by simp [R.len], fun j b hm hgo => ?_, fun j b c' hm hc' => ?_⟩, ⟨fun b u h _ => .inl h, List.prefix_refl m, fun a h => .inl h, g, fun _ h => h, fun b u hb => ?_, fun _ _ _ _ h => h⟩⟩
  · by_cases e : b = a
    · subst e; rw [upd_same] at hb; cases hb; exact .inl ho
    · rw [upd_ne e] at hb; exact R.gh b u hb
  · by_cases e : j = k
    · subst e
      have hl : j < ce.length := by rw [← R.len]; exact (List.getElem?_eq_some_iff.mp hk).1
      rw [List.getElem?_set_self hl] at hgo
      exact absurd rfl hgo
    · rw [List.getElem?_set_ne (Ne.symm e)] at hgo
      have ne : b ≠ a := fun z => by subst z; exact e (nd_ix R.nd hm hk)
      rw [upd_ne ne]; exact R.out j b hm hgo
  · by_cases e : j = k
    · subst e
      rw [hk] at hm; cases hm
      have hl : j < ce.length := by rw [← R.len]; exact (List.getElem?_eq_some_iff.mp hk).1
      rw [List.getElem?_set_self hl] at hc'
      cases hc'
      show H a ≠ none
      rw [ho]; exact fun z => nomatch z
    · rw [List.getElem?_set_ne (Ne.symm e)] at hc'
      exact (R.cel j b c' hm hc').mono (List.prefix_refl m) g (fun o h => h)
  · by_cases e : b = a
    · subst e; exact .inr (.inr (List.mem_of_getElem? hk))
    · rw [upd_ne e] at hb; exact .inl hb
end
end DL

namespace DL
open PySem L2
abbrev Ex1 := Exc → Sl → Ce → Prop
abbrev UE := Sl → Ce → (T → Ce → Prop) → Ex1 → Prop
abbrev UT := Sl → Ce → (Bool → Ce → Prop) → Ex1 → Prop
abbrev UA := Sl → Ce → (List T → Ce → Prop) → Ex1 → Prop
/-- what is wished for of an exception -/
def Wish (K : PySem.W.Frag) (wd : World) (W : WX) (H : Hp) (m : List Addr) (G : Hp) (Ed : Ex1) : Prop := ∀ cls dd σ' H' x sl' ce' G' m', Rel K wd σ' H' sl' ce' G' m' → Stp H m G H' m' G' → RepX K G' cls dd x → Ed x sl' ce' → W cls dd σ' H'
theorem Wish.step {K : PySem.W.Frag} {W : WX} {H H' : Hp} {m m' : List Addr} {G G' : Hp} {Ed : Ex1} (w : Wish K wd W H m G Ed) (s : Stp H m G H' m' G') : Wish K wd W H' m' G' Ed := fun cls dd σ' H2 x sl' ce' G2 m2 R s2 => w cls dd σ' H2 x sl' ce' G2 m2 R (s.trans s2)
def SemE (K : PySem.W.Frag) (wd : World) (tf : WX → TE) (u : UE) : Prop := ∀ (W : WX) (σ : St) (H : Hp) (sl : Sl) (ce : Ce) (G : Hp) (m : List Addr) (Qd : T → Ce → Prop) (Ed : Ex1) (Qv : VK), Rel K wd σ H sl ce G m → Wish K wd W H m G Ed → u sl ce Qd Ed →
  (∀ d ce' G' m' v H', Rel K wd σ H' sl ce' G' m' → Stp H m G H' m' G' → RepT K m' G' d v → Qd d ce' → Qv v H') → tf W σ H Qv
def SemT (K : PySem.W.Frag) (wd : World) (tf : WX → TT) (u : UT) : Prop := ∀ (W : WX) (σ : St) (H : Hp) (sl : Sl) (ce : Ce) (G : Hp) (m : List Addr) (Qd : Bool → Ce → Prop) (Ed : Ex1) (Qv : Bool → Hp → Prop), Rel K wd σ H sl ce G m → Wish K wd W H m G Ed → u sl ce Qd Ed →
  (∀ b ce' G' m' H', Rel K wd σ H' sl ce' G' m' → Stp H m G H' m' G' → Qd b ce' → Qv b H') → tf W σ H Qv
def SemA (K : PySem.W.Frag) (wd : World) (tf : WX → TA) (u : UA) : Prop := ∀ (W : WX) (σ : St) (H : Hp) (sl : Sl) (ce : Ce) (G : Hp) (m : List Addr) (Qd : List T → Ce → Prop) (Ed : Ex1) (Qv : List V → Hp → Prop), Rel K wd σ H sl ce G m → Wish K wd W H m G Ed → u sl ce Qd Ed →
  (∀ ds ce' G' m' vs H', Rel K wd σ H' sl ce' G' m' → Stp H m G H' m' G' → RepTL K m' G' ds vs → Qd ds ce' → Qv vs H') → tf W σ H Qv
structure DE (X : Cx) (e : Expr) (u : UE) : Prop where
  ex : ∃ tf : WX → TE, (∀ W, Takes X W → PE X e (tf W)) ∧ SemE X.K X.w tf u
structure DT (X : Cx) (e : Expr) (u : UT) : Prop where
  ex : ∃ tf : WX → TT, (∀ W, Takes X W → PT X e (tf W)) ∧ SemT X.K X.w tf u
structure DW (X : Cx) (e : Expr) (u : UT) : Prop where
  ex : ∃ tf : WX → TT, (∀ W, Takes X W → PW X e (tf W)) ∧ SemT X.K X.w tf u
structure DA (X : Cx) (es : List Expr) (u : UA) : Prop where
  ex : ∃ tf : WX → TA, (∀ W, Takes X W → PA X es (tf W)) ∧ SemA X.K X.w tf u
/-! ### names and constants -/
section
variable {X : Cx} {e a b c : Expr} {ua ub uc : UE} {pos : Pos}
def uVar (i : Nat) : UE := fun sl ce Q _ => match sl[i]? with
  | some (some d) => Q d ce
  | _ => False
theorem de_var (i : Nat) {x : Str} (hN : X.N[i]? = some x := by rfl) (hv : Vis X.env.scope x := by first | exact Or.inl rfl | exact Or.inr (Or.inl rfl) | exact Or.inr (Or.inr rfl)) (hd : (x == ("__debug__" : Str)) = false := by decide) (hcd : (x == ("__classdict__" : Str)) = false := by decide) : DE X (.Name x pos) (uVar i) := by
  refine ⟨fun _ => tVar i, fun _ _ => pe_var hN hv hd hcd, fun W σ H sl ce G m Qd Ed Qv R w h k => ?_⟩
  unfold uVar at h
  split at h
  next d e =>
    obtain ⟨v, ev, r⟩ := R.sls i d e
    exact ⟨v, ev, k d ce G m v H R .refl r h⟩
  next => exact h.elim
def uC (d : D) : UE := fun _ ce Q _ => Q (.d d) ce
theorem semC {K : PySem.W.Frag} {d : D} {v : V} (h : ∀ G, Rep K G d v) : SemE K wd (fun _ => tC v) (uC d) := fun W σ H sl ce G m Qd Ed Qv R w hu k => k (.d d) ce G m v H R .refl (h G) hu
theorem de_int {i : Int} {j : Nat} : DE X (.Constant (.int i) j pos) (uC (.int i)) := ⟨_, fun _ _ => pe_int, semC fun _ => rfl⟩
theorem de_bl {i : Bool} {j : Nat} : DE X (.Constant (.bool i) j pos) (uC (.bl i)) := ⟨_, fun _ _ => pe_bl, semC fun _ => rfl⟩
theorem de_non {j : Nat} : DE X (.Constant .none j pos) (uC .non) := ⟨_, fun _ _ => pe_non, semC fun _ => rfl⟩
theorem de_str {i : Str} {j : Nat} : DE X (.Constant (.str i) j pos) (uC (.str i)) := ⟨_, fun _ _ => pe_str, semC fun _ => rfl⟩
/-- a module's constant -/
theorem de_gint {x : Str} {i : Int} (hm : ∃ t, X.mg x = some (.int i t)) (hg : Gl X x := by rfl) (hd : (x == ("__debug__" : Str)) = false := by decide) : DE X (.Name x pos) (uC (.int i)) := by
  obtain ⟨t, hm⟩ := hm
  exact ⟨_, fun _ _ => pe_glob (v := .int i) hg hm ⟨t, rfl⟩ hd, semC fun _ => rfl⟩
theorem de_gstr {x : Str} {i : Str} (hm : ∃ t, X.mg x = some (.str i t)) (hg : Gl X x := by rfl) (hd : (x == ("__debug__" : Str)) = false := by decide) : DE X (.Name x pos) (uC (.str i)) := by
  obtain ⟨t, hm⟩ := hm
  exact ⟨_, fun _ _ => pe_glob (v := .str i) hg hm ⟨t, rfl⟩ hd, semC fun _ => rfl⟩
theorem de_gref {x : Str} {i : Addr} (hm : X.mg x = some (.ref i)) (hg : Gl X x := by rfl) (hd : (x == ("__debug__" : Str)) = false := by decide) : DE X (.Name x pos) (uC (.raw (.ref i))) :=
  ⟨_, fun _ _ => pe_glob (v := .ref i) hg hm rfl hd, semC fun _ => rfl⟩
theorem de_ty {x : Str} {T : String} (hm : X.mg x = none) (hv : bootBuiltins x = some (.type T)) (hg : Gl X x := by rfl) (hn : x ≠ "__name__" := by decide) (hd : (x == ("__debug__" : Str)) = false := by decide) : DE X (.Name x pos) (uC (.raw (.ty T))) :=
  ⟨_, fun _ _ => pe_bltn (v := .ty T) hg hm hv rfl hn hd, semC fun _ => rfl⟩
/-! ### arguments, tuples, lists -/
def uNil : UA := fun _ ce Q _ => Q [] ce
def uCons (ua : UE) (ur : UA) : UA := fun sl ce Q E => ua sl ce (fun x ce1 => ur sl ce1 (fun xs ce2 => Q (x :: xs) ce2) E) E
theorem da_nil : DA X [] uNil := ⟨fun _ => tNil, fun _ _ => pa_nil, fun W σ H sl ce G m Qd Ed Qv R w h k => k [] ce G m [] H R .refl rfl h⟩
theorem da_cons {es : List Expr} {ur : UA} (ha : DE X e ua) (hr : DA X es ur) (hs : starEach (e :: es) X.env = (false, eval e X.env) :: starEach es X.env := by rfl) : DA X (e :: es) (uCons ua ur) := by
  obtain ⟨ta, pa, sa⟩ := ha.ex
  obtain ⟨tr, pr, sr⟩ := hr.ex
  refine ⟨fun W => tCons (ta W) (tr W), fun W tk => pa_cons (pa W tk) (pr W tk) hs, fun W σ H sl ce G m Qd Ed Qv R w h k => ?_⟩
  refine sa W σ H sl ce G m _ Ed _ R w h fun d ce1 G1 m1 v H1 R1 s1 r1 h1 => ?_
  refine sr W σ H1 sl ce1 G1 m1 _ Ed _ R1 (w.step s1) h1 fun ds ce2 G2 m2 vs H2 R2 s2 r2 h2 => ?_
  exact k (d :: ds) ce2 G2 m2 (v :: vs) H2 R2 (s1.trans s2) ⟨v, vs, rfl, r1.mono s2.pre s2.gg, r2⟩ h2
def uTup (ua : UA) : UE := fun sl ce Q E => ua sl ce (fun ts ce1 => match unT ts with
  | some ds => ds.length ≤ sizeLine ∧ Q (.d (.tup ds)) ce1
  | none => False) E
def uLst (ua : UA) : UE := fun sl ce Q E => ua sl ce (fun ts ce1 => match unT ts with
  | some ds => ds.length ≤ sizeLine ∧ Q (.d (.lst ds)) ce1
  | none => False) E
def uLstC (ua : UA) : UE := fun sl ce Q E => ua sl ce (fun ds ce1 => ds.length ≤ sizeLine ∧ Q (.cel ce1.length) (ce1 ++ [.lst ds])) E
theorem de_tup {es : List Expr} {u : UA} {x1} (h : DA X es u) : DE X (.Tuple es x1 pos) (uTup u) := by
  obtain ⟨ta, pa, sa⟩ := h.ex
  refine ⟨fun W => tTup (ta W), fun W tk => pe_tup (pa W tk), fun W σ H sl ce G m Qd Ed Qv R w h k => ?_⟩
  refine sa W σ H sl ce G m _ Ed _ R w h fun ts ce1 G1 m1 vs H1 R1 s1 r1 h1 => ?_
  cases q : unT ts with
  | none => simp only [q] at h1
  | some ds =>
    simp only [q] at h1
    obtain ⟨hl, h1⟩ := h1
    have r0 := unT_ok r1 q
    refine ⟨by rw [r0.length]; exact hl, fun p hp => ?_⟩
    obtain ⟨R2, s2⟩ := R1.toRelS.laid (.tup vs) hp
    exact k (.d (.tup ds)) ce1 _ m1 _ _ (R1.step s2 R2) (s1.trans s2) ⟨p, vs, rfl, SqT.of upd_same, RepL.mono s2.gg _ _ r0⟩ h1
theorem de_lst {es : List Expr} {u : UA} (h : DA X es u) : DE X (.List es pos) (uLst u) := by
  obtain ⟨ta, pa, sa⟩ := h.ex
  refine ⟨fun W => tLst (ta W), fun W tk => pe_lst (pa W tk), fun W σ H sl ce G m Qd Ed Qv R w h k => ?_⟩
  refine sa W σ H sl ce G m _ Ed _ R w h fun ts ce1 G1 m1 vs H1 R1 s1 r1 h1 => ?_
  cases q : unT ts with
  | none => simp only [q] at h1
  | some ds =>
    simp only [q] at h1
    obtain ⟨hl, h1⟩ := h1
    have r0 := unT_ok r1 q
    refine ⟨by rw [r0.length]; exact hl, fun p hp => ?_⟩
    obtain ⟨R2, s2⟩ := R1.toRelS.laid (.lst vs) hp
    exact k (.d (.lst ds)) ce1 _ m1 _ _ (R1.step s2 R2) (s1.trans s2) ⟨p, vs, rfl, SqL.of upd_same, RepL.mono s2.gg _ _ r0⟩ h1
theorem snoc_last {m : List Addr} {p : Addr} : (m ++ [p])[m.length]? = some p := by simp
theorem de_lstC {es : List Expr} {u : UA} (h : DA X es u) : DE X (.List es pos) (uLstC u) := by
  obtain ⟨ta, pa, sa⟩ := h.ex
  refine ⟨fun W => tLst (ta W), fun W tk => pe_lst (pa W tk), fun W σ H sl ce G m Qd Ed Qv R w h k => ?_⟩
  refine sa W σ H sl ce G m _ Ed _ R w h fun ds ce1 G1 m1 vs H1 R1 s1 r1 ⟨hl, h1⟩ => ⟨by rw [r1.length]; exact hl, fun p hp => ?_⟩
  obtain ⟨R2, s2⟩ := R1.toRelS.cell (o := .lst vs) (c := .lst ds) hp ⟨vs, upd_same, r1.mono (List.prefix_append m1 [p]) (Gg.refl _)⟩
  exact k (.cel ce1.length) _ _ _ _ _ (R1.step s2 R2) (s1.trans s2) ⟨p, by rw [← R1.len]; exact snoc_last, rfl⟩ h1
/-! ### operators -/
abbrev O2 := T → T → Ce → (T → Ce → Prop) → Prop
def OpD (X : Cx) (f : Value → Value → Sem Value) (o : O2) : Prop := ∃ r : R2, OpR X f r ∧ ∀ (H : Hp) (ce : Ce) (G : Hp) (m : List Addr) (Qd : T → Ce → Prop) (Qv : VK) (x y : T) (v u : V), RelS X.K X.w H ce G m → RepT X.K m G x v → RepT X.K m G y u → o x y ce Qd →
  (∀ d ce' G' m' z H', RelS X.K X.w H' ce' G' m' → Stp H m G H' m' G' → RepT X.K m' G' d z → Qd d ce' → Qv z H') → r v u H Qv
def uOp (o : O2) (ua ub : UE) : UE := fun sl ce Q E => ua sl ce (fun x ce1 => ub sl ce1 (fun y ce2 => o x y ce2 Q) E) E
theorem semOp {K : PySem.W.Frag} {ta tb : WX → TE} {r : R2} {o : O2} (sa : SemE K wd ta ua) (sb : SemE K wd tb ub)
    (hr : ∀ (H : Hp) (ce : Ce) (G : Hp) (m : List Addr) (Qd : T → Ce → Prop) (Qv : VK) (x y : T) (v u : V), RelS K wd H ce G m → RepT K m G x v → RepT K m G y u → o x y ce Qd →
      (∀ d ce' G' m' z H', RelS K wd H' ce' G' m' → Stp H m G H' m' G' → RepT K m' G' d z → Qd d ce' → Qv z H') → r v u H Qv) : SemE K wd (fun W => tOp r (ta W) (tb W)) (uOp o ua ub) := by
  intro W σ H sl ce G m Qd Ed Qv R w h k
  refine sa W σ H sl ce G m _ Ed _ R w h fun x ce1 G1 m1 v H1 R1 s1 r1 h1 => ?_
  refine sb W σ H1 sl ce1 G1 m1 _ Ed _ R1 (w.step s1) h1 fun y ce2 G2 m2 u H2 R2 s2 r2 h2 => ?_
  refine hr H2 ce2 G2 m2 Qd Qv x y v u R2.toRelS (r1.mono s2.pre s2.gg) r2 h2 fun d ce' G' m' z H' R' s' r' q' => ?_
  exact k d ce' G' m' z H' (R2.step s' R') ((s1.trans s2).trans s') r' q'
theorem de_bin {op : Operator} {o : O2} (ho : OpD X (binaryOp op) o) (ha : DE X a ua) (hb : DE X b ub) : DE X (.BinOp a op b pos) (uOp o ua ub) := by
  obtain ⟨ta, pa, sa⟩ := ha.ex
  obtain ⟨tb, pb, sb⟩ := hb.ex
  obtain ⟨r, pr, sr⟩ := ho
  exact ⟨_, fun W tk => pe_op pr (pa W tk) (pb W tk), semOp sa sb sr⟩
theorem de_cmp {op : CmpOp} {o : O2} (ho : OpD X (compareOp op) o) (ha : DE X a ua) (hb : DE X b ub) (hm : behindInMarks op b = false := by first | exact nomark _ | rfl) : DE X (.Compare a [op] [b] pos) (uOp o ua ub) := by
  obtain ⟨ta, pa, sa⟩ := ha.ex
  obtain ⟨tb, pb, sb⟩ := hb.ex
  obtain ⟨r, pr, sr⟩ := ho
  exact ⟨_, fun W tk => pe_cmpR pr (pa W tk) (pb W tk) hm, semOp sa sb sr⟩
/-- a <= b <= c -/
def uChain (o o' : O2) (ua ub uc : UE) : UE := fun sl ce Q E => ua sl ce (fun x ce1 => ub sl ce1 (fun y ce2 => o x y ce2 fun z ce3 => match z with
  | .d (.bl true) => uc sl ce3 (fun w ce4 => o' y w ce4 Q) E
  | .d (.bl false) => Q (.d (.bl false)) ce3
  | _ => False) E) E
theorem de_chain {op op' : CmpOp} {o o' : O2} (ho : OpD X (compareOp op) o) (ho' : OpD X (compareOp op') o') (ha : DE X a ua) (hb : DE X b ub) (hc : DE X c uc) (hm : lastMarks [op, op'] [b, c] = false := by with_unfolding_all rfl) : DE X (.Compare a [op, op'] [b, c] pos) (uChain o o' ua ub uc) := by
  obtain ⟨ta, pa, sa⟩ := ha.ex
  obtain ⟨tb, pb, sb⟩ := hb.ex
  obtain ⟨tc, pc, sc⟩ := hc.ex
  obtain ⟨r, pr, sr⟩ := ho
  obtain ⟨r', pr', sr'⟩ := ho'
  refine ⟨fun W => tChain r r' (ta W) (tb W) (tc W), fun W tk => pe_chain pr pr' (pa W tk) (pb W tk) (pc W tk) hm, ?_⟩
  intro W σ H sl ce G m Qd Ed Qv R w h k
  refine sa W σ H sl ce G m _ Ed _ R w h fun x ce1 G1 m1 v H1 R1 s1 r1 h1 => ?_
  refine sb W σ H1 sl ce1 G1 m1 _ Ed _ R1 (w.step s1) h1 fun y ce2 G2 m2 u H2 R2 s2 r2 h2 => ?_
  refine sr H2 ce2 G2 m2 _ _ x y v u R2.toRelS (r1.mono s2.pre s2.gg) r2 h2 fun z ce3 G3 m3 zv H3 R3' s3 r3 q3 => ?_
  have R3 := R2.step s3 R3'
  split at q3
  · refine ⟨true, r3, ?_⟩
    refine iteT ?_
    refine sc W σ H3 sl ce3 G3 m3 _ Ed _ R3 (w.step ((s1.trans s2).trans s3)) q3 fun d ce4 G4 m4 dv H4 R4 s4 r4 h4 => ?_
    refine sr' H4 ce4 G4 m4 Qd Qv y d u dv R4.toRelS (r2.mono (s3.trans s4).pre (s3.trans s4).gg) r4 h4 fun d' ce' G' m' z' H' R' s' r' q' => ?_
    exact k d' ce' G' m' z' H' (R4.step s' R') ((((s1.trans s2).trans s3).trans s4).trans s') r' q'
  · refine ⟨false, r3, ?_⟩
    refine iteF ?_
    exact k (.d (.bl false)) ce3 G3 m3 _ H3 R3 ((s1.trans s2).trans s3) rfl q3
  · exact q3.elim
/-! ### tests -/
def truthD (ce : Ce) : T → Option Bool
  | .d .non => some false
  | .d (.bl b) => some b
  | .d (.int i) => some (i != 0)
  | .d (.lst xs) => some (!xs.isEmpty)
  | .d (.tup xs) => some (!xs.isEmpty)
  | .cel k => match ce[k]? with
    | some (.lst xs) => some (!xs.isEmpty)
    | _ => none
  | _ => none
def uTru (ua : UE) : UT := fun sl ce Q E => ua sl ce (fun d ce1 => match truthD ce1 d with
  | some b => Q b ce1
  | none => False) E
theorem truthD_ok {K : PySem.W.Frag} {H : Hp} {ce : Ce} {G : Hp} {m : List Addr} (R : RelS K wd H ce G m) {t : T} {v : V} {b : Bool} (r : RepT K m G t v) (h : truthD ce t = some b) : TruV K v H b := by
  unfold truthD at h
  split at h
  · cases h; cases r; exact rfl
  · cases h; cases r; exact rfl
  · cases h; cases r; exact rfl
  · cases h; obtain ⟨a, vs, rfl, hs, r⟩ := r; exact .inl ⟨vs, R.gh.rdL hs, by rw [r.isEmpty]⟩
  · cases h; obtain ⟨a, vs, rfl, hs, r⟩ := r; exact .inr (.inl ⟨vs, R.gh.rdT hs, by rw [r.isEmpty]⟩)
  · next k =>
    split at h
    · next xs e =>
      cases h
      obtain ⟨a, hm, rfl⟩ := r
      obtain ⟨vs, hv, r⟩ := R.cel k a _ hm e
      exact .inl ⟨vs, SqL.of hv, by rw [r.isEmpty]⟩
    · cases h
  · cases h
theorem dt_val (ha : DE X e ua) (he : ∀ whole, isTrue e X.env whole = (do let v ← whole; standAt e.pos; holding [v] (truthy v)) := by intro _; rfl) : DT X e (uTru ua) := by
  obtain ⟨ta, pa, sa⟩ := ha.ex
  refine ⟨fun W σ H Q => ta W σ H fun x H' => ∃ k, TruV X.K x H' k ∧ Q k H', fun W tk => pt_truth (pa W tk) he, ?_⟩
  intro W σ H sl ce G m Qd Ed Qv R w h k
  refine sa W σ H sl ce G m _ Ed _ R w h fun x ce1 G1 m1 v H1 R1 s1 r1 h1 => ?_
  split at h1
  · next b e => exact ⟨b, truthD_ok R1.toRelS r1 e, k b ce1 G1 m1 H1 R1 s1 h1⟩
  · exact h1.elim
def uNotT (ua : UT) : UT := fun sl ce Q E => ua sl ce (fun b ce1 => Q (!b) ce1) E
def uAndT (ua ub : UT) : UT := fun sl ce Q E => ua sl ce (fun b ce1 => match b with
  | true => ub sl ce1 Q E
  | false => Q false ce1) E
def uOrT (ua ub : UT) : UT := fun sl ce Q E => ua sl ce (fun b ce1 => match b with
  | true => Q true ce1
  | false => ub sl ce1 Q E) E
section
variable {tA tB : UT}
theorem dt_not (ha : DT X a tA) : DT X (.UnaryOp .Not a pos) (uNotT tA) := by
  obtain ⟨ta, pa, sa⟩ := ha.ex
  refine ⟨_, fun W tk => pt_not (pa W tk), ?_⟩
  intro W σ H sl ce G m Qd Ed Qv R w h k
  exact sa W σ H sl ce G m _ Ed _ R w h fun b ce1 G1 m1 H1 R1 s1 h1 => k _ ce1 G1 m1 H1 R1 s1 h1
theorem dw_or1 (ha : DT X a tA) : DW X (.BoolOp .Or [a] pos) tA := by
  obtain ⟨ta, pa, sa⟩ := ha.ex
  exact ⟨_, fun W tk => pw_or1 (pa W tk), sa⟩
theorem dw_or {rest : List Expr} (ha : DT X a tA) (hb : DW X (.BoolOp .Or (b :: rest) pos) tB) : DW X (.BoolOp .Or (a :: b :: rest) pos) (uOrT tA tB) := by
  obtain ⟨ta, pa, sa⟩ := ha.ex
  obtain ⟨tb, pb, sb⟩ := hb.ex
  refine ⟨_, fun W tk => pw_or (pa W tk) (pb W tk), ?_⟩
  intro W σ H sl ce G m Qd Ed Qv R w h k
  refine sa W σ H sl ce G m _ Ed _ R w h fun b ce1 G1 m1 H1 R1 s1 h1 => ?_
  cases b with
  | true => exact iteT (k true ce1 G1 m1 H1 R1 s1 h1)
  | false => exact iteF (sb W σ H1 sl ce1 G1 m1 _ Ed _ R1 (w.step s1) h1 fun b ce2 G2 m2 H2 R2 s2 h2 => k b ce2 G2 m2 H2 R2 (s1.trans s2) h2)
theorem DW.dt (h : DW X a tA) : DT X a tA := by
  obtain ⟨ta, pa, sa⟩ := h.ex
  exact ⟨ta, fun W tk => (pa W tk).pt, sa⟩
def uIfE (t : UT) (ua ub : UE) : UE := fun sl ce Q E => t sl ce (fun b ce1 => match b with
  | true => ua sl ce1 Q E
  | false => ub sl ce1 Q E) E
theorem de_ifExp (hc : DT X c tA) (ha : DE X a ua) (hb : DE X b ub) : DE X (.IfExp c a b pos) (uIfE tA ua ub) := by
  obtain ⟨tc, pc, sc⟩ := hc.ex
  obtain ⟨ta, pa, sa⟩ := ha.ex
  obtain ⟨tb, pb, sb⟩ := hb.ex
  refine ⟨_, fun W tk => pe_ifExp (pc W tk) (pa W tk) (pb W tk), ?_⟩
  intro W σ H sl ce G m Qd Ed Qv R w h k
  refine sc W σ H sl ce G m _ Ed _ R w h fun b ce1 G1 m1 H1 R1 s1 h1 => ?_
  cases b with
  | true => exact iteT (sa W σ H1 sl ce1 G1 m1 _ Ed _ R1 (w.step s1) h1 fun d ce2 G2 m2 v H2 R2 s2 r2 h2 => k d ce2 G2 m2 v H2 R2 (s1.trans s2) r2 h2)
  | false => exact iteF (sb W σ H1 sl ce1 G1 m1 _ Ed _ R1 (w.step s1) h1 fun d ce2 G2 m2 v H2 R2 s2 r2 h2 => k d ce2 G2 m2 v H2 R2 (s1.trans s2) r2 h2)
end
/-! ### and, or, not as values (all but the last are bools) -/
def uAndV (ua ub : UE) : UE := fun sl ce Q E => ua sl ce (fun x ce1 => match x with
  | .d (.bl true) => ub sl ce1 Q E
  | .d (.bl false) => Q (.d (.bl false)) ce1
  | _ => False) E
theorem de_one {op} (h : DE X a ua) : DE X (.BoolOp op [a] pos) ua := by
  obtain ⟨ta, pa, sa⟩ := h.ex
  exact ⟨ta, fun W tk => pe_one (pa W tk), sa⟩
theorem de_and {rest : List Expr} (ha : DE X a ua) (hb : DE X (.BoolOp .And (b :: rest) pos) ub) : DE X (.BoolOp .And (a :: b :: rest) pos) (uAndV ua ub) := by
  obtain ⟨ta, pa, sa⟩ := ha.ex
  obtain ⟨tb, pb, sb⟩ := hb.ex
  refine ⟨_, fun W tk => pe_and (pa W tk) (pb W tk), ?_⟩
  intro W σ H sl ce G m Qd Ed Qv R w h k
  refine sa W σ H sl ce G m _ Ed _ R w h fun x ce1 G1 m1 v H1 R1 s1 r1 h1 => ?_
  split at h1
  · exact ⟨true, r1, iteT (sb W σ H1 sl ce1 G1 m1 _ Ed _ R1 (w.step s1) h1 fun d ce2 G2 m2 v H2 R2 s2 r2 h2 => k d ce2 G2 m2 v H2 R2 (s1.trans s2) r2 h2)⟩
  · exact ⟨false, r1, iteF (k (.d (.bl false)) ce1 G1 m1 _ H1 R1 s1 rfl h1)⟩
  · exact h1.elim
end
end DL

namespace DL
open PySem L2 PyProof.Rows
section
variable {X : Cx}
/-! ### what a sequence holds -/
def seqL (ce : Ce) : T → Option (List T)
  | .d (.lst xs) => some (xs.map T.d)
  | .cel k => match ce[k]? with
    | some (.lst xs) => some xs
    | _ => none
  | _ => none
theorem seqL_ok {K : PySem.W.Frag} {H : Hp} {ce : Ce} {G : Hp} {m : List Addr} (R : RelS K wd H ce G m) {d : T} {v : V} {xs : List T} (r : RepT K m G d v) (h : seqL ce d = some xs) : ∃ a vs, v = .ref a ∧ SqL K H a vs ∧ RepTL K m G xs vs := by
  unfold seqL at h
  split at h
  · cases h
    obtain ⟨a, vs, rfl, hs, r⟩ := r
    exact ⟨a, vs, rfl, R.gh.rdL hs, toT r⟩
  · next k =>
    obtain ⟨a, hm, rfl⟩ := r
    split at h
    · next ys e =>
      cases h
      obtain ⟨vs, hv, r⟩ := R.cel k a _ hm e
      exact ⟨a, vs, rfl, SqL.of hv, r⟩
    · cases h
  · cases h
/-! ### + - * // % ** -/
theorem op_catL : OpR X (binaryOp .Add) (fun x y H Q => ∃ l b xs zs, x = .ref l ∧ y = .ref b ∧ SqL X.K H l xs ∧ SqL X.K H b zs ∧ xs.length + zs.length ≤ sizeLine ∧ ∀ p, H p = none → Q (.ref p) (upd H p (.lst (xs ++ zs)))) := by
  intro pins s σ H x y v u Q I rx ry h
  obtain ⟨l, b, xs, zs, rfl, rfl, hH, hB, hz, q⟩ := h
  cases rx
  cases ry
  obtain ⟨its, r, hl, _⟩ := I.list hH
  obtain ⟨its2, r2, hl2, _⟩ := I.list hB
  obtain ⟨⟨cls, dd, data, sl⟩, ho, hc, n, hd⟩ := hl.isList
  obtain ⟨⟨cls2, dd2, data2, sl2⟩, ho2, hc2, n2, hd2⟩ := hl2.isList
  simp only at hc hd hc2 hd2
  subst hc hd hc2 hd2
  have hsz : its.length + its2.length ≤ sizeLine := by rw [← r.length, ← r2.length]; exact hz
  refine concat_meets ⟨_, ho, rfl⟩ ⟨_, ho2, rfl⟩ noFill_list_add seq_list_add PySem.F.slot_list_add PySem.F.entry_list_add (PySem.F.args_list_add_2 _ _) (list_addW l b its.toArray its2.toArray n n2 dd dd2 sl sl2 (by simpa using hsz)) ⟨ho, ho2, ?_⟩
  have ea : its.toArray ++ its2.toArray = (its ++ its2).toArray := by simp
  rw [ea]
  exact ⟨.ref _, _, I.lnew (t' := s.toks) (r.append r2) (by rw [List.length_append]; exact hz), rfl, q _ I.fresh⟩
def oAdd : O2 := fun x y ce Q => match x, y with
  | .d (.int i), .d (.int j) => Q (.d (.int (i + j))) ce
  | .d (.str a), .d (.str b) => a.length + b.length ≤ sizeLine ∧ Q (.d (.str (a ++ b))) ce
  | .d (.tup xs), .d (.tup ys) => xs.length + ys.length ≤ sizeLine ∧ Q (.d (.tup (xs ++ ys))) ce
  | .d (.lst xs), .d (.lst ys) => xs.length + ys.length ≤ sizeLine ∧ Q (.d (.lst (xs ++ ys))) ce
  | x, y => match seqL ce x, seqL ce y with
    | some xs, some ys => match unT xs, unT ys with
      | some xs, some ys => xs.length + ys.length ≤ sizeLine ∧ Q (.d (.lst (xs ++ ys))) ce
      | _, _ => False
    | _, _ => False
theorem od_add : OpD X (binaryOp .Add) oAdd := by
  refine ⟨_, (op_add.or op_add_str).or ((op_catA).or op_catL), fun H ce G m Qd Qv x y v u R rx ry h k => ?_⟩
  unfold oAdd at h
  split at h
  · next i j => cases rx; cases ry; exact .inl (.inl ⟨i, j, rfl, rfl, k (.d (.int (i + j))) ce G m _ H R .refl rfl h⟩)
  · next a b => cases rx; cases ry; exact .inl (.inr ⟨a, b, rfl, rfl, h.1, k (.d (.str (a ++ b))) ce G m _ H R .refl rfl h.2⟩)
  · next xs ys =>
    obtain ⟨a, vs, rfl, ha, ra⟩ := rx
    obtain ⟨b, ws, rfl, hb, rb⟩ := ry
    refine .inr (.inl ⟨a, b, vs, ws, rfl, rfl, R.gh.rdT ha, R.gh.rdT hb, by rw [ra.length, rb.length]; exact h.1, fun e => ?_, fun e1 e2 => ?_, fun e1 e2 p hp => ?_⟩)
    · subst e
      have : xs = [] := by have := ra.length; simpa using this.symm
      subst this
      exact k (.d (.tup ys)) ce G m _ H R .refl ⟨b, ws, rfl, hb, rb⟩ h.2
    · subst e2
      have : ys = [] := by have := rb.length; simpa using this.symm
      subst this
      exact k (.d (.tup (xs ++ []))) ce G m _ H R .refl ⟨a, vs, rfl, ha, by rw [List.append_nil]; exact ra⟩ h.2
    · obtain ⟨R2, s2⟩ := R.laid (.tup (vs ++ ws)) hp
      exact k (.d (.tup (xs ++ ys))) ce _ m _ _ R2 s2 ⟨p, _, rfl, SqT.of upd_same, RepL.mono s2.gg _ _ (ra.append rb)⟩ h.2
  · next xs ys =>
    obtain ⟨a, vs, rfl, ha, ra⟩ := rx
    obtain ⟨b, ws, rfl, hb, rb⟩ := ry
    refine .inr (.inr ⟨a, b, vs, ws, rfl, rfl, R.gh.rdL ha, R.gh.rdL hb, by rw [ra.length, rb.length]; exact h.1, fun p hp => ?_⟩)
    obtain ⟨R2, s2⟩ := R.laid (.lst (vs ++ ws)) hp
    exact k (.d (.lst (xs ++ ys))) ce _ m _ _ R2 s2 ⟨p, _, rfl, SqL.of upd_same, RepL.mono s2.gg _ _ (ra.append rb)⟩ h.2
  · split at h
    · next xs ys hx hy =>
      split at h
      · next xs' ys' ux uy =>
        obtain ⟨a, vs, rfl, ha, ra⟩ := seqL_ok R rx hx
        obtain ⟨b, ws, rfl, hb, rb⟩ := seqL_ok R ry hy
        have ra' := unT_ok ra ux
        have rb' := unT_ok rb uy
        refine .inr (.inr ⟨a, b, vs, ws, rfl, rfl, ha, hb, by rw [ra'.length, rb'.length]; exact h.1, fun p hp => ?_⟩)
        obtain ⟨R2, s2⟩ := R.laid (.lst (vs ++ ws)) hp
        exact k (.d (.lst (xs' ++ ys'))) ce _ m _ _ R2 s2 ⟨p, _, rfl, SqL.of upd_same, RepL.mono s2.gg _ _ (ra'.append rb')⟩ h.2
      · exact h.elim
    · exact h.elim
def oInt (C : Int → Int → Prop) (g : Int → Int → D) : O2 := fun x y ce Q => match x, y with
  | .d (.int i), .d (.int j) => C i j ∧ Q (.d (g i j)) ce
  | _, _ => False
theorem od_int {f : Value → Value → Sem Value} {C : Int → Int → Prop} {gV : Int → Int → V} {g : Int → Int → D} (ho : OpR X f (rI C gV)) (hg : ∀ i j K G, Rep K G (g i j) (gV i j)) : OpD X f (oInt C g) := by
  refine ⟨_, ho, fun H ce G m Qd Qv x y v u R rx ry h k => ?_⟩
  unfold oInt at h
  split at h
  · next i j => cases rx; cases ry; exact ⟨i, j, rfl, rfl, h.1, k (.d (g i j)) ce G m _ H R .refl (hg i j _ _) h.2⟩
  · exact h.elim
def oInt0 (g : Int → Int → D) : O2 := fun x y ce Q => match x, y with
  | .d (.int i), .d (.int j) => Q (.d (g i j)) ce
  | _, _ => False
theorem od_int0 {f : Value → Value → Sem Value} {gV : Int → Int → V} {g : Int → Int → D} (ho : OpR X f (rI0 gV)) (hg : ∀ i j K G, Rep K G (g i j) (gV i j)) : OpD X f (oInt0 g) := by
  refine ⟨_, ho, fun H ce G m Qd Qv x y v u R rx ry h k => ?_⟩
  unfold oInt0 at h
  split at h
  · next i j => cases rx; cases ry; exact ⟨i, j, rfl, rfl, k (.d (g i j)) ce G m _ H R .refl (hg i j _ _) h⟩
  · exact h.elim
def oMul : O2 := oInt CMul fun i j => .int (i * j)
def oFdiv : O2 := oInt CDiv fun i j => .int (i / j)
def oMod : O2 := oInt (fun _ j => 0 < j) fun i j => .int (i % j)
def oPow : O2 := oInt CPow fun i j => .int (i ^ j.toNat)
theorem od_mul : OpD X (binaryOp .Mult) oMul := od_int op_mul fun _ _ _ _ => rfl
theorem od_fdiv : OpD X (binaryOp .FloorDiv) oFdiv := od_int op_fdiv fun _ _ _ _ => rfl
theorem od_mod : OpD X (binaryOp .Mod) oMod := od_int op_mod fun _ _ _ _ => rfl
theorem od_pow : OpD X (binaryOp .Pow) oPow := od_int op_pow fun _ _ _ _ => rfl
/-! ### < <= > >= -/
def oCmp (ci : Int → Int → Bool) (cs : Str → Str → Bool) : O2 := fun x y ce Q => match x, y with
  | .d (.int i), .d (.int j) => Q (.d (.bl (ci i j))) ce
  | .d (.str a), .d (.str b) => Q (.d (.bl (cs a b))) ce
  | _, _ => False
theorem od_cmp {f : Value → Value → Sem Value} {ci : Int → Int → Bool} {cs : Str → Str → Bool} (h1 : OpR X f (rI0 fun i j => .bl (ci i j))) (h2 : OpR X f (fun x y H Q => ∃ i j, x = .str i ∧ y = .str j ∧ Q (.bl (cs i j)) H)) : OpD X f (oCmp ci cs) := by
  refine ⟨_, h1.or h2, fun H ce G m Qd Qv x y v u R rx ry h k => ?_⟩
  unfold oCmp at h
  split at h
  · next i j => cases rx; cases ry; exact .inl ⟨i, j, rfl, rfl, k (.d (.bl (ci i j))) ce G m _ H R .refl rfl h⟩
  · next i j => cases rx; cases ry; exact .inr ⟨i, j, rfl, rfl, k (.d (.bl (cs i j))) ce G m _ H R .refl rfl h⟩
  · exact h.elim
def ltS (a b : Str) : Bool := decide (a.cps.toList < b.cps.toList)
def oLt : O2 := oCmp (fun i j => decide (i < j)) ltS
theorem od_lt : OpD X (compareOp .Lt) oLt := od_cmp op_lt op_lt_str
def oLe : O2 := oInt0 fun i j => .bl (decide (i ≤ j))
def oGt : O2 := oInt0 fun i j => .bl (decide (j < i))
def oGe : O2 := oInt0 fun i j => .bl (decide (j ≤ i))
theorem od_le : OpD X (compareOp .LtE) oLe := od_int0 op_le fun _ _ _ _ => rfl
theorem od_gt : OpD X (compareOp .Gt) oGt := od_int0 op_gt fun _ _ _ _ => rfl
theorem od_ge : OpD X (compareOp .GtE) oGe := od_int0 op_ge fun _ _ _ _ => rfl
/-! ### == and != of scalars and of data at any depth -/
mutual
def pyD : D → Option PyData
  | .non => some .none
  | .bl b => some (.bool b)
  | .int i => some (.int i)
  | .str x => some (.str x)
  | .tup xs => match pyDs xs with
    | some ds => some (.tuple ds)
    | none => none
  | .lst xs => match pyDs xs with
    | some ds => some (.list ds)
    | none => none
  | _ => none
def pyDs : List D → Option (List PyData)
  | [] => some []
  | x :: xs => match pyD x, pyDs xs with
    | some d, some ds => some (d :: ds)
    | _, _ => none
end
mutual
theorem pyD_ok {K : PySem.W.Frag} {H : Hp} {G : Hp} (g : Gs G H) : ∀ (d : D) (v : V) (p : PyData), Rep K G d v → pyD d = some p → Dp K H v p
  | .non, v, p, r, h => by cases r; cases h; exact .non
  | .bl b, v, p, r, h => by cases r; cases h; exact .bl b
  | .int i, v, p, r, h => by cases r; cases h; exact .int i
  | .str x, v, p, r, h => by cases r; cases h; exact .str x
  | .tup xs, v, p, ⟨a, vs, e, hs, r⟩, h => by
    subst e
    unfold pyD at h
    cases q : pyDs xs with
    | none => rw [q] at h; cases h
    | some ds => rw [q] at h; cases h; exact .tup (g.rdT hs) (pyDs_ok g xs vs ds r q)
  | .lst xs, v, p, ⟨a, vs, e, hs, r⟩, h => by
    subst e
    unfold pyD at h
    cases q : pyDs xs with
    | none => rw [q] at h; cases h
    | some ds => rw [q] at h; cases h; exact .lst (g.rdL hs) (pyDs_ok g xs vs ds r q)
  | .dic _, v, p, r, h => nomatch h
  | .ins _ _, v, p, r, h => nomatch h
  | .exc _ _ _ _, v, p, r, h => nomatch h
  | .raw _, v, p, r, h => nomatch h
theorem pyDs_ok {K : PySem.W.Frag} {H : Hp} {G : Hp} (g : Gs G H) : ∀ (ds : List D) (vs : List V) (ps : List PyData), RepL K G ds vs → pyDs ds = some ps → DpAll K H vs ps
  | [], vs, ps, r, h => by cases r; cases h; exact .nil
  | d :: ds, vs, ps, ⟨v, t, e, r, rs⟩, h => by
    subst e
    unfold pyDs at h
    cases q : pyD d with
    | none => rw [q] at h; cases h
    | some p =>
      cases q2 : pyDs ds with
      | none => rw [q, q2] at h; cases h
      | some qs => rw [q, q2] at h; cases h; exact .cons (pyD_ok g d v p r q) (pyDs_ok g ds t qs rs q2)
end
def oEqB (neg : Bool) : O2 := fun x y ce Q => match x, y with
  | .d (.int i), .d (.int j) => Q (.d (.bl (neg != decide (i = j)))) ce
  | .d (.str i), .d (.str j) => Q (.d (.bl (neg != decide (i = j)))) ce
  | .d (.bl i), .d (.bl j) => Q (.d (.bl (neg != decide (i = j)))) ce
  | .d x, .d y => match pyD x, pyD y with
    | some d, some e => SeqAt.shaped d = true ∧ SeqAt.shaped e = true ∧ Q (.d (.bl (neg != PyData.eqv d e))) ce
    | _, _ => False
  | _, _ => False
theorem dec_bxor (b : Bool) : (false != b) = b := by cases b <;> rfl
theorem dec_nxor (b : Bool) : (true != b) = !b := by cases b <;> rfl
theorem decV_int (i j : Int) : decide (V.int i = V.int j) = decide (i = j) := by by_cases h : i = j <;> simp [h]
theorem decV_str (i j : Str) : decide (V.str i = V.str j) = decide (i = j) := by by_cases h : i = j <;> simp [h]
theorem decV_bl (i j : Bool) : decide (V.bl i = V.bl j) = decide (i = j) := by by_cases h : i = j <;> simp [h]
theorem od_eq (hu : X.A.units + 64 < cLine) : OpD X (compareOp .Eq) (oEqB false) := by
  refine ⟨_, op_eq.or (op_eqD hu), fun H ce G m Qd Qv x y v u R rx ry h k => ?_⟩
  unfold oEqB at h
  simp only [dec_bxor] at h
  split at h
  · next i j => cases rx; cases ry; exact .inl ⟨rfl, k (.d (.bl _)) ce G m _ H R .refl (by rw [decV_int]; rfl) h⟩
  · next i j => cases rx; cases ry; exact .inl ⟨rfl, k (.d (.bl _)) ce G m _ H R .refl (by rw [decV_str]; rfl) h⟩
  · next i j => cases rx; cases ry; exact .inl ⟨rfl, k (.d (.bl _)) ce G m _ H R .refl (by rw [decV_bl]; rfl) h⟩
  · next x y _ _ _ =>
    split at h
    · next d e h1 h2 => exact .inr ⟨d, e, pyD_ok R.gh _ _ _ rx h1, pyD_ok R.gh _ _ _ ry h2, h.1, h.2.1, k (.d (.bl (PyData.eqv d e))) ce G m _ H R .refl rfl h.2.2⟩
    · exact h.elim
  · exact h.elim
theorem od_ne (hu : X.A.units + 64 < cLine) : OpD X (compareOp .NotEq) (oEqB true) := by
  refine ⟨_, op_ne.or (op_neD hu), fun H ce G m Qd Qv x y v u R rx ry h k => ?_⟩
  unfold oEqB at h
  simp only [dec_nxor] at h
  split at h
  · next i j => cases rx; cases ry; exact .inl ⟨rfl, k (.d (.bl _)) ce G m _ H R .refl (by rw [decV_int]; rfl) h⟩
  · next i j => cases rx; cases ry; exact .inl ⟨rfl, k (.d (.bl _)) ce G m _ H R .refl (by rw [decV_str]; rfl) h⟩
  · next i j => cases rx; cases ry; exact .inl ⟨rfl, k (.d (.bl _)) ce G m _ H R .refl (by rw [decV_bl]; rfl) h⟩
  · next x y _ _ _ =>
    split at h
    · next d e h1 h2 => exact .inr ⟨d, e, pyD_ok R.gh _ _ _ rx h1, pyD_ok R.gh _ _ _ ry h2, h.1, h.2.1, k (.d (.bl (!PyData.eqv d e))) ce G m _ H R .refl rfl h.2.2⟩
    · exact h.elim
  · exact h.elim
/-! ### in, not in -/
def strsD : List T → Option (List Str)
  | [] => some []
  | .d (.str x) :: r => match strsD r with
    | some xs => some (x :: xs)
    | none => none
  | _ => none
theorem strsD_ok {K : PySem.W.Frag} {m : List Addr} {G : Hp} : ∀ {ds : List T} {vs : List V} {xs : List Str}, RepTL K m G ds vs → strsD ds = some xs → vs = xs.map V.str
  | [], vs, xs, r, h => by cases r; cases h; rfl
  | d :: ds, vs, xs, ⟨v, t, e, r, rs⟩, h => by
    unfold strsD at h
    split at h
    · next e0 => cases e0
    · next x r' e0 =>
      cases e0
      split at h
      · next ys q => cases h; cases r; rw [e, strsD_ok rs q]; rfl
      · cases h
    · cases h
theorem inV_strs (x : Str) : ∀ xs : List Str, inV (.str x) (xs.map V.str) = decide (x ∈ xs)
  | [] => rfl
  | y :: r => by
    have ih := inV_strs x r
    unfold inV at ih ⊢
    rw [List.map_cons, List.any_cons, ih]
    have e : eqV (V.str y) (V.str x) = decide (y = x) := by
      unfold eqV
      first | rfl | simp
    rw [e]
    by_cases h : y = x
    · subst h; simp
    · have h' : ¬ x = y := fun z => h z.symm
      simp [h, h']
theorem all_strs (xs : List Str) : (xs.map V.str).all flatV = true := by simp [flatV]
def seqB (ce : Ce) : T → Option (List T)
  | .d (.tup xs) => some (xs.map T.d)
  | d => seqL ce d
theorem seqB_ok {K : PySem.W.Frag} {H : Hp} {ce : Ce} {G : Hp} {m : List Addr} (R : RelS K wd H ce G m) {d : T} {v : V} {xs : List T} (r : RepT K m G d v) (h : seqB ce d = some xs) : ∃ a vs, v = .ref a ∧ (SqL K H a vs ∨ SqT K H a vs) ∧ RepTL K m G xs vs := by
  unfold seqB at h
  split at h
  · cases h
    obtain ⟨a, vs, rfl, hs, r⟩ := r
    exact ⟨a, vs, rfl, .inr (R.gh.rdT hs), toT r⟩
  · obtain ⟨a, vs, e, hs, r⟩ := seqL_ok R r h
    exact ⟨a, vs, e, .inl hs, r⟩
/-- a text in a list or tuple of texts; one sign in a text -/
def oIn (neg : Bool) : O2 := fun x y ce Q => match x, y with
  | .d (.str c), .d (.str z) => match c.cps.toList with
    | [n] => Q (.d (.bl (neg != decide (n ∈ z.cps.toList)))) ce
    | _ => False
  | .d (.str x), y => match seqB ce y with
    | some ds => match strsD ds with
      | some xs => Q (.d (.bl (neg != decide (x ∈ xs)))) ce
      | none => False
    | none => False
  | _, _ => False
theorem str_one {c : Str} {n : Nat} (h : c.cps.toList = [n]) : c = ⟨#[n]⟩ := by
  obtain ⟨⟨l⟩⟩ := c
  simp at h
  subst h
  rfl
theorem od_in : OpD X (compareOp .In) (oIn false) := by
  refine ⟨_, op_in_sign.or op_in_seq, fun H ce G m Qd Qv x y v u R rx ry h k => ?_⟩
  unfold oIn at h
  simp only [dec_bxor] at h
  split at h
  · next c z =>
    cases rx; cases ry
    split at h
    · next n e => exact .inl ⟨n, z, by rw [str_one e], rfl, k (.d (.bl _)) ce G m _ H R .refl rfl h⟩
    · exact h.elim
  · next x y _ =>
    cases rx
    split at h
    · next ds e =>
      split at h
      · next xs e2 =>
        obtain ⟨a, vs, rfl, hs, r⟩ := seqB_ok R ry e
        have ev := strsD_ok r e2
        subst ev
        exact .inr ⟨a, _, rfl, hs, rfl, all_strs xs, k (.d (.bl _)) ce G m _ H R .refl (by rw [inV_strs]; rfl) h⟩
      · exact h.elim
    · exact h.elim
  · exact h.elim
theorem od_notin : OpD X (compareOp .NotIn) (oIn true) := by
  refine ⟨_, op_notIn_sign.or op_notIn_seq, fun H ce G m Qd Qv x y v u R rx ry h k => ?_⟩
  unfold oIn at h
  simp only [dec_nxor] at h
  split at h
  · next c z =>
    cases rx; cases ry
    split at h
    · next n e => exact .inl ⟨n, z, by rw [str_one e], rfl, k (.d (.bl _)) ce G m _ H R .refl rfl h⟩
    · exact h.elim
  · next x y _ =>
    cases rx
    split at h
    · next ds e =>
      split at h
      · next xs e2 =>
        obtain ⟨a, vs, rfl, hs, r⟩ := seqB_ok R ry e
        have ev := strsD_ok r e2
        subst ev
        exact .inr ⟨a, _, rfl, hs, rfl, all_strs xs, k (.d (.bl _)) ce G m _ H R .refl (by rw [inV_strs]; rfl) h⟩
      · exact h.elim
    · exact h.elim
  · exact h.elim
/-- is None -/
def oIsN (neg : Bool) : O2 := fun x y ce Q => match y with
  | .d .non => match x with
    | .d .non => Q (.d (.bl (!neg))) ce
    | .d (.raw _) => False
    | _ => Q (.d (.bl neg)) ce
  | _ => False
theorem not_non {K : PySem.W.Frag} {m : List Addr} {G : Hp} {d : T} {v : V} (r : RepT K m G d v) (h : d ≠ .d .non) (h' : ∀ u, d ≠ .d (.raw u)) : v ≠ .non := by
  cases d with
  | cel b => obtain ⟨_, _, rfl⟩ := r; exact fun z => nomatch z
  | tup es => obtain ⟨_, _, rfl, _⟩ := r; exact fun z => nomatch z
  | d d =>
    cases d with
    | non => exact absurd rfl h
    | raw u => exact absurd rfl (h' u)
    | bl b => cases r; exact fun z => nomatch z
    | int b => cases r; exact fun z => nomatch z
    | str b => cases r; exact fun z => nomatch z
    | tup b => obtain ⟨_, _, rfl, _⟩ := r; exact fun z => nomatch z
    | lst b => obtain ⟨_, _, rfl, _⟩ := r; exact fun z => nomatch z
    | dic b => obtain ⟨_, _, rfl, _⟩ := r; exact fun z => nomatch z
    | ins C b => obtain ⟨_, _, _, rfl, _⟩ := r; exact fun z => nomatch z
    | exc a b c d => obtain ⟨rfl, _⟩ := r; exact fun z => nomatch z
theorem od_is : OpD X (compareOp .Is) (oIsN false) := by
  refine ⟨_, op_isN, fun H ce G m Qd Qv x y v u R rx ry h k => ?_⟩
  unfold oIsN at h
  split at h
  · cases ry
    split at h
    · cases rx; exact ⟨rfl, k (.d (.bl true)) ce G m _ H R .refl rfl h⟩
    · exact h.elim
    · next n1 n2 => exact ⟨rfl, k (.d (.bl false)) ce G m _ H R .refl (by rw [decide_eq_false (not_non rx n1 n2)]; rfl) h⟩
  · exact h.elim
end
end DL

namespace DL
open PySem L2 PyProof.Rows
section
variable {X : Cx} {e a b : Expr} {es : List Expr} {ua ub : UE} {u : UA} {pos p p2 : Pos}
/-! ### x[i] -/
def IxD (X : Cx) (o : O2) : Prop := ∃ r : R2, IxR X r ∧ ∀ (H : Hp) (ce : Ce) (G : Hp) (m : List Addr) (Qd : T → Ce → Prop) (Qv : VK) (x y : T) (v u : V), RelS X.K X.w H ce G m → RepT X.K m G x v → RepT X.K m G y u → o x y ce Qd →
  (∀ d ce' G' m' z H', RelS X.K X.w H' ce' G' m' → Stp H m G H' m' G' → RepT X.K m' G' d z → Qd d ce' → Qv z H') → r v u H Qv
theorem de_ixD {o : O2} (ho : IxD X o) (ha : DE X a ua) (hb : DE X b ub) (hs : PlainIx b := by exact fun _ _ => rfl) : DE X (.Subscript a b pos) (uOp o ua ub) := by
  obtain ⟨ta, pa, sa⟩ := ha.ex
  obtain ⟨tb, pb, sb⟩ := hb.ex
  obtain ⟨r, pr, sr⟩ := ho
  exact ⟨_, fun W tk => pe_ix pr (pa W tk) (pb W tk) hs, semOp sa sb sr⟩
def oIx : O2 := fun x y ce Q => match x, y with
  | .d (.tup xs), .d (.int i) => match atI xs i with
    | some d => Q (.d d) ce
    | none => False
  | .d (.lst xs), .d (.int i) => match atI xs i with
    | some d => Q (.d d) ce
    | none => False
  | .d (.str z), .d (.int i) => match atI z.cps.toList i with
    | some c => z.length ≤ sizeLine ∧ Q (.d (.str ⟨#[c]⟩)) ce
    | none => False
  | .cel k, .d (.int i) => match ce[k]? with
    | some (.lst xs) => match atI xs i with
      | some d => Q d ce
      | none => False
    | _ => False
  | _, _ => False
theorem atI_rep {K : PySem.W.Frag} {G : Hp} {ds : List D} {vs : List V} {i : Int} {d : D} (r : RepL K G ds vs) (h : atI ds i = some d) : ∃ v, atI vs i = some v ∧ Rep K G d v := by
  unfold atI at h ⊢
  rw [r.length]
  cases q : ixN ds.length i with
  | none => rw [q] at h; cases h
  | some j => rw [q] at h; exact r.get h
theorem atI_repT {K : PySem.W.Frag} {m : List Addr} {G : Hp} {ds : List T} {vs : List V} {i : Int} {d : T} (r : RepTL K m G ds vs) (h : atI ds i = some d) : ∃ v, atI vs i = some v ∧ RepT K m G d v := by
  unfold atI at h ⊢
  rw [r.length]
  cases q : ixN ds.length i with
  | none => rw [q] at h; cases h
  | some j => rw [q] at h; exact r.get h
theorem id_seq : IxD X oIx := by
  refine ⟨_, ix_list.or (ix_tup.or ix_str), fun H ce G m Qd Qv x y v u R rx ry h k => ?_⟩
  unfold oIx at h
  split at h
  · next xs i =>
    split at h
    · next d q =>
      obtain ⟨a, vs, rfl, hs, r⟩ := rx
      cases ry
      obtain ⟨v, hv, rv⟩ := atI_rep r q
      exact .inr (.inl ⟨a, vs, i, v, rfl, rfl, R.gh.rdT hs, hv, k (.d d) ce G m _ H R .refl rv h⟩)
    · exact h.elim
  · next xs i =>
    split at h
    · next d q =>
      obtain ⟨a, vs, rfl, hs, r⟩ := rx
      cases ry
      obtain ⟨v, hv, rv⟩ := atI_rep r q
      exact .inl ⟨a, vs, i, v, rfl, rfl, R.gh.rdL hs, hv, k (.d d) ce G m _ H R .refl rv h⟩
    · exact h.elim
  · next z i =>
    split at h
    · next c q =>
      cases rx; cases ry
      exact .inr (.inr ⟨z, i, c, rfl, rfl, h.1, q, k (.d (.str ⟨#[c]⟩)) ce G m _ H R .refl rfl h.2⟩)
    · exact h.elim
  · next k' i =>
    split at h
    · next xs q0 =>
      split at h
      · next d q =>
        obtain ⟨a, hm, rfl⟩ := rx
        cases ry
        obtain ⟨vs, hs, r⟩ := R.cel k' a _ hm q0
        obtain ⟨v, hv, rv⟩ := atI_repT r q
        exact .inl ⟨a, vs, i, v, rfl, rfl, SqL.of hs, hv, k d ce G m _ H R .refl rv h⟩
      · exact h.elim
    · exact h.elim
  · exact h.elim
/-! ### x[a:b] -/
abbrev UO := Sl → Ce → (Option Int → Ce → Prop) → Ex1 → Prop
def SemO (K : PySem.W.Frag) (wd : World) (tf : WX → TO) (u : UO) : Prop := ∀ (W : WX) (σ : L2.St) (H : Hp) (sl : Sl) (ce : Ce) (G : Hp) (m : List Addr) (Qd : Option Int → Ce → Prop) (Ed : Ex1) (Qv : Option Int → Hp → Prop), Rel K wd σ H sl ce G m → Wish K wd W H m G Ed → u sl ce Qd Ed →
  (∀ b ce' G' m' H', Rel K wd σ H' sl ce' G' m' → Stp H m G H' m' G' → Qd b ce' → Qv b H') → tf W σ H Qv
structure DO (X : Cx) (e : Option Expr) (u : UO) : Prop where
  ex : ∃ tf : WX → TO, (∀ W, Takes X W → PO X e (tf W)) ∧ SemO X.K X.w tf u
def uNoP : UO := fun _ ce Q _ => Q none ce
def uPart (ua : UE) : UO := fun sl ce Q E => ua sl ce (fun x ce1 => match x with
  | .d (.int i) => Q (some i) ce1
  | _ => False) E
theorem do_none : DO X none uNoP := ⟨_, fun _ _ => po_none, fun W σ H sl ce G m Qd Ed Qv R w h k => k none ce G m H R .refl h⟩
theorem do_some (ha : DE X e ua) : DO X (some e) (uPart ua) := by
  obtain ⟨ta, pa, sa⟩ := ha.ex
  refine ⟨_, fun W tk => po_some (pa W tk), fun W σ H sl ce G m Qd Ed Qv R w h k => ?_⟩
  refine sa W σ H sl ce G m _ Ed _ R w h fun x ce1 G1 m1 v H1 R1 s1 r1 h1 => ?_
  split at h1
  · next i => cases r1; exact ⟨i, rfl, k _ ce1 G1 m1 H1 R1 s1 h1⟩
  · exact h1.elim
def cutD {α : Type} (xs : List α) (lo hi : Option Int) : List α := (xs.drop (HT.sIx xs.length 0 lo)).take (HT.sIx xs.length xs.length hi - HT.sIx xs.length 0 lo)
theorem RepL.cut {K : PySem.W.Frag} {G : Hp} {ds : List D} {vs : List V} (r : RepL K G ds vs) (lo hi : Option Int) : RepL K G (cutD ds lo hi) (cutV vs lo hi) := by
  unfold cutD cutV
  rw [r.length]
  exact (r.drop _).take _
def uSlice (ua : UE) (ul uh : UO) : UE := fun sl ce Q E => ua sl ce (fun x ce1 => ul sl ce1 (fun lo ce2 => uh sl ce2 (fun hi ce3 => match x with
  | .d (.tup xs) => Q (.d (.tup (cutD xs lo hi))) ce3
  | .d (.lst xs) => Q (.d (.lst (cutD xs lo hi))) ce3
  | .d (.str z) => z.length ≤ sizeLine ∧ Q (.d (.str (cutS z lo hi))) ce3
  | _ => False) E) E) E
theorem de_slice {lo hi : Option Expr} {ul uh : UO} (ha : DE X a ua) (hl : DO X lo ul) (hh : DO X hi uh) : DE X (.Subscript a (.Slice lo hi none p2) pos) (uSlice ua ul uh) := by
  obtain ⟨ta, pa, sa⟩ := ha.ex
  obtain ⟨tl, pl, sl'⟩ := hl.ex
  obtain ⟨th, ph, sh⟩ := hh.ex
  refine ⟨_, fun W tk => pe_slice ((sl_tupA).or (sl_list.or sl_str)) (pa W tk) (pl W tk) (ph W tk), fun W σ H sl ce G m Qd Ed Qv R w h k => ?_⟩
  refine sa W σ H sl ce G m _ Ed _ R w h fun x ce1 G1 m1 v H1 R1 s1 r1 h1 => ?_
  refine sl' W σ H1 sl ce1 G1 m1 _ Ed _ R1 (w.step s1) h1 fun lo ce2 G2 m2 H2 R2 s2 h2 => ?_
  refine sh W σ H2 sl ce2 G2 m2 _ Ed _ R2 (w.step (s1.trans s2)) h2 fun hi ce3 G3 m3 H3 R3 s3 h3 => ?_
  have st := (s1.trans s2).trans s3
  have r3 := r1.mono (s2.trans s3).pre (s2.trans s3).gg
  split at h3
  · next xs =>
    obtain ⟨a, vs, rfl, hs, r⟩ := r3
    refine .inl ⟨a, vs, rfl, R3.gh.rdT hs, fun q => ?_, fun _ p hp => ?_⟩
    · refine k _ ce3 G3 m3 _ H3 R3 st (show RepT X.K m3 G3 (.d (.tup (cutD xs lo hi))) _ from ?_) h3
      refine ⟨a, vs, rfl, hs, ?_⟩
      have e : cutD xs lo hi = xs := by
        unfold cutD
        rw [← r.length, q.1, q.2, List.drop_zero, Nat.sub_zero, r.length]
        exact List.take_length
      rw [e]; exact r
    · obtain ⟨R4, s4⟩ := R3.toRelS.laid (.tup (cutV vs lo hi)) hp
      exact k (.d (.tup (cutD xs lo hi))) ce3 _ m3 _ _ (R3.step s4 R4) (st.trans s4) ⟨p, _, rfl, SqT.of upd_same, RepL.mono s4.gg _ _ (r.cut lo hi)⟩ h3
  · next xs =>
    obtain ⟨a, vs, rfl, hs, r⟩ := r3
    refine .inr (.inl ⟨a, vs, rfl, R3.gh.rdL hs, fun p hp => ?_⟩)
    obtain ⟨R4, s4⟩ := R3.toRelS.laid (.lst (cutV vs lo hi)) hp
    exact k (.d (.lst (cutD xs lo hi))) ce3 _ m3 _ _ (R3.step s4 R4) (st.trans s4) ⟨p, _, rfl, SqL.of upd_same, RepL.mono s4.gg _ _ (r.cut lo hi)⟩ h3
  · next z =>
    cases r3
    exact .inr (.inr ⟨z, rfl, h3.1, k (.d (.str (cutS z lo hi))) ce3 G3 m3 _ H3 R3 st rfl h3.2⟩)
  · exact h3.elim
/-! ### calls of built-ins -/
abbrev OC := List T → Ce → (T → Ce → Prop) → Prop
def CaD (X : Cx) (f : Value) (o : OC) : Prop := ∃ r : List V → Hp → VK → Prop, CallR X f r ∧ ∀ (H : Hp) (ce : Ce) (G : Hp) (m : List Addr) (Qd : T → Ce → Prop) (Qv : VK) (ts : List T) (vs : List V), RelS X.K X.w H ce G m → RepTL X.K m G ts vs → o ts ce Qd →
  (∀ d ce' G' m' z H', RelS X.K X.w H' ce' G' m' → Stp H m G H' m' G' → RepT X.K m' G' d z → Qd d ce' → Qv z H') → r vs H Qv
def uCB (o : OC) (u : UA) : UE := fun sl ce Q E => u sl ce (fun ts ce1 => o ts ce1 Q) E
theorem semCB {K : PySem.W.Frag} {ta : WX → TA} {r : List V → Hp → VK → Prop} {o : OC} (sa : SemA K wd ta u)
    (hr : ∀ (H : Hp) (ce : Ce) (G : Hp) (m : List Addr) (Qd : T → Ce → Prop) (Qv : VK) (ts : List T) (vs : List V), RelS K wd H ce G m → RepTL K m G ts vs → o ts ce Qd →
      (∀ d ce' G' m' z H', RelS K wd H' ce' G' m' → Stp H m G H' m' G' → RepT K m' G' d z → Qd d ce' → Qv z H') → r vs H Qv) : SemE K wd (fun W => tCB r (ta W)) (uCB o u) := by
  intro W σ H sl ce G m Qd Ed Qv R w h k
  refine sa W σ H sl ce G m _ Ed _ R w h fun ts ce1 G1 m1 vs H1 R1 s1 r1 h1 => ?_
  exact hr H1 ce1 G1 m1 Qd Qv ts vs R1.toRelS r1 h1 fun d ce' G' m' z H' R' s' r' q' => k d ce' G' m' z H' (R1.step s' R') (s1.trans s') r' q'
theorem de_callB {x : Str} {id : String} {o : OC} (hc : CaD X (.builtin id) o) (hm : X.mg x = none) (hv : bootBuiltins x = some (.builtin id)) (ha : DA X (e :: es) u) (hg : Gl X x := by rfl) (hn : x ≠ "__name__" := by decide) (hdb : (x == ("__debug__" : Str)) = false := by decide)
    (he : starEach (e :: es) X.env = (false, eval e X.env) :: starEach es X.env := by rfl) (hpl : (backTo pos (starEach es X.env)).any (·.1) = false := by rfl) : DE X (.Call (.Name x p) (e :: es) [] pos) (uCB o u) := by
  obtain ⟨ta, pa, sa⟩ := ha.ex
  obtain ⟨r, pr, sr⟩ := hc
  exact ⟨_, fun W tk => pe_callB pr hg hm hv (pa W tk) hn hdb he hpl, semCB sa sr⟩
theorem de_callTy {x : Str} {T : String} {o : OC} (hc : CaD X (.type T) o) (hm : X.mg x = none) (hv : bootBuiltins x = some (.type T)) (ha : DA X (e :: es) u) (hg : Gl X x := by rfl) (hn : x ≠ "__name__" := by decide) (hdb : (x == ("__debug__" : Str)) = false := by decide)
    (he : starEach (e :: es) X.env = (false, eval e X.env) :: starEach es X.env := by rfl) (hpl : (backTo pos (starEach es X.env)).any (·.1) = false := by rfl) : DE X (.Call (.Name x p) (e :: es) [] pos) (uCB o u) := by
  obtain ⟨ta, pa, sa⟩ := ha.ex
  obtain ⟨r, pr, sr⟩ := hc
  exact ⟨_, fun W tk => pe_callTy pr hg hm hv (pa W tk) hn hdb he hpl, semCB sa sr⟩
theorem RepTL.one' {K : PySem.W.Frag} {m : List Addr} {G : Hp} {t : T} {vs : List V} (r : RepTL K m G [t] vs) : ∃ v, vs = [v] ∧ RepT K m G t v := by
  obtain ⟨v, r', e, h, hr⟩ := r
  cases hr
  exact ⟨v, e, h⟩
theorem RepTL.two' {K : PySem.W.Frag} {m : List Addr} {G : Hp} {t t' : T} {vs : List V} (r : RepTL K m G [t, t'] vs) : ∃ v v', vs = [v, v'] ∧ RepT K m G t v ∧ RepT K m G t' v' := by
  obtain ⟨v, r', e, h, hr⟩ := r
  obtain ⟨v', rfl, h'⟩ := RepTL.one' hr
  exact ⟨v, v', e, h, h'⟩
/-- len of a text, a list, a tuple -/
def oLen : OC := fun ts ce Q => match ts with
  | [.d (.str z)] => z.length ≤ sizeLine ∧ Q (.d (.int z.length)) ce
  | [t] => match seqB ce t with
    | some xs => Q (.d (.int xs.length)) ce
    | none => False
  | _ => False
theorem cd_len : CaD X (.builtin "len") oLen := by
  refine ⟨_, call_len, fun H ce G m Qd Qv ts vs R r h k => ?_⟩
  unfold oLen at h
  split at h
  · next z =>
    obtain ⟨v, rfl, rv⟩ := RepTL.one' r
    cases rv
    exact ⟨_, _, rfl, ⟨h.1, rfl⟩, k (.d (.int z.length)) ce G m _ H R .refl rfl h.2⟩
  · next t _ =>
    split at h
    · next xs q =>
      obtain ⟨v, rfl, rv⟩ := RepTL.one' r
      obtain ⟨a, ws, rfl, hs, rs⟩ := seqB_ok R rv q
      refine ⟨_, xs.length, rfl, ?_, k (.d (.int xs.length)) ce G m _ H R .refl rfl h⟩
      rcases hs with hs | hs
      · exact .inl ⟨ws, hs, rs.length.symm⟩
      · exact .inr ⟨ws, hs, rs.length.symm⟩
    · exact h.elim
  · exact h.elim
def oInt1 : OC := fun ts ce Q => match ts with
  | [.d (.int i)] => Q (.d (.int i)) ce
  | _ => False
theorem cd_int : CaD X (.type "int") oInt1 := by
  refine ⟨_, call_int1, fun H ce G m Qd Qv ts vs R r h k => ?_⟩
  unfold oInt1 at h
  split at h
  · next i =>
    obtain ⟨v, rfl, rv⟩ := RepTL.one' r
    cases rv
    exact .inl ⟨i, rfl, k (.d (.int i)) ce G m _ H R .refl rfl h⟩
  · exact h.elim
def oMax2 : OC := fun ts ce Q => match ts with
  | [.d (.int i), .d (.int j)] => Q (.d (.int (if j > i then j else i))) ce
  | _ => False
theorem cd_max2 (hc : X.calm = true) : CaD X (.builtin "max") oMax2 := by
  refine ⟨_, call_max2 hc, fun H ce G m Qd Qv ts vs R r h k => ?_⟩
  unfold oMax2 at h
  split at h
  · next i j =>
    obtain ⟨v, v', rfl, rv, rv'⟩ := RepTL.two' r
    cases rv; cases rv'
    exact ⟨i, j, rfl, k (.d (.int (if j > i then j else i))) ce G m _ H R .refl rfl h⟩
  · exact h.elim
def blsD : List D → Option (List Bool)
  | [] => some []
  | .bl x :: r => match blsD r with
    | some xs => some (x :: xs)
    | none => none
  | _ => none
theorem blsD_ok {K : PySem.W.Frag} {G : Hp} : ∀ {ds : List D} {vs : List V} {xs : List Bool}, RepL K G ds vs → blsD ds = some xs → vs = xs.map V.bl
  | [], vs, xs, r, h => by cases r; cases h; rfl
  | d :: ds, vs, xs, ⟨v, t, e, r, rs⟩, h => by
    unfold blsD at h
    split at h
    · next e0 => cases e0
    · next x r' e0 =>
      cases e0
      split at h
      · next ys q => cases h; cases r; rw [e, blsD_ok rs q]; rfl
      · cases h
    · cases h
theorem blsD_map (xs : List Bool) : blsD (xs.map D.bl) = some xs := by
  induction xs with
  | nil => rfl
  | cons x r ih => simp [blsD, ih]
def oAll : OC := fun ts ce Q => match ts with
  | [.d (.lst xs)] => match blsD xs with
    | some bs => Q (.d (.bl (bs.all id))) ce
    | none => False
  | _ => False
theorem cd_all (hc : X.calm = true) : CaD X (.builtin "all") oAll := by
  refine ⟨_, cr_all hc, fun H ce G m Qd Qv ts vs R r h k => ?_⟩
  unfold oAll at h
  split at h
  · next xs =>
    split at h
    · next bs q =>
      obtain ⟨v, rfl, rv⟩ := RepTL.one' r
      obtain ⟨a, ws, rfl, hs, rs⟩ := rv
      have e := blsD_ok rs q
      subst e
      exact ⟨a, bs, rfl, R.gh.rdL hs, k (.d (.bl (bs.all id))) ce G m _ H R .refl rfl h⟩
    · exact h.elim
  · exact h.elim
/-- tuple(list), list(list or tuple): frozen, or as a cell -/
def oTuple : OC := fun ts ce Q => match ts with
  | [.d (.lst xs)] => Q (.d (.tup xs)) ce
  | [.d (.tup xs)] => Q (.d (.tup xs)) ce
  | [.cel k] => match ce[k]? with
    | some (.lst xs) => match unT xs with
      | some ds => Q (.d (.tup ds)) ce
      | none => False
    | _ => False
  | _ => False
theorem cd_tuple : CaD X (.type "tuple") oTuple := by
  refine ⟨_, call_tuple_of, fun H ce G m Qd Qv ts vs R r h k => ?_⟩
  unfold oTuple at h
  split at h
  · next xs =>
    obtain ⟨v, rfl, rv⟩ := RepTL.one' r
    obtain ⟨a, ws, rfl, hs, rs⟩ := rv
    refine ⟨a, ws, rfl, .inl ⟨R.gh.rdL hs, fun p hp => ?_⟩⟩
    obtain ⟨R2, s2⟩ := R.laid (.tup ws) hp
    exact k (.d (.tup xs)) ce _ m _ _ R2 s2 ⟨p, ws, rfl, SqT.of upd_same, RepL.mono s2.gg _ _ rs⟩ h
  · next xs =>
    obtain ⟨v, rfl, rv⟩ := RepTL.one' r
    obtain ⟨a, ws, rfl, hs, rs⟩ := rv
    exact ⟨a, ws, rfl, .inr ⟨R.gh.rdT hs, k (.d (.tup xs)) ce G m _ H R .refl ⟨a, ws, rfl, hs, rs⟩ h⟩⟩
  · next k' =>
    split at h
    · next xs q =>
      split at h
      · next ds q2 =>
        obtain ⟨v, rfl, rv⟩ := RepTL.one' r
        obtain ⟨a, hm, rfl⟩ := rv
        obtain ⟨ws, hs, rs⟩ := R.cel k' a _ hm q
        refine ⟨a, ws, rfl, .inl ⟨SqL.of hs, fun p hp => ?_⟩⟩
        obtain ⟨R2, s2⟩ := R.laid (.tup ws) hp
        exact k (.d (.tup ds)) ce _ m _ _ R2 s2 ⟨p, ws, rfl, SqT.of upd_same, RepL.mono s2.gg _ _ (unT_ok rs q2)⟩ h
      · exact h.elim
    · exact h.elim
  · exact h.elim
def oListC : OC := fun ts ce Q => match ts with
  | [t] => match seqB ce t with
    | some xs => Q (.cel ce.length) (ce ++ [.lst xs])
    | none => False
  | _ => False
theorem cd_listC : CaD X (.type "list") oListC := by
  refine ⟨_, call_list_of, fun H ce G m Qd Qv ts vs R r h k => ?_⟩
  unfold oListC at h
  split at h
  · next t =>
    split at h
    · next xs q =>
      obtain ⟨v, rfl, rv⟩ := RepTL.one' r
      obtain ⟨a, ws, rfl, hs, rs⟩ := seqB_ok R rv q
      refine ⟨a, ws, rfl, hs, fun p hp => ?_⟩
      obtain ⟨R2, s2⟩ := R.cell (o := .lst ws) (c := .lst xs) hp ⟨ws, upd_same, rs.mono (List.prefix_append m [p]) (Gg.refl _)⟩
      exact k (.cel ce.length) _ _ _ _ _ R2 s2 ⟨p, by rw [← R.len]; exact snoc_last, rfl⟩ h
    · exact h.elim
  · exact h.elim
end
end DL

namespace DL
open PySem L2
/-! ### isinstance -/
inductive Tg where
  | b (n : String) | o (C : Addr)
  deriving DecidableEq
def Tg.val : Tg → Value
  | .b n => .type n
  | .o C => .ref C
def tagOf (ce : Ce) : T → Option Tg
  | .d .non => some (.b "NoneType")
  | .d (.bl _) => some (.b "bool")
  | .d (.int _) => some (.b "int")
  | .d (.str _) => some (.b "str")
  | .d (.tup _) => some (.b "tuple")
  | .d (.lst _) => some (.b "list")
  | .d (.dic _) => some (.b "dict")
  | .d (.ins C _) => some (.o C)
  | .cel k => match ce[k]? with
    | some (.lst _) => some (.b "list")
    | some (.dic _) => some (.b "dict")
    | some (.ins C _) => some (.o C)
    | _ => none
  | _ => none
def clsOf : D → Option Tg
  | .raw (.ty n) => some (.b n)
  | .raw (.ref C) => some (.o C)
  | _ => none
def knownT : List String := ["NoneType", "bool", "int", "str", "tuple", "list", "dict"]
def askedT : List String := ["bool", "int", "str", "tuple", "list", "dict"]
def isiT : Tg → Tg → Bool
  | .b a, .b c => a == c || (a == "bool" && c == "int")
  | .o C, .o C' => C == C'
  | _, _ => false
/-- what isinstance asks of the own classes Cs -/
structure IsiOk (K : PySem.W.Frag) (Cs : List Addr) : Prop where
  own : ∀ C ∈ Cs, Cls K C ∧ PySem.W.findIn K (.ref C) "__class__" = some (some (.builtin "object.__class__")) ∧ PySem.W.specialIn K (.builtin "object.__class__") "__get__" = some (some (.builtin "getset_descriptor.__get__")) ∧
    PySem.W.takesIn K (.builtin "object.__class__") = some true ∧ PySem.W.mroIn K C (.type "object") = some true
  kit : ∀ C ∈ Cs, (∀ n ∈ askedT, PySem.W.kitOne K (.ref C) (.type n) = some false) ∧ (∀ n ∈ knownT, PySem.W.kitOne K (.type n) (.ref C) = some false) ∧ ∀ C' ∈ Cs, PySem.W.kitOne K (.ref C) (.ref C') = some (C == C')
def okT (Cs : List Addr) : Tg → Bool
  | .b n => knownT.contains n
  | .o C => Cs.contains C
def okA (Cs : List Addr) : Tg → Bool
  | .b n => askedT.contains n
  | .o C => Cs.contains C
theorem kit_all : (knownT.all fun a => askedT.all fun c => decide (kitB a c = some (isiT (.b a) (.b c)))) = true := by decide +kernel
theorem isi_ok {K : PySem.W.Frag} {Cs : List Addr} (I : IsiOk K Cs) {t c : Tg} (ht : okT Cs t = true) (hc : okA Cs c = true) : PySem.W.kitOne K t.val c.val = some (isiT t c) := by
  cases t with
  | b a =>
    have ha : a ∈ knownT := by simpa [okT] using ht
    cases c with
    | b n =>
      have hn : n ∈ askedT := by simpa [okA] using hc
      have h := List.all_eq_true.mp (List.all_eq_true.mp kit_all a ha) n hn
      exact kit_ty (of_decide_eq_true h)
    | o C =>
      have hC : C ∈ Cs := by simpa [okA] using hc
      exact (I.kit C hC).2.1 a ha
  | o C =>
    have hC : C ∈ Cs := by simpa [okT] using ht
    cases c with
    | b n =>
      have hn : n ∈ askedT := by simpa [okA] using hc
      exact (I.kit C hC).1 n hn
    | o C' =>
      have hC' : C' ∈ Cs := by simpa [okA] using hc
      exact (I.kit C hC).2.2 C' hC'
theorem tyx_of {K : PySem.W.Frag} {Cs : List Addr} (I : IsiOk K Cs) {H : Hp} {ce : Ce} {G : Hp} {m : List Addr} (R : RelS K wd H ce G m) {t : T} {v : V} {g : Tg} (r : RepT K m G t v) (h : tagOf ce t = some g) (ho : okT Cs g = true) : TyX K H v g.val := by
  have ins : ∀ {a C dx : Addr} {fs : List (Str × V)}, H a = some (.ins C dx fs) → C ∈ Cs → TyX K H (.ref a) (.ref C) := fun e hC => let ⟨c, h1, h2, h3, h4⟩ := I.own _ hC; .base (.ins e c h1 h2 h3 h4)
  unfold tagOf at h
  split at h
  · cases h; cases r; exact .base .non
  · cases h; cases r; exact .base (.bl _)
  · cases h; cases r; exact .base (.int _)
  · cases h; cases r; exact .base (.str _)
  · cases h
    obtain ⟨a, vs, rfl, hs, _⟩ := r
    rcases R.gh.rdT hs with (e | ⟨o, e⟩) | ⟨o, its, n, e, c, _⟩
    · exact .base (.tup e)
    · exact .fTuple e
    · exact .kTuple e c
  · cases h
    obtain ⟨a, vs, rfl, hs, _⟩ := r
    rcases R.gh.rdL hs with (e | ⟨o, e⟩) | ⟨o, its, n, e, c, _⟩
    · exact .base (.lst e)
    · exact .base (.frz e)
    · exact .kList e c
  · cases h
    obtain ⟨a, vs, rfl, hs, _⟩ := r
    rcases R.gh _ _ hs with e | ⟨_, o, e⟩
    · exact .base (.dK e)
    · exact .fDict e
  · next C fs =>
    cases h
    obtain ⟨a, dx, vs, rfl, hs, _⟩ := r
    have hC : C ∈ Cs := by simpa [okT] using ho
    rcases R.gh _ _ hs with e | ⟨⟨_, q⟩, o, e⟩
    · exact ins e hC
    · cases q
  · next k =>
    obtain ⟨a, hm, rfl⟩ := r
    split at h
    · next xs q => cases h; obtain ⟨vs, e, _⟩ := R.cel k a _ hm q; exact .base (.lst e)
    · next xs q => cases h; obtain ⟨vs, e, _⟩ := R.cel k a _ hm q; exact .base (.dK e)
    · next C fs q =>
      cases h
      obtain ⟨dx, vs, e, _⟩ := R.cel k a _ hm q
      have hC : C ∈ Cs := by simpa [okT] using ho
      exact ins e hC
    · cases h
  · cases h
section
variable {X : Cx} {e a b : Expr} {es : List Expr} {ua ub : UE} {u : UA} {pos p p2 : Pos}
/-- isinstance(x, c); isinstance(x, (c1, c2, ..)) -/
def oIsi (Cs : List Addr) : OC := fun ts ce Q => match ts with
  | [t, .d (.tup cs)] => match tagOf ce t with
    | some g => okT Cs g = true ∧ match cs.mapM clsOf with
      | some us => us.all (okA Cs) = true ∧ Q (.d (.bl (us.any (isiT g)))) ce
      | none => False
    | none => False
  | [t, .d c] => match tagOf ce t, clsOf c with
    | some g, some u => okT Cs g = true ∧ okA Cs u = true ∧ Q (.d (.bl (isiT g u))) ce
    | _, _ => False
  | _ => False
theorem clsV_of {K : PySem.W.Frag} {G : Hp} {c : D} {v : V} {u : Tg} (r : Rep K G c v) (h : clsOf c = some u) : ClsV v u.val := by
  unfold clsOf at h
  split at h
  · cases h; cases r; exact .ty _
  · cases h; cases r; exact .own _
  · cases h
theorem clsVs_of {K : PySem.W.Frag} {G : Hp} : ∀ {cs : List D} {vs : List V} {us : List Tg}, RepL K G cs vs → cs.mapM clsOf = some us → Paired ClsV vs (us.map Tg.val)
  | [], vs, us, r, h => by cases r; simp at h; subst h; exact .nil
  | c :: cs, vs, us, ⟨v, t, e, r, rs⟩, h => by
    rw [List.mapM_cons] at h
    cases q : clsOf c with
    | none => rw [q] at h; cases h
    | some u =>
      cases q2 : cs.mapM clsOf with
      | none => rw [q, q2] at h; cases h
      | some us' =>
        rw [q, q2] at h
        cases h
        subst e
        exact .cons (clsV_of r q) (clsVs_of rs q2)
theorem kitAny_of {K : PySem.W.Frag} {Cs : List Addr} (I : IsiOk K Cs) {g : Tg} (hg : okT Cs g = true) : ∀ {us : List Tg}, us.all (okA Cs) = true → PySem.W.kitAny K g.val (us.map Tg.val) = some (us.any (isiT g))
  | [], _ => rfl
  | u :: us, h => by
    rw [List.all_cons, Bool.and_eq_true] at h
    rw [List.map_cons, List.any_cons]
    refine kitAny_cons (isi_ok I hg h.1) (fun e => ?_) (fun e => ?_)
    · rw [e, Bool.false_or]; exact kitAny_of I hg h.2
    · rw [e, Bool.true_or]
theorem call_isiS : CallR X (.builtin "isinstance") (fun xs H Q => ∃ (x : V) (tp : Addr) (cs : List V) (t : Value) (us : List Value) (b : Bool), xs = [x, .ref tp] ∧ SqT X.K H tp cs ∧ Paired ClsV cs us ∧ TyX X.K H x t ∧ PySem.W.kitAny X.K t us = some b ∧ Q (.bl b) H) := by
  intro pins s σ H xs us Q I r h
  obtain ⟨x, tp, cs, t, ws, b, rfl, hT, k, ty, e, q⟩ := h
  obtain ⟨u1, u2, rfl, r1, r2⟩ := vals2 r
  cases (show u2 = Value.ref tp from r2)
  obtain ⟨P, Z, p, hx⟩ := kit_of I r1 ty
  obtain ⟨its, rv, ⟨o, h1, h2, n, h3⟩, _⟩ := I.tuple hT
  have e3 := ClsV.all k rv
  subst e3
  obtain ⟨oc, od, dt, sl⟩ := o
  simp only at h2 h3
  subst h2 h3
  exact PySem.W.kia_tup Z I.kIn p h1 e hx fun tk => ⟨.bl b, H, I.tok tk, rfl, q⟩
theorem cd_isi {Cs : List Addr} (I : IsiOk X.K Cs) : CaD X (.builtin "isinstance") (oIsi Cs) := by
  refine ⟨_, call_isi.or call_isiS, fun H ce G m Qd Qv ts vs R r h k => ?_⟩
  unfold oIsi at h
  split at h
  · next t cs =>
    split at h
    · next g q =>
      obtain ⟨hg, h⟩ := h
      split at h
      · next us q2 =>
        obtain ⟨v, v', rfl, rv, rv'⟩ := RepTL.two' r
        obtain ⟨tp, ws, rfl, hs, rs⟩ := rv'
        exact .inr ⟨v, tp, ws, g.val, us.map Tg.val, us.any (isiT g), rfl, R.gh.rdT hs, clsVs_of rs q2, tyx_of I R rv q hg, kitAny_of I hg h.1, k (.d (.bl (us.any (isiT g)))) ce G m _ H R .refl rfl h.2⟩
      · exact h.elim
    · exact h.elim
  · next t c _ =>
    split at h
    · next g u q q2 =>
      obtain ⟨v, v', rfl, rv, rv'⟩ := RepTL.two' r
      exact .inl ⟨v, v', g.val, u.val, isiT g u, rfl, clsV_of rv' q2, tyx_of I R rv q h.1, isi_ok I h.1 h.2.1, k (.d (.bl (isiT g u))) ce G m _ H R .refl rfl h.2.2⟩
    · exact h.elim
  · exact h.elim
/-! ### calls of own defs -/
abbrev Phi := List T → Ce → (T → Ce → Prop) → (Exc → Ce → Prop) → Prop
def spD (K : PySem.W.Frag) (wd : World) (φ : Phi) : Sp := fun vs H Q E => ∃ (ce : Ce) (G : Hp) (m : List Addr) (ts : List T) (Qd : T → Ce → Prop) (Ed : Exc → Ce → Prop), RelS K wd H ce G m ∧ RepTL K m G ts vs ∧ φ ts ce Qd Ed ∧
  (∀ d ce' G' m' v H', RelS K wd H' ce' G' m' → Stp H m G H' m' G' → RepT K m' G' d v → Qd d ce' → Q v H') ∧
  (∀ x ce' G' m' cls dd H', RelS K wd H' ce' G' m' → Stp H m G H' m' G' → RepX K G' cls dd x → Ed x ce' → E cls dd H')
/-- the def at f keeps φ, called with so many arguments -/
def FnX (P : Program) (w : World) (K : PySem.W.Frag) (mg : Str → Option Value) (base : Heap) (k : Nat) (f : Addr) (φ : Phi) : Prop :=
  ∀ (A : Around) (outer : List Env) (s : Shared) (H : Hp) (us : List Value) (vs : List V) (Q : VK) (E : XK), Room k A → Env0 P w K mg base A outer s H → Vals vs us → spD K w φ vs H Q E →
    codeAny (model P w) A (.call (.ref f) ⟨us, []⟩) (CR (L2.CX P w) outer P w H s Q E) s
theorem fnX_of {P : Program} {w : World} {K : PySem.W.Frag} {mg : Str → Option Value} {base : Heap} {k : Nat} {f : Addr} {fd : FuncData} {ps : List Str} {φ : Phi} (F : FnOk P w K mg base (L2.CX P w) k f fd ps (spD K w φ)) (hb : Binds K fd ps []) (hK : K.In base) : FnX P w K mg base k f φ := by
  intro A outer s H us vs Q E hr e0 r h
  have hl : us.length = ps.length := by rw [← r.length]; exact F.len _ _ _ _ h
  have b := hb s us (hK.keeps fun a o e => (e0.bs a o e).1) (by rw [List.append_nil]; exact hl)
  rw [List.append_nil] at b
  exact F.run A outer s H ⟨us, []⟩ us vs Q E hr e0 b r h
theorem run_X {pins : List (Addr × Obj)} {σ : St} {H : Hp} {s : Shared} {Q : VK} {us : List Value} {vs : List V} {k : Nat} {f : Addr} {φ : Phi} {E : XK} {A : Around} (F : FnX X.prog X.w X.K X.mg X.base k f φ) (hr : Room k A) (hA : Env0 X.prog X.w X.K X.mg X.base A X.stack s H)
    (hx : PassesAt (L2.CX X.prog X.w) X σ E) (I : Inv X pins σ H s) (r : Vals vs us) (h : spD X.K X.w φ vs H Q E) : wpAny (model X.prog X.w) A (call (.ref f) us) (EP X pins σ Q) X.xe s := by
  refine wpAny_call (codeAny_mono (F A X.stack s H us vs Q E hr hA r h) fun r s' hq => ?_)
  cases r with
  | error e => exact hx pins H s e s' I hq
  | ok fl =>
    cases fl with
    | ret u => exact I.after hq
    | _ => exact hq.elim
def uCall (φ : Phi) (u : UA) : UE := fun sl ce Q E => u sl ce (fun ts ce1 => φ ts ce1 Q (fun x ce2 => E x sl ce2)) E
def tCallX (K : PySem.W.Frag) (wd : World) (φ : Phi) (W : WX) (t : TA) : TE := fun σ H Q => t σ H fun vs H1 => spD K wd φ vs H1 Q (WE W σ)
theorem semCall {K : PySem.W.Frag} {ta : WX → TA} {φ : Phi} (sa : SemA K wd ta u) : SemE K wd (fun W => tCallX K wd φ W (ta W)) (uCall φ u) := by
  intro W σ H sl ce G m Qd Ed Qv R w h k
  refine sa W σ H sl ce G m _ Ed _ R w h fun ts ce1 G1 m1 vs H1 R1 s1 r1 h1 => ?_
  refine ⟨ce1, G1, m1, ts, Qd, _, R1.toRelS, r1, h1, fun d ce' G' m' v H' R' s' r' q' => ?_, fun x ce' G' m' cls dd H' R' s' r' q' => ?_⟩
  · exact k d ce' G' m' v H' (R1.step s' R') (s1.trans s') r' q'
  · exact w cls dd σ H' x sl ce' G' m' (R1.step s' R') (s1.trans s') r' q'
theorem de_call {x : Str} {k : Nat} {f : Addr} {φ : Phi} (F : FnX X.prog X.w X.K X.mg X.base k f φ) (hr : Room k X.A) (hm : X.mg x = some (.ref f)) (hk : PySem.W.keepIn X.K (.ref f) = true) (ha : DA X (e :: es) u) (hg : Gl X x := by rfl)
    (hdb : (x == ("__debug__" : Str)) = false := by decide) (he : starEach (e :: es) X.env = (false, eval e X.env) :: starEach es X.env := by rfl) (hpl : (backTo pos (starEach es X.env)).any (·.1) = false := by rfl) : DE X (.Call (.Name x p) (e :: es) [] pos) (uCall φ u) := by
  obtain ⟨ta, pa, sa⟩ := ha.ex
  refine ⟨fun W => tCallX X.K X.w φ W (ta W), fun W tk => ⟨fun pins s σ H Q I h => ?_⟩, semCall sa⟩
  refine wpAny_Call_Name_kw (ld_glob I hg hm ?_ hdb)
  refine PySem.W.callWith_K (h₀ := X.base) I.ok.mod.kin hk (thn ((pa W tk).run pos pins s σ H _ I h) fun us s1 ⟨vs, H1, I1, r, q⟩ => ⟨I1.kIn, ?_⟩) he hpl
  exact run_X F hr I1.env0 (passAt tk σ) I1 r q
/-! ### C(..) of an own class -/
def sameCells (ce1 ce3 : Ce) : Prop := ce3 = ce1 ∨ (ce3.length = ce1.length ∧ ce3.all (cellB ce1.length) = true)
def tMakeX (K : PySem.W.Frag) (wd : World) (C : Addr) (φ : Phi) (W : WX) (t : TA) : TE := fun σ H Q => t σ H fun vs H1 => ∀ x dx, H1 x = none → H1 dx = none → dx ≠ x → spD K wd φ (.ref x :: vs) (upd (upd H1 dx (.own x)) x (.ins C dx [])) (fun v H2 => v = .non ∧ Q (.ref x) H2) (WE W σ)
theorem sameCells.all {K : PySem.W.Frag} {H : Hp} {ce1 ce3 : Ce} {G : Hp} {m : List Addr} (R : RelS K wd H ce1 G m) (h : sameCells ce1 ce3) : ce3.length = ce1.length ∧ ce3.all (cellB ce1.length) = true := by
  rcases h with rfl | h
  · exact ⟨rfl, R.tops⟩
  · exact h
theorem run_makeX {pins : List (Addr × Obj)} {σ : St} {H : Hp} {s : Shared} {Q : VK} {us : List Value} {vs : List V} {C f : Addr} {k : Nat} {φ : Phi} {E : XK} (M : Mk X.K C f) (F : FnX X.prog X.w X.K X.mg X.base k f φ) (hr : Room (k + 1) X.A)
    (hx : PassesAt (L2.CX X.prog X.w) X σ E) (I : Inv X pins σ H s) (r : Vals vs us)
    (h : ∀ x dx, H x = none → H dx = none → dx ≠ x → spD X.K X.w φ (.ref x :: vs) (upd (upd H dx (.own x)) x (.ins C dx [])) (fun v H2 => v = .non ∧ Q (.ref x) H2) E) :
    wpAny (model X.prog X.w) X.A (call (.ref C) us) (EP X pins σ Q) X.xe s := by
  have hq := h (s.heap.objs.size + 1) s.heap.objs.size (I.hok.fresh (Nat.le_succ _)) (I.hok.fresh (Nat.le_refl _)) (Nat.ne_of_lt (Nat.lt_succ_self _))
  have I2 := Inv.made (C := C) I
  have r2 : Vals (V.ref (s.heap.objs.size + 1) :: vs) (Value.ref (s.heap.objs.size + 1) :: us) := .cons rfl r
  refine wpAny_call (make_map (f := f) I.kIn M.makes M.init (beq_iff_eq.mp M.fn) (codeAny_mono (F _ X.stack _ _ (Value.ref (s.heap.objs.size + 1) :: us) _ _ E (hr.make C us []) (I2.env0.make C us []) r2 hq) fun r s' hq' => ?_))
  cases r with
  | error e => exact hx pins _ _ e s' I2 hq'
  | ok fl =>
    cases fl with
    | ret u =>
      obtain ⟨v, H', I3, rv, ev, q3⟩ := I2.after hq'
      subst ev
      exact ⟨rv, ⟨V.ref (s.heap.objs.size + 1), H', I3, rfl, q3⟩⟩
    | next => exact False.elim hq'
    | brk => exact False.elim hq'
    | cont => exact False.elim hq'
/-! ### fields -/
def insOf (ce : Ce) : T → Option (Addr × List (Str × T))
  | .d (.ins C fs) => some (C, fs.map fun p => (p.1, .d p.2))
  | .cel k => match ce[k]? with
    | some (.ins C fs) => some (C, fs)
    | _ => none
  | _ => none
theorem toTK {K : PySem.W.Frag} {m : List Addr} {G : Hp} : ∀ {fs : List (Str × D)} {ws : List (Str × V)}, RepF K G fs ws → RepTK K m G (fs.map fun p => (p.1, T.d p.2)) ws
  | [], _, h => h
  | (k, d) :: ds, _, ⟨v, r, e, h, hr⟩ => ⟨v, r, e, h, toTK hr⟩
theorem insOf_ok {K : PySem.W.Frag} {H : Hp} {ce : Ce} {G : Hp} {m : List Addr} (R : RelS K wd H ce G m) {t : T} {v : V} {C : Addr} {fs : List (Str × T)} (r : RepT K m G t v) (h : insOf ce t = some (C, fs)) : ∃ a dx ws, v = .ref a ∧ H a = some (.ins C dx ws) ∧ RepTK K m G fs ws := by
  unfold insOf at h
  split at h
  · cases h
    obtain ⟨a, dx, ws, rfl, hs, r⟩ := r
    rcases R.gh _ _ hs with e | ⟨⟨_, q⟩, _⟩
    · exact ⟨a, dx, ws, rfl, e, toTK r⟩
    · cases q
  · next k =>
    obtain ⟨a, hm, rfl⟩ := r
    split at h
    · next C' fs' q =>
      cases h
      obtain ⟨dx, ws, e, r⟩ := R.cel k a _ hm q
      exact ⟨a, dx, ws, rfl, e, r⟩
    · cases h
  · cases h
def uFld (C : Addr) (f : Str) (ua : UE) : UE := fun sl ce Q E => ua sl ce (fun x ce1 => match insOf ce1 x with
  | some (C', fs) => C' = C ∧ match fs.lookup f with
    | some d => Q d ce1
    | none => False
  | none => False) E
theorem de_fld {C : Addr} {f : Str} (ha : DE X e ua) (c : Cls X.K C) (n : NoAttr X.K C f) (hb : attributeBase e f X.env (eval e X.env) = eval e X.env := by rfl) : DE X (.Attribute e f pos) (uFld C f ua) := by
  obtain ⟨ta, pa, sa⟩ := ha.ex
  refine ⟨_, fun W tk => pe_fld (pa W tk) hb, fun W σ H sl ce G m Qd Ed Qv R w h k => ?_⟩
  refine sa W σ H sl ce G m _ Ed _ R w h fun x ce1 G1 m1 v H1 R1 s1 r1 h1 => ?_
  split at h1
  · next C' fs q =>
    obtain ⟨rfl, h1⟩ := h1
    split at h1
    · next d q2 =>
      obtain ⟨a, dx, ws, rfl, e, r⟩ := insOf_ok R1.toRelS r1 q
      obtain ⟨v, l, rv⟩ := r.lookup q2
      exact ⟨a, C', dx, ws, v, rfl, e, c, n, l, k d ce1 G1 m1 v H1 R1 s1 rv h1⟩
    · exact h1.elim
  · exact h1.elim
end
end DL

namespace PySem.NeX
open PySem.W PySem.Calls PyProof.Rows
theorem one_slot : Slot "object" "__ne__" "object.__ne__" :=
  .of (owner := "object") (n := "__ne__") (by rw [typeLookup_type, builtinLookup_eq_fast]; kernel_rfl) (by decide +kernel) (by decide +kernel) (by decide +kernel)
    (by first | exact .inl (by decide +kernel) | exact .inr (by decide +kernel)) (by rw [isSubtype_type]; kernel_rfl)
section
variable {prog : Program} {w : World} {A : Around} {E : Value → Shared → Prop} {s : Shared} {K : Frag} {x y C f : Addr} {ox oy : Obj} {od oe : Option Obj} {Q : Value → Shared → Prop}
theorem ne_entry (hu : A.units < cLine) (X : K.In s.heap) (I : W.InstAt s.heap x ox C od) (heq : findIn K (.ref C) "__eq__" = some (some (.ref f))) (hf : isFn K (.ref f) = true) {b : Value} {Q : Fin → Shared → Prop}
    (h : wpAny (model prog w) A (call (.ref f) [.ref x, b]) (fun v s' => ∃ r, v = .bool r ∧ Q (.done (.ret (.bool (!r)))) s') E s) : wpAny (model prog w) A (Builtin.«object.__ne__» ⟨[.ref x, b], []⟩) Q E s := by
  unfold Builtin.«object.__ne__»
  refine wpAny_bind (m := slotArgs "__ne__" 1 _) (wpAny_pure ?_)
  refine wpAny_bind (wpAny_cRoomFor hu ?_)
  refine wpAny_bind (ifBound_K X I heq hf (wpAny_mono h (fun v s' hv => ?_) fun _ _ e => e))
  obtain ⟨r, rfl, q⟩ := hv
  show wpAny _ _ (truthy (.bool r) >>= fun b => ret (.bool (!b))) _ _ _
  exact wpAny_bind (wpAny_pure (wpAny_pure q))
theorem ne_own (hu : A.units + 1 < cLine) (X : K.In s.heap) (I : W.InstAt s.heap x ox C od) (J : W.InstAt s.heap y oy C oe) (hne : findIn K (.ref C) "__ne__" = some (some (.builtin "object.__ne__")))
    (heq : findIn K (.ref C) "__eq__" = some (some (.ref f))) (hf : isFn K (.ref f) = true) (hob : mroIn K C (.type "object") = some true)
    (h : wpAny (model prog w) A.in1 (call (.ref f) [.ref x, .ref y]) (fun v s' => ∃ r, v = .bool r ∧ Q (.bool (!r)) s') E s) : wpAny (model prog w) A (richCompare .NotEq (.ref x) (.ref y)) Q E s := by
  have one : wpAny (model prog w) A (tryCompare (.ref x) "__ne__" (.ref y)) (fun r s' => ∃ v, r = some v ∧ Q v s') E s := by
    unfold tryCompare
    refine wpAny_bind ?_
    simp only [callSpecialIfBound?, bindSpecialIfBound?]
    refine wpAny_holding (wpAny_bind (wpAny_bind (wpAny_bind (I.type.here ((looks_findIn X hne).here ?_)))))
    refine wpAny_bind (wpAny_askSetting (wpAny_ite ?_))
    have sub : W.Looks (model prog w) s.heap (isInstance (.ref x) (.type "object")) true := I.type.andThen (looks_mroIn X hob)
    have fin0 : wpAny (model prog w) A (call (.builtin "object.__ne__") [.ref x, .ref y]) (fun v s' => ∃ b, v = .bool b ∧ Q (.bool b) s') E s := by
      refine wpAny_call (codeAny_call_builtin one_slot.plain F.cmpEntry_ne (@W.check_slot (model prog w) _ _ s "object.__ne__" "object" "__ne__" (.ref x) [.ref y] [] _ F.cmpKind_ne F.cmpSplit_ne sub (F.cmpArgs_ne _ _) ?_))
      exact ne_entry (A := A.in1) (by show A.units + 1 < cLine; exact hu) X I heq hf (wpAny_mono h (fun v s' ⟨r, e, q⟩ => ⟨r, e, ⟨_, rfl, q⟩⟩) fun _ _ e => e)
    have fin : wpAny (model prog w) A (call (.builtin "object.__ne__") ([.ref x] ++ [.ref y]) >>= fun v => pure (some v)) (fun a s' => wpAny (model prog w) A (match a with
        | some Value.notImplemented => pure none
        | none => pure none
        | some v => pure (some v)) (fun r s' => ∃ v, r = some v ∧ Q v s') E s') E s :=
      wpAny_bind (wpAny_mono fin0 (fun v s' ⟨b, e, q⟩ => by subst e; exact wpAny_pure (wpAny_pure ⟨_, rfl, q⟩)) fun _ _ h' => h')
    split
    · exact wpAny_bind (wpAny_of_eq (one_slot.bind _) (wpAny_pure (by exact fin)))
    · exact wpAny_tryCatch (wpAny_bind (wpAny_of_eq (one_slot.bind _) (wpAny_pure (by exact fin))))
  unfold richCompare
  simp only [oneThing_ref]
  refine wpAny_holding (wpAny_bind (wpAny_cRoomFor (Nat.lt_of_succ_lt hu) ?_))
  refine wpAny_bind (I.type.here (wpAny_bind (J.type.here ?_)))
  rw [show (Value.ref C != Value.ref C) = false from by simp]
  simp only [Bool.false_eq_true, if_false]
  refine wpAny_bind (wpAny_pure ?_)
  simp only [Bool.false_eq_true, if_false]
  refine wpAny_bind (wpAny_mono one (fun r s' z => ?_) fun _ _ e => e)
  obtain ⟨v, rfl, hq⟩ := z
  exact wpAny_pure hq
end
end PySem.NeX
namespace DL
open PySem L2
section
variable {X : Cx} {e a b : Expr} {es : List Expr} {ua ub : UE} {u : UA} {pos p p2 apos : Pos} {C f g : Addr} {k : Nat} {φ : Phi}
/-- nothing is raised -/
def EF : XK := fun _ _ _ => False
theorem passF {σ : St} : PassesAt (L2.CX X.prog X.w) X σ EF := fun _ _ _ _ _ _ h => by
  obtain ⟨_, _, _, _, _, _, _, _, _, _, _, _, z⟩ := h
  exact z.elim
theorem cx_false {outer : List Env} {H : Hp} {s : Shared} {e : Value} {s' : Shared} {P : Program} {w : World} (h : L2.CX P w outer H s EF e s') : False := by
  obtain ⟨_, _, _, _, _, _, _, _, _, _, _, _, z⟩ := h
  exact z
/-- the call of φ from values, nothing raised -/
theorem spD_call {K : PySem.W.Frag} {H : Hp} {ce : Ce} {G : Hp} {m : List Addr} {ts : List T} {vs : List V} {Qd : T → Ce → Prop} {Qv : VK} {E : XK} (R : RelS K wd H ce G m) (r : RepTL K m G ts vs) (h : φ ts ce Qd (fun _ _ => False))
    (k : ∀ d ce' G' m' z H', RelS K wd H' ce' G' m' → Stp H m G H' m' G' → RepT K m' G' d z → Qd d ce' → Qv z H') : spD K wd φ vs H Qv E :=
  ⟨ce, G, m, ts, Qd, _, R, r, h, k, fun _ _ _ _ _ _ _ _ _ _ z => z.elim⟩
/-! ### a property -/
def tPropX (K : PySem.W.Frag) (wd : World) (C : Addr) (φ : Phi) (ta : TE) : TE := fun σ H Q => ta σ H fun x H1 => ∃ a dx fs, x = .ref a ∧ H1 a = some (.ins C dx fs) ∧ spD K wd φ [.ref a] H1 Q EF
def uProp (C : Addr) (φ : Phi) (ua : UE) : UE := fun sl ce Q E => ua sl ce (fun x ce1 => match insOf ce1 x with
  | some (C', _) => C' = C ∧ φ [x] ce1 Q (fun _ _ => False)
  | none => False) E
theorem de_prop {n : Str} {pa : Addr} (ha : DE X e ua) (c : Cls X.K C) (hp : PropOf X.K C n pa g) (F : FnX X.prog X.w X.K X.mg X.base k g φ) (hr : Room (k + 1) X.A) (hab : attributeBase e n X.env (eval e X.env) = eval e X.env := by rfl) : DE X (.Attribute e n pos) (uProp C φ ua) := by
  obtain ⟨ta, pa, sa⟩ := ha.ex
  refine ⟨fun W => tPropX X.K X.w C φ (ta W), fun W tk => ⟨fun pins s σ H Q I h => ?_⟩, fun W σ H sl ce G m Qd Ed Qv R w h k => ?_⟩
  · refine attr_of hab (thn ((pa W tk).run pins s σ H _ I h) fun u s1 ⟨x, H1, I1, rx, a, dx, fs, ex, ea, q⟩ => ?_)
    subst ex
    obtain rfl : u = Value.ref a := rx
    obtain ⟨mA, O, _, _, _, _⟩ := ins_get I1.hok ea
    obtain ⟨od, J, _⟩ := O.look
    obtain ⟨rest, hrec⟩ := hp.rec_
    have I2 := I1.tok (s1.toks + 1)
    have hc : (PySem.W.clsIn X.K C).isSome = true := by
      obtain ⟨cd, hc, _⟩ := PySem.W.any_some c.hd
      rw [hc]
      rfl
    refine PySem.W.get_bind I1.kIn J (PySem.W.plainGet_of (c.get n)).1 (PySem.W.findObj_data hc hp.at_ hp.get hp.tak) (PySem.W.plainGet_of (c.get n)).2 (wpAny_call (PySem.W.prop_get (s := { s1 with toks := s1.toks + 1 }) I1.kIn hrec ?_))
    refine codeAny_mono (F X.A.in1 X.stack { s1 with toks := s1.toks + 1 } H1 [.ref a] [.ref a] Q EF hr.in1 I2.env0.in1 (.cons rfl .nil) q) fun r s' hq => ?_
    cases r with
    | error er => exact (cx_false hq).elim
    | ok fl =>
      cases fl with
      | ret u =>
        obtain ⟨v, H', I3, rv, q3⟩ := I2.after hq
        show wpAny _ _ (handedOut u) _ _ _
        rw [PySem.W.handedOut_of (handed_of rv)]
        exact wpAny_pure ⟨v, H', I3, rv, q3⟩
      | _ => exact hq.elim
  · refine sa W σ H sl ce G m _ Ed _ R w h fun x ce1 G1 m1 v H1 R1 s1 r1 h1 => ?_
    split at h1
    · next C' fs q =>
      obtain ⟨rfl, h1⟩ := h1
      obtain ⟨a, dx, ws, rfl, e, r⟩ := insOf_ok R1.toRelS r1 q
      refine ⟨a, dx, ws, rfl, e, spD_call (ts := [x]) R1.toRelS ⟨_, _, rfl, r1, rfl⟩ h1 fun d ce' G' m' z H' R' s' r' q' => ?_⟩
      exact k d ce' G' m' z H' (R1.step s' R') (s1.trans s') r' q'
    · exact h1.elim
/-! ### o.m(e, ..) -/
def tMethX (K : PySem.W.Frag) (wd : World) (C : Addr) (n : Str) (φ : Phi) (W : WX) (ta : TE) (t : TA) : TE := fun σ H Q => ta σ H fun x H1 => ∃ a dx fs, x = .ref a ∧ H1 a = some (.ins C dx fs) ∧ fs.lookup n = none ∧ t σ H1 fun vs H2 => spD K wd φ (.ref a :: vs) H2 Q (WE W σ)
def uMeth (C : Addr) (n : Str) (φ : Phi) (ua : UE) (u : UA) : UE := fun sl ce Q E => ua sl ce (fun x ce1 => match insOf ce1 x with
  | some (C', fs) => C' = C ∧ fs.lookup n = none ∧ u sl ce1 (fun ts ce2 => φ (x :: ts) ce2 Q (fun x ce3 => E x sl ce3)) E
  | none => False) E
theorem RepTK.none {K : PySem.W.Frag} {m : List Addr} {G : Hp} : ∀ {fs : List (Str × T)} {ws : List (Str × V)} {f : Str}, RepTK K m G fs ws → fs.lookup f = .none → ws.lookup f = .none
  | [], _, f, h, _ => by cases h; rfl
  | (k, c) :: fs, _, f, ⟨v, r, e, h, hr⟩, hi => by
    subst e
    rw [List.lookup_cons] at hi ⊢
    cases q : (f == k) with
    | true => rw [q] at hi; cases hi
    | false => rw [q] at hi; exact RepTK.none hr hi
theorem semMeth {K : PySem.W.Frag} {n : Str} {ta : WX → TE} {t : WX → TA} (sa : SemE K wd ta ua) (st : SemA K wd t u) : SemE K wd (fun W => tMethX K wd C n φ W (ta W) (t W)) (uMeth C n φ ua u) := by
  intro W σ H sl ce G m Qd Ed Qv R w h k
  refine sa W σ H sl ce G m _ Ed _ R w h fun x ce1 G1 m1 v H1 R1 s1 r1 h1 => ?_
  split at h1
  · next C' fs q =>
    obtain ⟨rfl, hn, h1⟩ := h1
    obtain ⟨a, dx, ws, rfl, e, r⟩ := insOf_ok R1.toRelS r1 q
    refine ⟨a, dx, ws, rfl, e, r.none hn, ?_⟩
    refine st W σ H1 sl ce1 G1 m1 _ Ed _ R1 (w.step s1) h1 fun ts ce2 G2 m2 vs H2 R2 s2 r2 h2 => ?_
    refine ⟨ce2, G2, m2, x :: ts, Qd, _, R2.toRelS, ⟨_, _, rfl, r1.mono s2.pre s2.gg, r2⟩, h2, fun d ce' G' m' v H' R' s' r' q' => ?_, fun y ce' G' m' cls dd H' R' s' r' q' => ?_⟩
    · exact k d ce' G' m' v H' (R2.step s' R') ((s1.trans s2).trans s') r' q'
    · exact w cls dd σ H' y sl ce' G' m' (R2.step s' R') ((s1.trans s2).trans s') r' q'
  · exact h1.elim
theorem de_meth {n : Str} {pl : Sem Bool} (ho : DE X a ua) (c : Cls X.K C) (hm : Meth X.K C n f) (F : FnX X.prog X.w X.K X.mg X.base k f φ) (hr : Room k X.A) (ha : DA X (e :: es) u)
    (hst : starEach (e :: es) X.env = (false, eval e X.env) :: starEach es X.env := by rfl) (hpl : (backTo pos (starEach es X.env)).any (·.1) = false := by rfl)
    (ht : eval (.Call (.Attribute a n apos) (e :: es) [] pos) X.env = (do
      let ov ← eval a X.env
      standAt apos.atName
      let (f, first) ← holding [ov] (getMethod ov n pl)
      callWith pos f first (backTo pos (starEach (e :: es) X.env)) (backToKw pos (keywordEach [] X.env))) := by rfl) :
    DE X (.Call (.Attribute a n apos) (e :: es) [] pos) (uMeth C n φ ua u) := by
  obtain ⟨ta, pa, sa⟩ := ho.ex
  obtain ⟨t, pt, st⟩ := ha.ex
  refine ⟨fun W => tMethX X.K X.w C n φ W (ta W) (t W), fun W tk => ⟨fun pins s σ H Q I h => ?_⟩, semMeth sa st⟩
  refine PySem.W.methodCall_KW (pl := pl) (thn ((pa W tk).run pins s σ H _ I h) fun u s1 ⟨x, H1, I1, rx, a, dx, fs, ex, ea, l, q⟩ => ?_) ht
  subst ex
  obtain rfl : u = Value.ref a := rx
  refine getmeth_ok I1 ea c hm l ?_
  refine PySem.W.callWith_K (first := [.ref a]) (h₀ := X.base) I.ok.mod.kin hm.kp (thn ((pt W tk).run pos pins s1 σ H1 _ I1 q) fun us s2 ⟨vs, H2, I2, r, q2⟩ => ⟨I2.kIn, ?_⟩) hst hpl
  exact run_X (us := .ref a :: us) (vs := .ref a :: vs) F hr I2.env0 (passAt tk σ) I2 (.cons rfl r) q2
/-! ### len(o), e in o, o[e], o == o', o != o', by own defs -/
theorem inst_of {pins : List (Addr × Obj)} {σ : St} {H : Hp} {s : Shared} (I : Inv X pins σ H s) {a dx : Addr} {fs : List (Str × V)} (ea : H a = some (.ins C dx fs)) : ∃ ox od, PySem.W.InstAt s.heap a ox C od := by
  obtain ⟨mA, O, _, _, _, _⟩ := ins_get I.hok ea
  obtain ⟨od, J, _⟩ := O.look
  exact ⟨_, _, J⟩
def oLenO (C : Addr) (φ : Phi) : OC := fun ts ce Q => match ts with
  | [t] => match insOf ce t with
    | some (C', _) => C' = C ∧ φ [t] ce (fun v ce' => match v with
      | .d (.int n) => (0 ≤ n ∧ n < 2 ^ 63) ∧ Q (.d (.int n)) ce'
      | _ => False) (fun _ _ => False)
    | none => False
  | _ => False
def oInO (C : Addr) (φ : Phi) (neg : Bool) : O2 := fun x y ce Q => match insOf ce y with
  | some (C', _) => C' = C ∧ φ [y, x] ce (fun v ce' => match v with
    | .d (.bl b) => Q (.d (.bl (neg != b))) ce'
    | _ => False) (fun _ _ => False)
  | none => False
theorem truthy_bool {M : Model} {A : Around} {E : Value → Shared → Prop} {s : Shared} {b : Bool} {Q : Bool → Shared → Prop} (h : Q b s) : wpAny M A (truthy (.bool b)) Q E s := wpAny_pure h
theorem inO_aux {hd : Bool → V} (F : FnX X.prog X.w X.K X.mg X.base k f φ) (H : Hp) (ce : Ce) (G : Hp) (m : List Addr) (Qd : T → Ce → Prop) (Qv : VK) (x y : T) (v u : V) (R : RelS X.K X.w H ce G m) (rx : RepT X.K m G x v) (ry : RepT X.K m G y u) {neg : Bool} (h : oInO C φ neg x y ce Qd)
    (kk : ∀ d ce' G' m' z H', RelS X.K X.w H' ce' G' m' → Stp H m G H' m' G' → RepT X.K m' G' d z → Qd d ce' → Qv z H') :
    ∃ a dx fs, u = .ref a ∧ H a = some (.ins C dx fs) ∧ spD X.K X.w φ [.ref a, v] H (fun z H' => ∃ b, z = .bl b ∧ Qv (.bl (neg != b)) H') EF := by
  unfold oInO at h
  split at h
  · next C' fs q =>
    obtain ⟨rfl, h⟩ := h
    obtain ⟨a, dx, ws, rfl, e, _⟩ := insOf_ok R ry q
    refine ⟨a, dx, ws, rfl, e, spD_call (ts := [y, x]) R ⟨_, _, rfl, ry, _, _, rfl, rx, rfl⟩ h fun d ce' G' m' z H' R' s' r' q' => ?_⟩
    split at q'
    · next b => exact ⟨b, r', kk (.d (.bl (neg != b))) ce' G' m' _ H' R' s' rfl q'⟩
    · exact q'.elim
  · exact h.elim
theorem od_notinO (hs : PySem.W.findIn X.K (.ref C) "__contains__" = some (some (.ref f))) (hf : PySem.W.isFn X.K (.ref f) = true) (F : FnX X.prog X.w X.K X.mg X.base k f φ) (hr : Room k X.A) : OpD X (compareOp .NotIn) (oInO C φ true) := by
  refine ⟨fun x y H Q => ∃ a dx fs, y = .ref a ∧ H a = some (.ins C dx fs) ∧ spD X.K X.w φ [.ref a, x] H (fun v H' => ∃ b, v = .bl b ∧ Q (.bl (true != b)) H') EF, fun pins s σ H x y v u Q I rx ry h => ?_, fun H ce G m Qd Qv x y v u R rx ry h kk => inO_aux (hd := .bl) F H ce G m Qd Qv x y v u R rx ry h kk⟩
  obtain ⟨a, dx, fs, rfl, ea, q⟩ := h
  obtain rfl : u = Value.ref a := ry
  obtain ⟨ox, od, J⟩ := inst_of I ea
  obtain ⟨m, hF⟩ := I.fr
  refine PySem.W.notIn_K hF I.ok.mod.kin J hs hf (wpAny_mono (run_X (us := [.ref a, v]) (vs := [.ref a, x]) F hr I.env0 passF I (.cons rfl (.cons rx .nil)) q) (fun w s' z => ?_) fun _ _ x => x)
  obtain ⟨z, H', I', rz, b, rfl, q⟩ := z
  obtain rfl : w = Value.bool b := rz
  exact truthy_bool ⟨.bl (true != b), H', I', by rw [dec_nxor]; rfl, q⟩
def uGetO (C : Addr) (φ : Phi) (ua ub : UE) : UE := fun sl ce Q E => ua sl ce (fun x ce1 => ub sl ce1 (fun y ce2 => match insOf ce2 x with
  | some (C', _) => C' = C ∧ φ [x, y] ce2 Q (fun x ce3 => E x sl ce3)
  | none => False) E) E
theorem de_getO (hs : PySem.W.findIn X.K (.ref C) "__getitem__" = some (some (.ref f))) (hfn : PySem.W.fnIn X.K f = true) (hf : PySem.W.isFn X.K (.ref f) = true) (F : FnX X.prog X.w X.K X.mg X.base k f φ) (hr : Room (k + 1) X.A) (ha : DE X a ua) (hb : DE X b ub)
    (hsl : ∀ x i, subscripted b true (.ref x) i = runValue (.builtin "lifetime.subscript" ⟨[.ref x, i], []⟩) := by intros; with_unfolding_all rfl) : DE X (.Subscript a b pos) (uGetO C φ ua ub) := by
  obtain ⟨ta, pa, sa⟩ := ha.ex
  obtain ⟨tb, pb, sb⟩ := hb.ex
  refine ⟨fun W σ H Q => ta W σ H fun x H1 => tb W σ H1 fun y H2 => ∃ a dx fs, x = .ref a ∧ H2 a = some (.ins C dx fs) ∧ spD X.K X.w φ [.ref a, y] H2 Q (WE W σ), fun W tk => ⟨fun pins s σ H Q I h => ?_⟩, fun W σ H sl ce G m Qd Ed Qv R w h k => ?_⟩
  · refine PyProof.Rows.Subscript_ (binT (pa W tk) (pb W tk) I h fun v u s2 x y H2 I2 rx ry q => ?_)
    obtain ⟨a, dx, fs, rfl, ea, q⟩ := q
    obtain rfl : v = Value.ref a := rx
    obtain ⟨ox, od, J⟩ := inst_of I2 ea
    obtain ⟨m, hF⟩ := I2.fr
    exact PySem.W.sub_K hF I2.ok.mod.kin J hs hfn hf (run_X (A := X.A.in1) (us := [.ref a, u]) (vs := [.ref a, y]) F hr.in1 I2.env0.in1 (passAt tk σ) I2 (.cons rfl (.cons ry .nil)) q) (hsl _ _)
  · refine sa W σ H sl ce G m _ Ed _ R w h fun x ce1 G1 m1 v H1 R1 s1 r1 h1 => ?_
    refine sb W σ H1 sl ce1 G1 m1 _ Ed _ R1 (w.step s1) h1 fun y ce2 G2 m2 u H2 R2 s2 r2 h2 => ?_
    split at h2
    · next C' fs q =>
      obtain ⟨rfl, h2⟩ := h2
      have r1' := r1.mono s2.pre s2.gg
      obtain ⟨a, dx, ws, rfl, e, _⟩ := insOf_ok R2.toRelS r1' q
      refine ⟨a, dx, ws, rfl, e, ce2, G2, m2, [x, y], Qd, _, R2.toRelS, ⟨_, _, rfl, r1', _, _, rfl, r2, rfl⟩, h2, fun d ce' G' m' v H' R' s' r' q' => ?_, fun z ce' G' m' cls dd H' R' s' r' q' => ?_⟩
      · exact k d ce' G' m' v H' (R2.step s' R') ((s1.trans s2).trans s') r' q'
      · exact w cls dd σ H' z sl ce' G' m' (R2.step s' R') ((s1.trans s2).trans s') r' q'
    · exact h2.elim
def oEqO (C : Addr) (φ : Phi) (neg : Bool) : O2 := fun x y ce Q => match insOf ce x, insOf ce y with
  | some (C', _), some (C'', _) => C' = C ∧ C'' = C ∧ φ [x, y] ce (fun v ce' => match v with
    | .d (.bl b) => Q (.d (.bl (neg != b))) ce'
    | _ => False) (fun _ _ => False)
  | _, _ => False
theorem eqO_aux (H : Hp) (ce : Ce) (G : Hp) (m : List Addr) (Qd : T → Ce → Prop) (Qv : VK) (x y : T) (v u : V) (R : RelS X.K X.w H ce G m) (rx : RepT X.K m G x v) (ry : RepT X.K m G y u) {neg : Bool} (h : oEqO C φ neg x y ce Qd)
    (kk : ∀ d ce' G' m' z H', RelS X.K X.w H' ce' G' m' → Stp H m G H' m' G' → RepT X.K m' G' d z → Qd d ce' → Qv z H') :
    ∃ a dx fs b dy gs, v = .ref a ∧ u = .ref b ∧ H a = some (.ins C dx fs) ∧ H b = some (.ins C dy gs) ∧ spD X.K X.w φ [.ref a, .ref b] H (fun z H' => ∃ b, z = .bl b ∧ Qv (.bl (neg != b)) H') EF := by
  unfold oEqO at h
  split at h
  · next C' fs C'' gs q q2 =>
    obtain ⟨rfl, rfl, h⟩ := h
    obtain ⟨a, dx, ws, rfl, e, _⟩ := insOf_ok R rx q
    obtain ⟨b, dy, ws', rfl, e', _⟩ := insOf_ok R ry q2
    refine ⟨a, dx, ws, b, dy, ws', rfl, rfl, e, e', spD_call (ts := [x, y]) R ⟨_, _, rfl, rx, _, _, rfl, ry, rfl⟩ h fun d ce' G' m' z H' R' s' r' q' => ?_⟩
    split at q'
    · next b => exact ⟨b, r', kk (.d (.bl (neg != b))) ce' G' m' _ H' R' s' rfl q'⟩
    · exact q'.elim
  · exact h.elim
theorem od_eqO (hs : PySem.W.findIn X.K (.ref C) "__eq__" = some (some (.ref f))) (hf : PySem.W.isFn X.K (.ref f) = true) (F : FnX X.prog X.w X.K X.mg X.base k f φ) (hr : Room k X.A) : OpD X (compareOp .Eq) (oEqO C φ false) := by
  refine ⟨fun x y H Q => ∃ a dx fs b dy gs, x = .ref a ∧ y = .ref b ∧ H a = some (.ins C dx fs) ∧ H b = some (.ins C dy gs) ∧ spD X.K X.w φ [.ref a, .ref b] H (fun z H' => ∃ b, z = .bl b ∧ Q (.bl (false != b)) H') EF, fun pins s σ H x y v u Q I rx ry h => ?_, fun H ce G m Qd Qv x y v u R rx ry h kk => eqO_aux H ce G m Qd Qv x y v u R rx ry h kk⟩
  obtain ⟨a, dx, fs, b, dy, gs, rfl, rfl, ea, eb, q⟩ := h
  obtain rfl : v = Value.ref a := rx
  obtain rfl : u = Value.ref b := ry
  obtain ⟨ox, od, J⟩ := inst_of I ea
  obtain ⟨oy, oe, J'⟩ := inst_of I eb
  obtain ⟨m, hF⟩ := I.fr
  show wpAny _ _ (richCompare .Eq (.ref a) (.ref b)) _ _ _
  refine PySem.W.cmp_K (op := .Eq) (tb := .ref C) hr.units0 hF I.ok.mod.kin J J'.type (by simp [PySem.W.notFirst]) hs hf (wpAny_mono (run_X (us := [.ref a, .ref b]) (vs := [.ref a, .ref b]) F hr I.env0 passF I (.cons rfl (.cons rfl .nil)) q) (fun w s' z => ?_) fun _ _ x => x)
  obtain ⟨z, H', I', rz, t, rfl, q⟩ := z
  obtain rfl : w = Value.bool t := rz
  exact ⟨.bl (false != t), H', I', by rw [dec_bxor]; rfl, q⟩
theorem od_neO (hs : PySem.W.findIn X.K (.ref C) "__eq__" = some (some (.ref f))) (hne : PySem.W.findIn X.K (.ref C) "__ne__" = some (some (.builtin "object.__ne__"))) (hob : PySem.W.mroIn X.K C (.type "object") = some true) (hf : PySem.W.isFn X.K (.ref f) = true) (F : FnX X.prog X.w X.K X.mg X.base k f φ) (hr : Room (k + 1) X.A) : OpD X (compareOp .NotEq) (oEqO C φ true) := by
  refine ⟨fun x y H Q => ∃ a dx fs b dy gs, x = .ref a ∧ y = .ref b ∧ H a = some (.ins C dx fs) ∧ H b = some (.ins C dy gs) ∧ spD X.K X.w φ [.ref a, .ref b] H (fun z H' => ∃ b, z = .bl b ∧ Q (.bl (true != b)) H') EF, fun pins s σ H x y v u Q I rx ry h => ?_, fun H ce G m Qd Qv x y v u R rx ry h kk => eqO_aux H ce G m Qd Qv x y v u R rx ry h kk⟩
  obtain ⟨a, dx, fs, b, dy, gs, rfl, rfl, ea, eb, q⟩ := h
  obtain rfl : v = Value.ref a := rx
  obtain rfl : u = Value.ref b := ry
  obtain ⟨ox, od, J⟩ := inst_of I ea
  obtain ⟨oy, oe, J'⟩ := inst_of I eb
  show wpAny _ _ (richCompare .NotEq (.ref a) (.ref b)) _ _ _
  refine PySem.NeX.ne_own (hu_of hr) I.kIn J J' hne hs hf hob (wpAny_mono (run_X (A := X.A.in1) (us := [.ref a, .ref b]) (vs := [.ref a, .ref b]) F hr.in1 I.env0.in1 passF I (.cons rfl (.cons rfl .nil)) q) (fun w s' z => ?_) fun _ _ x => x)
  obtain ⟨z, H', I', rz, t, rfl, q⟩ := z
  obtain rfl : w = Value.bool t := rz
  exact ⟨t, rfl, ⟨.bl (true != t), H', I', by rw [dec_nxor]; rfl, q⟩⟩
end
end DL

namespace DL
open PySem L2
/-! ### statements -/
structure DEnds where
  nx : Sl → Ce → Prop
  rt : T → Ce → Prop
  ex : Ex1
  bk : Sl → Ce → Prop := fun _ _ => False
  ct : Sl → Ce → Prop := fun _ _ => False
abbrev US := DEnds → Sl → Ce → Prop
/-- D follows where N does -/
structure Cv (K : PySem.W.Frag) (wd : World) (H : Hp) (m : List Addr) (G : Hp) (N : DEnds) (D : Ends) : Prop where
  nx : ∀ σ' H' sl' ce' G' m', Rel K wd σ' H' sl' ce' G' m' → Stp H m G H' m' G' → N.nx sl' ce' → D.nx σ' H'
  rt : ∀ t v H' ce' G' m', RelS K wd H' ce' G' m' → Stp H m G H' m' G' → RepT K m' G' t v → N.rt t ce' → D.rt v H'
  bk : ∀ σ' H' sl' ce' G' m', Rel K wd σ' H' sl' ce' G' m' → Stp H m G H' m' G' → N.bk sl' ce' → D.bk σ' H'
  ct : ∀ σ' H' sl' ce' G' m', Rel K wd σ' H' sl' ce' G' m' → Stp H m G H' m' G' → N.ct sl' ce' → D.ct σ' H'
theorem Cv.step {K : PySem.W.Frag} {H H1 : Hp} {m m1 : List Addr} {G G1 : Hp} {N : DEnds} {D : Ends} (c : Cv K wd H m G N D) (s : Stp H m G H1 m1 G1) : Cv K wd H1 m1 G1 N D :=
  ⟨fun σ' H' sl' ce' G' m' R s' => c.nx σ' H' sl' ce' G' m' R (s.trans s'), fun t v H' ce' G' m' R s' => c.rt t v H' ce' G' m' R (s.trans s'),
   fun σ' H' sl' ce' G' m' R s' => c.bk σ' H' sl' ce' G' m' R (s.trans s'), fun σ' H' sl' ce' G' m' R s' => c.ct σ' H' sl' ce' G' m' R (s.trans s')⟩
def SemS (K : PySem.W.Frag) (wd : World) (tf : WX → TS) (u : US) : Prop := ∀ (W : WX) (σ : St) (H : Hp) (sl : Sl) (ce : Ce) (G : Hp) (m : List Addr) (N : DEnds) (D : Ends), Rel K wd σ H sl ce G m → Wish K wd W H m G N.ex → u N sl ce → Cv K wd H m G N D → tf W D σ H
structure DS (X : Cx) (st : Stmt) (u : US) : Prop where
  ex : ∃ tf : WX → TS, (∀ W, Takes X W → PS X st (tf W)) ∧ SemS X.K X.w tf u
structure DSs (X : Cx) (st : List Stmt) (u : US) : Prop where
  ex : ∃ tf : WX → TS, (∀ W, Takes X W → PSs X st (tf W)) ∧ SemS X.K X.w tf u
section
variable {X : Cx} {e a b c : Expr} {ua ub : UE} {ut : UT} {u : UA} {us us' : US} {st : Stmt} {rest : List Stmt} {pos : Pos}
def uNext : US := fun N sl ce => N.nx sl ce
def uSeq (u v : US) : US := fun N sl ce => u { N with nx := v N } sl ce
theorem dss_nil : DSs X [] uNext := ⟨fun _ => tNext, fun _ _ => pss_nil, fun W σ H sl ce G m N D R w h c => c.nx σ H sl ce G m R .refl h⟩
theorem dss_one (h : DS X st us) : DSs X [st] us := by
  obtain ⟨t, p, s⟩ := h.ex
  exact ⟨t, fun W tk => pss_one (p W tk), s⟩
theorem dss_cons (h : DS X st us) (h2 : DSs X rest us') : DSs X (st :: rest) (uSeq us us') := by
  obtain ⟨t, p, s⟩ := h.ex
  obtain ⟨t2, p2, s2⟩ := h2.ex
  refine ⟨fun W => tSeq (t W) (t2 W), fun W tk => pss_cons (p W tk) (p2 W tk), fun W σ H sl ce G m N D R w h c => ?_⟩
  refine s W σ H sl ce G m { N with nx := us' N } { D with nx := t2 W D } R w h ⟨fun σ' H' sl' ce' G' m' R' s' h' => ?_, c.rt, c.bk, c.ct⟩
  exact s2 W σ' H' sl' ce' G' m' N D R' (w.step s') h' (c.step s')
def uDrop (ua : UE) : US := fun N sl ce => ua sl ce (fun _ ce1 => N.nx sl ce1) N.ex
theorem ds_expr (ha : DE X e ua) (hs : swapsWith e none pos.line X.env = pure false := by rfl) : DS X (.Expr e pos) (uDrop ua) := by
  obtain ⟨t, p, s⟩ := ha.ex
  refine ⟨_, fun W tk => ps_expr (p W tk) hs, fun W σ H sl ce G m N D R w h c => ?_⟩
  exact s W σ H sl ce G m _ N.ex _ R w h fun d ce' G' m' v H' R' s' r' h' => c.nx σ H' sl ce' G' m' R' s' h'
def uRet (ua : UE) : US := fun N sl ce => ua sl ce (fun t ce1 => N.rt t ce1) N.ex
theorem ds_ret (ha : DE X e ua) : DS X (.Return (some e) pos) (uRet ua) := by
  obtain ⟨t, p, s⟩ := ha.ex
  refine ⟨_, fun W tk => ps_ret (p W tk), fun W σ H sl ce G m N D R w h c => ?_⟩
  exact s W σ H sl ce G m _ N.ex _ R w h fun d ce' G' m' v H' R' s' r' h' => c.rt d v H' ce' G' m' R'.toRelS s' r' h'
def uIf (ut : UT) (u v : US) : US := fun N sl ce => ut sl ce (fun b ce1 => match b with
  | true => u N sl ce1
  | false => v N sl ce1) N.ex
theorem ds_if {bs cs : List Stmt} (hc : DT X c ut) (ha : DSs X bs us) (hb : DSs X cs us') : DS X (.If c bs cs pos) (uIf ut us us') := by
  obtain ⟨t, p, s⟩ := hc.ex
  obtain ⟨t1, p1, s1⟩ := ha.ex
  obtain ⟨t2, p2, s2⟩ := hb.ex
  refine ⟨_, fun W tk => ps_if (p W tk) (p1 W tk) (p2 W tk), fun W σ H sl ce G m N D R w h c => ?_⟩
  refine s W σ H sl ce G m _ N.ex _ R w h fun b ce' G' m' H' R' s' h' => ?_
  cases b with
  | true => exact iteT (s1 W σ H' sl ce' G' m' N D R' (w.step s') h' (c.step s'))
  | false => exact iteF (s2 W σ H' sl ce' G' m' N D R' (w.step s') h' (c.step s'))
/-! ### targets -/
abbrev UG := T → Sl → Ce → (Sl → Ce → Prop) → Prop
def SemG (K : PySem.W.Frag) (wd : World) (js : List Nat) (g : TG) (u : UG) : Prop := ∀ (σ : St) (H : Hp) (sl : Sl) (ce : Ce) (G : Hp) (m : List Addr) (Qd : Sl → Ce → Prop) (Qs : St → Hp → Prop) (t : T) (v : V), Rel K wd σ H sl ce G m → RepT K m G t v → u t sl ce Qd →
  (∀ σ' sl' ce', Rel K wd σ' H sl' ce' G m → (∀ vs : List Nat, (∀ j ∈ js, j ∈ vs) → wipe σ' vs = wipe σ vs) → Qd sl' ce' → Qs σ' H) → g v σ H Qs
structure DG (X : Cx) (tg : Expr) (js : List Nat) (u : UG) : Prop where
  ex : ∃ g : TG, PG X tg g ∧ SemG X.K X.w js g u
abbrev UGs := List T → Sl → Ce → (Sl → Ce → Prop) → Prop
def SemGs (K : PySem.W.Frag) (wd : World) (js : List Nat) (g : TGs) (u : UGs) : Prop := ∀ (σ : St) (H : Hp) (sl : Sl) (ce : Ce) (G : Hp) (m : List Addr) (Qd : Sl → Ce → Prop) (Qs : St → Hp → Prop) (ts : List T) (vs : List V), Rel K wd σ H sl ce G m → RepTL K m G ts vs → u ts sl ce Qd →
  (∀ σ' sl' ce', Rel K wd σ' H sl' ce' G m → (∀ vs : List Nat, (∀ j ∈ js, j ∈ vs) → wipe σ' vs = wipe σ vs) → Qd sl' ce' → Qs σ' H) → g vs σ H Qs
structure DGs (X : Cx) (es : List Expr) (js : List Nat) (u : UGs) : Prop where
  ex : ∃ g : TGs, PGs X es g ∧ SemGs X.K X.w js g u
def ugName (i : Nat) : UG := fun t sl ce Q => Q (sl.set i (some t)) ce
theorem Rel.set {K : PySem.W.Frag} {σ : St} {H : Hp} {sl : Sl} {ce : Ce} {G : Hp} {m : List Addr} (R : Rel K wd σ H sl ce G m) (i : Nat) {t : T} {v : V} (r : RepT K m G t v) : Rel K wd (σ.set i (some v)) H (sl.set i (some t)) ce G m :=
  { R.toRelS with
    sln := by simp [R.sln]
    sls := fun j d h => by
      by_cases e : i = j
      · subst e
        have hj : i < sl.length := by
          by_cases q : i < sl.length
          · exact q
          · rw [List.getElem?_eq_none (by simp; omega)] at h; cases h
        rw [List.getElem?_set_self hj] at h
        cases h
        exact ⟨v, by rw [List.getElem?_set_self (by rw [R.sln]; exact hj)], r⟩
      · rw [List.getElem?_set_ne e] at h
        rw [List.getElem?_set_ne e]
        exact R.sls j d h }
theorem wipe_set {σ : St} {i : Nat} {x : Option V} : ∀ {vs : List Nat}, i ∈ vs → wipe (σ.set i x) vs = wipe σ vs := by
  intro vs hi
  apply List.ext_getElem?
  intro j
  by_cases hj : j ∈ vs
  · have : ∀ (τ : St) (ws : List Nat), j ∈ ws → (wipe τ ws)[j]? = if j < τ.length then some none else none := by
      intro τ ws
      induction ws with
      | nil => intro h; cases h
      | cons w ws ih =>
        intro h
        show ((wipe τ ws).set w none)[j]? = _
        by_cases e : w = j
        · subst e
          by_cases q : w < τ.length
          · rw [List.getElem?_set_self (by rw [wipe_length]; exact q), if_pos q]
          · rw [List.getElem?_eq_none (by simp [wipe_length]; omega), if_neg q]
        · rw [List.getElem?_set_ne e]
          exact ih ((List.mem_cons.mp h).resolve_left (Ne.symm e))
    rw [this _ _ hj, this _ _ hj]; simp
  · rw [wipe_out hj, wipe_out hj, List.getElem?_set_ne (show i ≠ j from fun e => hj (e ▸ hi))]
theorem dg_name (i : Nat) {x : Str} (hN : X.N.Nodup) (hi : X.N[i]? = some x := by rfl) (hx : Loc X.env.scope x := by first | exact Or.inl rfl | exact Or.inr rfl) (hf : X.fn x = true ∨ X.env.scope.names.lookup x = some .local := by first | exact .inl rfl | exact .inr rfl | assumption) : DG X (.Name x pos) [i] (ugName i) :=
  ⟨_, pg_name hN hi hx hf, fun σ H sl ce G m Qd Qs t v R r h k => k _ _ ce (R.set i r) (fun vs hv => wipe_set (hv i (by simp))) h⟩
def ugNil : UGs := fun ts sl ce Q => match ts with
  | [] => Q sl ce
  | _ => False
def ugCons (g : UG) (gs : UGs) : UGs := fun ts sl ce Q => match ts with
  | t :: r => g t sl ce fun sl1 ce1 => gs r sl1 ce1 Q
  | [] => False
theorem dgs_nil : DGs X [] [] ugNil := by
  refine ⟨_, pgs_nil, fun σ H sl ce G m Qd Qs ts vs R r h k => ?_⟩
  unfold ugNil at h
  split at h
  · cases r; exact ⟨rfl, k σ sl ce R (fun _ _ => rfl) h⟩
  · exact h.elim
theorem dgs_cons {es : List Expr} {js js' : List Nat} {g : UG} {gs : UGs} (h1 : DG X e js g) (h2 : DGs X es js' gs) (hs : (assignEach (e :: es) X.env).map (·.2) = assign e X.env :: (assignEach es X.env).map (·.2) := by rfl) : DGs X (e :: es) (js ++ js') (ugCons g gs) := by
  obtain ⟨t1, p1, s1⟩ := h1.ex
  obtain ⟨t2, p2, s2⟩ := h2.ex
  refine ⟨_, pgs_cons p1 p2 hs, fun σ H sl ce G m Qd Qs ts vs R r h k => ?_⟩
  unfold ugCons at h
  split at h
  · next t ts' =>
    obtain ⟨v, vs', rfl, rv, rs⟩ := r
    refine ⟨v, vs', rfl, s1 σ H sl ce G m _ _ t v R rv h fun σ' sl' ce' R' w' h' => ?_⟩
    refine s2 σ' H sl' ce' G m _ _ ts' vs' R' rs h' fun σ2 sl2 ce2 R2 w2 h2 => ?_
    exact k σ2 sl2 ce2 R2 (fun vs hv => (w2 vs fun j hj => hv j (List.mem_append_right _ hj)).trans (w' vs fun j hj => hv j (List.mem_append_left _ hj))) h2
  · exact h.elim
def ugTup (n : Nat) (gs : UGs) : UG := fun t sl ce Q => match t with
  | .d (.tup ds) => ds.length = n ∧ gs (ds.map T.d) sl ce Q
  | _ => False
theorem dg_tup {es : List Expr} {k n : Nat} {js : List Nat} {gs : UGs} (h : DGs X es js gs) (hc : X.calm = true := by rfl) (hn : (assignEach es X.env).length = n := by rfl) (hst : (assignEach es X.env).findIdx? (·.1) = none := by rfl) : DG X (.Tuple es k pos) js (ugTup n gs) := by
  obtain ⟨t, p, s⟩ := h.ex
  refine ⟨_, pg_tup hc p hn hst, fun σ H sl ce G m Qd Qs t v R r h k => ?_⟩
  unfold ugTup at h
  split at h
  · next ds =>
    obtain ⟨a, vs, rfl, hs, rs⟩ := r
    exact ⟨a, vs, rfl, R.gh.rdT hs, by rw [rs.length]; exact h.1, s σ H sl ce G m Qd Qs _ vs R (toT rs) h.2 k⟩
  · exact h.elim
def uAsg (ua : UE) (ug : UG) : US := fun N sl ce => ua sl ce (fun t ce1 => ug t sl ce1 N.nx) N.ex
theorem ds_asg {tg : Expr} {js : List Nat} {ug : UG} (he : DE X e ua) (hg : DG X tg js ug) (hs : swapsWithSole [tg] e pos.line X.env = pure false := by rfl) (hw : swappedStores [tg] e X.env = pure none := by rfl)
    (h1 : (assignEach [tg] X.env).map (·.2) = [assign tg X.env] := by rfl) : DS X (.Assign [tg] e pos) (uAsg ua ug) := by
  obtain ⟨t, p, s⟩ := he.ex
  obtain ⟨t2, p2, s2⟩ := hg.ex
  refine ⟨_, fun W tk => ps_asg (p W tk) p2 hs hw h1, fun W σ H sl ce G m N D R w h c => ?_⟩
  refine s W σ H sl ce G m _ N.ex _ R w h fun d ce' G' m' v H' R' s' r' h' => ?_
  exact s2 σ H' sl ce' G' m' _ _ d v R' r' h' fun σ' sl' ce2 R2 _ h2 => c.nx σ' H' sl' ce2 G' m' R2 s' h2
theorem ds_set (i : Nat) {x : Str} {pos' : Pos} (hN : X.N.Nodup) (he : DE X e ua) (hi : X.N[i]? = some x := by rfl) (hx : Loc X.env.scope x := by first | exact Or.inl rfl | exact Or.inr rfl) (hs : swapsWith e (some (.Name x pos')) pos.line X.env = pure false := by rfl) (hf : X.fn x = true ∨ X.env.scope.names.lookup x = some .local := by first | exact .inl rfl | exact .inr rfl | assumption) :
    DS X (.Assign [.Name x pos'] e pos) (uAsg ua (ugName i)) := by
  obtain ⟨t, p, s⟩ := he.ex
  refine ⟨_, fun W tk => ps_set (i := i) hN hi hx (p W tk) hs hf, fun W σ H sl ce G m N D R w h c => ?_⟩
  exact s W σ H sl ce G m _ N.ex _ R w h fun d ce' G' m' v H' R' s' r' h' => c.nx _ H' _ ce' G' m' (R'.set i r') s' h'
/-- a, b = e1, e2 -/
def uPar (i j : Nat) (u : UA) : US := fun N sl ce => u sl ce (fun ts ce1 => match ts with
  | [t, t'] => N.nx ((sl.set i (some t)).set j (some t')) ce1
  | _ => False) N.ex
/-! ### self.f = e, self a cell -/
def uStF (C : Addr) (f : Str) (uo ua : UE) : US := fun N sl ce => ua sl ce (fun t ce1 => uo sl ce1 (fun o ce2 => match o with
  | .cel k => match ce2[k]? with
    | some (.ins C' fs) => C' = C ∧ fs.length < 1000 ∧ N.nx sl (ce2.set k (.ins C (putD f t fs)))
    | _ => False
  | _ => False) N.ex) N.ex
theorem ds_fld {C : Addr} {f : Str} {uo : UE} {pos' : Pos} (c : Cls X.K C) (n : NoAttr X.K C f) (ho : DE X a uo) (he : DE X e ua) (hs : swapsWith e (some (.Attribute a f pos')) pos.line X.env = pure false := by rfl) : DS X (.Assign [.Attribute a f pos'] e pos) (uStF C f uo ua) := by
  obtain ⟨t1, p1, s1⟩ := ho.ex
  obtain ⟨t, p, s⟩ := he.ex
  refine ⟨_, fun W tk => ps_fld (p1 W tk) (p W tk) hs, fun W σ H sl ce G m N D R w h cv => ?_⟩
  refine s W σ H sl ce G m _ N.ex _ R w h fun t ce1 G1 m1 v H1 R1 sp r1 h1 => ?_
  refine s1 W σ H1 sl ce1 G1 m1 _ N.ex _ R1 (w.step sp) h1 fun o ce2 G2 m2 ov H2 R2 sp2 r2 h2 => ?_
  split at h2
  · next k =>
    split at h2
    · next C' fs q =>
      obtain ⟨rfl, hl, h2⟩ := h2
      obtain ⟨ad, hm, rfl⟩ := r2
      obtain ⟨dx, ws, hH, rf⟩ := R2.cel k ad _ hm q
      refine ⟨ad, C', dx, ws, rfl, hH, c, n, by rw [rf.length]; exact hl, ?_⟩
      have rt := r1.mono sp2.pre sp2.gg
      obtain ⟨R3, s3⟩ := R2.toRelS.write (o := .ins C' dx (putF f v ws)) (c := .ins C' (putD f t fs)) hm (by rw [q]; exact fun z => nomatch z) ⟨dx, _, upd_same, rf.put rt⟩
      exact cv.nx σ _ sl _ G2 m2 (R2.step s3 R3) ((sp.trans sp2).trans s3) h2
    · exact h2.elim
  · exact h2.elim
/-! ### xs[i] = e, xs a cell -/
def uStI (uo ui ua : UE) : US := fun N sl ce => ua sl ce (fun t ce1 => uo sl ce1 (fun o ce2 => ui sl ce2 (fun i ce3 => match o, i with
  | .cel k, .d (.int n) => match ce3[k]? with
    | some (.lst xs) => match ixN xs.length n with
      | some j => N.nx sl (ce3.set k (.lst (xs.set j t)))
      | none => False
    | _ => False
  | _, _ => False) N.ex) N.ex) N.ex
theorem ds_setI {uo ui : UE} {pos' : Pos} (ho : DE X a uo) (hi : DE X b ui) (he : DE X e ua) (hs : swapsWithSole [.Subscript a b pos'] e pos.line X.env = pure false := by rfl) (hw : swappedStores [.Subscript a b pos'] e X.env = pure none := by rfl)
    (h1 : (assignEach [.Subscript a b pos'] X.env).map (·.2) = [assign (.Subscript a b pos') X.env] := by rfl)
    (ha : ∀ v, assign (.Subscript a b pos') X.env v = (do
      let ov ← holding [v] (eval a X.env)
      let iv ← holding [v, ov] (eval b X.env)
      standAt pos'
      holding [v, ov, iv] (setItem ov iv v)
      release [v, ov, iv] []) := by intro _; rfl) : DS X (.Assign [.Subscript a b pos'] e pos) (uStI uo ui ua) := by
  obtain ⟨t1, p1, s1⟩ := ho.ex
  obtain ⟨t2, p2, s2⟩ := hi.ex
  obtain ⟨t, p, s⟩ := he.ex
  refine ⟨_, fun W tk => ps_asg (p W tk) (pg_sub (p1 W tk) (p2 W tk) set_list ha) hs hw h1, fun W σ H sl ce G m N D R w h cv => ?_⟩
  refine s W σ H sl ce G m _ N.ex _ R w h fun t ce1 G1 m1 v H1 R1 sp r1 h1 => ?_
  refine s1 W σ H1 sl ce1 G1 m1 _ N.ex _ R1 (w.step sp) h1 fun o ce2 G2 m2 ov H2 R2 sp2 r2 h2 => ?_
  refine s2 W σ H2 sl ce2 G2 m2 _ N.ex _ R2 (w.step (sp.trans sp2)) h2 fun i ce3 G3 m3 iv H3 R3 sp3 r3 h3 => ?_
  split at h3
  · next k n =>
    split at h3
    · next xs q =>
      split at h3
      · next j q2 =>
        obtain ⟨ad, hm, rfl⟩ := r2.mono sp3.pre sp3.gg
        cases r3
        obtain ⟨vs, hH, rv⟩ := R3.cel k ad _ hm q
        refine ⟨ad, vs, n, j, rfl, rfl, hH, by rw [rv.length]; exact q2, ?_⟩
        have rt := r1.mono (sp2.trans sp3).pre (sp2.trans sp3).gg
        obtain ⟨R4, s4⟩ := R3.toRelS.write (o := .lst (vs.set j v)) (c := .lst (xs.set j t)) hm (by rw [q]; exact fun z => nomatch z) ⟨_, upd_same, rv.set j rt⟩
        exact cv.nx σ _ sl _ G3 m3 (R3.step s4 R4) (((sp.trans sp2).trans sp3).trans s4) h3
      · exact h3.elim
    · exact h3.elim
  · exact h3.elim
/-! ### xs.append(e), xs.pop(i), xs a cell -/
def uBM (ua : UE) (u : UA) (o : Nat → List T → List T → Ce → (T → Ce → Prop) → Prop) : UE := fun sl ce Q E => ua sl ce (fun x ce1 => match x with
  | .cel k => match ce1[k]? with
    | some (.lst _) => u sl ce1 (fun ts ce2 => match ce2[k]? with
      | some (.lst xs) => o k xs ts ce2 Q
      | _ => False) E
    | _ => False
  | _ => False) E
def oApp : Nat → List T → List T → Ce → (T → Ce → Prop) → Prop := fun k xs ts ce Q => match ts with
  | [t] => xs.length < sizeLine ∧ Q (.d .non) (ce.set k (.lst (xs ++ [t])))
  | _ => False
theorem de_append {e0 : Expr} {apos cpos : Pos} (ho : DE X a ua) (ha : DA X [e0] u) (hpe : ∀ {to : TE} {t : TA}, PE X a to → PA X [e0] t → PE X (.Call (.Attribute a "append" apos) [e0] [] cpos) (tBM X.K "list" rAppend to t) := by exact fun h1 h2 => pe_bm PySem.F.plainAttrs_list PySem.F.slot_list_append PySem.F.type_list_append mt_append h1 h2) :
    DE X (.Call (.Attribute a "append" apos) [e0] [] cpos) (uBM ua u oApp) := by
  obtain ⟨t1, p1, s1⟩ := ho.ex
  obtain ⟨t2, p2, s2⟩ := ha.ex
  refine ⟨_, fun W tk => hpe (p1 W tk) (p2 W tk), fun W σ H sl ce G m Qd Ed Qv R w h k => ?_⟩
  refine s1 W σ H sl ce G m _ Ed _ R w h fun x ce1 G1 m1 v H1 R1 sp1 r1 h1 => ?_
  split at h1
  · next kk =>
    split at h1
    · next xs0 q0 =>
      obtain ⟨ad, hmk, rfl⟩ := r1
      obtain ⟨ys0, hH0, _⟩ := R1.cel kk ad _ hmk q0
      refine ⟨.inl ⟨rfl, ys0, SqL.of hH0⟩, ?_⟩
      refine s2 W σ H1 sl ce1 G1 m1 _ Ed _ R1 (w.step sp1) h1 fun ts ce2 G2 m2 vs H2 R2 sp2 r2 h2 => ?_
      split at h2
      · next xs q =>
        have hm2 := pre_get sp2.pre hmk
        obtain ⟨ys, hH, ry⟩ := R2.cel kk ad _ hm2 q
        unfold oApp at h2
        split at h2
        · next t =>
          obtain ⟨v, rfl, rv⟩ := RepTL.one' r2
          refine ⟨ad, ys, v, rfl, rfl, hH, by rw [ry.length]; exact h2.1, ?_⟩
          obtain ⟨R3, s3⟩ := R2.toRelS.write (o := .lst (ys ++ [v])) (c := .lst (xs ++ [t])) hm2 (by rw [q]; exact fun z => nomatch z) ⟨_, upd_same, ry.append (RepTL.one rv)⟩
          exact k (.d .non) _ G2 m2 _ _ (R2.step s3 R3) ((sp1.trans sp2).trans s3) rfl h2.2
        · exact h2.elim
      · exact h2.elim
    · exact h1.elim
  · exact h1.elim
def oPopAt : Nat → List T → List T → Ce → (T → Ce → Prop) → Prop := fun k xs ts ce Q => match ts with
  | [.d (.int i)] => match ixN xs.length i with
    | some j => match xs[j]? with
      | some t => (-(2 ^ 63) ≤ i ∧ i < 2 ^ 63) ∧ Q t (ce.set k (.lst (xs.eraseIdx j)))
      | none => False
    | none => False
  | _ => False
theorem de_popAt {e0 : Expr} {apos cpos : Pos} (ho : DE X a ua) (ha : DA X [e0] u) (hpe : ∀ {to : TE} {t : TA}, PE X a to → PA X [e0] t → PE X (.Call (.Attribute a "pop" apos) [e0] [] cpos) (tBM X.K "list" rPopAt to t) := by exact fun h1 h2 => pe_bm PySem.F.plainAttrs_list PySem.F.slot_list_pop PySem.F.type_list_pop mt_popAt h1 h2) :
    DE X (.Call (.Attribute a "pop" apos) [e0] [] cpos) (uBM ua u oPopAt) := by
  obtain ⟨t1, p1, s1⟩ := ho.ex
  obtain ⟨t2, p2, s2⟩ := ha.ex
  refine ⟨_, fun W tk => hpe (p1 W tk) (p2 W tk), fun W σ H sl ce G m Qd Ed Qv R w h k => ?_⟩
  refine s1 W σ H sl ce G m _ Ed _ R w h fun x ce1 G1 m1 v H1 R1 sp1 r1 h1 => ?_
  split at h1
  · next kk =>
    split at h1
    · next xs0 q0 =>
      obtain ⟨ad, hmk, rfl⟩ := r1
      obtain ⟨ys0, hH0, _⟩ := R1.cel kk ad _ hmk q0
      refine ⟨.inl ⟨rfl, ys0, SqL.of hH0⟩, ?_⟩
      refine s2 W σ H1 sl ce1 G1 m1 _ Ed _ R1 (w.step sp1) h1 fun ts ce2 G2 m2 vs H2 R2 sp2 r2 h2 => ?_
      split at h2
      · next xs q =>
        have hm2 := pre_get sp2.pre hmk
        obtain ⟨ys, hH, ry⟩ := R2.cel kk ad _ hm2 q
        unfold oPopAt at h2
        split at h2
        · next i =>
          split at h2
          · next j qj =>
            split at h2
            · next t qt =>
              obtain ⟨v, rfl, rv⟩ := RepTL.one' r2
              cases rv
              obtain ⟨y, hy, ryt⟩ := ry.get qt
              obtain ⟨hsq, hj, hlo, hhi⟩ := ixN_seq qj
              refine ⟨ad, ys, i, j, y, rfl, rfl, hH, h2.1.1, h2.1.2, by rw [ry.length]; exact hsq, hy, ?_⟩
              · obtain ⟨R3, s3⟩ := R2.toRelS.write (o := .lst (ys.eraseIdx j)) (c := .lst (xs.eraseIdx j)) hm2 (by rw [q]; exact fun z => nomatch z) ⟨_, upd_same, ry.erase j⟩
                exact k t _ G2 m2 _ _ (R2.step s3 R3) ((sp1.trans sp2).trans s3) ryt h2.2
            · exact h2.elim
          · exact h2.elim
        · exact h2.elim
      · exact h2.elim
    · exact h1.elim
  · exact h1.elim
end
end DL

namespace DL
open PySem L2
/-! ### what is walked -/
abbrev UI := Sl → Ce → (List T → Ce → Prop) → Ex1 → Prop
/-- J gives the items, while the state goes on from (G, m) -/
def ItOk (K : PySem.W.Frag) (wd : World) (J : It) (items : List T) (H : Hp) (G : Hp) (m : List Addr) : Prop := ∃ (Gd : Hp → Prop) (Y : Nat → Hp → V → Hp → Prop), Walk J items.length Gd Y ∧
  (∀ H' ce' G' m', RelS K wd H' ce' G' m' → Fz H H' G → Gg G G' → m <+: m' → Gd H') ∧
  (∀ i x H1 H2 ce1 G1 m1, RelS K wd H1 ce1 G1 m1 → Fz H H1 G → Gg G G1 → m <+: m1 → i < items.length → Y i H1 x H2 → ∃ G2 t, RelS K wd H2 ce1 G2 m1 ∧ Stp H1 m1 G1 H2 m1 G2 ∧ items[i]? = some t ∧ RepT K m1 G2 t x)
structure DI (X : Cx) (tg iter : Expr) (u : UI) : Prop where
  ex : ∃ wf : WX → TI, (∀ W, Takes X W → PI X tg iter (wf W)) ∧ ∀ (W : WX) (σ : St) (H : Hp) (sl : Sl) (ce : Ce) (G : Hp) (m : List Addr) (Ri : List T → Ce → Prop) (Ed : Ex1) (R : It → Hp → Prop), Rel X.K X.w σ H sl ce G m → Wish X.K X.w W H m G Ed → u sl ce Ri Ed →
    (∀ J items ce' G' m' H', Rel X.K X.w σ H' sl ce' G' m' → Stp H m G H' m' G' → ItOk X.K X.w J items H' G' m' → Ri items ce' → R J H') → wf W σ H R
def loopD (ug : UG) (ub : US) (N : DEnds) : List T → Sl → Ce → Prop
  | [], sl, ce => N.nx sl ce
  | t :: r, sl, ce => ug t sl ce fun sl1 ce1 => ub { N with nx := loopD ug ub N r, ct := loopD ug ub N r, bk := N.nx } sl1 ce1
def uFor (ui : UI) (ug : UG) (ub : US) : US := fun N sl ce => ui sl ce (fun items ce1 => loopD ug ub N items sl ce1) N.ex
section
variable {X : Cx} {e a b c tg iter : Expr} {ua ub : UE} {ut : UT} {u : UA} {us us' : US} {ui : UI} {ug : UG} {js : List Nat} {pos p : Pos}
theorem drop_at {α : Type} {l : List α} {i : Nat} {t : α} (h : l[i]? = some t) : l.drop i = t :: l.drop (i + 1) := by
  obtain ⟨hi, e⟩ := List.getElem?_eq_some_iff.mp h
  rw [List.drop_eq_getElem_cons hi, e]
theorem ds_for {body : List Stmt} (hp : PassesOwn (model X.prog X.w) X.A X.env X.xe) (hi : DI X tg iter ui) (hg : DG X tg js ug) (hb : DSs X body us) (hc : X.calm = true := by rfl) (hs : ∀ x, foldedSetIterable iter X.env x = pure x := by intro _; rfl) : DS X (.For tg iter body [] pos) (uFor ui ug us) := by
  obtain ⟨wf, pi, si⟩ := hi.ex
  obtain ⟨g, pg, sg⟩ := hg.ex
  obtain ⟨t, pb, sb⟩ := hb.ex
  refine ⟨fun W => tFor (wf W) g (t W), fun W tk => ps_for hp hc (pi W tk) pg (pb W tk) hs, fun W σ H sl ce G m N D R w h cv => ?_⟩
  refine si W σ H sl ce G m _ N.ex _ R w h fun J items ce1 G1 m1 H1 R1 s1 io h1 => ?_
  obtain ⟨Gd, Y, wk, hG, hY⟩ := io
  refine for_it (D := D) wk (fun i σ' H' => ∃ sl' ce' G' m', Rel X.K X.w σ' H' sl' ce' G' m' ∧ Stp H1 m1 G1 H' m' G' ∧ loopD ug us N (items.drop i) sl' ce') ⟨sl, ce1, G1, m1, R1, .refl, h1⟩ (fun i σ' H' _ ⟨sl', ce', G', m', R', s', _⟩ => hG H' ce' G' m' R'.toRelS s'.fz s'.gg s'.pre) ?_ ?_
  · rintro i x σ' H' H2 hi ⟨sl', ce', G', m', R', s', h'⟩ y
    obtain ⟨G2, tt, R2, s2, et, rt⟩ := hY i x H' H2 ce' G' m' R'.toRelS s'.fz s'.gg s'.pre hi y
    rw [drop_at et] at h'
    refine sg σ' H2 sl' ce' G2 m' _ _ tt x (R'.step s2 R2) rt h' fun σ3 sl3 ce3 R3 _ h3 => ?_
    have st3 := (s1.trans s').trans s2
    refine sb W σ3 H2 sl3 ce3 G2 m' { N with nx := loopD ug us N (items.drop (i + 1)), ct := loopD ug us N (items.drop (i + 1)), bk := N.nx } _ R3 (w.step st3) h3 ⟨?_, ?_, ?_, ?_⟩
    · exact fun σ4 H4 sl4 ce4 G4 m4 R4 s4 h4 => ⟨sl4, ce4, G4, m4, R4, (s'.trans s2).trans s4, h4⟩
    · exact fun t v H4 ce4 G4 m4 R4 s4 r4 h4 => cv.rt t v H4 ce4 G4 m4 R4 (st3.trans s4) r4 h4
    · exact fun σ4 H4 sl4 ce4 G4 m4 R4 s4 h4 => cv.nx σ4 H4 sl4 ce4 G4 m4 R4 (st3.trans s4) h4
    · exact fun σ4 H4 sl4 ce4 G4 m4 R4 s4 h4 => ⟨sl4, ce4, G4, m4, R4, (s'.trans s2).trans s4, h4⟩
  · rintro σ' H' ⟨sl', ce', G', m', R', s', h'⟩
    rw [List.drop_length] at h'
    exact cv.nx σ' H' sl' ce' G' m' R' (s1.trans s') h'
/-! ### while -/
def uWhile (ut : UT) (ub : US) : US := fun N sl ce => ∃ V : Nat → Sl → Ce → Prop, (∃ n, V n sl ce) ∧ ∀ n sl ce, V n sl ce → ut sl ce (fun b ce1 => match b with
  | true => ub { N with nx := fun sl' ce' => ∃ n', n' < n ∧ V n' sl' ce', ct := fun sl' ce' => ∃ n', n' < n ∧ V n' sl' ce', bk := N.nx } sl ce1
  | false => N.nx sl ce1) N.ex
theorem ds_while {body : List Stmt} (hp : PassesOwn (model X.prog X.w) X.A X.env X.xe) (hc : DT X c ut) (hb : DSs X body us) : DS X (.While c body [] pos) (uWhile ut us) := by
  obtain ⟨tc, pc, sc⟩ := hc.ex
  obtain ⟨t, pb, sb⟩ := hb.ex
  refine ⟨fun W => tWhile (tc W) (t W), fun W tk => ps_while hp (pc W tk) (pb W tk), fun W σ H sl ce G m N D R w h cv => ?_⟩
  obtain ⟨V, ⟨n0, h0⟩, hs⟩ := h
  refine ⟨fun n σ' H' => ∃ sl' ce' G' m', Rel X.K X.w σ' H' sl' ce' G' m' ∧ Stp H m G H' m' G' ∧ V n sl' ce', ⟨n0, sl, ce, G, m, R, .refl, h0⟩, ?_⟩
  rintro n σ' H' ⟨sl', ce', G', m', R', s', hv⟩
  refine sc W σ' H' sl' ce' G' m' _ N.ex _ R' (w.step s') (hs n sl' ce' hv) fun b ce2 G2 m2 H2 R2 s2 h2 => ?_
  have st := s'.trans s2
  cases b with
  | true =>
    refine iteT ⟨fun σ3 H3 => ∃ n', n' < n ∧ ∃ sl' ce' G' m', Rel X.K X.w σ3 H3 sl' ce' G' m' ∧ Stp H m G H3 m' G' ∧ V n' sl' ce', fun σ3 H3 z => z, ?_⟩
    refine sb W σ' H2 sl' ce2 G2 m2 { N with nx := fun sl' ce' => ∃ n', n' < n ∧ V n' sl' ce', ct := fun sl' ce' => ∃ n', n' < n ∧ V n' sl' ce', bk := N.nx } _ R2 (w.step st) h2 ⟨?_, ?_, ?_, ?_⟩
    · exact fun σ4 H4 sl4 ce4 G4 m4 R4 s4 ⟨n', hn, h4⟩ => ⟨n', hn, sl4, ce4, G4, m4, R4, st.trans s4, h4⟩
    · exact fun t v H4 ce4 G4 m4 R4 s4 r4 h4 => cv.rt t v H4 ce4 G4 m4 R4 (st.trans s4) r4 h4
    · exact fun σ4 H4 sl4 ce4 G4 m4 R4 s4 h4 => cv.nx σ4 H4 sl4 ce4 G4 m4 R4 (st.trans s4) h4
    · exact fun σ4 H4 sl4 ce4 G4 m4 R4 s4 ⟨n', hn, h4⟩ => ⟨n', hn, sl4, ce4, G4, m4, R4, st.trans s4, h4⟩
  | false => exact iteF (cv.nx σ' H2 sl' ce2 G2 m2 R2 st h2)
/-! ### lists, tuples, texts, ranges -/
theorem ItOk.seqL {K : PySem.W.Frag} {H : Hp} {a : Addr} {vs : List V} {ds : List D} {G : Hp} {m : List Addr} (hs : SqL K G a vs) (r : RepL K G ds vs) : ItOk K wd (Itl K a) (ds.map T.d) H G m := by
  refine ⟨fun H => SqL K H a vs, YAt vs, ?_, fun H' ce' G' m' R _ g _ => R.gh.rdL (g.sqL hs), fun i x H1 H2 ce1 G1 m1 R fz g p hi y => ?_⟩
  · have w := walk_list (K := K) (a := a) (xs := vs)
    rw [List.length_map, ← r.length]; exact w
  · obtain ⟨rfl, hx⟩ := y
    rw [List.length_map] at hi
    obtain ⟨v, hv, rv⟩ := r.get (List.getElem?_eq_getElem hi)
    rw [hx] at hv; cases hv
    exact ⟨G1, .d ds[i], R, .refl, by rw [List.getElem?_map, List.getElem?_eq_getElem hi]; rfl, Rep.mono g _ _ rv⟩
theorem ItOk.seqT {K : PySem.W.Frag} {H : Hp} {a : Addr} {vs : List V} {ds : List D} {G : Hp} {m : List Addr} (hs : SqT K G a vs) (r : RepL K G ds vs) : ItOk K wd (Itt K a) (ds.map T.d) H G m := by
  refine ⟨fun H => SqT K H a vs, YAt vs, ?_, fun H' ce' G' m' R _ g _ => R.gh.rdT (g.sqT hs), fun i x H1 H2 ce1 G1 m1 R fz g p hi y => ?_⟩
  · have w := walk_tup (K := K) (a := a) (xs := vs)
    rw [List.length_map, ← r.length]; exact w
  · obtain ⟨rfl, hx⟩ := y
    rw [List.length_map] at hi
    obtain ⟨v, hv, rv⟩ := r.get (List.getElem?_eq_getElem hi)
    rw [hx] at hv; cases hv
    exact ⟨G1, .d ds[i], R, .refl, by rw [List.getElem?_map, List.getElem?_eq_getElem hi]; rfl, Rep.mono g _ _ rv⟩
def uiL (ua : UE) : UI := fun sl ce Q E => ua sl ce (fun x ce1 => match x with
  | .d (.lst ds) => Q (ds.map T.d) ce1
  | _ => False) E
def uiT (ua : UE) : UI := fun sl ce Q E => ua sl ce (fun x ce1 => match x with
  | .d (.tup ds) => Q (ds.map T.d) ce1
  | _ => False) E
def signs (z : Str) : List T := z.cps.toList.map fun c => .d (.str ⟨#[c]⟩)
def uiS (ua : UE) : UI := fun sl ce Q E => ua sl ce (fun x ce1 => match x with
  | .d (.str z) => Q (signs z) ce1
  | _ => False) E
theorem di_list (ha : DE X e ua) : DI X tg e (uiL ua) := by
  obtain ⟨ta, pa, sa⟩ := ha.ex
  refine ⟨_, fun W tk => pi_list (pa W tk), fun W σ H sl ce G m Ri Ed R Rl w h k => ?_⟩
  refine sa W σ H sl ce G m _ Ed _ Rl w h fun x ce1 G1 m1 v H1 R1 s1 r1 h1 => ?_
  split at h1
  · next ds =>
    obtain ⟨a, vs, rfl, hs, r⟩ := r1
    exact ⟨a, rfl, ⟨vs, R1.gh.rdL hs⟩, k _ _ ce1 G1 m1 H1 R1 s1 (ItOk.seqL hs r) h1⟩
  · exact h1.elim
theorem di_tup (ha : DE X e ua) : DI X tg e (uiT ua) := by
  obtain ⟨ta, pa, sa⟩ := ha.ex
  refine ⟨_, fun W tk => pi_tup (pa W tk), fun W σ H sl ce G m Ri Ed R Rl w h k => ?_⟩
  refine sa W σ H sl ce G m _ Ed _ Rl w h fun x ce1 G1 m1 v H1 R1 s1 r1 h1 => ?_
  split at h1
  · next ds =>
    obtain ⟨a, vs, rfl, hs, r⟩ := r1
    exact ⟨a, rfl, ⟨vs, R1.gh.rdT hs⟩, k _ _ ce1 G1 m1 H1 R1 s1 (ItOk.seqT hs r) h1⟩
  · exact h1.elim
theorem di_str (ha : DE X e ua) : DI X tg e (uiS ua) := by
  obtain ⟨ta, pa, sa⟩ := ha.ex
  refine ⟨_, fun W tk => pi_str (pa W tk), fun W σ H sl ce G m Ri Ed R Rl w h k => ?_⟩
  refine sa W σ H sl ce G m _ Ed _ Rl w h fun x ce1 G1 m1 v H1 R1 s1 r1 h1 => ?_
  split at h1
  · next z =>
    cases r1
    refine ⟨z, rfl, k _ (signs z) ce1 G1 m1 H1 R1 s1 ⟨fun _ => True, (fun i H v H' => H' = H ∧ ∃ c, z.cps[i]? = some c ∧ v = .str ⟨#[c]⟩), ?_, fun _ _ _ _ _ _ _ _ => trivial, fun i x H1 H2 ce1 G1 m1 R fz g p hi y => ?_⟩ h1⟩
    · have w := walk_str (z := z)
      have e : (signs z).length = z.cps.size := by simp [signs]
      rw [e]; exact w
    · obtain ⟨rfl, c, hc, rfl⟩ := y
      exact ⟨G1, .d (.str ⟨#[c]⟩), R, .refl, by simp [signs, hc], rfl⟩
  · exact h1.elim
def uiR1 (u : UA) : UI := fun sl ce Q E => u sl ce (fun ts ce1 => match ts with
  | [.d (.int j)] => (-(2 ^ 62) ≤ j ∧ j < 2 ^ 62) ∧ Q ((List.range j.toNat).map fun (i : Nat) => .d (.int i)) ce1
  | _ => False) E
theorem ItOk.range {K : PySem.W.Frag} {H : Hp} {lo : Int} {n : Nat} {G : Hp} {m : List Addr} : ItOk K wd (Itr lo n) ((List.range n).map fun (i : Nat) => .d (.int (lo + i))) H G m := by
  refine ⟨fun _ => True, YFn fun i => .int (lo + i), ?_, fun _ _ _ _ _ _ _ _ => trivial, fun i x H1 H2 ce1 G1 m1 R fz g p hi y => ?_⟩
  · have w := walk_range (lo := lo) (n := n)
    rw [List.length_map, List.length_range]; exact w
  · obtain ⟨rfl, rfl⟩ := y
    rw [List.length_map, List.length_range] at hi
    exact ⟨G1, .d (.int (lo + i)), R, .refl, by rw [List.getElem?_map, List.getElem?_range hi]; rfl, rfl⟩
theorem di_range1 (ha : DA X [a] u) (hm : X.mg "range" = none) (hg : Gl X "range" := by rfl) (hs : starEach [a] X.env = [(false, eval a X.env)] := by rfl) : DI X tg (.Call (.Name "range" p) [a] [] pos) (uiR1 u) := by
  obtain ⟨ta, pa, sa⟩ := ha.ex
  refine ⟨_, fun W tk => pi_range1 hg hm (pa W tk) hs, fun W σ H sl ce G m Ri Ed R Rl w h k => ?_⟩
  refine sa W σ H sl ce G m _ Ed _ Rl w h fun ts ce1 G1 m1 vs H1 R1 s1 r1 h1 => ?_
  split at h1
  · next j =>
    obtain ⟨v, rfl, rv⟩ := RepTL.one' r1
    cases rv
    refine ⟨j, rfl, h1.1.1, h1.1.2, k _ _ ce1 G1 m1 H1 R1 s1 ItOk.range ?_⟩
    have e : ((List.range j.toNat).map fun (i : Nat) => T.d (.int (0 + i))) = (List.range j.toNat).map fun (i : Nat) => T.d (.int i) := by
      congr 1; funext i; rw [Int.zero_add]
    rw [e]; exact h1.2
  · exact h1.elim
/-! ### zip of two tuples -/
def zipD (xs ys : List D) : List T := (xs.zip ys).map fun p => .d (.tup [p.1, p.2])
def uiZ (u : UA) : UI := fun sl ce Q E => u sl ce (fun ts ce1 => match ts with
  | [.d (.tup xs), .d (.tup ys)] => Q (zipD xs ys) ce1
  | [.d (.lst xs), .d (.lst ys)] => Q (zipD xs ys) ce1
  | _ => False) E
theorem ItOk.pair {K : PySem.W.Frag} {H : Hp} {J : It} {fx fy : Nat → Option V} {gx gy : Nat → Option D} {Gd : Hp → Prop} {items : List T} {G : Hp} {m : List Addr} (w : Walk J items.length Gd (YPair fx fy))
    (hG : ∀ H' ce' G' m', RelS K wd H' ce' G' m' → Fz H H' G → Gg G G' → m <+: m' → Gd H') (hx : ∀ i x, fx i = some x → ∃ d, gx i = some d ∧ Rep K G d x) (hy : ∀ i x, fy i = some x → ∃ d, gy i = some d ∧ Rep K G d x)
    (hi : ∀ (i : Nat) d d', i < items.length → gx i = some d → gy i = some d' → items[i]? = some (.d (.tup [d, d']))) : ItOk K wd J items H G m := by
  refine ⟨Gd, _, w, hG, fun i x H1 H2 ce1 G1 m1 R fz g p hlt y => ?_⟩
  obtain ⟨T, x, y, rfl, hT, rfl, ex, ey⟩ := y
  obtain ⟨d, gd, rd⟩ := hx i x ex
  obtain ⟨d', gd', rd'⟩ := hy i y ey
  obtain ⟨R2, s2⟩ := R.laid (.tup [x, y]) hT
  exact ⟨_, .d (.tup [d, d']), R2, s2, hi i d d' hlt gd gd', ⟨T, _, rfl, SqT.of upd_same, ⟨_, _, rfl, Rep.mono (g.trans s2.gg) _ _ rd, _, _, rfl, Rep.mono (g.trans s2.gg) _ _ rd', rfl⟩⟩⟩
theorem zipD_get (xs ys : List D) (i : Nat) (d d' : D) (h : xs[i]? = some d) (h' : ys[i]? = some d') : (zipD xs ys)[i]? = some (.d (.tup [d, d'])) := by
  unfold zipD
  rw [List.getElem?_map, List.getElem?_zip_eq_some (z := (d, d')) |>.mpr ⟨h, h'⟩]; rfl
theorem RepL.back {K : PySem.W.Frag} {G : Hp} {ds : List D} {vs : List V} (r : RepL K G ds vs) {i : Nat} {v : V} (h : vs[i]? = some v) : ∃ d, ds[i]? = some d ∧ Rep K G d v := by
  have hl := (List.getElem?_eq_some_iff.mp h).1
  rw [r.length] at hl
  obtain ⟨v', e, hr⟩ := r.get (List.getElem?_eq_getElem hl)
  rw [h] at e
  cases e
  exact ⟨_, List.getElem?_eq_getElem hl, hr⟩
theorem walk_zipT {K : PySem.W.Frag} {a b : Addr} {xs ys : List V} {n : Nat} (hn : n = min xs.length ys.length) : Walk (RZ.ItzT K a b) n (fun H => SqT K H a xs ∧ SqT K H b ys) (YPair (fun i => xs[i]?) (fun i => ys[i]?)) := by
  subst hn
  refine ⟨fun i H hi ⟨h1, h2⟩ => ?_, fun H ⟨h1, h2⟩ => ?_, fun i H v H' hi ⟨h1, h2⟩ y => ?_⟩
  · have l1 : i < xs.length := by omega
    have l2 : i < ys.length := by omega
    exact ⟨xs, ys, xs[i], ys[i], h1, h2, List.getElem?_eq_getElem l1, List.getElem?_eq_getElem l2⟩
  · exact ⟨xs, ys, h1, h2, by omega⟩
  · obtain ⟨T, x, y, e1, e2, e3, e4, e5⟩ := y
    exact ⟨T, x, y, e1, e2, e3, e4 xs h1, e5 ys h2⟩
theorem di_zip {e2 : Expr} {tpos : Pos} {elts : List Expr} {kk : Nat} (ha : DA X [e, e2] u) (hm : X.mg "zip" = none) (hg : Gl X "zip" := by rfl)
    (hs : starEach [e, e2] X.env = (false, eval e X.env) :: starEach [e2] X.env := by rfl) (hpl : (backTo pos (starEach [e2] X.env)).any (·.1) = false := by rfl) : DI X (.Tuple elts kk tpos) (.Call (.Name "zip" p) [e, e2] [] pos) (uiZ u) := by
  obtain ⟨ta, pa, sa⟩ := ha.ex
  refine ⟨_, fun W tk => RZ.pi_zipA hg hm (pa W tk) hs hpl, fun W σ H sl ce G m Ri Ed R Rl w h k => ?_⟩
  refine sa W σ H sl ce G m _ Ed _ Rl w h fun ts ce1 G1 m1 vs H1 R1 s1 r1 h1 => ?_
  split at h1
  · next xs ys =>
    obtain ⟨v, v', rfl, rv, rv'⟩ := RepTL.two' r1
    obtain ⟨a, vs, rfl, ha, ra⟩ := rv
    obtain ⟨b, ws, rfl, hb, rb⟩ := rv'
    refine ⟨a, b, vs, ws, rfl, .inr ⟨R1.gh.rdT ha, R1.gh.rdT hb, k _ _ ce1 G1 m1 H1 R1 s1 (ItOk.pair (gx := fun i => xs[i]?) (gy := fun i => ys[i]?) (walk_zipT (xs := vs) (ys := ws) ?_) (fun H' ce' G' m' R _ g _ => ⟨R.gh.rdT (g.sqT ha), R.gh.rdT (g.sqT hb)⟩) (fun i x e => ra.back e) (fun i x e => rb.back e) (fun i d d' _ h h' => zipD_get xs ys i d d' h h')) h1⟩⟩
    simp [zipD, ra.length, rb.length]
  · next xs ys =>
    obtain ⟨v, v', rfl, rv, rv'⟩ := RepTL.two' r1
    obtain ⟨a, vs, rfl, ha, ra⟩ := rv
    obtain ⟨b, ws, rfl, hb, rb⟩ := rv'
    refine ⟨a, b, vs, ws, rfl, .inl ⟨R1.gh.rdL ha, R1.gh.rdL hb, k _ _ ce1 G1 m1 H1 R1 s1 (ItOk.pair (gx := fun i => xs[i]?) (gy := fun i => ys[i]?) (walk_zip (xs := vs) (ys := ws) ?_) (fun H' ce' G' m' R _ g _ => ⟨R.gh.rdL (g.sqL ha), R.gh.rdL (g.sqL hb)⟩) (fun i x e => ra.back e) (fun i x e => rb.back e) (fun i d d' _ h h' => zipD_get xs ys i d d' h h')) h1⟩⟩
    simp [zipD, ra.length, rb.length]
  · exact h1.elim
/-! ### list comprehensions -/
theorem RelS.side (R : RelS K wd H ce G m) {p : Addr} (o : HO) (hg : G p = none) (hm : p ∉ m) : RelS K wd (upd H p o) ce G m := by
  refine ⟨fun a u h => ?_, R.nd, R.len, R.out, fun k a c hk hc => ?_⟩
  · have ne : a ≠ p := fun e => by subst e; rw [hg] at h; cases h
    rw [upd_ne ne]; exact R.gh a u h
  · have ne : a ≠ p := fun e => hm (e ▸ List.mem_of_getElem? hk)
    exact (R.cel k a c hk hc).mono (List.prefix_refl m) (Gg.refl G) (fun o h => by rw [upd_ne ne]; exact h)
structure DTs (X : Cx) (es : List Expr) (u : UT) : Prop where
  ex : ∃ tf : WX → TT, (∀ W, Takes X W → PTs X es (tf W)) ∧ SemT X.K X.w tf u
def uYes : UT := fun _ ce Q _ => Q true ce
theorem dts_nil : DTs X [] uYes := ⟨fun _ => tYes, fun _ _ => pts_nil, fun W σ H sl ce G m Qd Ed Qv R w h k => k true ce G m H R .refl h⟩
theorem dts_one (h : DT X c ut) : DTs X [c] ut := by
  obtain ⟨t, p, s⟩ := h.ex
  exact ⟨t, fun W tk => pts_one (p W tk), s⟩
def wipeD (sl : Sl) : List Nat → Sl
  | [] => sl
  | v :: vs => (wipeD sl vs).set v none
def E0D : Ex1 := fun _ _ _ => False
def compD (ug : UG) (ut : UT) (ue : UE) (sl : Sl) (Q : List D → Ce → Prop) : List T → List D → Ce → Prop
  | [], acc, ce => Q acc ce
  | t :: r, acc, ce => ug t sl ce fun sl1 ce1 => ut sl1 ce1 (fun b ce2 => match b with
    | true => ue sl1 ce2 (fun y ce3 => match y with
      | .d d => compD ug ut ue sl Q r (acc ++ [d]) ce3
      | _ => False) E0D
    | false => compD ug ut ue sl Q r acc ce2) E0D
def uLc (ui : UI) (ug : UG) (ut : UT) (ue : UE) (vs : List Nat) : UE := fun sl ce Q E => ui sl ce (fun items ce1 => items.length < 1000000 ∧ compD ug ut ue (wipeD sl vs) (fun acc ce2 => Q (.d (.lst acc)) ce2) items [] ce1) E
theorem Rel.wipe {K : PySem.W.Frag} {σ : St} {H : Hp} {sl : Sl} {ce : Ce} {G : Hp} {m : List Addr} (R : Rel K wd σ H sl ce G m) : ∀ vs : List Nat, Rel K wd (wipe σ vs) H (wipeD sl vs) ce G m
  | [] => R
  | v :: vs => by
    have R' := R.wipe vs
    exact { R.toRelS with
      sln := by show ((L2.wipe σ vs).set v none).length = ((wipeD sl vs).set v none).length; simp [R'.sln]
      sls := fun j d h => by
        have h' : ((wipeD sl vs).set v none)[j]? = some (some d) := h
        by_cases e : v = j
        · subst e
          by_cases q : v < (wipeD sl vs).length
          · rw [List.getElem?_set_self q] at h'; cases h'
          · rw [List.getElem?_eq_none (by simp; omega)] at h'; cases h'
        · rw [List.getElem?_set_ne e] at h'
          show ∃ v', ((L2.wipe σ vs).set v none)[j]? = some (some v') ∧ _
          rw [List.getElem?_set_ne e]
          exact R'.sls j d h' }
def WF : WX := fun _ _ _ _ => False
theorem wishF {K : PySem.W.Frag} {H : Hp} {m : List Addr} {G : Hp} : Wish K wd WF H m G E0D := fun _ _ _ _ _ _ _ _ _ _ _ _ z => z
theorem takesF {X : Cx} : Takes X WF := fun _ _ x => by
  obtain ⟨_, _, _, _, _, _, _, _, _, _, _, _, _, _, _, _, z⟩ := x
  exact z.elim
theorem semLc {K : PySem.W.Frag} {ue : UE} {vs : List Nat} {wf : WX → TI} {g : TG} {tt : WX → TT} {te : WX → TE} (hv : ∀ j ∈ js, j ∈ vs)
    (si : ∀ (W : WX) (σ : St) (H : Hp) (sl : Sl) (ce : Ce) (G : Hp) (m : List Addr) (Ri : List T → Ce → Prop) (Ed : Ex1) (R : It → Hp → Prop), Rel K wd σ H sl ce G m → Wish K wd W H m G Ed → ui sl ce Ri Ed →
      (∀ J items ce' G' m' H', Rel K wd σ H' sl ce' G' m' → Stp H m G H' m' G' → ItOk K wd J items H' G' m' → Ri items ce' → R J H') → wf W σ H R)
    (sg : SemG K wd js g ug) (st : SemT K wd tt ut) (se : SemE K wd te ue) : SemE K wd (fun W => tLc (wf W) g (tt WF) (te WF) vs) (uLc ui ug ut ue vs) := by
  intro W σ H sl ce G m Qd Ed Qv R w h k
  refine si W σ H sl ce G m _ Ed _ R w h fun J items ce1 G1 m1 H1 R1 s1 io h1 => ?_
  obtain ⟨hlen, h1⟩ := h1
  obtain ⟨Gd, Y, wk, hG, hY⟩ := io
  intro Dl hD
  obtain ⟨R0, s0⟩ := R1.toRelS.beside (.lst []) hD
  refine lc_it wk (fun i H' => ∃ ce' G' m' accV accD, RelS K wd H' ce' G' m' ∧ Stp H1 m1 G1 H' m' G' ∧ H' Dl = some (.lst accV) ∧ Dl ∉ m' ∧ G' Dl = none ∧ RepL K G' accD accV ∧ accD.length ≤ i ∧
      compD ug ut ue (wipeD sl vs) (fun acc ce2 => Qd (.d (.lst acc)) ce2) (items.drop i) accD ce') ?_ ?_ ?_ ?_
  · exact ⟨ce1, G1, m1, [], [], R0, s0, upd_same, R1.toRelS.nmem hD, R1.gh.fresh hD, rfl, Nat.le_refl _, h1⟩
  · rintro i H' _ ⟨ce', G', m', accV, accD, R', s', _⟩
    exact hG H' ce' G' m' R' s'.fz s'.gg s'.pre
  · rintro i x H' H2 hi ⟨ce', G', m', accV, accD, R', s', hDl, nD, gDl, ra, la, h'⟩ y
    obtain ⟨G2, t, R2, s2, et, rt⟩ := hY i x H' H2 ce' G' m' R' s'.fz s'.gg s'.pre hi y
    rw [drop_at et] at h'
    have stp2 : Stp H1 m1 G1 H2 m' G2 := s'.trans s2
    have gout : ∀ {H6 m6 G6}, Stp H' m' G' H6 m6 G6 → G6 Dl = none := fun {H6 m6 G6} q => by
      cases e : G6 Dl with
      | none => rfl
      | some u => rcases q.gnew Dl u e with z | z | z
                  · rw [gDl] at z; cases z
                  · rw [hDl] at z; cases z
                  · exact absurd z nD
    have hDl2 : H2 Dl = some (.lst accV) := (s2.keep _ _ hDl nD).lst
    have Rw : Rel K wd (wipe σ vs) H2 (wipeD sl vs) ce' G2 m' := (R1.wipe vs).step stp2 R2
    refine sg _ H2 _ ce' G2 m' _ _ t x Rw rt h' fun σ3 sl3 ce3 R3 hw h3 => ⟨?_, ?_⟩
    · rw [hw vs hv]
      have idem : ∀ (ws : List Nat), wipe (wipe σ vs) ws = wipe (wipe σ vs) ws := fun _ => rfl
      apply List.ext_getElem?
      intro j
      by_cases hj : j ∈ vs
      · have : ∀ (τ : St) (ws : List Nat), j ∈ ws → (wipe τ ws)[j]? = if j < τ.length then some none else none := by
          intro τ ws
          induction ws with
          | nil => intro h; cases h
          | cons w ws ih =>
            intro h
            show ((wipe τ ws).set w none)[j]? = _
            by_cases e : w = j
            · subst e
              by_cases q : w < τ.length
              · rw [List.getElem?_set_self (by rw [wipe_length]; exact q), if_pos q]
              · rw [List.getElem?_eq_none (by simp [wipe_length]; omega), if_neg q]
            · rw [List.getElem?_set_ne e]
              exact ih ((List.mem_cons.mp h).resolve_left (Ne.symm e))
        rw [this _ _ hj, this _ _ hj, wipe_length]
      · rw [wipe_out hj]
    refine st WF σ3 H2 sl3 ce3 G2 m' _ E0D _ R3 wishF h3 fun b ce4 G4 m4 H4 R4 s4 h4 => ?_
    have stp4 := stp2.trans s4
    have hDl4 : H4 Dl = some (.lst accV) := (s4.keep _ _ hDl2 nD).lst
    have nD4 : Dl ∉ m4 := fun q => (s4.new Dl q).elim nD fun z => by rw [hDl2] at z; cases z
    cases b with
    | true =>
      refine iteT (se WF σ3 H4 sl3 ce4 G4 m4 _ E0D _ R4 wishF h4 fun y ce5 G5 m5 yv H5 R5 s5 r5 h5 => ?_)
      have stp5 := stp4.trans s5
      have hDl5 : H5 Dl = some (.lst accV) := (s5.keep _ _ hDl4 nD4).lst
      have nD5 : Dl ∉ m5 := fun q => (s5.new Dl q).elim nD4 fun z => by rw [hDl4] at z; cases z
      split at h5
      · next d =>
        have gD5 : G5 Dl = none := gout ((s2.trans s4).trans s5)
        refine ⟨accV, hDl5, by rw [ra.length]; have : sizeLine = 16777216 := sizeLine_eq; omega, ?_⟩
        refine ⟨ce5, G5, m5, accV ++ [yv], accD ++ [d], R5.toRelS.side _ gD5 nD5, ⟨fun a o ha hn => ?_, stp5.pre, stp5.new, stp5.gg, fun a h => upd_stay a (stp5.stay a h), stp5.gnew, fun b ob ub hb hz => by rw [upd_ne (fun z => by subst z; rw [hD] at hz; cases hz)]; exact stp5.kg b ob ub hb hz⟩, upd_same, nD5, gD5, (RepL.mono ((s2.trans s4).trans s5).gg _ _ ra).append (RepL.one r5), by simp; omega, h5⟩
        have ne : a ≠ Dl := fun q => by subst q; rw [hD] at ha; cases ha
        exact (stp5.keep a o ha hn).upd ne
      · exact h5.elim
    | false =>
      have gD4 : G4 Dl = none := gout (s2.trans s4)
      exact iteF ⟨ce4, G4, m4, accV, accD, R4.toRelS, stp4, hDl4, nD4, gD4, RepL.mono (s2.trans s4).gg _ _ ra, by omega, h4⟩
  · rintro H' ⟨ce', G', m', accV, accD, R', s', hDl, nD, gDl, ra, la, h'⟩
    rw [List.drop_length] at h'
    obtain ⟨R2, g2⟩ := R'.freeze hDl nD gDl
    have stp2 : Stp H1 m1 G1 H' m' (upd G' Dl (.lst accV)) := ⟨s'.keep, s'.pre, s'.new, s'.gg.trans g2, s'.stay, fun a u h => by
      by_cases e : a = Dl
      · subst e; exact .inr (.inl hD)
      · rw [upd_ne e] at h; exact s'.gnew a u h, s'.kg⟩
    exact k (.d (.lst accD)) ce' _ m' _ H' (R1.step stp2 R2) (s1.trans stp2) ⟨Dl, accV, rfl, SqL.of upd_same, RepL.mono g2 _ _ ra⟩ h'
end
end DL

namespace DL
open PySem L2
/-! ### the transformers that say just what u says -/
def canE (K : PySem.W.Frag) (wd : World) (u : UE) (W : WX) : TE := fun σ H Qv => ∃ (sl : Sl) (ce : Ce) (G : Hp) (m : List Addr) (Qd : T → Ce → Prop) (Ed : Ex1), Rel K wd σ H sl ce G m ∧ Wish K wd W H m G Ed ∧ u sl ce Qd Ed ∧
  ∀ d ce' G' m' v H', Rel K wd σ H' sl ce' G' m' → Stp H m G H' m' G' → RepT K m' G' d v → Qd d ce' → Qv v H'
def canT (K : PySem.W.Frag) (wd : World) (u : UT) (W : WX) : TT := fun σ H Qv => ∃ (sl : Sl) (ce : Ce) (G : Hp) (m : List Addr) (Qd : Bool → Ce → Prop) (Ed : Ex1), Rel K wd σ H sl ce G m ∧ Wish K wd W H m G Ed ∧ u sl ce Qd Ed ∧
  ∀ b ce' G' m' H', Rel K wd σ H' sl ce' G' m' → Stp H m G H' m' G' → Qd b ce' → Qv b H'
def canG (K : PySem.W.Frag) (wd : World) (js : List Nat) (u : UG) : TG := fun v σ H Qs => ∃ (sl : Sl) (ce : Ce) (G : Hp) (m : List Addr) (Qd : Sl → Ce → Prop) (t : T), Rel K wd σ H sl ce G m ∧ RepT K m G t v ∧ u t sl ce Qd ∧
  ∀ σ' sl' ce', Rel K wd σ' H sl' ce' G m → (∀ vs : List Nat, (∀ j ∈ js, j ∈ vs) → wipe σ' vs = wipe σ vs) → Qd sl' ce' → Qs σ' H
section
variable {X : Cx} {e a b c tg iter elt : Expr} {es ifs : List Expr} {ua ub ue : UE} {ut : UT} {u : UA} {us us' : US} {ui : UI} {ug : UG} {js : List Nat} {pos p : Pos}
theorem DE.can (h : DE X e ua) {W : WX} (tk : Takes X W) : PE X e (canE X.K X.w ua W) := by
  obtain ⟨t, pe, s⟩ := h.ex
  refine ⟨fun pins sh σ H Q I hh => ?_⟩
  obtain ⟨sl, ce, G, m, Qd, Ed, R, w, hu, k⟩ := hh
  exact (pe W tk).run pins sh σ H Q I (s W σ H sl ce G m Qd Ed Q R w hu k)
theorem semCanE {K : PySem.W.Frag} : SemE K wd (canE K wd ua) ua := fun W σ H sl ce G m Qd Ed Qv R w h k => ⟨sl, ce, G, m, Qd, Ed, R, w, h, k⟩
theorem DTs.can (h : DTs X ifs ut) {W : WX} (tk : Takes X W) : PTs X ifs (canT X.K X.w ut W) := by
  obtain ⟨t, pe, s⟩ := h.ex
  refine ⟨fun pins sh σ H Q I hh => ?_⟩
  obtain ⟨sl, ce, G, m, Qd, Ed, R, w, hu, k⟩ := hh
  exact (pe W tk).run pins sh σ H Q I (s W σ H sl ce G m Qd Ed Q R w hu k)
theorem semCanT {K : PySem.W.Frag} : SemT K wd (canT K wd ut) ut := fun W σ H sl ce G m Qd Ed Qv R w h k => ⟨sl, ce, G, m, Qd, Ed, R, w, h, k⟩
theorem DG.can (h : DG X tg js ug) : PG X tg (canG X.K X.w js ug) := by
  obtain ⟨g, pg, s⟩ := h.ex
  refine ⟨fun pins sh σ H v u Q I r hh => ?_⟩
  obtain ⟨sl, ce, G, m, Qd, t, R, rt, hu, k⟩ := hh
  exact pg.run pins sh σ H v u Q I r (s σ H sl ce G m Qd Q t v R rt hu k)
theorem semCanG {K : PySem.W.Frag} : SemG K wd js (canG K wd js ug) ug := fun σ H sl ce G m Qd Qs t v R r h k => ⟨sl, ce, G, m, Qd, t, R, r, h, k⟩
theorem de_lc {scope : Scope} {own : List (Str × Nat)} (hN : X.N.Nodup) (hi : DI X tg iter ui) (ok : BlkOk X.N X.env.scope scope own)
    (hg : ∀ (s : Shared) (H : Hp) (C : Addr) (cl : List (Str × Addr)) (fp : List Addr), DG (X.blk s H scope (compEnvC scope cl C X.env) fp) tg js ug) (ht : ∀ (s : Shared) (H : Hp) (C : Addr) (cl : List (Str × Addr)) (fp : List Addr), DTs (X.blk s H scope (compEnvC scope cl C X.env) fp) ifs ut)
    (he : ∀ (s : Shared) (H : Hp) (C : Addr) (cl : List (Str × Addr)) (fp : List Addr), DE (X.blk s H scope (compEnvC scope cl C X.env) fp) elt ue) (hv : ∀ j ∈ js, j ∈ own.map (·.2) := by decide) (hc : X.calm = true := by rfl) (hs : ∀ x, foldedSetIterable iter X.env x = pure x := by intro _; rfl) :
    DE X (.ListComp elt [⟨tg, iter, ifs, 0⟩] scope pos) (uLc ui ug ut ue (own.map (·.2))) := by
  obtain ⟨wf, pi, si⟩ := hi.ex
  refine ⟨fun W => tLc (wf W) (canG X.K X.w js ug) (canT X.K X.w ut WF) (canE X.K X.w ue WF) (own.map (·.2)), fun W tk => pe_lc (g := canG X.K X.w js ug) (tt := canT X.K X.w ut WF) (te := canE X.K X.w ue WF) hc hN (pi W tk) ok (fun s H C cl fp => (hg s H C cl fp).can) (fun s H C cl fp => (ht s H C cl fp).can takesF) (fun s H C cl fp => (he s H C cl fp).can takesF) hs, semLc hv si semCanG semCanT semCanE⟩
theorem ds_setLc (i : Nat) {y : Str} {py spos : Pos} {scope : Scope} {own : List (Str × Nat)} (hN : X.N.Nodup) (hi : DI X tg iter ui) (ok : BlkOk X.N X.env.scope scope own)
    (hg : ∀ (s : Shared) (H : Hp) (C : Addr) (cl : List (Str × Addr)) (fp : List Addr), DG (X.blk s H scope (compEnvC scope cl C X.env) fp) tg js ug) (ht : ∀ (s : Shared) (H : Hp) (C : Addr) (cl : List (Str × Addr)) (fp : List Addr), DTs (X.blk s H scope (compEnvC scope cl C X.env) fp) ifs ut)
    (he : ∀ (s : Shared) (H : Hp) (C : Addr) (cl : List (Str × Addr)) (fp : List Addr), DE (X.blk s H scope (compEnvC scope cl C X.env) fp) elt ue) (hy : X.N[i]? = some y := by rfl) (hyl : X.env.scope.names.lookup y = some .local := by rfl)
    (hsw : swapsWith (.ListComp elt [⟨tg, iter, ifs, 0⟩] scope pos) (some (.Name y py)) spos.line X.env = pure true := by exact sw_true rfl rfl rfl (by decide +kernel))
    (hv : ∀ j ∈ js, j ∈ own.map (·.2) := by decide) (hc : X.calm = true := by rfl) (hs : ∀ x, foldedSetIterable iter X.env x = pure x := by intro _; rfl) :
    DS X (.Assign [.Name y py] (.ListComp elt [⟨tg, iter, ifs, 0⟩] scope pos) spos) (uAsg (uLc ui ug ut ue (own.map (·.2))) (ugName i)) := by
  obtain ⟨wf, pi, si⟩ := hi.ex
  refine ⟨_, fun W tk => ps_setLc (i := i) (g := canG X.K X.w js ug) (tt := canT X.K X.w ut WF) (te := canE X.K X.w ue WF) hc hN hy hyl hsw (pi W tk) ok (fun s H C cl fp => (hg s H C cl fp).can) (fun s H C cl fp => (ht s H C cl fp).can takesF) (fun s H C cl fp => (he s H C cl fp).can takesF) hs, fun W σ H sl ce G m N D R w h cv => ?_⟩
  exact semLc hv si semCanG semCanT semCanE W σ H sl ce G m _ N.ex _ R w h fun d ce' G' m' v H' R' s' r' h' => cv.nx _ H' _ ce' G' m' (R'.set i r') s' h'
end
/-! ### enumerate of a tuple -/
section
open PySem.W PyProof.Rows
theorem meets_enumerate_newT (l : Addr) (items : Array Value) :
    Meets (Builtin.«enumerate.__new__» ⟨[.type "enumerate", .ref l], []⟩) (fun _ R s => s.heap.IsTuple l items ∧
      R (.ok (.ret (.ref (s.heap.push { cls := .type "tuple_iterator", data := .fields #[.ref l, .int 0 0] }).objs.size)))
        { s with heap := (s.heap.push { cls := .type "tuple_iterator", data := .fields #[.ref l, .int 0 0] }).push { cls := .type "enumerate", data := .fields #[.none, .bool false, .ref s.heap.objs.size, rawInt 0, .none, .none] } }) :=
  .of_wp fun prog w A R s h => by
    obtain ⟨hp, g, d, tk, os⟩ := s; obtain ⟨hL, h⟩ := h
    have hsub := sub_enumerate
    have q1 : ∀ {A' : Around} {E : Value → Shared → Prop} {Q : Value → Shared → Prop}, Q (.ref hp.objs.size) ⟨hp.push { cls := .type "tuple_iterator", data := .fields #[.ref l, .int 0 0] }, g, d, tk, os⟩ → wpAny (model prog w) A' (pyIter (.ref l)) Q E ⟨hp, g, d, tk, os⟩ :=
      fun q => wpAny_pyIter_tuple hL q
    wp_walk using q1
    refine wpAny_stack_any fun st => wpAny_pure ?_
    split
    · rename_i c _ _ _ _ _
      cases (c == Value.type "enumerate")
      · wp_walk using q1
        exact ⟨_, rfl, h⟩
      · wp_walk using q1
        exact ⟨_, rfl, h⟩
    · wp_walk using q1
      exact ⟨_, rfl, h⟩
variable {prog : Program} {w : World} {A : Around} {E : Value → Shared → Prop} {s : Shared}
theorem call_enumerate_tuple {l : Addr} {items : Array Value} {Q : Value → Shared → Prop} (hL : s.heap.IsTuple l items)
    (h : ∀ h', IsEnum h' (s.heap.objs.size + 1) s.heap.objs.size 0 .none → h'.IsTupleIter s.heap.objs.size l 0 → h'.objs.size = s.heap.objs.size + 2 →
      (∀ b o, s.heap.get? b = some o → h'.get? b = some o) → Q (.ref (s.heap.objs.size + 1)) { s with heap := h' }) :
    wpAny (model prog w) A (call (.type "enumerate") [.ref l]) Q E s := by
  refine callType_new F.called_enumerate (by decide) (F.typeCall_enumerate_1 _) (F.newCall_enumerate_1 _) (fun obj => F.args_object_init_2 obj _) F.entry_enumerate_new
    (meets_enumerate_newT l items) ⟨hL, ?_⟩
  have hz : (s.heap.push { cls := .type "tuple_iterator", data := .fields #[.ref l, .int 0 0] }).objs.size = s.heap.objs.size + 1 := Heap.size_push ..
  show _ ∧ _
  rw [hz]
  have he : IsEnum ((s.heap.push { cls := .type "tuple_iterator", data := .fields #[.ref l, .int 0 0] }).push
      { cls := .type "enumerate", data := .fields #[.none, .bool false, .ref s.heap.objs.size, rawInt 0, .none, .none] }) (s.heap.objs.size + 1) s.heap.objs.size 0 .none := by
    have := Heap.get?_push_size (s.heap.push { cls := .type "tuple_iterator", data := .fields #[.ref l, .int 0 0] })
      (o := { cls := .type "enumerate", data := .fields #[.none, .bool false, .ref s.heap.objs.size, rawInt 0, .none, .none] }) rfl
    rw [hz] at this; exact this
  refine ⟨⟨_, he, rfl⟩, h _ he ⟨_, Heap.get?_push_of_some _ (Heap.get?_push_size _ rfl), rfl, rfl⟩ (by rw [Heap.size_push, hz]) fun b o x => Heap.get?_push_of_some _ (Heap.get?_push_of_some _ x)⟩
end
section
open PySem.W PyProof.Rows
theorem enumT_end {prog : Program} {w : World} {A : Around} {E : Value → Shared → Prop} {s : Shared} {e it l : Addr} {i : Nat} {items : Array Value} {old : Value} {Q : Option Value → Shared → Prop} (hh : A.handled = none)
    (he : IsEnum s.heap e it i old) (hit : s.heap.IsTupleIter it l i) (hl : s.heap.IsTuple l items) (hx : items[i]? = none)
    (hQ : ∀ h', Heap.ExtBut it s.heap h' → Q none { s with heap := h' }) : wpAny (model prog w) A (pyNext (.ref e)) Q E s := by
  have hT : s.TypeIs (.ref e) "enumerate" := ⟨_, he, rfl⟩
  unfold pyNext
  refine wpAny_bind (wpAny_attempt (wpAny_callSpecial?_slot (name := Str.ofString "__next__") hT F.slot_enumerate_next
    (wpAny_call_entry F.slot_enumerate_next hT F.entry_enumerate_next ?_ (F.args_enumerate_next_1 _))))
  show wpAny _ _ (field (.ref e) 2 >>= _) _ _ _
  refine wpAny_bind (wpAny_field he rfl (x := .ref it) rfl ?_)
  refine wpAny_bind (wpAny_nextOf_tuple_end hh hit hl hx fun h' x he' hx' => ?_)
  obtain ⟨o, ho, hc⟩ := hx'
  refine wpAny_bind (wpAny_isInstance (T := "StopIteration") (b := true) ⟨o, ho, hc⟩ isSubtype_stop ?_)
  exact wpAny_pure (hQ _ he')
def IteT (K : PySem.W.Frag) (a : Addr) : It :=
  ⟨fun i H => ∃ (xs : List V) (x : V), SqT K H a xs ∧ xs[i]? = some x, fun i H v H' => ∃ T x, v = .ref T ∧ H T = none ∧ H' = upd H T (.tup [.int (i : Nat), x]) ∧ ∀ xs, SqT K H a xs → xs[i]? = some x, fun i H => ∃ xs : List V, SqT K H a xs ∧ xs.length ≤ i⟩
theorem turn_enumT {P : Program} {w : World} {K : PySem.W.Frag} {elts : List Expr} {kk : Nat} {tpos : Pos} (a e it : Addr) (hae : a ≠ e) (hai : a ≠ it) :
    Turn P w K (.Tuple elts kk tpos) (IteT K a) [e, it] e (fun i h => (∃ old, IsEnum h e it ((i : Nat) : Int) old) ∧ h.IsTupleIter it a i ∧ e ≠ it) where
  mem := by simp
  obj := fun i h st b hb => by
    obtain ⟨⟨old, he⟩, ⟨o, ho, hc, hd⟩, _⟩ := st
    have e' : b = e ∨ b = it := by simpa using hb
    rcases e' with z | z
    · rw [z]; exact ⟨_, he, fun v q => nomatch q⟩
    · rw [z]; exact ⟨o, ho, fun v q => by rw [hd] at q; cases q⟩
  keep := fun i h h' st k => let ⟨⟨old, he⟩, hi, hne⟩ := st; ⟨⟨old, k e (by simp) _ he⟩, hi.at fun o q => k it (by simp) o q, hne⟩
  item := by
    intro X hP hw hK hc i pins s σ H E I hf st hg
    subst hP hw hK
    obtain ⟨⟨old, he⟩, hit, hne⟩ := st
    obtain ⟨xs, x, hq, hx⟩ := hg
    obtain ⟨its, rv, p, hz⟩ := I.tuple hq
    obtain ⟨u, hu, ru⟩ := rv.get hx
    have hel : e < s.heap.objs.size := Heap.lt_size he
    have hil : it < s.heap.objs.size := by obtain ⟨_, q, _⟩ := hit; exact Heap.lt_size q
    have htup : s.heap.IsTuple a its.toArray := p
    have Dr := Draws.tuple (prog := X.prog) (w := X.w) (A := X.A.in1) (show X.A.in1.handled = none from I.ok.hd hc) it a hai its.toArray
    have hlt : i < its.toArray.size := by
      have := (List.getElem?_eq_some_iff.mp hu).1
      simpa using this
    refine wpAny_pyNext_enum_itemD Dr he ⟨hit, htup⟩ hlt hne (by simp; exact ⟨hne, Ne.symm hae⟩) fun x' h' tk px ho hst' hT hsz hk => ?_
    have ex : x' = u := by
      have : its.toArray[i]? = some u := by simpa using hu
      rw [px] at this; exact Option.some.inj this
    subst ex
    refine ⟨_, rfl, wpAny_letOwnedTupleGo_enum (s := { s with heap := h', toks := tk + 1 }) ho fun h'' he' sb => ?_⟩
    have hT2 : h''.get? s.heap.objs.size = some { cls := .type "tuple", data := .seq #[.int i tk, x'] } := (sb.2 _ (Nat.ne_of_gt hel)).trans hT
    have new : ObjOk X.prog X.w (upd H s.heap.objs.size (.tup [.int (i : Nat), x])) h'' s.heap.objs.size (.tup [.int (i : Nat), x]) :=
      ⟨by show 2 ≤ sizeLine; decide, [.int i tk, x'], .cons ⟨_, rfl⟩ (.cons ru .nil), ⟨_, hT2, rfl, _, rfl⟩⟩
    have I1 : Inv X pins σ (upd H s.heap.objs.size (.tup [.int (i : Nat), x])) { s with heap := h'', toks := tk + 1 } :=
      I.turnedNew (ch := [e, it]) (fun b ob hb q => (sb.2 b (fun z => hb (by simp [z]))).trans (hk b ob (fun z => hb (by simp [z])) (fun z => hb (by simp [z])) q)) hf (Nat.le_refl _) new
    refine ⟨.ref s.heap.objs.size, _, I1, rfl, ⟨_, x, rfl, I.hok.fresh (Nat.le_refl _), rfl, fun ys hy => by rw [I.tuple_inj hy hq]; exact hx⟩, ⟨⟨x', ?_⟩, hst'.1.at fun o q => (sb.2 it (Ne.symm hne)).trans q, hne⟩, fun b hb => ?_⟩
    · have e1 : ((i + 1 : Nat) : Int) = (i : Int) + 1 := by omega
      rw [e1]; exact he'
    · have hb' : b < s.heap.objs.size := by
        have e' : b = e ∨ b = it := by simpa using hb
        rcases e' with z | z
        · rw [z]; exact hel
        · rw [z]; exact hil
      have hbn : b ≠ s.heap.objs.size := Nat.ne_of_lt hb'
      rw [upd_ne hbn]
      exact (hf b hb).1
  done := by
    intro X hP hw hK hc i pins s σ H E I hf st hg
    subst hP hw hK
    obtain ⟨⟨old, he⟩, hit, hne⟩ := st
    obtain ⟨xs, hq, hx⟩ := hg
    obtain ⟨its, rv, p, hz⟩ := I.tuple hq
    obtain ⟨f0, f1, f2, f3, f4, f5⟩ := hf it (by simp)
    have hl := rv.length
    exact enumT_end (I.ok.hd hc) he hit p (by simp; omega) fun h' eb => ⟨rfl, I.turned (t' := s.toks) (fun b o hb q => eb b o hb q) f0 f1 f3 f4 f5⟩
  self := fun A i s Q E st h => let ⟨⟨_, he⟩, _⟩ := st; wpAny_pyIter_enum he h
theorem walk_enumT {K : PySem.W.Frag} {a : Addr} {xs : List V} : Walk (IteT K a) xs.length (fun H => SqT K H a xs) (YPair (fun i => some (.int (i : Nat))) (fun i => xs[i]?)) := by
  refine ⟨fun i H hi h1 => ⟨xs, xs[i], h1, List.getElem?_eq_getElem hi⟩, fun H h1 => ⟨xs, h1, Nat.le_refl _⟩, fun i H v H' hi h1 y => ?_⟩
  obtain ⟨T, x, e1, e2, e3, e4⟩ := y
  exact ⟨T, _, x, e1, e2, e3, rfl, e4 xs h1⟩
variable {X : Cx} {e : Expr} {u : UA} {pos p : Pos}
theorem pi_enumT {ta : TA} {tpos : Pos} {elts : List Expr} {kk : Nat} (hg : Gl X "enumerate") (hm : X.mg "enumerate" = none) (ha : PA X [e] ta) (hs : starEach [e] X.env = [(false, eval e X.env)] := by rfl) :
    PI X (.Tuple elts kk tpos) (.Call (.Name "enumerate" p) [e] [] pos) (fun σ H R => ta σ H fun vs H1 => ∃ a xs, vs = [.ref a] ∧ SqT X.K H1 a xs ∧ R (IteT X.K a) H1) := by
  refine ⟨fun pins s σ H R I h => ?_⟩
  refine Call_ (ld_blt I hg hm boot_enumerate (PyProof.Rows.callWith_type1 (thn (ha.run pos pins s σ H _ I h) fun us s1 ⟨vs, H1, I1, r1, q1⟩ => ?_) hs rfl))
  obtain ⟨a, xs, ex, hq, q⟩ := q1
  subst ex
  cases r1 with
  | cons r rr =>
    cases rr
    cases r
    obtain ⟨its, rv, p', hz⟩ := I1.tuple hq
    have hal : a < s1.heap.objs.size := by obtain ⟨o, q, _⟩ := p'; exact Heap.lt_size q
    refine call_enumerate_tuple p' fun h' he hit hsz hk => wpAny_pyIter_enum he ?_
    have I2 : Inv X pins σ H1 { s1 with heap := h' } := I1.kept (t' := s1.toks) hk
    refine ⟨s1.heap.objs.size + 1, [s1.heap.objs.size + 1, s1.heap.objs.size], _, _, H1, rfl, I2, turn_enumT a (s1.heap.objs.size + 1) s1.heap.objs.size (Nat.ne_of_lt (Nat.lt_succ_of_lt hal)) (Nat.ne_of_lt hal), ⟨⟨.none, he⟩, hit, Nat.succ_ne_self _⟩, fun b hb => ?_, q⟩
    have e' : b = s1.heap.objs.size + 1 ∨ b = s1.heap.objs.size := by simpa using hb
    have hle : s1.heap.objs.size ≤ b := by
      rcases e' with z | z
      · rw [z]; exact Nat.le_add_right _ _
      · rw [z]; exact Nat.le_refl _
    exact I1.fpOk hle (I1.hok.fresh hle)
def enumD (xs : List D) : List T := (List.range xs.length).map fun (i : Nat) => .d (.tup [.int i, xs.getD i .non])
def uiE (u : UA) : UI := fun sl ce Q E => u sl ce (fun ts ce1 => match ts with
  | [.d (.tup xs)] => Q (enumD xs) ce1
  | _ => False) E
theorem enumD_get (xs : List D) (i : Nat) (d d' : D) (hi : i < (enumD xs).length) (h : some (D.int (i : Nat)) = some d) (h' : xs[i]? = some d') : (enumD xs)[i]? = some (.d (.tup [d, d'])) := by
  cases h
  unfold enumD at hi ⊢
  rw [List.length_map, List.length_range] at hi
  rw [List.getElem?_map, List.getElem?_range hi]
  show some (T.d (.tup [.int i, xs.getD i .non])) = _
  rw [List.getD_eq_getElem?_getD, h']
  rfl
theorem di_enum {tpos : Pos} {elts : List Expr} {kk : Nat} (ha : DA X [e] u) (hm : X.mg "enumerate" = none) (hg : Gl X "enumerate" := by rfl) (hs : starEach [e] X.env = [(false, eval e X.env)] := by rfl) : DI X (.Tuple elts kk tpos) (.Call (.Name "enumerate" p) [e] [] pos) (uiE u) := by
  obtain ⟨ta, pa, sa⟩ := ha.ex
  refine ⟨fun W σ H R => ta W σ H fun vs H1 => ∃ a xs, vs = [.ref a] ∧ SqT X.K H1 a xs ∧ R (IteT X.K a) H1, fun W tk => pi_enumT hg hm (pa W tk) hs, fun W σ H sl ce G m Ri Ed R Rl w h k => ?_⟩
  refine sa W σ H sl ce G m _ Ed _ Rl w h fun ts ce1 G1 m1 vs H1 R1 s1 r1 h1 => ?_
  split at h1
  · next xs =>
    obtain ⟨v, rfl, rv⟩ := RepTL.one' r1
    obtain ⟨a, vs, rfl, ha, ra⟩ := rv
    refine ⟨a, vs, rfl, R1.gh.rdT ha, k _ _ ce1 G1 m1 H1 R1 s1 (ItOk.pair (fx := fun i => some (.int (i : Nat))) (fy := fun i => vs[i]?) (gx := fun i => some (.int (i : Nat))) (gy := fun i => xs[i]?) (Gd := fun H => SqT X.K H a vs) ?_ (fun H' ce' G' m' R _ g _ => R.gh.rdT (g.sqT ha)) (fun i x e => ⟨_, rfl, by cases e; rfl⟩) (fun i x e => ra.back e) (fun i d d' hi h h' => enumD_get xs i d d' hi h h')) h1⟩
    have w := walk_enumT (K := X.K) (a := a) (xs := vs)
    have e : (enumD xs).length = vs.length := by simp [enumD, ra.length]
    rw [e]; exact w
  · exact h1.elim
end
end DL

namespace DL
open PySem L2
/-! ### a def by its body -/
def startD (N : List Str) (ts : List T) : Sl := ts.map some ++ List.replicate (N.length - ts.length) none
/-- behind a def: its own cells are let go -/
def Rt (n : Nat) (Q : T → Ce → Prop) : T → Ce → Prop := fun t ce' => ∃ ce0 junk, ce' = ce0 ++ junk ∧ n ≤ ce0.length ∧ topB ce0.length t = true ∧ ce0.all (cellB ce0.length) = true ∧ Q t ce0
def Rx (n : Nat) (E : Exc → Ce → Prop) : Ex1 := fun x _ ce' => ∃ ce0 junk, ce' = ce0 ++ junk ∧ n ≤ ce0.length ∧ ce0.all (cellB ce0.length) = true ∧ E x ce0
theorem Rt.drop {ce junk : Ce} {Q : T → Ce → Prop} {t : T} (hce : ce.all (cellB ce.length) = true) (ht : topB ce.length t = true) (h : Q t ce) : Rt ce.length Q t (ce ++ junk) := ⟨ce, junk, rfl, Nat.le_refl _, ht, hce, h⟩
theorem Rx.drop {ce junk : Ce} {E : Exc → Ce → Prop} {x : Exc} {sl : Sl} (hce : ce.all (cellB ce.length) = true) (h : E x ce) : Rx ce.length E x sl (ce ++ junk) := ⟨ce, junk, rfl, Nat.le_refl _, hce, h⟩
theorem rel_start {K : PySem.W.Frag} {H : Hp} {ce : Ce} {G : Hp} {m : List Addr} {N : List Str} {ts : List T} {vs : List V} (R : RelS K wd H ce G m) (r : RepTL K m G ts vs) : Rel K wd (L2.start N vs) H (startD N ts) ce G m :=
  { R with
    sln := by simp [L2.start, startD, r.length]
    sls := fun i d h => by
      unfold startD at h
      unfold L2.start
      by_cases q : i < ts.length
      · rw [List.getElem?_append_left (by simpa using q), List.getElem?_map] at h
        cases e : ts[i]? with
        | none => rw [e] at h; cases h
        | some t =>
          rw [e] at h
          cases h
          obtain ⟨v, hv, rv⟩ := r.get e
          refine ⟨v, ?_, rv⟩
          rw [List.getElem?_append_left (by rw [List.length_map, r.length]; exact q), List.getElem?_map, hv]; rfl
      · rw [List.getElem?_append_right (by simpa using q)] at h
        rw [List.getElem?_replicate] at h
        split at h <;> cases h }
section
variable {P : Program} {w : World} {K : PySem.W.Frag} {mg : Str → Option Value} {base : Heap}
end
/-! ### raise -/
abbrev UX := Sl → Ce → (Exc → Ce → Prop) → Ex1 → Prop
structure DMk (X : Cx) (e : Expr) (u : UX) : Prop where
  ex : ∃ tf : WX → St → Hp → XK → Prop, (∀ W, Takes X W → PMk X e (tf W)) ∧ ∀ (W : WX) (σ : St) (H : Hp) (sl : Sl) (ce : Ce) (G : Hp) (m : List Addr) (Qd : Exc → Ce → Prop) (Ed : Ex1) (Qv : XK), Rel X.K X.w σ H sl ce G m → Wish X.K X.w W H m G Ed → u sl ce Qd Ed →
    (∀ x ce' G' m' cls dd H', Rel X.K X.w σ H' sl ce' G' m' → Stp H m G H' m' G' → RepX X.K G' cls dd x → Qd x ce' → Qv cls dd H') → tf W σ H Qv
section
variable {X : Cx} {e a b c : Expr} {ua ub : UE} {ut : UT} {u : UA} {us us' : US} {ux : UX} {pos p : Pos}
def uRaise (ux : UX) : US := fun N sl ce => ux sl ce (fun x ce1 => N.ex x sl ce1) N.ex
theorem ds_raise (he : DMk X e ux) (hc : X.calm = true := by rfl) : DS X (.Raise (some e) none pos) (uRaise ux) := by
  obtain ⟨t, pm, sm⟩ := he.ex
  refine ⟨fun W _ σ H => t W σ H fun cls d H' => W cls d σ H', fun W tk => ps_raise hc tk (pm W tk), fun W σ H sl ce G m N D R w h cv => ?_⟩
  exact sm W σ H sl ce G m _ N.ex _ R w h fun x ce' G' m' cls dd H' R' s' r' q' => w cls dd σ H' x sl ce' G' m' R' s' r' q'
/-- an own class without __init__, made with a text -/
theorem dmk_own {x m : Str} {j : Nat} {p2 : Pos} {C : Addr} {B newId initId : String} {bmB : List Value} (F : ExcBaseFacts B newId initId bmB) (q : PySem.W.excIn X.K C bmB newId = true) (gC : X.mg x = some (.ref C)) (kC : PySem.W.keepIn X.K (.ref C) = true) (r : Raises X (.ref C)) (hg : Gl X x := by rfl)
    (hdb : (x == ("__debug__" : Str)) = false := by decide) : DMk X (.Call (.Name x p) [.Constant (.str m) j p2] [] pos) (fun _ ce Q _ => Q ⟨.ref C, []⟩ ce) := by
  refine ⟨_, fun W tk => pmk_own F q gC kC r hg hdb, fun W σ H sl ce G m Qd Ed Qv R w h k => ?_⟩
  exact k ⟨.ref C, []⟩ ce G m (.ref C) none H R .refl ⟨rfl, rfl⟩ h
/-! ### try .. except -/
def canS (K : PySem.W.Frag) (wd : World) (u : US) (W : WX) : TS := fun D σ H => ∃ (sl : Sl) (ce : Ce) (G : Hp) (m : List Addr) (N : DEnds), Rel K wd σ H sl ce G m ∧ Wish K wd W H m G N.ex ∧ u N sl ce ∧ Cv K wd H m G N D
theorem DSs.can {sts : List Stmt} (h : DSs X sts us) {W : WX} (tk : Takes X W) : PSs X sts (canS X.K X.w us W) := by
  obtain ⟨t, pe, s⟩ := h.ex
  refine ⟨fun pins sh σ H D I hh => ?_⟩
  obtain ⟨sl, ce, G, m, N, R, w, hu, cv⟩ := hh
  exact (pe W tk).run pins sh σ H D I (s W σ H sl ce G m N D R w hu cv)
def excD (a : Addr) (d : Option Addr) (x : Exc) : D := match d with
  | some dd => .exc a dd x.cls x.fs
  | none => .raw (.ref a)
theorem excD_rep {K : PySem.W.Frag} {G : Hp} {a : Addr} {cls : Value} {d : Option Addr} {x : Exc} (r : RepX K G cls d x) : Rep K G (excD a d x) (.ref a) := by
  unfold excD
  split
  · next dd => exact ⟨rfl, r.2⟩
  · rfl
theorem Rel.unset {K : PySem.W.Frag} {σ : St} {H : Hp} {sl : Sl} {ce : Ce} {G : Hp} {m : List Addr} (R : Rel K wd σ H sl ce G m) (i : Nat) : Rel K wd (σ.set i none) H (sl.set i none) ce G m :=
  { R.toRelS with
    sln := by simp [R.sln]
    sls := fun j d h => by
      by_cases e : i = j
      · subst e
        by_cases q : i < sl.length
        · rw [List.getElem?_set_self q] at h; cases h
        · rw [List.getElem?_eq_none (by simp; omega)] at h; cases h
      · rw [List.getElem?_set_ne e] at h
        rw [List.getElem?_set_ne e]
        exact R.sls j d h }
/-- e.f of a caught error -/
def uXf (a : Addr) (cls : Value) (d : Option Addr) (C : Addr) (n : Str) (ua : UE) : UE := fun sl ce Q E => ua sl ce (fun t ce1 => match t with
  | .d (.exc a' dd _ fs) => a' = a ∧ cls = .ref C ∧ d = some dd ∧ match fs.lookup n with
    | some v => Q (.d v) ce1
    | none => False
  | _ => False) E
theorem de_xf {ad C : Addr} {oe : Obj} {cls : Value} {d : Option Addr} {pn : List (Addr × Obj)} {n : Str} (TT : XfC X.K C) (hno : PySem.W.findIn X.K (.ref C) n = some none) (hz : Zc cls d oe) (hf : ∃ vs, oe.data = .fields vs) (he : DE (X.suite ad ((ad, oe) :: pn)) e ua) (hb : attributeBase e n X.env (eval e X.env) = eval e X.env := by rfl) :
    DE (X.suite ad ((ad, oe) :: pn)) (.Attribute e n pos) (uXf ad cls d C n ua) := by
  obtain ⟨t, pe, s⟩ := he.ex
  refine ⟨_, fun W tk => pe_xf TT hno hz hf (pe W tk) hb, fun W σ H sl ce G m Qd Ed Qv R w h k => ?_⟩
  refine s W σ H sl ce G m _ Ed _ R w h fun x ce1 G1 m1 v H1 R1 s1 r1 h1 => ?_
  split at h1
  · next a' dd cls' fs =>
    obtain ⟨rfl, rfl, rfl, h1⟩ := h1
    split at h1
    · next y q =>
      obtain ⟨rfl, ws, hg, rf⟩ := r1
      obtain ⟨v, hv, rv⟩ := rf.lookup q
      have hH : H1 dd = some (.xd ws) := by
        rcases R1.gh _ _ hg with z | ⟨⟨_, q⟩, _⟩
        · exact z
        · cases q
      exact ⟨rfl, rfl, dd, ws, v, rfl, hH, hv, k (.d y) ce1 G1 m1 v H1 R1 s1 rv h1⟩
    · exact h1.elim
  · exact h1.elim
end
end DL

namespace PySem.KX
open PySem.W PySem.HandSPX
section
variable {M : Model} {A : Around} {E : Value → Shared → Prop} {h : Heap} {g : Array GenState} {d : Drawn} {t : Nat} {os : OsState}
variable {nm q : Str} {C N : Addr} {bs bm bmB : List Value} {hdct : Bool} {sn : List Str} {sub : List Value} {ab : Bool} {col : Option Bool} {dd : Option Addr} {k0 k1 k2 k3 k5 : Option Value} {B newId initId : String}
theorem check_new_kw (F : ExcBaseFacts B newId initId bmB) (hT : ∀ X : String, bm.contains (.type X) = bmB.contains (.type X)) {kw : List (Str × Value)} {Q : Unit → Shared → Prop}
    (hC : h.get? C = some (excClassObj nm q C N bs bm hdct sn sub ab col dd k0 k1 k2 k3 k5 newId)) (hq : Q () ⟨h, g, d, t, os⟩) : wpAny M A (checkBuiltinCall newId ⟨[.ref C], kw⟩) Q E ⟨h, g, d, t, os⟩ := by
  have hcont : (Value.ref C :: bm).contains (.type B) = true := by rw [List.contains_cons, hT, F.hasB, Bool.or_true]
  have hstar := F.noStar
  simp only [checkBuiltinCall, F.newKind, F.newSplit, F.newRow]
  repeat (first | refine wpAny_loadPart_at hC ?_ | (refine wpAny_isSubtype_exc hC ?_; rw [hcont]) | refine wpAny_staticBase_exc hC ?_ | refine wpAny_madeBy_exc hC ?_ | simp only [bne_self_eq_false, Bool.false_eq_true, if_false] | wp_step)
  exact hq
end
end PySem.KX

namespace PySem.KX
open PySem.W PySem.HandSPX PySem.Calls PyProof.Rows
section
variable {prog : Program} {w : World} {A : Around} {E : Value → Shared → Prop} {R : Result → Shared → Prop} {h : Heap} {g : Array GenState} {d : Drawn} {t : Nat} {os : OsState}
variable {nm q : Str} {C N : Addr} {bs bm bmB : List Value} {hdct : Bool} {sn : List Str} {sub : List Value} {ab : Bool} {col : Option Bool} {dd : Option Addr} {k0 k1 k2 k3 k5 : Option Value} {B newId initId : String} {kw : List (Str × Value)}
theorem new_kw (F : ExcBaseFacts B newId initId bmB) (hT : ∀ X : String, bm.contains (.type X) = bmB.contains (.type X))
    (hC : h.get? C = some (excClassObj nm q C N bs bm hdct sn sub ab col dd k0 k1 k2 k3 k5 newId))
    (hq : R (.ok (.ret (.ref (h.objs.size + 1)))) ⟨(h.push (kdv_tup [])).push (excO C h.objs.size), g, d, t, os⟩) :
    codeAny (model prog w) A (.builtin newId ⟨[.ref C], kw⟩) R ⟨h, g, d, t, os⟩ := by
  have hends := F.ends
  have cB : (Value.ref C :: bm).contains (.type B) = true := by rw [List.contains_cons, hT, F.hasB, Bool.or_true]
  have cA : (Value.ref C :: bm).contains (.type "AttributeError") = false := by rw [List.contains_cons, hT, F.noAttr]; rfl
  have cN : (Value.ref C :: bm).contains (.type "NameError") = false := by rw [List.contains_cons, hT, F.noName]; rfl
  refine codeAny_builtinAt F.entry ?_
  unfold Builtin.«BaseException.__new__»
  refine wpAt_bind ?_
  show wpAt _ _ _ (stack >>= _) _ _ _
  refine wpAt_bind (wpAt_stack fun p below => wpAt_of_wpAny ?_)
  wp_walk
  refine wpAt_of_wpAny ?_
  rw [F.owner]
  repeat (first | with_reducible refine wpAny_madeHere_exc F.canon hC ?_ | with_reducible refine wpAny_loadPart_at hC ?_ | (with_reducible refine wpAny_isSubtype_exc hC ?_; first | rw [cB] | rw [cA] | rw [cN]) | wp_step)
  show R _ _
  rw [Heap.size_push]
  exact hq
theorem type_call_kw (F : ExcBaseFacts B newId initId bmB) (hT : ∀ X : String, bm.contains (.type X) = bmB.contains (.type X)) {fI : Addr} {Q : Fin → Shared → Prop}
    (hC : h.get? C = some (excClassObj nm q C N bs bm hdct sn sub ab col dd k0 k1 k2 k3 k5 newId))
    (hi : W.Looks (model prog w) h (typeLookup (.ref C) "__init__") (some (.ref fI))) (hb : ∀ self, W.Looks (model prog w) h (bindSpecial (.ref fI) self) (.ref fI, [self]))
    (hq : codeAny (model prog w) A (.call (.ref fI) ⟨[.ref (h.objs.size + 1)], kw⟩)
      (fun r s' => match r with | .ok (.ret v) => v = .none ∧ Q (.done (.ret (.ref (h.objs.size + 1)))) s' | .ok _ => False | .error e => E e s')
      ⟨(h.push (kdv_tup [])).push (excO C h.objs.size), g, d, t, os⟩) :
    wpAny (model prog w) A (Builtin.«type.__call__» ⟨[.ref C], kw⟩) Q E ⟨h, g, d, t, os⟩ := by
  repeat (first | with_reducible refine wpAny_loadPart_at hC ?_ | with_reducible refine wpAny_madeBy_exc hC ?_ | wp_step)
  refine codeAny_call_builtin_code (Code.quiet_builtin _ F.quiet) (check_new_kw F hT hC ?_)
  refine new_kw F hT hC ?_
  show wpAny _ _ _ _ _ _
  have k : ∀ b o, h.get? b = some o → ((h.push (kdv_tup [])).push (excO C h.objs.size)).get? b = some o := fun b o e => Heap.get?_push_of_some _ (Heap.get?_push_of_some _ e)
  have hC₁ := k _ _ hC
  have hget : ((h.push (kdv_tup [])).push (excO C h.objs.size)).get? (h.objs.size + 1) = some (excO C h.objs.size) := by heap_get
  have cC : (Value.ref C :: bm).contains (.ref C) = true := by simp
  have i1 := hi.keeps k
  have b1 := (hb (.ref (h.objs.size + 1))).keeps k
  unfold isInstance
  repeat (first | with_reducible refine wpAny_loadPart_at hget ?_ | (with_reducible refine wpAny_isSubtype_exc hC₁ ?_; rw [cC]) | wp_step)
  show wpAny _ _ (typeLookup (.ref C) _) _ _ _
  refine i1.at ?_
  refine wpAny_holding (wpAny_bind (b1.at ?_))
  refine wpAny_bind (wpAny_call (codeAny_mono hq fun r s' z => ?_))
  rcases r with e | (v | _ | _ | _) <;> first | exact z | exact z.elim | skip
  obtain ⟨rfl, z⟩ := z
  first
    | exact wpAny_pure (wpAny_pure z)
    | (wp_walk; exact z)
theorem call_kw (F : ExcBaseFacts B newId initId bmB) (hT : ∀ X : String, bm.contains (.type X) = bmB.contains (.type X)) {fI : Addr}
    (hC : h.get? C = some (excClassObj nm q C N bs bm hdct sn sub ab col dd k0 k1 k2 k3 k5 newId))
    (hi : W.Looks (model prog w) h (typeLookup (.ref C) "__init__") (some (.ref fI))) (hb : ∀ self, W.Looks (model prog w) h (bindSpecial (.ref fI) self) (.ref fI, [self]))
    (hq : codeAny (model prog w) (A.under (.builtin "type.__call__" ⟨[.ref C], kw⟩)) (.call (.ref fI) ⟨[.ref (h.objs.size + 1)], kw⟩) (W.InitBack (h.objs.size + 1) R)
      ⟨(h.push (kdv_tup [])).push (excO C h.objs.size), g, d, t, os⟩) :
    codeAny (model prog w) A (.call (.ref C) ⟨[], kw⟩) R ⟨h, g, d, t, os⟩ := by
  have f1 := tc_lookup
  have f2 := tc_bind (.ref C)
  have hTy : (⟨h, g, d, t, os⟩ : Shared).TypeIs (.ref C) "type" := ⟨_, hC, rfl⟩
  refine codeAny_of_tree ?_
  show wpAny _ _ (callAny (.ref C) _) _ _ _
  repeat (any_goals (first | assumption | with_reducible refine wpAny_loadPart_at hC ?_ | wp_step))
  refine ⟨rfl, ?_⟩
  refine codeAny_call_builtin_at (Code.quiet_builtin _ (by decide +kernel)) entry_typeCall (wpAny_check_type_call_sub hC (type_call_kw F hT hC hi hb ?_))
  refine codeAny_mono hq fun r s' z => ?_
  rcases r with e | (v | _ | _ | _) <;> exact z
/-- ValueError.__init__ bound to e, called: the args are laid anew -/
theorem call_bwV {u e t0 : Addr} {rest : List Value} {Q : Value → Shared → Prop}
    (hC : h.get? C = some (excClassObj nm q C N bs bm hdct sn sub ab col dd k0 k1 k2 k3 k5 "ValueError.__new__")) (he : h.get? e = some (excO C t0)) (hu : h.get? u = some (kxs_mw "ValueError.__init__" e)) (hrest : rest.length ≤ sizeLine)
    (hq : ∀ h' t1, (∀ b o, b ≠ e → h.get? b = some o → h'.get? b = some o) → h'.get? e = some (excO C t1) → Q .none ⟨h', g, d, t, os⟩) :
    wpAny (model prog w) A (call (.ref u) rest) Q E ⟨h, g, d, t, os⟩ := by
  refine wpAny_call (codeAny_of_tree ?_)
  show wpAny _ A.in1 (callAny (.ref u) ⟨rest, []⟩) _ _ _
  simp only [callAny]
  refine wpAny_bind (wpAny_load hu ?_)
  simp only [kxs_mw, show (Value.type "method-wrapper" == Value.type "method" || Value.type "method-wrapper" == Value.type "builtin_function_or_method" || Value.type "method-wrapper" == Value.type "method-wrapper") = true by decide, if_true]
  refine W.KFB.if_so (by decide) ?_
  refine wpAny_bind (ESX.check_bound F.excBase_ValueError hC he rfl ?_)
  refine wpAny_bind (wpAny_pure (wpAny_pure ?_))
  refine ⟨Code.quiet_builtin _ (by decide +kernel), codeAny_builtin F.excBase_ValueError.initEntry ?_⟩
  rw [Around.under_plainId F.excBase_ValueError.init.plain _]
  wp_walk
  refine hq _ h.objs.size (fun b o hb ho => ?_) ?_
  · rw [Heap.get?_update_other _ _ (Ne.symm hb)]
    exact Heap.get?_push_of_some _ ho
  · rw [Heap.get?_update_self _ (Heap.get?_push_of_some _ he) rfl]
    rfl
end
section
open Builtin Builtin.ObjectAttr
variable {prog : Program} {w : World} {A : Around} {E : Value → Shared → Prop} {R : Result → Shared → Prop} {hp : Heap} {g : Array GenState} {d : Drawn} {t : Nat} {os : OsState}
end
end PySem.KX

namespace PySem.KX
open PySem.W PySem.HandSPX PySem.Calls PyProof.Rows
/-- super().__init__(txt) -/
def sStmt (p0 p1 p2 p3 p4 p5 : Pos) (txt : Str) (j : Nat) : Stmt := .Expr (.Call (.Attribute (.Call (.Name "super" p0) [] [] p1) "__init__" p2) [.Constant (.str txt) j p3] [] p4) p5
/-- self.n = n -/
def fStmt (n : Str) (q1 q2 q3 q4 : Pos) : Stmt := .Assign [.Attribute (.Name "self" q1) n q2] (.Name n q3) q4
/-- what the written part tells of an exception's class -/
structure XCls (P : Program) (K : Frag) (mg : Str → Option Value) (C fI : Addr) (ns : List Str) : Prop where
  cls : ∃ nm q N bs bm sn sub ab col dd k0 k1 k2 k3 k5, K.lookup C = some (excClassObj nm q C N bs bm true sn sub ab col dd k0 k1 k2 k3 k5 "ValueError.__new__") ∧ refsVE bm = true
  sa : findIn K (.ref C) "__setattr__" = some (some (.builtin "object.__setattr__"))
  noN : ∀ n ∈ ns, findIn K (.ref C) n = some none
  iC : findIn K (.ref C) "__init__" = some (some (.ref fI))
  tC : typeIn K (.ref fI) = some (.type "function")
  sup : ks_superIn K C C "__init__" = some (some (.builtin "ValueError.__init__"))
  third : nsIn K cStatics "thirdparty.any" = some none
  exV : subIn K (.ref C) (.type "ValueError") = some true
  self : mroIn K C (.ref C) = some true
  mgs : mg "super" = none
  top : (P.main.scope.names.lookup ("super" : Str)).isSome = false
/-- its __init__ -/
structure XFn (P : Program) (K : Frag) (C fI : Addr) (qual : Str) (params : Arguments) (body : List Stmt) (scope : Scope) (dV kV doc pm : Value) (an : Option Addr) (cda : Addr) (ct : Value) (cc : Addr) : Prop where
  fn : ∃ oc od osl, K.lookup fI = some ⟨oc, od, .func (ksFn "__init__" qual params body scope dV kV doc pm an (.ref cda) ct cc), osl⟩
  code : codeIn K (.ref cda) qual = true
  file : ∃ ccl cdd vs ccs file tf, K.lookup cda = some ⟨ccl, cdd, .fields vs, ccs⟩ ∧ vs[2]? = some (.str file tf) ∧ ((P.main.file : Str) == file) = true
  cell : ∃ cl cld csl, K.lookup cc = some ⟨cl, cld, .cell (some (.ref C)), csl⟩
  head : ∃ ar, (params.posonlyargs ++ params.args).head? = some ar ∧ ar.arg = "self"
  ks : scope.names.lookup ("super" : Str) = some .globalImplicit
  kc : scope.names.lookup ("__class__" : Str) = some .free
  ka : scope.names.lookup ("self" : Str) = some .local
  nocell : ∀ x ∈ scope.names, x.2 ≠ .cell
  co : scope.isCoroutine = false
  gen : scope.isGenerator = false
  kd : scope.kind = .function
section
variable {P : Program} {w : World} {A : Around} {E : Value → Shared → Prop} {R : Result → Shared → Prop} {K : Frag} {mg : Str → Option Value} {C fI : Addr} {ns : List Str} {qual : Str} {params : Arguments} {body : List Stmt} {scope : Scope} {dV kV doc pm : Value} {an : Option Addr} {cda : Addr} {ct : Value} {cc : Addr}
theorem kept_but {h h' : Heap} {x : Addr} (X : K.In h) (hx : K.lookup x = none) (k : ∀ b o, b ≠ x → h.get? b = some o → h'.get? b = some o) : K.In h' := fun a o e =>
  k a o (fun z => by rw [z, hx] at e; cases e) (X a o e)
theorem txt_size (v : Value) : [v].length ≤ sizeLine := by
  rw [sizeLine_eq]
  exact (by decide : 1 ≤ 16777216)
theorem at_meth {M : Model} {A : Around} {E : Value → Shared → Prop} {s : Shared} {c : Code} {env : Env} {o e : Expr} {name : Str} {apos pos : Pos} {Q : Value → Shared → Prop} (hs : starEach [e] env = [(false, eval e env)]) (hline : (apos.endLine == pos.line) = true)
    (h : _root_.PySem.wpAt M A c (attributeBase o name env (eval o env)) (fun ov s₁ => ∀ pl, wpAny M A (getMethod ov name pl) (fun fx s₂ => wpAny M A (callWith pos fx.1 fx.2 [(false, eval e env)] []) Q E s₂) E s₁) E s) :
    _root_.PySem.wpAt M A c (eval (.Call (.Attribute o name apos) [e] [] pos) env) Q E s := by
  rw [arm_eval_Call]
  refine wpAt_bind (wpAt_mono h (fun ov s₁ h₁ => wpAt_of_wpAny ?_) fun _ _ x => x)
  refine wpAny_bind (wpAny_standAt ?_)
  rw [hs]
  have hform : methodCallForm ([e].length + ([] : List Keyword).length) (backTo pos [(false, eval e env)]) (backToKw pos (keywordEach [] env)) = true := rfl
  have hpos : methodCallPos true o env apos pos = pure pos := by unfold methodCallPos; simp [hline]
  unfold methodCall
  rw [hform]
  refine wpAny_bind (wpAny_holding (wpAny_mono (h₁ _) (fun fx s₂ h₂ => ?_) fun _ _ x => x))
  exact wpAny_bind (wpAny_of_eq hpos h₂)
/-- super().__init__(txt), run -/
theorem run_super {s : Shared} {L x t0 : Addr} {m mb : Str → Option Value} {body0 : List Stmt} {Q : Flow → Shared → Prop} {p0 p1 p2 p3 p4 p5 : Pos} {txt : Str} {j : Nat} (hline : (p2.endLine == p4.line) = true) (T : XCls P K mg C fI ns) (Fn : XFn P K C fI qual params body scope dV kV doc pm an cda ct cc)
    (X : K.In s.heap) (hg : s.heap.Ns mainGlobals mg) (hb : s.heap.Ns builtinsNs mb) (hbs : mb "super" = some (.type "super")) (hn : s.heap.Ns L m) (hv : m "self" = some (.ref x)) (hx : s.heap.get? x = some (excO C t0)) (hxL : x ≠ L) (hnx : K.lookup x = none)
    (hq : ∀ h' tk t1, (∀ b o, b ≠ x → s.heap.get? b = some o → h'.get? b = some o) → h'.get? x = some (excO C t1) → Q .next { s with heap := h', toks := tk }) :
    _root_.PySem.wpAt (model P w) A (.func body0 (ksEnv qual scope L fI (.ref cda) cc)) (exec (sStmt p0 p1 p2 p3 p4 p5 txt j) (ksEnv qual scope L fI (.ref cda) cc)) Q E s := by
  obtain ⟨oc, od, osl, hfn⟩ := Fn.fn
  obtain ⟨ccl, cdd, vs, ccs, file, tf, hcda, hvs, hfile⟩ := Fn.file
  obtain ⟨cl, cld, csl, hcell⟩ := Fn.cell
  obtain ⟨ar, hp, har⟩ := Fn.head
  obtain ⟨nm, q, N, bs, bm, sn, sub, ab, col, dd, k0, k1, k2, k3, k5, hC, hbm⟩ := T.cls
  obtain ⟨hh, g, d, t, os⟩ := s
  have hCx : x ≠ C := fun z => by rw [z, hC] at hnx; cases hnx
  have I : InstAt hh x (excO C t0) C none := ⟨hx, rfl, rfl, trivial⟩
  have hI : Looks (model P w) hh (isInstance (.ref x) (.type "ValueError")) true := I.type.andThen (looks_subIn X T.exV)
  unfold sStmt
  refine ks_wpAt_Expr_any (at_meth (by rfl) hline ?_) (by unfold interactive; rw [show (ksEnv qual scope L fI (.ref cda) cc).scope.kind = .function from Fn.kd]; rfl)
  refine ks_wpAt_super_base (env := ksEnv qual scope L fI (.ref cda) cc) Fn.ks Fn.kc (by decide) rfl (X _ _ hfn) rfl hp rfl (X _ _ hcda) rfl hvs hfile T.top ?_
  refine ks_loadName_global Fn.kd Fn.ks (loadGlobal_builtin (env := ksEnv qual scope L fI (.ref cda) cc) hg T.mgs hb hbs ⟨rfl, ?_⟩)
  refine wpAny_loadName_free Fn.kd Fn.kc rfl ⟨_, X _ _ hcell, rfl⟩ ?_
  rw [har]
  refine wpAny_loadName_local Fn.kd Fn.ka hn hv ?_
  refine ks_wpAny_isType_cls (X _ _ hC) rfl ⟨rfl, ?_⟩
  refine ks_wpAny_call_super (X _ _ hC) rfl hx rfl (fun c e => by cases e) (looks_mroIn X T.self) (fun h1 e1 k1' pl => ?_)
  have X1 : K.In h1 := X.keeps k1'
  have hx1 := k1' _ _ hx
  have I1 : InstAt h1 x (excO C t0) C none := ⟨hx1, rfl, rfl, trivial⟩
  have hsup := T.sup
  unfold ks_superIn at hsup
  cases hcl : clsIn K C with
  | none => rw [hcl] at hsup; cases hsup
  | some cd =>
    rw [hcl, Option.bind_some] at hsup
    refine kxs_getMethod kxs_ValueError e1 (looks_opaque X1 T.third) (l₀ := cd.mro) (fun A Q E s k q => wpAny_bind ((looks_clsIn X1 hcl) A _ E s k (wpAny_pure q))) rfl X1 hsup (hI.keeps k1') hCx (by decide) ?_
    have k2' : ∀ b o, h1.get? b = some o → (h1.push (kxs_mw "ValueError.__init__" x)).get? b = some o := fun b o e => Heap.get?_push_of_some _ e
    have hu : (h1.push (kxs_mw "ValueError.__init__" x)).get? h1.objs.size = some (kxs_mw "ValueError.__init__" x) := Heap.get?_push_at rfl rfl
    refine kxs_callWith (i := "ValueError.__init__") (x := x) rfl (evalArgs_plain ?_)
    refine Calls.spliced_cons (Calls.Constant_str ?_)
    refine Calls.spliced_nil ⟨hu, ?_⟩
    refine call_bwV (k2' _ _ (X1 _ _ hC)) (k2' _ _ hx1) hu (txt_size _) fun h3 t1 k3 e3 => ?_
    exact hq h3 _ t1 (fun b o hb e => k3 b o hb (k2' b o (k1' b o e))) e3
end
end PySem.KX

namespace PySem.KX
open PySem.W PySem.HandSPX PySem.Calls PyProof.Rows
structure InitEnd (h h' : Heap) (x C dx t1 : Addr) (m : Str → Option Value) : Prop where
  keep : ∀ b o, b ≠ x → h.get? b = some o → h'.get? b = some o
  obj : h'.get? x = some { cls := .ref C, dict := some dx, data := .fields #[.ref t1, .none, .none, .none, .bool false, .none] }
  dbig : h.objs.size ≤ dx
  dne : dx ≠ x
  ns : h'.Ns1 dx m
structure OwnMade (h h' : Heap) (e C d : Addr) (m : Str → Option Value) : Prop where
  keep : ∀ b o, h.get? b = some o → h'.get? b = some o
  new : h.objs.size ≤ e
  obj : ∃ oe vs, h'.get? e = some oe ∧ oe.cls = .ref C ∧ oe.dict = some d ∧ oe.data = .fields vs ∧ vs[1]? = some .none
  dbig : h.objs.size ≤ d
  dne : d ≠ e
  ns : h'.Ns1 d m
section
variable {P : Program} {w : World} {A : Around} {E : Value → Shared → Prop} {R : Result → Shared → Prop} {K : Frag} {mg : Str → Option Value} {C fI : Addr} {ns : List Str} {qual : Str} {params : Arguments} {body : List Stmt} {scope : Scope} {dV kV doc pm : Value} {an : Option Addr} {cda : Addr} {ct : Value} {cc : Addr}
theorem ld_own {M : Model} {s : Shared} {L : Addr} {m : Str → Option Value} {n : Str} {v : Value} {pos : Pos} {Q : Value → Shared → Prop} (hk : scope.kind = .function) (hl : scope.names.lookup n = some .local) (hn : s.heap.Ns L m) (hv : m n = some v) (hd : (n == ("__debug__" : Str)) = false) (h : Q v s) :
    wpAny M A (eval (.Name n pos) (ksEnv qual scope L fI (.ref cda) cc)) Q E s := wpAny_Name (wpAny_loadName_local hk hl hn hv h) hd
/-- self.n = n, the first one -/
theorem run_first {s : Shared} {L x t0 : Addr} {m : Str → Option Value} {Q : Flow → Shared → Prop} {n : Str} {v : Value} {q1 q2 q3 q4 : Pos} (T : XCls P K mg C fI ns) (hk : scope.kind = .function) (ka : scope.names.lookup ("self" : Str) = some .local) (kn : scope.names.lookup n = some .local) (hmem : n ∈ ns) (hd : (n == ("__debug__" : Str)) = false)
    (X : K.In s.heap) (hn : s.heap.Ns L m) (hv : m "self" = some (.ref x)) (hvn : m n = some v) (hx : s.heap.get? x = some (excO C t0))
    (hq : ∀ h' tk dx, (∀ b o, b ≠ x → s.heap.get? b = some o → h'.get? b = some o) → s.heap.objs.size ≤ dx → dx ≠ x → h'.get? x = some { cls := .ref C, dict := some dx, data := .fields #[.ref t0, .none, .none, .none, .bool false, .none] } →
      h'.Ns1 dx (fun y => if y = n then some v else none) → Q .next { s with heap := h', toks := tk }) :
    wpAny (model P w) A (exec (fStmt n q1 q2 q3 q4) (ksEnv qual scope L fI (.ref cda) cc)) Q E s := by
  obtain ⟨nm, q, N, bs, bm, sn, sub, ab, col, dd, k0, k1, k2, k3, k5, hC, hbm⟩ := T.cls
  have hcl : clsIn K C = some { name := nm, bases := bs, mro := .ref C :: bm, ns := N, qualname := q, hasDict := true, slotNames := sn, subclasses := sub, abstract := ab, collection := col, hasDel := false } := by unfold clsIn; rw [hC] <;> rfl
  unfold fStmt
  refine plainObj_wpAny_Assign_Attribute ?_
  refine ld_own hk kn hn hvn hd (ld_own hk ka hn hv (by decide) ?_)
  refine set_plain X (ox := excO C t0) (od := none) ⟨hx, rfl, rfl, trivial⟩ T.sa ?_
  exact exc_osa X hx hcl (show refsVE (.ref C :: bm) = true from hbm) rfl (T.noN n hmem) fun h' tk dx k d1 d2 e ns' => hq h' tk dx k d1 d2 e ns'
/-- what a call of __init__ needs -/
structure XCall (P : Program) (K : Frag) (mg : Str → Option Value) (s : Shared) (A : Around) (C x t0 : Addr) : Prop where
  kin : K.In s.heap
  lim : s.heap.NoLimit
  glob : s.heap.Ns mainGlobals mg
  blt : ∃ mb, s.heap.Ns builtinsNs mb ∧ mb "super" = some (.type "super")
  obj : s.heap.get? x = some (excO C t0)
  nx : K.lookup x = none
  room : A.depth < recursionLimit
theorem init1 {s : Shared} {x t0 : Addr} {n : Str} {v : Value} {p0 p1 p2 p3 p4 p5 q1 q2 q3 q4 : Pos} {txt : Str} {j : Nat} (hline : (p2.endLine == p4.line) = true) (T : XCls P K mg C fI ns)
    (Fn : XFn P K C fI qual params [sStmt p0 p1 p2 p3 p4 p5 txt j, fStmt n q1 q2 q3 q4] scope dV kV doc pm an cda ct cc) (Y : XCall P K mg s A C x t0) (kn : scope.names.lookup n = some .local) (hmem : n ∈ ns) (hd : (n == ("__debug__" : Str)) = false) (hself : n ≠ "self")
    (hbind : BindsTo s (ksFn "__init__" qual params [sStmt p0 p1 p2 p3 p4 p5 txt j, fStmt n q1 q2 q3 q4] scope dV kV doc pm an (.ref cda) ct cc) ⟨[.ref x], [(n, v)]⟩ [("self", .ref x), (n, v)])
    (hq : ∀ h' tk dx t1, InitEnd s.heap h' x C dx t1 (fun y => if y = n then some v else none) → R (.ok (.ret .none)) { s with heap := h', toks := tk }) :
    codeAny (model P w) A (.call (.ref fI) ⟨[.ref x], [(n, v)]⟩) R s := by
  obtain ⟨oc, od, osl, hfn⟩ := Fn.fn
  obtain ⟨mb, hb, hbs⟩ := Y.blt
  have X := Y.kin
  refine ks_codeAny_call_defAt (fd := ksFn "__init__" qual params [sStmt p0 p1 p2 p3 p4 p5 txt j, fStmt n q1 q2 q3 q4] scope dV kV doc pm an (.ref cda) ct cc) (binds := [("self", .ref x), (n, v)]) Y.room (X _ _ hfn) rfl Y.lim (codeRec_of X Fn.code) rfl hbind Fn.nocell ?_ (fun h₀ hns₀ k₀ => ?_) Fn.co Fn.gen Fn.kd
  · intro z hz
    rcases List.mem_cons.mp hz with rfl | hz
    · exact Fn.ka
    · rcases List.mem_cons.mp hz with rfl | hz
      · exact kn
      · cases hz
  have hxL : x ≠ s.heap.objs.size := Nat.ne_of_lt (Heap.lt_size Y.obj)
  have m1 : (fun y => List.lookup y ([("self", .ref x), (n, v)] : List (Str × Value)).reverse) "self" = some (.ref x) := by
    have e : (("self" : Str) == n) = false := by simpa using (Ne.symm hself)
    simp [List.lookup, e]
  have m2 : (fun y => List.lookup y ([("self", .ref x), (n, v)] : List (Str × Value)).reverse) n = some v := by simp [List.lookup]
  refine ks_wpAt_execs_cons ?_
  refine run_super (s := { s with heap := h₀, toks := s.toks + 2 }) (L := s.heap.objs.size) hline T Fn (X.keeps k₀) (Y.glob.keeps k₀) (hb.keeps k₀) hbs hns₀ m1 (k₀ _ _ Y.obj) hxL Y.nx fun h1 tk1 t1 k1 e1 => ?_
  show _root_.PySem.wpAt _ _ _ (execs _ _) _ _ _
  refine wpAt_of_wpAny (wpAny_execs_cons ?_)
  have n1 : h1.Ns s.heap.objs.size _ := hns₀.at (fun o e => k1 _ o (Ne.symm hxL) e)
  refine run_first (s := { s with heap := h1, toks := tk1 }) (L := s.heap.objs.size) T Fn.kd Fn.ka kn hmem hd (kept_but (X.keeps k₀) Y.nx k1) n1 m1 m2 e1 fun h2 tk2 dx k2 d1 d2 e2 ns2 => ?_
  show wpAny _ _ (execs _ _) _ _ _
  refine wpAny_execs_nil (hq h2 tk2 dx t1 ⟨fun b o hb e => k2 b o hb (k1 b o hb (k₀ b o e)), e2, ?_, d2, ns2⟩)
  exact Nat.le_of_lt (Nat.lt_of_lt_of_le n1.lt d1)
/-- the class, called with keywords -/
theorem made {s : Shared} {kw : List (Str × Value)} {m : Str → Option Value} (T : XCls P K mg C fI ns) (X : K.In s.heap) (hlim : s.heap.NoLimit) (hg : s.heap.Ns mainGlobals mg) (hb : ∃ mb, s.heap.Ns builtinsNs mb ∧ mb "super" = some (.type "super")) (hroom : A.depth + 1 < recursionLimit)
    (hin : ∀ (s' : Shared) (A' : Around) (R' : Result → Shared → Prop) (x t0 : Addr), XCall P K mg s' A' C x t0 → (∀ h' tk dx t1, InitEnd s'.heap h' x C dx t1 m → R' (.ok (.ret .none)) { s' with heap := h', toks := tk }) → codeAny (model P w) A' (.call (.ref fI) ⟨[.ref x], kw⟩) R' s')
    (hq : ∀ h' tk e d, OwnMade s.heap h' e C d m → R (.ok (.ret (.ref e))) { s with heap := h', toks := tk }) :
    codeAny (model P w) A (.call (.ref C) ⟨[], kw⟩) R s := by
  obtain ⟨nm, q, N, bs, bm, sn, sub, ab, col, dd, k0, k1, k2, k3, k5, hC, hbm⟩ := T.cls
  obtain ⟨hp, g, dr, tk, os⟩ := s
  have k : ∀ b o, hp.get? b = some o → ((hp.push (kdv_tup [])).push (excO C hp.objs.size)).get? b = some o := fun b o e => Heap.get?_push_of_some _ (Heap.get?_push_of_some _ e)
  have hget : ((hp.push (kdv_tup [])).push (excO C hp.objs.size)).get? (hp.objs.size + 1) = some (excO C hp.objs.size) := by heap_get
  have hnx : K.lookup (hp.objs.size + 1) = none := by
    cases e : K.lookup (hp.objs.size + 1) with
    | none => rfl
    | some o =>
      have z : hp.get? (hp.objs.size + 1) = some o := X _ _ e
      exact absurd (Nat.lt_of_succ_lt (Heap.lt_size z)) (Nat.lt_irrefl _)
  obtain ⟨mb, hb1, hb2⟩ := hb
  refine call_kw F.excBase_ValueError (fun X => refsVE_contains X bm hbm) (X _ _ hC) (looks_findIn X T.iC) (fun self => bind_fn X self T.tC) ?_
  refine hin ⟨(hp.push (kdv_tup [])).push (excO C hp.objs.size), g, dr, tk, os⟩ _ _ (hp.objs.size + 1) hp.objs.size ⟨X.keeps k, hlim.keeps k, hg.keeps k, ⟨mb, hb1.keeps k, hb2⟩, hget, hnx, hroom⟩ fun h' tk' dx t1 ⟨k', hx, dn, dne, hns⟩ => ?_
  have old : ∀ b o, hp.get? b = some o → h'.get? b = some o := fun b o e => k' b o (Nat.ne_of_lt (Nat.lt_succ_of_lt (Heap.lt_size e))) (k b o e)
  have z : hp.objs.size + 1 + 1 ≤ dx := by
    first
      | (simpa only [Heap.size_push] using dn)
      | exact dn
      | (have q := dn; rw [Heap.size_push, Heap.size_push] at q; exact q)
  exact ⟨rfl, hq h' tk' (hp.objs.size + 1) dx ⟨old, Nat.le_succ _, ⟨_, _, hx, rfl, rfl, rfl, rfl⟩, Nat.le_trans (Nat.le_trans (Nat.le_succ _) (Nat.le_succ _)) z, dne, hns⟩⟩
end
end PySem.KX

namespace DL
open PySem L2 PySem.KX
/-! ### values by keywords -/
structure DK (X : Cx) (kws : List Keyword) (u : UA) : Prop where
  ex : ∃ tf : WX → TA, (∀ W, Takes X W → PK X kws (tf W)) ∧ SemA X.K X.w tf u
section
variable {X : Cx} {e : Expr} {ua : UE} {ur u : UA} {kws : List Keyword} {nm : Option Str} {p pos kpos : Pos}
theorem dk_nil : DK X [] uNil := ⟨fun _ => tNil, fun _ _ => pk_nil, fun W σ H sl ce G m Qd Ed Qv R w h k => k [] ce G m [] H R .refl rfl h⟩
theorem dk_cons (ha : DE X e ua) (hr : DK X kws ur) : DK X (⟨nm, e, kpos⟩ :: kws) (uCons ua ur) := by
  obtain ⟨ta, pa, sa⟩ := ha.ex
  obtain ⟨tr, pr, sr⟩ := hr.ex
  refine ⟨fun W => tCons (ta W) (tr W), fun W tk => pk_cons (pa W tk) (pr W tk), fun W σ H sl ce G m Qd Ed Qv R w h k => ?_⟩
  refine sa W σ H sl ce G m _ Ed _ R w h fun d ce1 G1 m1 v H1 R1 s1 r1 h1 => ?_
  refine sr W σ H1 sl ce1 G1 m1 _ Ed _ R1 (w.step s1) h1 fun ds ce2 G2 m2 vs H2 R2 s2 r2 h2 => ?_
  exact k (d :: ds) ce2 G2 m2 (v :: vs) H2 R2 (s1.trans s2) ⟨v, vs, rfl, r1.mono s2.pre s2.gg, r2⟩ h2
end
/-- an own exception that is made by keywords -/
structure XMk (P : Program) (w : World) (K : PySem.W.Frag) (mg : Str → Option Value) (C : Addr) (ns : List Str) : Prop where
  kC : PySem.W.keepIn K (.ref C) = true
  exC : PySem.W.subIn K (.ref C) (.type "BaseException") = some true
  tyC : PySem.W.typeIn K (.ref C) = some (.type "type")
  ex : ∃ fI, XCls P K mg C fI ns ∧ ∀ us : List Value, us.length = ns.length → ∃ m : Str → Option Value, (∀ vs, Vals vs us → ∀ f, RelO (List.lookup f (ns.zip vs)) (m f)) ∧
    ∀ (s' : Shared) (A' : Around) (R' : Result → Shared → Prop) (x t0 : Addr), XCall P K mg s' A' C x t0 → (∀ h' tk dx t1, InitEnd s'.heap h' x C dx t1 m → R' (.ok (.ret .none)) { s' with heap := h', toks := tk }) → codeAny (model P w) A' (.call (.ref fI) ⟨[.ref x], ns.zip us⟩) R' s'
section
variable {X : Cx} {kws : List Keyword} {u : UA} {p pos : Pos} {x : Str} {C : Addr} {ns : List Str}
def tMkK (C : Addr) (ns : List Str) (ta : TA) : St → Hp → XK → Prop := fun σ H Q => ta σ H fun vs H1 => vs.length = ns.length ∧ ∀ d, H1 d = none → Q (.ref C) (some d) (upd H1 d (.xd (ns.zip vs)))
theorem pmk_kw {ta : TA} {k : Nat} (T : XMk X.prog X.w X.K X.mg C ns) (gC : X.mg x = some (.ref C)) (hr : Room k X.A) (ha : PK X kws ta) (hnm : (backToKw pos (keywordEach kws X.env)).filterMap (·.1) = ns := by rfl) (hall : (backToKw pos (keywordEach kws X.env)).all (·.1.isSome) = true := by rfl)
    (hpl : ((backTo pos (starEach [] X.env)).any (·.1) || (backToKw pos (keywordEach kws X.env)).any (·.1.isNone)) = false := by rfl) (hg : Gl X x := by rfl) (hdb : (x == ("__debug__" : Str)) = false := by decide) : PMk X (.Call (.Name x p) [] kws pos) (tMkK C ns ta) := by
  intro pins s σ H Q I h
  obtain ⟨fI, Tc, hin⟩ := T.ex
  refine wpAny_Call_Name_kw (ld_glob I hg gC ?_ hdb)
  refine PySem.W.callWith_KW0 (h₀ := X.base) I.ok.mod.kin T.kC hall (thn (ha.run pos pins s σ H _ I h) fun us s1 hh => ?_) hpl
  obtain ⟨vs, H1, I1, r1, hl, q1⟩ := hh
  refine ⟨I1.kIn, ?_⟩
  rw [hnm]
  show wpAny _ _ (call (.ref C) [] (ns.zip us)) _ _ _
  have hlen : us.length = ns.length := by rw [← r1.length]; exact hl
  obtain ⟨mf, hrel, hrun⟩ := hin us hlen
  have hlim := I1.nolimit
  obtain ⟨mb, b1, b2⟩ := I1.mod.blt
  have hglob := I1.mod.glob.keeps I1.bk
  have hblt := b1.keeps I1.bk
  obtain ⟨hp, g, dr, tk, os⟩ := s1
  refine wpAny_call (made Tc I1.kIn hlim hglob ⟨mb, hblt, (b2 "super" (by decide)).trans (by first | rfl | kernel_rfl)⟩ (by have := hr.dp; omega) hrun fun h' tk' e d M => ?_)
  show MkP X pins σ Q (.ref e) ⟨h', g, dr, tk', os⟩
  obtain ⟨oe, fv, hoe, hc, hd, hdat, h1⟩ := M.obj
  have hns := M.ns
  obtain ⟨G', g1, g2⟩ := restrict h' fun b => decide (b ≠ e)
  have gk : ∀ b, b ≠ e → G'.get? b = h'.get? b := fun b hb => g1 b (decide_eq_true hb)
  have ge : G'.get? e = none := g2 e (by simp)
  have old : ∀ b o, hp.get? b = some o → G'.get? b = some o := fun b o q => (gk b (Nat.ne_of_lt (Nat.lt_of_lt_of_le (Heap.lt_size q) M.new))).trans (M.keep b o q)
  have ob : ObjOk X.prog X.w (upd H1 d (.xd (ns.zip vs))) G' d (.xd (ns.zip vs)) := ⟨_, hns.at (fun o q => (gk d M.dne).trans q), hrel vs r1⟩
  have J : Inv X pins σ (upd H1 d (.xd (ns.zip vs))) ⟨G', g, dr, tk', os⟩ := I1.laid (t' := tk') old M.dbig ob
  refine ⟨e, oe, fv, ⟨G', g, dr, tk', os⟩, _, .ref C, some d, rfl, J, fun b o q => ?_, ge, hoe, ⟨hc, hd⟩, hdat, h1, ?_, rfl, I1.bare, raises_own T.exC T.tyC, q1 d (I1.hok.fresh M.dbig)⟩
  · by_cases hb : b = e
    · have q' : G'.get? b = some o := q
      rw [hb, ge] at q'; cases q'
    · exact (gk b hb).symm.trans q
  · rw [upd_ne (Ne.symm M.dne)]
    exact I1.hok.fresh M.new
theorem repF_zip {K : PySem.W.Frag} {G : Hp} : ∀ {ns : List Str} {ds : List D} {vs : List V}, RepL K G ds vs → RepF K G (ns.zip ds) (ns.zip vs)
  | [], _, _, _ => by simp [RepF]
  | n :: ns, [], vs, r => by
    have e : vs = [] := r
    subst e
    simp [RepF]
  | n :: ns, d :: ds, vs, r => by
    obtain ⟨v, r', e, rv, rr⟩ := r
    subst e
    exact ⟨v, _, rfl, rv, repF_zip rr⟩
/-- x(n=e, ..) -/
def uMkK (C : Addr) (ns : List Str) (u : UA) : UX := fun sl ce Q E => u sl ce (fun ts ce1 => match unT ts with
  | some ds => ds.length = ns.length ∧ Q ⟨.ref C, ns.zip ds⟩ ce1
  | none => False) E
theorem dmk_kw {k : Nat} (T : XMk X.prog X.w X.K X.mg C ns) (gC : X.mg x = some (.ref C)) (hr : Room k X.A) (hk : DK X kws u) (hnm : (backToKw pos (keywordEach kws X.env)).filterMap (·.1) = ns := by rfl) (hall : (backToKw pos (keywordEach kws X.env)).all (·.1.isSome) = true := by rfl)
    (hpl : ((backTo pos (starEach [] X.env)).any (·.1) || (backToKw pos (keywordEach kws X.env)).any (·.1.isNone)) = false := by rfl) (hg : Gl X x := by rfl) (hdb : (x == ("__debug__" : Str)) = false := by decide) : DMk X (.Call (.Name x p) [] kws pos) (uMkK C ns u) := by
  obtain ⟨t, pk, sk⟩ := hk.ex
  refine ⟨fun W => tMkK C ns (t W), fun W tk => pmk_kw T gC hr (pk W tk) hnm hall hpl hg hdb, fun W σ H sl ce G m Qd Ed Qv R w h k => ?_⟩
  refine sk W σ H sl ce G m _ Ed _ R w h fun ts ce1 G1 m1 vs H1 R1 s1 r1 h1 => ?_
  cases q : unT ts with
  | none => simp only [q] at h1
  | some ds =>
    simp only [q] at h1
    obtain ⟨hl, hQ⟩ := h1
    have rl := unT_ok r1 q
    refine ⟨by rw [rl.length, hl], fun d hd => ?_⟩
    obtain ⟨R2, s2⟩ := R1.toRelS.laid (.xd (ns.zip vs)) hd
    refine k ⟨.ref C, ns.zip ds⟩ ce1 _ m1 (.ref C) (some d) _ (R1.step s2 R2) (s1.trans s2) ⟨rfl, _, upd_same, ?_⟩ hQ
    exact RepF.mono s2.gg _ _ (repF_zip rl)
end
end DL

namespace DL
open PySem L2 PySem.KX He
/-! ### an exception's class by a Bool -/
def clsB (K : PySem.W.Frag) (C : Addr) : Bool := match K.lookup C with
  | some ⟨.type "type", _, .cls cd, sl⟩ => (match cd.mro, sl.toList with
    | .ref C' :: bm, [_, _, _, _, some (.builtin n), _] => C' == C && n == "ValueError.__new__" && !cd.hasDel && cd.hasDict && HandSPX.refsVE bm
    | _, _ => false)
  | _ => false
theorem clsB_ok {K : PySem.W.Frag} {C : Addr} (q : clsB K C = true) : ∃ nm q N bs bm sn sub ab col dd k0 k1 k2 k3 k5, K.lookup C = some (excClassObj nm q C N bs bm true sn sub ab col dd k0 k1 k2 k3 k5 "ValueError.__new__") ∧ HandSPX.refsVE bm = true := by
  unfold clsB at q
  split at q
  · rename_i dd cd sl ho
    split at q
    · rename_i C' bm k0 k1 k2 k3 n k5 hm hs
      simp only [Bool.and_eq_true, beq_iff_eq, Bool.not_eq_true'] at q
      obtain ⟨⟨⟨⟨rfl, rfl⟩, hdel⟩, hdi⟩, ht⟩ := q
      obtain ⟨nm, bs, mro, ns, qn, hd, sn, sub, ab, col, del⟩ := cd
      dsimp only at hm hdel hdi
      subst hm hdel hdi
      have hsl : sl = #[k0, k1, k2, k3, some (.builtin "ValueError.__new__"), k5] := by
        obtain ⟨l⟩ := sl
        simp only at hs
        rw [hs]
      subst hsl
      exact ⟨nm, qn, ns, bs, bm, sn, sub, ab, col, dd, k0, k1, k2, k3, k5, ho, ht⟩
    · cases q
  · cases q
/-- an exception with its own __init__ -/
structure XcD where
  cls : Str
  qual : Str
  params : Arguments
  body : List Stmt
  scope : Scope
  ns : List Str
abbrev FnV : Type := Option (Str × Str × Arguments × FuncBody × Scope × Addr × List Str × Addr)
def fnV (K : PySem.W.Frag) (f : Addr) : FnV := match K.lookup f with
  | some ⟨_, _, .func fd, _⟩ => some (fd.name, fd.qualname, fd.params, fd.body, fd.scope, fd.globals, fd.closure.map (·.1), fd.builtins)
  | _ => none
def XcD.val (d : XcD) : FnV := some ("__init__", d.qual, d.params, .stmts d.body, d.scope, mainGlobals, ["__class__"], builtinsNs)
def fileB (K : PySem.W.Frag) (file : Str) (cda : Addr) : Bool := match K.lookup cda with
  | some ⟨_, _, .fields vs, _⟩ => (match (vs[2]? : Option Value) with
    | some (Value.str f _) => file == f
    | _ => false)
  | _ => false
def cellB' (K : PySem.W.Frag) (C cc : Addr) : Bool := match K.lookup cc with
  | some ⟨_, _, .cell (some (.ref D)), _⟩ => D == C
  | _ => false
def initB (K : PySem.W.Frag) (file qual : Str) (C f : Addr) : Bool := match K.lookup f with
  | some ⟨_, _, .func fd, _⟩ => (match fd.code, fd.closure with
    | .ref cda, [(_, cc)] => PySem.W.codeIn K (.ref cda) qual && fileB K file cda && cellB' K C cc && fd.defaults == .none && fd.kwdefaults == .none
    | _, _ => false)
  | _ => false
def XcD.ok (file : Str) (K : PySem.W.Frag) (d : XcD) : Bool :=
  clsB K (ga K d.cls) && eqO (PySem.W.findIn K (.ref (ga K d.cls)) "__setattr__") (some (some (.builtin "object.__setattr__"))) && (d.ns.all fun n => eqO (PySem.W.findIn K (.ref (ga K d.cls)) n) (some none)) &&
  eqO (PySem.W.findIn K (.ref (ga K d.cls)) "__init__") (some (some (.ref (ma K (ga K d.cls) "__init__")))) && decide (PySem.W.typeIn K (.ref (ma K (ga K d.cls) "__init__")) = some (.type "function")) &&
  eqO (PySem.W.ks_superIn K (ga K d.cls) (ga K d.cls) "__init__") (some (some (.builtin "ValueError.__init__"))) && eqO (PySem.W.nsIn K cStatics "thirdparty.any") (some none) &&
  decide (PySem.W.subIn K (.ref (ga K d.cls)) (.type "ValueError") = some true) && decide (PySem.W.mroIn K (ga K d.cls) (.ref (ga K d.cls)) = some true) && eqO (PySem.W.nsIn K mainGlobals "super") (some none) &&
  PySem.W.keepIn K (.ref (ga K d.cls)) && decide (PySem.W.subIn K (.ref (ga K d.cls)) (.type "BaseException") = some true) && decide (PySem.W.typeIn K (.ref (ga K d.cls)) = some (.type "type")) &&
  initB K file d.qual (ga K d.cls) (ma K (ga K d.cls) "__init__")
/-- the text of __init__, in general -/
structure XTx (d : XcD) : Prop where
  head : ∃ ar, (d.params.posonlyargs ++ d.params.args).head? = some ar ∧ ar.arg = "self"
  ks : d.scope.names.lookup ("super" : Str) = some .globalImplicit
  kc : d.scope.names.lookup ("__class__" : Str) = some .free
  ka : d.scope.names.lookup ("self" : Str) = some .local
  nocell : ∀ x ∈ d.scope.names, x.2 ≠ .cell
  co : d.scope.isCoroutine = false
  gen : d.scope.isGenerator = false
  kd : d.scope.kind = .function
theorem xfn_of {P : Program} {K : PySem.W.Frag} {d : XcD} {C f : Addr} (T : XTx d) (e : fnV K f = d.val) (q : initB K P.main.file d.qual C f = true) :
    ∃ doc pm an cda ct cc, XFn P K C f d.qual d.params d.body d.scope .none .none doc pm an cda ct cc := by
  unfold initB at q
  unfold fnV at e
  split at q
  · rename_i oc od fd osl ho
    rw [ho] at e
    split at q
    · rename_i cda nn cc h1 h2
      obtain ⟨n1, n2, n3, n4, n5, n6, n7, n8, n9, n10, n11, n12, n13, n14, n15⟩ := fd
      have e2 : (some (n1, n2, n3, n4, n5, n6, n7.map (·.1), n15) : FnV) = (some (("__init__" : Str), d.qual, d.params, FuncBody.stmts d.body, d.scope, mainGlobals, [("__class__" : Str)], builtinsNs) : FnV) := e
      simp only [Option.some.injEq, Prod.mk.injEq] at e2
      dsimp only at h1 h2 q
      subst h1 h2
      simp only [Bool.and_eq_true, beq_iff_eq] at q
      obtain ⟨⟨⟨⟨q1, q2⟩, q3⟩, q4⟩, q5⟩ := q
      obtain ⟨a1, a2, a3, a4, a5, a6, a7, a8⟩ := e2
      have a7' : nn = "__class__" := by simpa using a7
      subst a1 a2 a3 a4 a5 a6 a7' a8 q4 q5
      refine ⟨n10, n11, n12, cda, n14, cc, ⟨oc, od, osl, ho⟩, q1, ?_, ?_, T.head, T.ks, T.kc, T.ka, T.nocell, T.co, T.gen, T.kd⟩
      · unfold fileB at q2
        split at q2
        · rename_i c1 c2 vs c3 hl
          split at q2
          · rename_i fl tf hv
            exact ⟨c1, c2, vs, c3, fl, tf, hl, hv, q2⟩
          · cases q2
        · cases q2
      · unfold cellB' at q3
        split at q3
        · rename_i c1 c2 D c3 hl
          have eD : D = C := beq_iff_eq.mp q3
          subst eD
          exact ⟨c1, c2, c3, hl⟩
        · cases q3
    · cases q
  · cases q
theorem relO_1 {n : Str} {v : V} {v' : Value} (r : RelV v v') (f : Str) : RelO (List.lookup f [(n, v)]) (if f = n then some v' else none) := by
  by_cases hw : f = n
  · subst hw
    rw [if_pos rfl]
    have q : List.lookup f [(f, v)] = some v := by simp [List.lookup]
    rw [q]; exact r
  · rw [if_neg hw]
    have qw : (f == n) = false := by simpa using hw
    have q2 : List.lookup f [(n, v)] = none := by simp [List.lookup, qw]
    rw [q2]; trivial
section
variable {P : Program} {w : World} {K : PySem.W.Frag} {mg : Str → Option Value} {base : Heap}
theorem xc_cls {d : XcD} (X : K.In base) (G : base.Ns mainGlobals mg) (c : d.ok P.main.file K = true) (top : (P.main.scope.names.lookup ("super" : Str)).isSome = false) :
    XCls P K mg (ga K d.cls) (ma K (ga K d.cls) "__init__") d.ns ∧ PySem.W.keepIn K (.ref (ga K d.cls)) = true ∧ PySem.W.subIn K (.ref (ga K d.cls)) (.type "BaseException") = some true ∧ PySem.W.typeIn K (.ref (ga K d.cls)) = some (.type "type") ∧ initB K P.main.file d.qual (ga K d.cls) (ma K (ga K d.cls) "__init__") = true := by
  unfold XcD.ok at c
  simp only [Bool.and_eq_true, decide_eq_true_eq, List.all_eq_true] at c
  obtain ⟨⟨⟨⟨⟨⟨⟨⟨⟨⟨⟨⟨⟨c1, c2⟩, c3⟩, c4⟩, c5⟩, c6⟩, c7⟩, c8⟩, c9⟩, c10⟩, c11⟩, c12⟩, c13⟩, c14⟩ := c
  exact ⟨⟨clsB_ok c1, eqO_ok c2, fun n hn => eqO_ok (c3 n hn), eqO_ok c4, c5, eqO_ok c6, eqO_ok c7, c8, c9, PySem.W.mg_none_of X G (eqO_ok c10), top⟩, c11, c12, c13, c14⟩
theorem xmk1 {d : XcD} {n : Str} {p0 p1 p2 p3 p4 p5 q1 q2 q3 q4 : Pos} {txt : Str} {j : Nat} (T : XTx d) (X : K.In base) (G : base.Ns mainGlobals mg) (c : d.ok P.main.file K = true) (top : (P.main.scope.names.lookup ("super" : Str)).isSome = false) (e : fnV K (ma K (ga K d.cls) "__init__") = d.val)
    (hns : d.ns = [n]) (hb : d.body = [sStmt p0 p1 p2 p3 p4 p5 txt j, fStmt n q1 q2 q3 q4]) (hline : (p2.endLine == p4.line) = true) (kn : d.scope.names.lookup n = some .local) (hd : (n == ("__debug__" : Str)) = false) (hself : n ≠ "self")
    (hbind : ∀ (s : Shared) (x v doc pm : Value) (an : Option Addr) (cda : Addr) (ct : Value) (cc : Addr), BindsTo s (PySem.W.ksFn "__init__" d.qual d.params d.body d.scope .none .none doc pm an (.ref cda) ct cc) ⟨[x], [(n, v)]⟩ [("self", x), (n, v)]) :
    XMk P w K mg (ga K d.cls) [n] := by
  obtain ⟨h1, h2, h3, h4, h5⟩ := xc_cls X G c top
  rw [hns] at h1
  obtain ⟨doc, pm, an, cda, ct, cc, Fn⟩ := xfn_of T e h5
  refine ⟨h2, h3, h4, _, h1, fun us hl => ?_⟩
  match us, hl with
  | [v], _ =>
    refine ⟨fun y => if y = n then some v else none, fun vs r f => ?_, fun s' A' R' x t0 Y hq => ?_⟩
    · cases r with
      | cons rv rn => cases rn; exact relO_1 rv f
    · have hbd := hbind s' (.ref x) v doc pm an cda ct cc
      rw [hb] at Fn hbd
      exact init1 hline h1 Fn Y kn (List.mem_singleton.mpr rfl) hd hself hbd hq
end
/-! ### getters of properties -/
def pgA (K : PySem.W.Frag) (C n : Str) : Addr × Addr := match PySem.W.findIn K (.ref (ga K C)) n with
  | some (some (.ref p)) => (match PySem.W.recIn K p "property" with
    | some (.ref g :: _) => (p, g)
    | _ => (p, 0))
  | _ => (0, 0)
def recB (K : PySem.W.Frag) (p g : Addr) : Bool := match PySem.W.recIn K p "property" with
  | some (.ref g' :: _) => g' == g
  | _ => false
theorem recB_ok {K : PySem.W.Frag} {p g : Addr} (h : recB K p g = true) : ∃ rest, PySem.W.recIn K p "property" = some (.ref g :: rest) := by
  unfold recB at h
  split at h
  · rename_i g' rest e
    have := beq_iff_eq.mp h
    subst this
    exact ⟨rest, e⟩
  · cases h
def propB (K : PySem.W.Frag) (C n : Str) : Bool := eqO (PySem.W.findIn K (.ref (ga K C)) n) (some (some (.ref (pgA K C n).1))) && eqO (PySem.W.specialIn K (.ref (pgA K C n).1) "__get__") (some (some (.builtin "property.__get__"))) &&
  decide (PySem.W.takesIn K (.ref (pgA K C n).1) = some true) && recB K (pgA K C n).1 (pgA K C n).2
theorem propB_ok {K : PySem.W.Frag} {C n : Str} (h : propB K C n = true) : PropOf K (ga K C) n (pgA K C n).1 (pgA K C n).2 := by
  unfold propB at h
  simp only [Bool.and_eq_true, decide_eq_true_eq] at h
  obtain ⟨⟨⟨h1, h2⟩, h3⟩, h4⟩ := h
  exact ⟨eqO_ok h1, eqO_ok h2, h3, recB_ok h4⟩
/-- a def at an address that is found otherwise -/
def fnA (K : PySem.W.Frag) (f : Addr) : FnW := match K.lookup f with
  | some ⟨_, _, .func fd, _⟩ => some (fd.name, fd.qualname, fd.params, fd.body, fd.scope, fd.globals, fd.closure, fd.builtins)
  | _ => none
structure GeD where
  cls : Str
  name : Str
  qual : Str
  params : Arguments
  body : List Stmt
  scope : Scope
def GeD.val (d : GeD) : FnW := some (d.name, d.qual, d.params, .stmts d.body, d.scope, mainGlobals, [], builtinsNs)
def GeD.ok (K : PySem.W.Frag) (d : GeD) : Bool := propB K d.cls d.name && (PySem.W.keepIn K (.ref (pgA K d.cls d.name).2) && (match K.lookup (pgA K d.cls d.name).2 with
  | some ⟨_, _, .func fd, _⟩ => PySem.W.codeIn K fd.code d.qual && (dflB K fd.defaults [] && kwdB K fd.kwdefaults [])
  | _ => false))
theorem GeD.funD {K : PySem.W.Frag} {d : GeD} (e : fnA K (pgA K d.cls d.name).2 = d.val) (c : d.ok K = true) : PropOf K (ga K d.cls) d.name (pgA K d.cls d.name).1 (pgA K d.cls d.name).2 ∧ ∃ fd, FunD K d.name d.qual d.params d.body d.scope [] [] (pgA K d.cls d.name).2 fd := by
  obtain ⟨pp, c⟩ := ba c
  obtain ⟨kp, c2⟩ := ba c
  refine ⟨propB_ok pp, ?_⟩
  unfold fnA at e
  cases q : K.lookup (pgA K d.cls d.name).2 with
  | none =>
    rw [q] at c2
    cases c2
  | some o =>
    obtain ⟨oc, od, dt, osl⟩ := o
    rw [q] at c2 e
    cases dt with
    | func fd =>
      obtain ⟨n1, n2, n3, n4, n5, n6, n7, n8, n9, n10, n11, n12, n13, n14, n15⟩ := fd
      have e2 : (some (n1, n2, n3, n4, n5, n6, n7, n15) : FnW) = some (d.name, d.qual, d.params, .stmts d.body, d.scope, mainGlobals, [], builtinsNs) := e
      simp only [Option.some.injEq, Prod.mk.injEq] at e2
      obtain ⟨h1, h2, h3, h4, h5, h6, h7, h8⟩ := e2
      subst h1 h2 h3 h4 h5 h6 h7 h8
      have c3 : (PySem.W.codeIn K n13 d.qual && (dflB K n8 [] && kwdB K n9 [])) = true := c2
      obtain ⟨k1, k2⟩ := ba c3
      obtain ⟨k3, k4⟩ := ba k2
      exact ⟨_, ⟨oc, od, n8, n9, n10, n11, n12, n13, n14, osl, rfl, q, k1, dflB_ok k3, kwdB_ok k4⟩, kp⟩
    | _ => cases c2
/-! ### more facts -/
inductive Fb where
  | fnIn (C m : Str)
  | obj (C : Str)
  | ne (C : Str)
  | xf (C : Str)
  | isi (Cs : List Str)
  | dif (x y : Str)
  /-- the def x has a table of code objects, not among what K holds -/
  | tab (x : Str)
  /-- any other -/
  | any (f : PySem.W.Frag → Bool)
/-- the code object of the def x, and its table -/
def tabA (K : PySem.W.Frag) (x : Str) : Addr × Addr := (PySem.W.tabIn K x).getD (0, 0)
def tabB (K : PySem.W.Frag) (x : Str) : Bool := (PySem.W.tabIn K x).isSome && (PySem.W.codeHdIn K (tabA K x).1 (tabA K x).2 && (K.lookup (tabA K x).2).isNone)
def isiB (K : PySem.W.Frag) (Cs : List Addr) : Bool := (Cs.all fun C => eqO (PySem.W.findIn K (.ref C) "__class__") (some (some (.builtin "object.__class__"))) && decide (PySem.W.mroIn K C (.type "object") = some true)) &&
  (Cs.all fun C => (askedT.all fun n => decide (PySem.W.kitOne K (.ref C) (.type n) = some false)) && (knownT.all fun n => decide (PySem.W.kitOne K (.type n) (.ref C) = some false)) && (Cs.all fun C' => decide (PySem.W.kitOne K (.ref C) (.ref C') = some (C == C')))) &&
  eqO (PySem.W.specialIn K (.builtin "object.__class__") "__get__") (some (some (.builtin "getset_descriptor.__get__"))) && decide (PySem.W.takesIn K (.builtin "object.__class__") = some true)
theorem isiB_ok {K : PySem.W.Frag} {Cs : List Addr} (hc : ∀ C ∈ Cs, Cls K C) (h : isiB K Cs = true) : IsiOk K Cs := by
  unfold isiB at h
  simp only [Bool.and_eq_true, decide_eq_true_eq, List.all_eq_true] at h
  obtain ⟨⟨⟨h1, h2⟩, h3⟩, h4⟩ := h
  exact ⟨fun C hC => ⟨hc C hC, eqO_ok (h1 C hC).1, eqO_ok h3, h4, (h1 C hC).2⟩, fun C hC => ⟨(h2 C hC).1.1, (h2 C hC).1.2, (h2 C hC).2⟩⟩
def Fb.ok (K : PySem.W.Frag) : Fb → Bool
  | .fnIn C m => PySem.W.fnIn K (ma K (ga K C) m)
  | .obj C => decide (PySem.W.mroIn K (ga K C) (.type "object") = some true)
  | .ne C => eqO (PySem.W.findIn K (.ref (ga K C)) "__ne__") (some (some (.builtin "object.__ne__")))
  | .xf C => xfB K (ga K C)
  | .isi Cs => isiB K (Cs.map (ga K))
  | .dif x y => decide (ga K x ≠ ga K y)
  | .tab x => tabB K x
  | .any f => f K
/-! ### the Hook -/
abbrev AlM : Type := Bool × List FnW × List FnV × List FnW
structure Tab where
  file : Str
  fa : List Fa
  fb : List Fb
  fn : List DefD
  xs : List XcD
  gs : List GeD
def obsM (t : Tab) (K : PySem.W.Frag) : AlM :=
  ((t.fa.all fun f => f.ok K) && (t.fb.all fun f => f.ok K) && (t.fn.all fun d => d.ok K) && (t.xs.all fun d => d.ok t.file K) && (t.gs.all fun d => d.ok K), t.fn.map fun d => fnW K d.at_, t.xs.map fun d => fnV K (ma K (ga K d.cls) "__init__"), t.gs.map fun d => fnA K (pgA K d.cls d.name).2)
def valM (t : Tab) : AlM := (true, t.fn.map DefD.val, t.xs.map XcD.val, t.gs.map GeD.val)
def SaysM (t : Tab) (K : PySem.W.Frag) : Prop := obsM t K = valM t
section
variable {t : Tab} {K : PySem.W.Frag}
theorem SaysM.bools (c : SaysM t K) : (t.fa.all fun f => f.ok K) = true ∧ (t.fb.all fun f => f.ok K) = true ∧ (t.fn.all fun d => d.ok K) = true ∧ (t.xs.all fun d => d.ok t.file K) = true ∧ (t.gs.all fun d => d.ok K) = true := by
  have c1 : ((t.fa.all fun f => f.ok K) && (t.fb.all fun f => f.ok K) && (t.fn.all fun d => d.ok K) && (t.xs.all fun d => d.ok t.file K) && (t.gs.all fun d => d.ok K)) = true := congrArg (fun z : AlM => z.1) c
  simp only [Bool.and_eq_true] at c1
  exact ⟨c1.1.1.1.1, c1.1.1.1.2, c1.1.1.2, c1.1.2, c1.2⟩
theorem SaysM.fact (c : SaysM t K) (i : Nat) {f : Fa} (h : t.fa[i]? = some f := by rfl) : f.ok K = true := List.all_eq_true.mp c.bools.1 f (List.mem_of_getElem? h)
theorem SaysM.fact2 (c : SaysM t K) (i : Nat) {f : Fb} (h : t.fb[i]? = some f := by rfl) : f.ok K = true := List.all_eq_true.mp c.bools.2.1 f (List.mem_of_getElem? h)
theorem SaysM.def_ (c : SaysM t K) (i : Nat) {d : DefD} (h : t.fn[i]? = some d := by rfl) : ∃ fd, FunD K d.name d.qual d.params d.body d.scope (d.dvs K) (d.kws K) (fAd K d.at_) fd := by
  have e : t.fn.map (fun d => fnW K d.at_) = t.fn.map DefD.val := congrArg (fun z : AlM => z.2.1) c
  have e2 : (t.fn.map fun d => fnW K d.at_)[i]? = (t.fn.map DefD.val)[i]? := by rw [e]
  rw [List.getElem?_map, List.getElem?_map, h] at e2
  exact DefD.funD (Option.some.inj e2) (List.all_eq_true.mp c.bools.2.2.1 d (List.mem_of_getElem? h))
theorem SaysM.xc (c : SaysM t K) (i : Nat) {d : XcD} (h : t.xs[i]? = some d := by rfl) : d.ok t.file K = true ∧ fnV K (ma K (ga K d.cls) "__init__") = d.val := by
  have e : t.xs.map (fun d => fnV K (ma K (ga K d.cls) "__init__")) = t.xs.map XcD.val := congrArg (fun z : AlM => z.2.2.1) c
  have e2 : (t.xs.map fun d => fnV K (ma K (ga K d.cls) "__init__"))[i]? = (t.xs.map XcD.val)[i]? := by rw [e]
  rw [List.getElem?_map, List.getElem?_map, h] at e2
  exact ⟨List.all_eq_true.mp c.bools.2.2.2.1 d (List.mem_of_getElem? h), Option.some.inj e2⟩
theorem SaysM.ge (c : SaysM t K) (i : Nat) {d : GeD} (h : t.gs[i]? = some d := by rfl) : PropOf K (ga K d.cls) d.name (pgA K d.cls d.name).1 (pgA K d.cls d.name).2 ∧ ∃ fd, FunD K d.name d.qual d.params d.body d.scope [] [] (pgA K d.cls d.name).2 fd := by
  have e : t.gs.map (fun d => fnA K (pgA K d.cls d.name).2) = t.gs.map GeD.val := congrArg (fun z : AlM => z.2.2.2) c
  have e2 : (t.gs.map fun d => fnA K (pgA K d.cls d.name).2)[i]? = (t.gs.map GeD.val)[i]? := by rw [e]
  rw [List.getElem?_map, List.getElem?_map, h] at e2
  exact GeD.funD (Option.some.inj e2) (List.all_eq_true.mp c.bools.2.2.2.2 d (List.mem_of_getElem? h))
end
/-! ### a def of the table -/
def mkD (x : Str) (st : Stmt) : DefD := ⟨(x, none), x, x, defArgs st, defBody st, defScope st, [], []⟩
def mkM (c x q : Str) (st : Stmt) : DefD := ⟨(c, some x), x, q, defArgs st, defBody st, defScope st, [], []⟩
def mkG (c x q : Str) (st : Stmt) : GeD := ⟨c, x, q, defArgs st, defBody st, defScope st⟩
def mkX (c q : Str) (st : Stmt) (ns : List Str) : XcD := ⟨c, q, defArgs st, defBody st, defScope st, ns⟩
theorem fun_of {K : PySem.W.Frag} {x qual : Str} {st : Stmt} {f : Addr} {fd : FuncData} (F : FunD K x qual (defArgs st) (defBody st) (defScope st) [] [] f fd) : Fun K x qual st f fd := by
  obtain ⟨oc, od, dV, kV, doc, pm, an, cdv, ct, osl, e, lk, hcd, df, _⟩ := F.ex
  have e2 : dV = .none := by
    rcases df with ⟨_, e⟩ | ⟨n, _⟩
    · exact e
    · exact absurd rfl n
  subst e2
  exact ⟨⟨oc, od, kV, doc, pm, an, cdv, ct, osl, e, lk, hcd⟩, F.kp⟩
/-! ### what is never reached -/
def uNever : UE := fun _ _ _ _ => False
section
variable {X : Cx} {e : Expr} {st : Stmt}
theorem de_never : DE X e uNever := ⟨fun _ _ _ _ => False, fun _ _ => ⟨fun _ _ _ _ _ _ h => h.elim⟩, fun _ _ _ _ _ _ _ _ _ _ _ _ h _ => h.elim⟩
end
theorem boot_isinstance' : bootBuiltins "isinstance" = some (.builtin "isinstance") := by decide +kernel
theorem boot_max' : bootBuiltins "max" = some (.builtin "max") := by decide +kernel
theorem boot_all' : bootBuiltins "all" = some (.builtin "all") := by decide +kernel
theorem boot_len' : bootBuiltins "len" = some (.builtin "len") := by decide +kernel
theorem boot_sorted' : bootBuiltins "sorted" = some (.builtin "sorted") := by decide +kernel
theorem boot_int' : bootBuiltins "int" = some (.type "int") := by decide +kernel
theorem boot_bool' : bootBuiltins "bool" = some (.type "bool") := by decide +kernel
theorem boot_str' : bootBuiltins "str" = some (.type "str") := by decide +kernel
theorem boot_list' : bootBuiltins "list" = some (.type "list") := by decide +kernel
theorem boot_tuple' : bootBuiltins "tuple" = some (.type "tuple") := by decide +kernel
theorem boot_dict' : bootBuiltins "dict" = some (.type "dict") := by decide +kernel
end DL

namespace DL
open PySem L2
/-! ### tests by comparisons -/
def uTB (ue : UE) : UT := fun sl ce Q E => ue sl ce (fun t ce1 => match t with
  | .d (.bl b) => Q b ce1
  | _ => False) E
section
variable {X : Cx} {e a b c : Expr} {ua ub uc : UE} {pos : Pos}
theorem semTB {K : PySem.W.Frag} {te : WX → TE} (s : SemE K wd te ua) : SemT K wd (fun W => tTest (te W)) (uTB ua) := by
  intro W σ H sl ce G m Qd Ed Qv R w h k
  refine s W σ H sl ce G m _ Ed _ R w h fun x ce1 G1 m1 v H1 R1 s1 r1 h1 => ?_
  split at h1
  · next b => cases r1; exact ⟨b, rfl, k b ce1 G1 m1 H1 R1 s1 h1⟩
  · exact h1.elim
theorem dt_cmp {op : CmpOp} {o : O2} (ho : OpD X (compareOp op) o) (ha : DE X a ua) (hb : DE X b ub) (hm : behindInMarks op b = false := by first | exact nomark _ | rfl) : DT X (.Compare a [op] [b] pos) (uTB (uOp o ua ub)) := by
  obtain ⟨ta, pa, sa⟩ := ha.ex
  obtain ⟨tb, pb, sb⟩ := hb.ex
  obtain ⟨r, pr, sr⟩ := ho
  exact ⟨_, fun W tk => pt_cmpR pr (pa W tk) (pb W tk) hm, semTB (semOp sa sb sr)⟩
theorem semChain {K : PySem.W.Frag} {ta tb tc : WX → TE} {r r' : R2} {o o' : O2} (sa : SemE K wd ta ua) (sb : SemE K wd tb ub) (sc : SemE K wd tc uc)
    (sr : ∀ (H : Hp) (ce : Ce) (G : Hp) (m : List Addr) (Qd : T → Ce → Prop) (Qv : VK) (x y : T) (v u : V), RelS K wd H ce G m → RepT K m G x v → RepT K m G y u → o x y ce Qd → (∀ d ce' G' m' z H', RelS K wd H' ce' G' m' → Stp H m G H' m' G' → RepT K m' G' d z → Qd d ce' → Qv z H') → r v u H Qv)
    (sr' : ∀ (H : Hp) (ce : Ce) (G : Hp) (m : List Addr) (Qd : T → Ce → Prop) (Qv : VK) (x y : T) (v u : V), RelS K wd H ce G m → RepT K m G x v → RepT K m G y u → o' x y ce Qd → (∀ d ce' G' m' z H', RelS K wd H' ce' G' m' → Stp H m G H' m' G' → RepT K m' G' d z → Qd d ce' → Qv z H') → r' v u H Qv) :
    SemE K wd (fun W => tChain r r' (ta W) (tb W) (tc W)) (uChain o o' ua ub uc) := by
  intro W σ H sl ce G m Qd Ed Qv R w h k
  refine sa W σ H sl ce G m _ Ed _ R w h fun x ce1 G1 m1 v H1 R1 s1 r1 h1 => ?_
  refine sb W σ H1 sl ce1 G1 m1 _ Ed _ R1 (w.step s1) h1 fun y ce2 G2 m2 u H2 R2 s2 r2 h2 => ?_
  refine sr H2 ce2 G2 m2 _ _ x y v u R2.toRelS (r1.mono s2.pre s2.gg) r2 h2 fun z ce3 G3 m3 zv H3 R3' s3 r3 q3 => ?_
  have R3 := R2.step s3 R3'
  split at q3
  · refine ⟨true, r3, ?_⟩
    refine iteT ?_
    refine sc W σ H3 sl ce3 G3 m3 _ Ed _ R3 (w.step ((s1.trans s2).trans s3)) q3 fun d ce4 G4 m4 dv H4 R4 s4 r4 h4 => ?_
    refine sr' H4 ce4 G4 m4 Qd Qv y d u dv R4.toRelS (r2.mono (s3.trans s4).pre (s3.trans s4).gg) r4 h4 fun d' ce' G' m' z' H' R' s' r' q' => ?_
    exact k d' ce' G' m' z' H' (R4.step s' R') ((((s1.trans s2).trans s3).trans s4).trans s') r' q'
  · refine ⟨false, r3, ?_⟩
    refine iteF ?_
    exact k (.d (.bl false)) ce3 G3 m3 _ H3 R3 ((s1.trans s2).trans s3) rfl q3
  · exact q3.elim
theorem dt_chain {op op' : CmpOp} {o o' : O2} (ho : OpD X (compareOp op) o) (ho' : OpD X (compareOp op') o') (ha : DE X a ua) (hb : DE X b ub) (hc : DE X c uc) (hm : lastMarks [op, op'] [b, c] = false := by with_unfolding_all rfl) : DT X (.Compare a [op, op'] [b, c] pos) (uTB (uChain o o' ua ub uc)) := by
  obtain ⟨ta, pa, sa⟩ := ha.ex
  obtain ⟨tb, pb, sb⟩ := hb.ex
  obtain ⟨tc, pc, sc⟩ := hc.ex
  obtain ⟨r, pr, sr⟩ := ho
  obtain ⟨r', pr', sr'⟩ := ho'
  exact ⟨fun W => tTest (tChain r r' (ta W) (tb W) (tc W)), fun W tk => pt_chain pr pr' (pa W tk) (pb W tk) (pc W tk) hm, semTB (semChain sa sb sc sr sr')⟩
end
/-! ### comprehensions without effects -/
end DL

namespace DL
open PySem L2
/-! ### the walk over a reading, by instances: what is left to be shown -/
section
variable {a b : Option T} {sl sl' sl'' : Sl} {i j k n : Nat} {c d : Cell} {ce ce' ce'' : Ce} {o : Option T}
end
section
variable {g : Prop} {sl sl' sl'' : Sl} {ce ce' ce'' : Ce} {Q : T → Ce → Prop} {E : Ex1} {i j : Nat} {t t' : T} {ua ub uc : UE} {tA tB : UT} {u ur : UA} {us us' : US} {N : DEnds} {QA : List T → Ce → Prop} {QB : Bool → Ce → Prop} {x y : T}
/-! operators -/
/-! indices: what stands at a place -/
theorem atI_nat {α : Type} {xs : List α} {n : Nat} (h : n < xs.length) : atI xs (n : Int) = xs[n]? := by
  unfold atI ixN
  rw [if_pos (by omega), if_pos (by omega)]
  simp
end
section
variable {g : Prop} {sl sl' sl'' : Sl} {ce ce' ce'' : Ce} {Q : T → Ce → Prop} {E : Ex1} {i j : Nat} {t t' : T} {ua ub uc : UE} {tA tB : UT} {u ur : UA} {us us' : US} {N : DEnds} {QA : List T → Ce → Prop} {QB : Bool → Ce → Prop} {QO : Option Int → Ce → Prop} {x y : T} {ul uh : UO}
/-! calls -/
/-! statements -/
variable {QS : Sl → Ce → Prop} {ug : UG} {gs : UGs}
/-! loops and comprehensions stop -/
variable {ui : UI}
/-! exceptions -/
variable {ux : UX} {QX : Exc → Ce → Prop}
end
section
variable {g : Prop} {sl : Sl} {ce ce' : Ce} {Q : T → Ce → Prop} {us : US} {N : DEnds}
def exmL (l : List (Addr × Bool)) (v : Value) : Option Bool := match v with
  | .ref a => l.lookup a
  | _ => none
theorem exmL_ok {K : PySem.W.Frag} {l : List (Addr × Bool)} {c : Value} (h : ∀ p ∈ l, PySem.W.exmOne K (.ref p.1) c = some p.2) : ∀ cls b, exmL l cls = some b → PySem.W.exmOne K cls c = some b := by
  intro cls b e
  unfold exmL at e
  split at e
  · next a =>
    have : ∀ l : List (Addr × Bool), (∀ p ∈ l, PySem.W.exmOne K (.ref p.1) c = some p.2) → l.lookup a = some b → PySem.W.exmOne K (.ref a) c = some b := by
      intro l
      induction l with
      | nil => intro _ e; cases e
      | cons p r ih =>
        intro h e
        obtain ⟨x, y⟩ := p
        unfold List.lookup at e
        split at e
        · next q =>
          have q' : a = x := by simpa using q
          cases e
          subst q'
          exact h (a, b) List.mem_cons_self
        · exact ih (fun p hp => h p (List.mem_cons_of_mem _ hp)) e
    exact this l h e
  · cases e
end
end DL

namespace DL
open PySem L2
/-! ### equality of data -/
def OkN (n : Nat) (d : D) : Prop := ∃ p, pyD d = some p ∧ p.canLay0 = true ∧ p.depth ≤ n
def OkL (n : Nat) (ds : List D) : Prop := ∃ ps, pyDs ds = some ps ∧ PyData.canLayAll0 ps = true ∧ PyData.depthAll ps ≤ n
def okS (x : Str) : Bool := PyData.canLay0 (.str x)
theorem OkN.mono {n m : Nat} {d : D} (h : OkN n d) (l : n ≤ m) : OkN m d := by
  obtain ⟨p, a, b, c⟩ := h
  exact ⟨p, a, b, Nat.le_trans c l⟩
theorem ok_non : OkN 0 .non := ⟨_, rfl, rfl, Nat.le_refl _⟩
theorem ok_bl {b : Bool} : OkN 0 (.bl b) := ⟨_, rfl, rfl, Nat.le_refl _⟩
theorem ok_int {i : Int} : OkN 0 (.int i) := ⟨_, rfl, rfl, Nat.le_refl _⟩
theorem ok_str {x : Str} (h : okS x = true) : OkN 0 (.str x) := ⟨_, rfl, h, Nat.le_refl _⟩
theorem okL_nil {n : Nat} : OkL n [] := ⟨[], rfl, rfl, Nat.zero_le _⟩
theorem okL_cons {n : Nat} {d : D} {ds : List D} (h : OkN n d) (hs : OkL n ds) : OkL n (d :: ds) := by
  obtain ⟨p, a, b, c⟩ := h
  obtain ⟨ps, a', b', c'⟩ := hs
  refine ⟨p :: ps, ?_, ?_, ?_⟩
  · unfold pyDs; rw [a, a']
  · unfold PyData.canLayAll0; rw [b, b']; rfl
  · unfold PyData.depthAll; exact Nat.max_le.mpr ⟨c, c'⟩
theorem okL_of {n : Nat} : ∀ {ds : List D}, (∀ d ∈ ds, OkN n d) → OkL n ds
  | [], _ => okL_nil
  | d :: ds, h => okL_cons (h d List.mem_cons_self) (okL_of fun x hx => h x (List.mem_cons_of_mem _ hx))
theorem ok_lst {n : Nat} {ds : List D} (h : OkL n ds) : OkN (n + 1) (.lst ds) := by
  obtain ⟨ps, a, b, c⟩ := h
  refine ⟨.list ps, ?_, ?_, ?_⟩
  · unfold pyD; rw [a]
  · unfold PyData.canLay0; exact b
  · unfold PyData.depth; omega
theorem ok_tup {n : Nat} {ds : List D} (h : OkL n ds) : OkN (n + 1) (.tup ds) := by
  obtain ⟨ps, a, b, c⟩ := h
  refine ⟨.tuple ps, ?_, ?_, ?_⟩
  · unfold pyD; rw [a]
  · unfold PyData.canLay0; exact b
  · unfold PyData.depth; omega
theorem OkN.shaped {n : Nat} {d : D} (h : OkN n d) (l : n ≤ 64) : ∃ p, pyD d = some p ∧ SeqAt.shaped p = true := by
  obtain ⟨p, a, b, c⟩ := h
  exact ⟨p, a, Bool.and_eq_true_iff.mpr ⟨b, decide_eq_true (Nat.le_trans c l)⟩⟩
/-- Python's == of two data -/
def eqD (x y : D) : Bool := match pyD x, pyD y with
  | some p, some q => PyData.eqv p q
  | _, _ => false
def eqDs (x y : List D) : Bool := match pyDs x, pyDs y with
  | some p, some q => PyData.eqvAll p q
  | _, _ => false
mutual
theorem eqv_refl : ∀ p : PyData, p.canLay0 = true → PyData.eqv p p = true
  | .none, _ => rfl
  | .bool _, _ => by simp [PyData.eqv]
  | .int _, _ => by simp [PyData.eqv]
  | .str _, _ => by simp [PyData.eqv]
  | .list xs, h => by unfold PyData.eqv; exact eqvAll_refl xs (by unfold PyData.canLay0 at h; exact h)
  | .tuple xs, h => by unfold PyData.eqv; exact eqvAll_refl xs (by unfold PyData.canLay0 at h; exact h)
  | .dict _, h => by unfold PyData.canLay0 at h; cases h
theorem eqvAll_refl : ∀ p : List PyData, PyData.canLayAll0 p = true → PyData.eqvAll p p = true
  | [], _ => rfl
  | x :: xs, h => by
    unfold PyData.canLayAll0 at h
    obtain ⟨h1, h2⟩ := Bool.and_eq_true_iff.mp h
    unfold PyData.eqvAll
    rw [eqv_refl x h1, eqvAll_refl xs h2]; rfl
end
theorem eqD_refl {n : Nat} {x : D} (h : OkN n x) : eqD x x = true := by
  obtain ⟨p, a, b, _⟩ := h
  unfold eqD; rw [a]; exact eqv_refl p b
theorem eqD_lst {xs ys : List D} (hx : ∃ n, OkL n xs) (hy : ∃ n, OkL n ys) : eqD (.lst xs) (.lst ys) = eqDs xs ys := by
  obtain ⟨n, ps, a, b, c⟩ := hx
  obtain ⟨m, ps', a', b', c'⟩ := hy
  unfold eqD eqDs pyD
  rw [a, a']
  simp only [PyData.eqv]
theorem eqD_tup {xs ys : List D} (hx : ∃ n, OkL n xs) (hy : ∃ n, OkL n ys) : eqD (.tup xs) (.tup ys) = eqDs xs ys := by
  obtain ⟨n, ps, a, b, c⟩ := hx
  obtain ⟨m, ps', a', b', c'⟩ := hy
  unfold eqD eqDs pyD
  rw [a, a']
  simp only [PyData.eqv]
theorem eqDs_cons {x y : D} {xs ys : List D} (h : ∃ n, OkN n x) (h' : ∃ n, OkN n y) (hx : ∃ n, OkL n xs) (hy : ∃ n, OkL n ys) : eqDs (x :: xs) (y :: ys) = (eqD x y && eqDs xs ys) := by
  obtain ⟨_, p, a0, _, _⟩ := h
  obtain ⟨_, p', a0', _, _⟩ := h'
  obtain ⟨n, ps, a, b, c⟩ := hx
  obtain ⟨m, ps', a', b', c'⟩ := hy
  unfold eqD eqDs
  simp only [pyDs, a, a', a0, a0', PyData.eqvAll]
theorem eqDs_nil {xs : List D} (hx : ∃ n, OkL n xs) : eqDs xs [] = xs.isEmpty := by
  obtain ⟨n, ps, a, b, c⟩ := hx
  unfold eqDs
  rw [a]
  cases xs with
  | nil => cases a; rfl
  | cons x r =>
    unfold pyDs at a
    split at a
    · cases a; rfl
    · cases a
theorem eqD_str {x y : Str} : eqD (.str x) (.str y) = decide (x = y) := by
  unfold eqD pyD PyData.eqv
  by_cases h : x = y <;> simp [h]
/-! ### comprehensions over a mapped list -/
end DL

namespace DL
open PySem L2
/-! ### plain laws of data -/
theorem one_ok {c : Nat} (h : c < 0x110000) : okS ⟨#[c]⟩ = true := by simp [okS, PyData.canLay0, PyData.strOk, h]
theorem okS_mem {t : Str} (h : okS t = true) : ∀ c ∈ t.cps.toList, c < 0x110000 := by
  intro c hc
  have h' : t.cps.all (· < 0x110000) = true := h
  rw [Array.all_eq_true_iff_forall_mem] at h'
  simpa using h' c (by simpa using hc)
theorem cut_from {α : Type} (xs : List α) (k : Nat) : DL.cutD xs (some (k : Int)) none = xs.drop k := by
  unfold DL.cutD
  rw [HT.sIx_nat, HT.sIx_none]
  by_cases h : k ≤ xs.length
  · rw [Nat.min_eq_left h]
    exact List.take_of_length_le (by simp)
  · rw [Nat.min_eq_right (by omega)]
    simp
    omega
theorem cut_to {α : Type} (xs : List α) (k : Nat) : DL.cutD xs none (some (k : Int)) = xs.take k := by
  unfold DL.cutD
  rw [HT.sIx_nat, HT.sIx_none, List.drop_zero, Nat.sub_zero]
  by_cases h : k ≤ xs.length
  · rw [Nat.min_eq_left h]
  · rw [Nat.min_eq_right (by omega), List.take_length, List.take_of_length_le (by omega)]
theorem strsD_map (xs : List Str) : strsD (xs.map fun x => T.d (.str x)) = some xs := by
  induction xs with
  | nil => rfl
  | cons x r ih => simp [strsD, ih]
theorem atI_get {α : Type} {xs : List α} {i : Int} {a : α} (h0 : 0 ≤ i) (h : xs[i.toNat]? = some a) : atI xs i = some a := by
  obtain ⟨n, rfl⟩ := Int.eq_ofNat_of_zero_le h0
  have hn : n < xs.length := by simpa using (List.getElem?_eq_some_iff.mp h).1
  rw [atI_nat hn]
  simpa using h
theorem range_split {n a : Nat} {pre post : List Nat} (h : pre ++ a :: post = List.range n) : pre = List.range a ∧ a < n := by
  have h1 : pre.length < n := by
    have := congrArg List.length h
    simp at this
    omega
  have h2 : (List.range n)[pre.length]? = some a := by rw [← h]; simp
  rw [List.getElem?_range h1] at h2
  have h3 : pre.length = a := Option.some.inj h2
  refine ⟨?_, by omega⟩
  have h4 := congrArg (List.take pre.length) h
  rw [List.take_append_of_le_length (Nat.le_refl _), List.take_length, List.take_range, h3, Nat.min_eq_left (by omega)] at h4
  exact h4
theorem eraseIdx_map {α β : Type} (f : α → β) : ∀ (l : List α) (j : Nat), (l.map f).eraseIdx j = (l.eraseIdx j).map f
  | [], _ => rfl
  | a :: l, 0 => rfl
  | a :: l, j + 1 => by simp [List.eraseIdx, eraseIdx_map f l j]
/-! ### loops -/
/-- what leaves a law's def -/
def CXA (P : Program) : CXT := fun outer H s E u s' => ∃ w, L2.CX P w outer H s E u s'
theorem fnOk_any {P : Program} {w : World} {K : PySem.W.Frag} {mg : Str → Option Value} {base : Heap} {k : Nat} {f : Addr} {fd : FuncData} {ps : List Str} {sp : Sp} (F : FnOk P w K mg base (L2.CX P w) k f fd ps sp) : FnOk P w K mg base (CXA P) k f fd ps sp :=
  ⟨F.len, fun A outer s H args us vs Q E hr he hb r h => codeAny_mono (F.run A outer s H args us vs Q E hr he hb r h) fun r s' z => by
    rcases r with e | (v | _ | _ | _)
    · exact ⟨w, z⟩
    · exact z
    · exact z
    · exact z
    · exact z⟩
theorem cxa_false {P : Program} {outer : List Env} {H : Hp} {s : Shared} {e : Value} {s' : Shared} (z : CXA P outer H s (fun _ _ _ => False) e s') : False := by
  obtain ⟨_, _, _, _, _, _, _, _, _, _, _, _, _, q⟩ := z
  exact q
end DL

namespace DL
open PySem L2
/-! ### dicts -/
section
variable {β : Type}
def valA (kvs : List (Key × β)) (k : Key) : Option β := (kvs.find? fun kv => decide (kv.1 = k)).map (·.2)
def putA (kvs : List (Key × β)) (k : Key) (v : β) : List (Key × β) := if (kvs.any fun kv => decide (kv.1 = k)) = true then kvs.map (fun kv => if kv.1 = k then (kv.1, v) else kv) else kvs ++ [(k, v)]
def mergeA (kvs more : List (Key × β)) : List (Key × β) := more.foldl (fun acc kv => putA acc kv.1 kv.2) kvs
end
section
variable {K : PySem.W.Frag} {m : List Addr} {G H : Hp} {ce : Ce}
theorem tk_val {k : Key} : ∀ {kvs : List (Key × T)} {ws : List (Key × V)}, RepTK K m G kvs ws → (∀ t, valA kvs k = some t → ∃ v, valV ws k = some v ∧ RepT K m G t v) ∧ (valA kvs k = none → valV ws k = none)
  | [], ws, r => by
    have e : ws = [] := r
    subst e
    exact ⟨fun t h => (by cases h), fun _ => rfl⟩
  | (k', d) :: ds, ws, r => by
    obtain ⟨v, r', e, rv, rr⟩ := r
    subst e
    by_cases q : k' = k
    · have e1 : valA ((k', d) :: ds) k = some d := by simp [valA, List.find?_cons, q]
      refine ⟨fun t h => ⟨v, valV_pos q, ?_⟩, fun h => ?_⟩
      · rw [e1] at h; cases h; exact rv
      · rw [e1] at h; cases h
    · have e1 : valA ((k', d) :: ds) k = valA ds k := by simp [valA, List.find?_cons, q]
      rw [e1, valV_neg (p := (k', v)) q]
      exact tk_val rr
theorem tk_any {k : Key} : ∀ {kvs : List (Key × T)} {ws : List (Key × V)}, RepTK K m G kvs ws → (ws.any fun kv => decide (kv.1 = k)) = (kvs.any fun kv => decide (kv.1 = k))
  | [], ws, r => by
    have e : ws = [] := r
    subst e; rfl
  | (k', d) :: ds, ws, r => by
    obtain ⟨v, r', e, rv, rr⟩ := r
    subst e; simp [tk_any rr]
theorem tk_map {k : Key} {t : T} {u : V} (ru : RepT K m G t u) : ∀ {kvs : List (Key × T)} {ws : List (Key × V)}, RepTK K m G kvs ws → RepTK K m G (kvs.map fun kv => if kv.1 = k then (kv.1, t) else kv) (ws.map fun kv => if kv.1 = k then (kv.1, u) else kv)
  | [], ws, r => by
    have e : ws = [] := r
    subst e; exact rfl
  | (k', d) :: ds, ws, r => by
    obtain ⟨v, r', e, rv, rr⟩ := r
    subst e
    rw [List.map_cons, List.map_cons]
    by_cases q : k' = k
    · rw [if_pos q, if_pos q]
      exact ⟨u, _, rfl, ru, tk_map ru rr⟩
    · rw [if_neg q, if_neg q]
      exact ⟨v, _, rfl, rv, tk_map ru rr⟩
theorem tk_snoc {k : Key} {t : T} {u : V} (ru : RepT K m G t u) : ∀ {kvs : List (Key × T)} {ws : List (Key × V)}, RepTK K m G kvs ws → RepTK K m G (kvs ++ [(k, t)]) (ws ++ [(k, u)])
  | [], ws, r => by
    have e : ws = [] := r
    subst e; exact ⟨u, [], rfl, ru, rfl⟩
  | (k', d) :: ds, ws, r => by
    obtain ⟨v, r', e, rv, rr⟩ := r
    subst e; exact ⟨v, _, rfl, rv, tk_snoc ru rr⟩
theorem tk_put {k : Key} {t : T} {u : V} (ru : RepT K m G t u) {kvs : List (Key × T)} {ws : List (Key × V)} (r : RepTK K m G kvs ws) : RepTK K m G (putA kvs k t) (putK ws k u) := by
  unfold DL.putA putK
  rw [tk_any r]
  split
  · exact tk_map ru r
  · exact tk_snoc ru r
theorem tk_merge : ∀ {more : List (Key × T)} {ns : List (Key × V)} {kvs : List (Key × T)} {ws : List (Key × V)}, RepTK K m G more ns → RepTK K m G kvs ws → RepTK K m G (mergeA kvs more) (mergeK ws ns)
  | [], ns, _, _, r, q => by
    have e : ns = [] := r
    subst e; exact q
  | (k, d) :: ds, ns, kvs, ws, r, q => by
    obtain ⟨v, r', e, rv, rr⟩ := r
    subst e
    show RepTK K m G (mergeA (putA kvs k d) ds) (mergeK (putK ws k v) r')
    exact tk_merge rr (tk_put rv q)
def keyT : T → Option Key
  | .d (.int i) => some (.inl i)
  | .d (.str x) => some (.inr x)
  | _ => none
theorem keyT_ok {t : T} {v : V} {k : Key} (r : RepT K m G t v) (h : keyT t = some k) : v = kV k := by
  unfold keyT at h
  split at h
  · cases h; exact r
  · cases h; exact r
  · cases h
def dicOf (ce : Ce) : T → Option (List (Key × T))
  | .d (.dic kvs) => some (kvs.map fun p => (p.1, .d p.2))
  | .cel k => match ce[k]? with
    | some (.dic kvs) => some kvs
    | _ => none
  | _ => none
theorem toTKk : ∀ {fs : List (Key × D)} {ws : List (Key × V)}, RepK K G fs ws → RepTK K m G (fs.map fun p => (p.1, T.d p.2)) ws
  | [], _, h => h
  | (k, d) :: ds, _, ⟨v, r, e, h, hr⟩ => ⟨v, r, e, h, toTKk hr⟩
theorem dicOf_ok (R : RelS K wd H ce G m) {t : T} {v : V} {kvs : List (Key × T)} (r : RepT K m G t v) (h : dicOf ce t = some kvs) : ∃ a ws, v = .ref a ∧ Rd H a (.dK ws) ∧ RepTK K m G kvs ws := by
  unfold dicOf at h
  split at h
  · cases h
    obtain ⟨a, ws, rfl, hg, rk⟩ := r
    refine ⟨a, ws, rfl, ?_, toTKk rk⟩
    rcases R.gh _ _ hg with z | ⟨_, o, z⟩
    · exact .inl z
    · exact .inr ⟨o, z⟩
  · split at h
    · next xs e =>
      cases h
      obtain ⟨a, hm, rfl⟩ := r
      obtain ⟨ws, hv, r⟩ := R.cel _ a _ hm e
      exact ⟨a, ws, rfl, .inl hv, r⟩
    · cases h
  · cases h
end
section
variable {X : Cx} {e a b c : Expr} {ua ub uc : UE} {us : US} {u : UA} {pos p : Pos}
/-- {} that will be filled: a cell -/
def uDNew : UE := fun _ ce Q _ => Q (.cel ce.length) (ce ++ [.dic []])
theorem de_dnew : DE X (.Dict [] [] pos) uDNew := by
  refine ⟨fun _ => tDNewK, fun _ _ => pe_dnewK, fun W σ H sl ce G m Qd Ed Qv R w h k => ?_⟩
  intro p hp
  obtain ⟨R2, s2⟩ := R.toRelS.cell (o := .dK []) (c := .dic []) hp ⟨[], upd_same, rfl⟩
  exact k (.cel ce.length) _ _ _ _ _ (R.step s2 R2) s2 ⟨p, by rw [← R.len]; exact snoc_last, rfl⟩ h
/-- d[k], k is there -/
def oDGet : O2 := fun x y ce Q => match dicOf ce x, keyT y with
  | some kvs, some k => match valA kvs k with
    | some t => Q t ce
    | none => False
  | _, _ => False
theorem de_dget (ha : DE X a ua) (hb : DE X b ub) (hu : X.A.units + 1 < cLine) (hs : NoSl b := by exact fun _ _ => rfl) : DE X (.Subscript a b pos) (uOp oDGet ua ub) := by
  obtain ⟨ta, pa, sa⟩ := ha.ex
  obtain ⟨tb, pb, sb⟩ := hb.ex
  refine ⟨fun W => tDGet (ta W) (tb W), fun W tk => pe_dget hu (pa W tk) (pb W tk) hs, fun W σ H sl ce G m Qd Ed Qv R w h k => ?_⟩
  refine sa W σ H sl ce G m _ Ed _ R w h fun x ce1 G1 m1 v H1 R1 s1 r1 h1 => ?_
  refine sb W σ H1 sl ce1 G1 m1 _ Ed _ R1 (w.step s1) h1 fun y ce2 G2 m2 z H2 R2 s2 r2 h2 => ?_
  unfold oDGet at h2
  split at h2
  · next kvs kk q1 q2 =>
    split at h2
    · next t q3 =>
      obtain ⟨ad, ws, rfl, hd, rk⟩ := dicOf_ok R2.toRelS (r1.mono s2.pre s2.gg) q1
      obtain ⟨vv, hv, rv⟩ := (tk_val (k := kk) rk).1 t q3
      have ez := keyT_ok r2 q2
      exact ⟨ad, vv, rfl, .inl ⟨ws, kk, hd, ez, hv.symm⟩, k t ce2 G2 m2 vv H2 R2 (s1.trans s2) rv h2⟩
    · exact h2.elim
  · exact h2.elim
/-- k in d, k not in d -/
def oDIn (neg : Bool) : O2 := fun x y ce Q => match dicOf ce y, keyT x with
  | some kvs, some k => Q (.d (.bl (neg != (valA kvs k).isSome))) ce
  | _, _ => False
theorem op_dnotin (hu : X.A.units + 1 < cLine) : OpR X (compareOp .NotIn) (fun x y H Q => ∃ a o, y = .ref a ∧ DGet H a x o ∧ Q (.bl (!o.isSome)) H) := by
  intro pins s σ H x y v u Q I rx ry h
  obtain ⟨a, o, rfl, g, q⟩ := h
  obtain rfl : u = Value.ref a := ry
  exact d_notIn hu I g rx fun s3 I3 => ⟨.bl (!o.isSome), H, I3, rfl, q⟩
theorem valA_isSome {K : PySem.W.Frag} {m : List Addr} {G : Hp} {kvs : List (Key × T)} {ws : List (Key × V)} (r : RepTK K m G kvs ws) (k : Key) : (valV ws k).isSome = (valA kvs k).isSome := by
  cases e : valA kvs k with
  | none => rw [(tk_val (k := k) r).2 e]; rfl
  | some t => obtain ⟨v, hv, _⟩ := (tk_val (k := k) r).1 t e; rw [hv]; rfl
theorem od_notinD (hu : X.A.units + 1 < cLine) : OpD X (compareOp .NotIn) (oDIn true) := by
  refine ⟨_, op_dnotin hu, fun H ce G m Qd Qv x y v u R rx ry h k => ?_⟩
  unfold oDIn at h
  split at h
  · next kvs kk q1 q2 =>
    obtain ⟨ad, ws, rfl, hd, rk⟩ := dicOf_ok R ry q1
    refine ⟨ad, valV ws kk, rfl, .inl ⟨ws, kk, hd, keyT_ok rx q2, rfl⟩, ?_⟩
    rw [valA_isSome rk]
    exact k (.d (.bl (!(valA kvs kk).isSome))) ce G m _ H R .refl rfl (by simpa using h)
  · exact h.elim
/-- d[k] = v, d a cell -/
def kDPut (t : T) (N : DEnds) (sl : Sl) (o i : T) (ce3 : Ce) : Prop := match o, keyT i with
  | .cel k, some kk => match ce3[k]? with
    | some (.dic kvs) => kvs.length < sizeLine ∧ N.nx sl (ce3.set k (.dic (putA kvs kk t)))
    | _ => False
  | _, _ => False
def uDPut (uo ui ua : UE) : US := fun N sl ce => ua sl ce (fun t ce1 => uo sl ce1 (fun o ce2 => ui sl ce2 (fun i ce3 => kDPut t N sl o i ce3) N.ex) N.ex) N.ex
theorem ds_dput {pos' : Pos} (ho : DE X a ua) (hi : DE X b ub) (he : DE X e uc) (hu : X.A.units + 1 < cLine) (hs : swapsWith e (some (.Subscript a b pos')) pos.line X.env = pure false := by rfl) : DS X (.Assign [.Subscript a b pos'] e pos) (uDPut ua ub uc) := by
  obtain ⟨ta, pa, sa⟩ := ho.ex
  obtain ⟨tb, pb, sb⟩ := hi.ex
  obtain ⟨tc, pc, sc⟩ := he.ex
  refine ⟨fun W => sDPut (ta W) (tb W) (tc W), fun W tk => ps_dput hu (pa W tk) (pb W tk) (pc W tk) hs, fun W σ H sl ce G m N D R w h cv => ?_⟩
  refine sc W σ H sl ce G m _ N.ex _ R w h fun t ce1 G1 m1 tv H1 R1 s1 r1 h1 => ?_
  refine sa W σ H1 sl ce1 G1 m1 _ N.ex _ R1 (w.step s1) h1 fun o ce2 G2 m2 ov H2 R2 s2 r2 h2 => ?_
  refine sb W σ H2 sl ce2 G2 m2 _ N.ex _ R2 (w.step (s1.trans s2)) h2 fun i ce3 G3 m3 iv H3 R3 s3 r3 h3 => ?_
  unfold kDPut at h3
  split at h3
  · next k kk q =>
    split at h3
    · next kvs qc =>
      obtain ⟨ad, hm, rfl⟩ := r2.mono s3.pre s3.gg
      obtain ⟨ws, hH, rk⟩ := R3.cel k ad _ hm qc
      have rt := r1.mono (s2.trans s3).pre (s2.trans s3).gg
      obtain ⟨R4, s4⟩ := R3.toRelS.write (o := .dK (putK ws kk tv)) (c := .dic (putA kvs kk t)) hm (by rw [qc]; exact fun z => nomatch z) ⟨_, upd_same, tk_put rt rk⟩
      refine ⟨ad, _, rfl, .inl ⟨ws, kk, hH, keyT_ok r3 q, by rw [rk.length]; exact h3.1, rfl⟩, ?_⟩
      exact cv.nx σ _ sl _ _ _ (R3.step s4 R4) (((s1.trans s2).trans s3).trans s4) h3.2
    · exact h3.elim
  · exact h3.elim
end
end DL

namespace DL
open PySem L2
/-! ### a dict that is walked is locked, for good -/
def tLockV (te : TE) : TE := fun σ H Q => te σ H fun x H1 => ∃ d kvs, x = .ref d ∧ ((H1 d = some (.dK kvs) ∧ ∀ od, Q (.ref d) (upd H1 d (.frz od (.dK kvs)))) ∨ ∃ o, H1 d = some (.frz o (.dK kvs)) ∧ Q (.ref d) H1)
theorem pe_lockV {X : Cx} {e : Expr} {te : TE} (he : PE X e te) : PE X e (tLockV te) := by
  refine ⟨fun pins s σ H Q I h => thn (he.run pins s σ H _ I h) fun u s1 hh => ?_⟩
  obtain ⟨x, H1, I1, rx, d, kvs, ex, q⟩ := hh
  subst ex
  rcases q with ⟨hd, q⟩ | ⟨o, hd, q⟩
  · obtain ⟨od, I2⟩ := I1.lock hd trivial
    exact ⟨.ref d, _, I2, rx, q od⟩
  · exact ⟨.ref d, H1, I1, rx, q⟩
section
variable {K : PySem.W.Frag} {m : List Addr} {G H : Hp} {ce : Ce}
theorem RelS.lockD (R : RelS K wd H ce G m) {d : Addr} {ws : List (Key × V)} (hg : G d = some (.dK ws)) (hH : H d = some (.dK ws)) (od : Obj) : RelS K wd (upd H d (.frz od (.dK ws))) ce G m ∧ Stp H m G (upd H d (.frz od (.dK ws))) m G := by
  refine ⟨⟨fun a u h => ?_, R.nd, R.len, R.out, fun k a c hm hc => ?_⟩, ⟨fun a o h na => ?_, List.prefix_refl m, fun a h => .inl h, Gg.refl G, upd_stay, fun _ _ h => .inl h, fun b ob ub hb hz => by rw [upd_ne (fun z => by subst z; rw [hH] at hz; cases hz)]; exact hz⟩⟩
  · by_cases e : a = d
    · subst e
      rw [hg] at h
      cases h
      exact .inr ⟨⟨ws, rfl⟩, od, upd_same⟩
    · rw [upd_ne e]; exact R.gh a u h
  · by_cases e : a = d
    · subst e
      have hgo : c = .gone := by
        cases c with
        | gone => rfl
        | lst _ => rw [R.out k a hm (by rw [hc]; exact fun z => nomatch z)] at hg; cases hg
        | dic _ => rw [R.out k a hm (by rw [hc]; exact fun z => nomatch z)] at hg; cases hg
        | ins _ _ => rw [R.out k a hm (by rw [hc]; exact fun z => nomatch z)] at hg; cases hg
        | tdic _ _ => rw [R.out k a hm (by rw [hc]; exact fun z => nomatch z)] at hg; cases hg
        | tab _ _ => rw [R.out k a hm (by rw [hc]; exact fun z => nomatch z)] at hg; cases hg
      subst hgo
      show upd H a _ a ≠ none
      rw [upd_same]; exact fun z => nomatch z
    · exact (R.cel k a c hm hc).mono (List.prefix_refl m) (Gg.refl G) (fun o h => by rw [upd_ne e]; exact h)
  · by_cases e : a = d
    · subst e
      rw [hH] at h
      cases h
      exact .inr ⟨ws, od, rfl, upd_same⟩
    · exact .inl (by rw [upd_ne e]; exact h)
def keyD : Key → D
  | .inl i => .int i
  | .inr x => .str x
theorem keyD_rep (k : Key) : Rep K G (keyD k) (kV k) := by cases k <;> rfl
theorem RepK.get {G : Hp} : ∀ {ds : List (Key × D)} {vs : List (Key × V)} {i : Nat} {k : Key} {v : V}, RepK K G ds vs → vs[i]? = some (k, v) → ∃ d, ds[i]? = some (k, d) ∧ Rep K G d v
  | [], vs, i, k, v, r, h => by
    have e : vs = [] := r
    subst e
    simp at h
  | (k', d) :: ds, vs, i, k, v, r, h => by
    obtain ⟨v', r', e, rv, rr⟩ := r
    subst e
    cases i with
    | zero => simp at h; obtain ⟨rfl, rfl⟩ := h; exact ⟨d, rfl, rv⟩
    | succ i => simp at h; obtain ⟨x, hx, rx⟩ := RepK.get rr h; exact ⟨x, by simpa using hx, rx⟩
theorem RepK.length' {G : Hp} : ∀ {ds : List (Key × D)} {vs : List (Key × V)}, RepK K G ds vs → vs.length = ds.length
  | [], vs, r => by
    have e : vs = [] := r
    subst e; rfl
  | (k', d) :: ds, vs, r => by
    obtain ⟨v', r', e, rv, rr⟩ := r
    subst e; simp [RepK.length' rr]
end
/-! ### for k in d, for v in d.values(), for k, v in d.items() -/
section
variable {X : Cx} {e tg : Expr} {ua : UE} {pos p : Pos}
def kDic (Ri : List (Key × D) → Ce → Prop) (x : T) (ce1 : Ce) : Prop := match x with
  | .d (.dic kvs) => Ri kvs ce1
  | _ => False
/-- e, a dict, locked: where it stands -/
theorem semLock {K : PySem.W.Frag} {ta : WX → TE} (sa : SemE K wd ta ua) (W : WX) (σ : St) (H : Hp) (sl : Sl) (ce : Ce) (G : Hp) (m : List Addr) (Ri : List (Key × D) → Ce → Prop) (Ed : Ex1) (Qv : VK) (R : Rel K wd σ H sl ce G m) (w : Wish K wd W H m G Ed)
    (h : ua sl ce (kDic Ri) Ed)
    (k : ∀ kvs ws d o ce' G' m' H', Rel K wd σ H' sl ce' G' m' → Stp H m G H' m' G' → G' d = some (.dK ws) → H' d = some (.frz o (.dK ws)) → RepK K G' kvs ws → Ri kvs ce' → Qv (.ref d) H') : tLockV (ta W) σ H Qv := by
  refine sa W σ H sl ce G m _ Ed _ R w h fun x ce1 G1 m1 v H1 R1 s1 r1 h1 => ?_
  unfold kDic at h1
  split at h1
  · next kvs =>
    obtain ⟨d, ws, rfl, hg, rk⟩ := r1
    refine ⟨d, ws, rfl, ?_⟩
    rcases R1.gh _ _ hg with z | ⟨_, o, z⟩
    · refine .inl ⟨z, fun od => ?_⟩
      obtain ⟨R2, s2⟩ := R1.toRelS.lockD hg z od
      exact k kvs ws d od ce1 G1 m1 _ (R1.step s2 R2) (s1.trans s2) hg upd_same rk h1
    · exact .inr ⟨o, z, k kvs ws d o ce1 G1 m1 H1 R1 s1 hg z rk h1⟩
  · exact h1.elim
def uiDK (ua : UE) : UI := fun sl ce Q E => ua sl ce (kDic fun kvs ce1 => Q (kvs.map fun (p : Key × D) => T.d (keyD p.1)) ce1) E
def uiDV (ua : UE) : UI := fun sl ce Q E => ua sl ce (kDic fun kvs ce1 => Q (kvs.map fun (p : Key × D) => T.d p.2) ce1) E
theorem di_dkeys (ha : DE X e ua) : DI X tg e (uiDK ua) := by
  obtain ⟨ta, pa, sa⟩ := ha.ex
  refine ⟨fun W => iKeys (tLockV (ta W)), fun W tk => pi_keys (pe_lockV (pa W tk)), fun W σ H sl ce G m Ri Ed R Rl w h k => ?_⟩
  refine semLock sa W σ H sl ce G m (fun (kvs : List (Key × D)) ce1 => Ri (kvs.map fun (p : Key × D) => T.d (keyD p.1)) ce1) Ed _ Rl w h fun kvs ws d o ce1 G1 m1 H1 R1 s1 hg hH rk h1 => ?_
  have nm : G1 d ≠ none := by rw [hg]; exact fun z => nomatch z
  refine ⟨d, o, rfl, .inl ⟨ws, hH, k _ (kvs.map fun (p : Key × D) => T.d (keyD p.1)) ce1 G1 m1 H1 R1 s1 ⟨fun H => H d = some (.frz o (.dK ws)), (fun i H x H' => H' = H ∧ ∃ k v, ws[i]? = some (k, v) ∧ x = kV k), ?_, fun H' ce' G' m' R fz g p => fz d o _ hH nm, fun i x H2 H3 ce2 G2 m2 R fz g p hi y => ?_⟩ h1⟩⟩
  · rw [List.length_map, ← rk.length']; exact walk_keys
  · obtain ⟨rfl, kk, v, hk, rfl⟩ := y
    obtain ⟨dd, hd, rd⟩ := rk.get hk
    exact ⟨G2, .d (keyD kk), R, .refl, by rw [List.getElem?_map, hd]; rfl, keyD_rep kk⟩
theorem di_dvalues {apos cpos : Pos} (ha : DE X e ua) (hbase : attributeBase e "values" X.env (eval e X.env) = eval e X.env := by rfl) (hline : (apos.endLine == cpos.line) = true := by rfl) : DI X tg (.Call (.Attribute e "values" apos) [] [] cpos) (uiDV ua) := by
  obtain ⟨ta, pa, sa⟩ := ha.ex
  refine ⟨fun W => iVals (tLockV (ta W)), fun W tk => pi_values (pe_lockV (pa W tk)) hbase hline, fun W σ H sl ce G m Ri Ed R Rl w h k => ?_⟩
  refine semLock sa W σ H sl ce G m (fun (kvs : List (Key × D)) ce1 => Ri (kvs.map fun (p : Key × D) => T.d p.2) ce1) Ed _ Rl w h fun kvs ws d o ce1 G1 m1 H1 R1 s1 hg hH rk h1 => ?_
  have nm : G1 d ≠ none := by rw [hg]; exact fun z => nomatch z
  refine ⟨d, o, ws, rfl, hH, k _ (kvs.map fun (p : Key × D) => T.d p.2) ce1 G1 m1 H1 R1 s1 ⟨fun H => H d = some (.frz o (.dK ws)), (fun i H x H' => H' = H ∧ ∃ k, ws[i]? = some (k, x)), ?_, fun H' ce' G' m' R fz g p => fz d o _ hH nm, fun i x H2 H3 ce2 G2 m2 R fz g p hi y => ?_⟩ h1⟩
  · rw [List.length_map, ← rk.length']; exact walk_values
  · obtain ⟨rfl, kk, hk⟩ := y
    obtain ⟨dd, hd, rd⟩ := rk.get hk
    exact ⟨G2, .d dd, R, .refl, by rw [List.getElem?_map, hd]; rfl, Rep.mono g _ _ rd⟩
end
end DL

namespace DL
open PySem L2
section
variable {X : Cx} {e a b c : Expr} {ua ub uc : UE} {u : UA} {pos p : Pos}
/-! ### d.get(k, x) -/
def kDGet2 (Q : T → Ce → Prop) (x y z : T) (ce : Ce) : Prop := match dicOf ce x, keyT y with
  | some kvs, some k => Q ((valA kvs k).getD z) ce
  | _, _ => False
def uDGet2 (ua ub uc : UE) : UE := fun sl ce Q E => ua sl ce (fun x ce1 => (dicOf ce1 x).isSome = true ∧ ub sl ce1 (fun y ce2 => uc sl ce2 (fun z ce3 => kDGet2 Q x y z ce3) E) E) E
theorem de_dget2 {apos cpos : Pos} (ha : DE X a ua) (hb : DE X b ub) (hc : DE X c uc) (hu : X.A.units + 1 < cLine) (mm : M2 X a "get" apos b c cpos := by exact ⟨rfl, rfl, rfl, rfl⟩) : DE X (.Call (.Attribute a "get" apos) [b, c] [] cpos) (uDGet2 ua ub uc) := by
  obtain ⟨ta, pa, sa⟩ := ha.ex
  obtain ⟨tb, pb, sb⟩ := hb.ex
  obtain ⟨tc, pc, sc⟩ := hc.ex
  refine ⟨fun W => tDGet2 (ta W) (tb W) (tc W), fun W tk => pe_dget2 hu (pa W tk) (pb W tk) (pc W tk) mm, fun W σ H sl ce G m Qd Ed Qv R w h k => ?_⟩
  refine sa W σ H sl ce G m _ Ed _ R w h fun x ce1 G1 m1 v H1 R1 s1 r1 h1 => ?_
  obtain ⟨hx, h1⟩ := h1
  obtain ⟨kv0, q0⟩ := Option.isSome_iff_exists.mp hx
  obtain ⟨ad, ws0, rfl, hd0, _⟩ := dicOf_ok R1.toRelS r1 q0
  refine ⟨ad, rfl, .inl ⟨ws0, hd0⟩, ?_⟩
  refine sb W σ H1 sl ce1 G1 m1 _ Ed _ R1 (w.step s1) h1 fun y ce2 G2 m2 yv H2 R2 s2 r2 h2 => ?_
  refine sc W σ H2 sl ce2 G2 m2 _ Ed _ R2 (w.step (s1.trans s2)) h2 fun z ce3 G3 m3 zv H3 R3 s3 r3 h3 => ?_
  unfold kDGet2 at h3
  split at h3
  · next kvs kk q1 q2 =>
    obtain ⟨ad', ws, ea, hd, rk⟩ := dicOf_ok R3.toRelS (r1.mono (s2.trans s3).pre (s2.trans s3).gg) q1
    cases ea
    refine ⟨valV ws kk, .inl ⟨ws, kk, hd, keyT_ok r2 q2, rfl⟩, ?_⟩
    cases e : valA kvs kk with
    | none =>
      rw [e] at h3
      rw [(tk_val (k := kk) rk).2 e]
      exact k z ce3 G3 m3 zv H3 R3 ((s1.trans s2).trans s3) r3 h3
    | some t =>
      rw [e] at h3
      obtain ⟨vv, hv, rv⟩ := (tk_val (k := kk) rk).1 t e
      rw [hv]
      exact k t ce3 G3 m3 vv H3 R3 ((s1.trans s2).trans s3) rv h3
  · exact h3.elim
/-! ### len(d) -/
def oLenD : OC := fun ts ce Q => match ts with
  | [t] => match dicOf ce t with
    | some kvs => Q (.d (.int kvs.length)) ce
    | none => False
  | _ => False
theorem call_lenR : CallR X (.builtin "len") (fun xs H Q => ∃ a kvs, xs = [V.ref a] ∧ Rd H a (.dK kvs) ∧ Q (.int kvs.length) H) := by
  intro pins s σ H xs us Q I r h
  obtain ⟨a, kvs, rfl, ha, q⟩ := h
  obtain ⟨u, rfl, ru⟩ := vals1 r
  cases ru
  exact d_len I ha fun t s' I' => ⟨.int kvs.length, H, I', ⟨t, rfl⟩, q⟩
theorem tk_len {K : PySem.W.Frag} {m : List Addr} {G : Hp} {κ : Type} : ∀ {kvs : List (κ × T)} {ws : List (κ × V)}, RepTK K m G kvs ws → ws.length = kvs.length
  | [], ws, r => by
    have e : ws = [] := r
    subst e; rfl
  | (_, _) :: _, ws, r => by
    obtain ⟨v, r', e, rv, rr⟩ := r
    subst e; simp [tk_len rr]
theorem cd_lenD : CaD X (.builtin "len") oLenD := by
  refine ⟨_, call_lenR, fun H ce G m Qd Qv ts vs R r h k => ?_⟩
  unfold oLenD at h
  split at h
  · next t =>
    split at h
    · next kvs q =>
      obtain ⟨v, rfl, rv⟩ := RepTL.one' r
      obtain ⟨ad, ws, rfl, hd, rk⟩ := dicOf_ok R rv q
      refine ⟨ad, ws, rfl, hd, ?_⟩
      rw [tk_len rk]
      exact k (.d (.int kvs.length)) ce G m _ H R .refl rfl h
    · exact h.elim
  · exact h.elim
/-! ### dict(list of pairs) -/
def pairD : D → Option (Key × D)
  | .tup [.int i, d] => some (.inl i, d)
  | .tup [.str x, d] => some (.inr x, d)
  | _ => none
def pairsD : List D → Option (List (Key × D))
  | [] => some []
  | d :: r => match pairD d, pairsD r with
    | some p, some ps => some (p :: ps)
    | _, _ => none
theorem pairD_ok {K : PySem.W.Frag} {G : Hp} {d : D} {v : V} {kd : Key × D} (r : Rep K G d v) (h : pairD d = some kd) : ∃ a w, v = .ref a ∧ SqT K G a [kV kd.1, w] ∧ Rep K G kd.2 w := by
  unfold pairD at h
  split at h
  · cases h
    obtain ⟨a, vs, rfl, hs, v1, r1, e1, q1, v2, r2, e2, q2, e3⟩ := r
    subst e1 e2 e3
    cases q1
    exact ⟨a, v2, rfl, hs, q2⟩
  · cases h
    obtain ⟨a, vs, rfl, hs, v1, r1, e1, q1, v2, r2, e2, q2, e3⟩ := r
    subst e1 e2 e3
    cases q1
    exact ⟨a, v2, rfl, hs, q2⟩
  · cases h
theorem pairsD_ok {K : PySem.W.Frag} {G H : Hp} (g : Gs G H) : ∀ {ds : List D} {vs : List V} {kds : List (Key × D)}, RepL K G ds vs → pairsD ds = some kds → ∃ (ps : List Addr) (kvs : List (Key × V)), vs = ps.map V.ref ∧ Paired (fun p kv => SqT K H p [kV kv.1, kv.2]) ps kvs ∧ RepK K G kds kvs
  | [], vs, kds, r, h => by
    have e : vs = [] := r
    subst e
    cases h
    exact ⟨[], [], rfl, .nil, rfl⟩
  | d :: ds, vs, kds, r, h => by
    obtain ⟨v, r', e, rv, rr⟩ := r
    subst e
    unfold pairsD at h
    split at h
    · next pp pps q1 q2 =>
      cases h
      obtain ⟨a, w, rfl, hs, rw'⟩ := pairD_ok rv q1
      obtain ⟨ps, kvs, e1, e2, e3⟩ := pairsD_ok g rr q2
      subst e1
      exact ⟨a :: ps, (pp.1, w) :: kvs, rfl, .cons (g.rdT hs) e2, ⟨w, kvs, rfl, rw', e3⟩⟩
    · cases h
theorem toRepK {K : PySem.W.Frag} {m : List Addr} {G : Hp} : ∀ {kvs : List (Key × D)} {ws : List (Key × V)}, RepTK K m G (kvs.map fun (p : Key × D) => (p.1, T.d p.2)) ws → RepK K G kvs ws
  | [], _, h => h
  | (k, d) :: ds, _, ⟨v, r, e, h, hr⟩ => ⟨v, r, e, h, toRepK hr⟩
theorem putA_map (k : Key) (d : D) (kvs : List (Key × D)) : (putA kvs k d).map (fun (p : Key × D) => (p.1, T.d p.2)) = putA (kvs.map fun (p : Key × D) => (p.1, T.d p.2)) k (T.d d) := by
  unfold DL.putA
  have e : ((kvs.map fun (p : Key × D) => (p.1, T.d p.2)).any fun kv => decide (kv.1 = k)) = (kvs.any fun kv => decide (kv.1 = k)) := by rw [List.any_map]; rfl
  rw [e]
  split
  · rw [List.map_map, List.map_map]
    congr 1
    funext kv
    show _ = _
    simp only [Function.comp]
    split <;> rfl
  · simp
theorem mergeA_map : ∀ (more kvs : List (Key × D)), (mergeA kvs more).map (fun (p : Key × D) => (p.1, T.d p.2)) = mergeA (kvs.map fun (p : Key × D) => (p.1, T.d p.2)) (more.map fun (p : Key × D) => (p.1, T.d p.2))
  | [], _ => rfl
  | (k, d) :: r, kvs => by
    show (mergeA (putA kvs k d) r).map _ = mergeA (putA _ k (T.d d)) _
    rw [mergeA_map r (putA kvs k d), putA_map]
theorem repK_merge {K : PySem.W.Frag} {G : Hp} {kvs : List (Key × D)} {ws : List (Key × V)} (r : RepK K G kvs ws) : RepK K G (mergeA [] kvs) (mergeK [] ws) := by
  have h := tk_merge (m := []) (toTKk (m := []) r) (show RepTK K [] G [] [] from rfl)
  refine toRepK (m := []) ?_
  rw [mergeA_map]
  exact h
/-- what stays as it is -/
def oDict : OC := fun ts ce Q => match ts with
  | [.d (.lst ds)] => match pairsD ds with
    | some kds => Q (.d (.dic (mergeA [] kds))) ce
    | none => False
  | _ => False
theorem cd_dict (hc : X.calm = true) : CaD X (.type "dict") oDict := by
  refine ⟨_, call_dictP hc, fun H ce G m Qd Qv ts vs R r h k => ?_⟩
  unfold oDict at h
  split at h
  · next ds =>
    split at h
    · next kds q =>
      obtain ⟨v, rfl, rv⟩ := RepTL.one' r
      obtain ⟨a, vs, rfl, hs, rl⟩ := rv
      obtain ⟨ps, kvs, e1, e2, e3⟩ := pairsD_ok R.gh rl q
      subst e1
      refine ⟨a, ps, kvs, rfl, R.gh.rdL hs, e2, fun p hp => ?_⟩
      obtain ⟨R2, s2⟩ := R.laid (.dK (mergeK [] kvs)) hp
      exact k (.d (.dic (mergeA [] kds))) ce _ m _ _ R2 s2 ⟨p, _, rfl, upd_same, RepK.mono s2.gg _ _ (repK_merge e3)⟩ h
    · exact h.elim
  · exact h.elim
end
end DL

namespace DL
open PySem PySem.Spec PyProof.Rows L2
section
variable {X : Cx}
/-! ### sorted(list of texts) -/
def strD : List D → Option (List Str)
  | [] => some []
  | .str x :: r => match strD r with
    | some xs => some (x :: xs)
    | none => none
  | _ => none
theorem strD_ok {K : PySem.W.Frag} {G : Hp} : ∀ {ds : List D} {vs : List V} {xs : List Str}, RepL K G ds vs → strD ds = some xs → vs = xs.map V.str
  | [], vs, xs, r, h => by
    have e : vs = [] := r
    subst e; cases h; rfl
  | d :: ds, vs, xs, r, h => by
    obtain ⟨v, t, e, rv, rs⟩ := r
    unfold strD at h
    split at h
    · next e0 => cases e0
    · next x r' e0 =>
      cases e0
      split at h
      · next ys q => cases h; cases rv; rw [e, strD_ok rs q]; rfl
      · cases h
    · cases h
theorem repL_strs {K : PySem.W.Frag} {G : Hp} : ∀ xs : List Str, RepL K G (xs.map D.str) (xs.map V.str)
  | [] => rfl
  | x :: r => ⟨_, _, rfl, rfl, repL_strs r⟩
def oSortS : OC := fun ts ce Q => match ts with
  | [.d (.lst ds)] => match strD ds with
    | some xs => xs.length < 64 ∧ ∀ ys : List Str, ys.Perm xs → sortedS ys = true → Q (.d (.lst (ys.map .str))) ce
    | none => False
  | _ => False
theorem cd_sortS : CaD X (.builtin "sorted") oSortS := by
  refine ⟨_, cr_sortedS, fun H ce G m Qd Qv ts vs R r h k => ?_⟩
  unfold oSortS at h
  split at h
  · next ds =>
    split at h
    · next xs q =>
      obtain ⟨v, rfl, rv⟩ := RepTL.one' r
      obtain ⟨a, vs, rfl, hs, rl⟩ := rv
      have e1 := strD_ok rl q
      subst e1
      refine ⟨a, xs, rfl, R.gh.rdL hs, h.1, fun ys p hp hs' hn => ?_⟩
      obtain ⟨R2, s2⟩ := R.laid (.lst (ys.map V.str)) hn
      exact k (.d (.lst (ys.map .str))) ce _ m _ _ R2 s2 ⟨p, _, rfl, SqL.of upd_same, repL_strs ys⟩ (h.2 ys hp hs')
    · exact h.elim
  · exact h.elim
end
end DL

namespace DL
open PySem L2
/-! ### runs over trees, as functions -/
/-- simp stays out of what is held: nothing but a mark -/
class Hold {α : Sort u} (a : α) : Type where
instance instHold {α : Sort u} (a : α) : Hold a := ⟨⟩
inductive R (α : Type) where
  | ok (a : α) (ce : Ce)
  | ex (x : Exc) (ce : Ce)
  | bad
section
variable {α β : Type}
def R.bind (r : R α) (k : α → Ce → R β) [Hold k] : R β := match r with
  | .ok a ce => k a ce
  | .ex x ce => .ex x ce
  | .bad => .bad
@[simp] theorem R.bind_ok (a : α) (ce : Ce) (k : α → Ce → R β) : (R.ok a ce).bind k = k a ce := rfl
@[simp] theorem R.bind_ex (x : Exc) (ce : Ce) (k : α → Ce → R β) : (R.ex x ce : R α).bind k = .ex x ce := rfl
def R.noEx (r : R α) : R α := match r with
  | .ok a ce => .ok a ce
  | _ => .bad
@[simp] theorem R.noEx_ok (a : α) (ce : Ce) : (R.ok a ce).noEx = .ok a ce := rfl
def R.opt (o : Option α) (k : α → R β) [Hold k] : R β := match o with
  | some a => k a
  | none => .bad
@[simp] theorem R.opt_some (a : α) (k : α → R β) : R.opt (some a) k = k a := rfl
open Classical in
noncomputable def R.chk (p : Prop) (r : R α) [Hold r] : R α := if p then r else .bad
theorem R.chk_of {p : Prop} {r : R α} (h : p) : R.chk p r = r := if_pos h
def R.cnd (b : Bool) (x y : R α) [Hold x] [Hold y] : R α := match b with
  | true => x
  | false => y
@[simp] theorem R.cnd_true (x y : R α) : R.cnd true x y = x := rfl
@[simp] theorem R.cnd_false (x y : R α) : R.cnd false x y = y := rfl
def R.onB (t : T) (k : Bool → R α) [Hold k] : R α := match t with
  | .d (.bl b) => k b
  | _ => .bad
@[simp] theorem R.onB_bl (b : Bool) (k : Bool → R α) : R.onB (.d (.bl b)) k = k b := rfl
def R.onI (t : T) (k : Int → R α) [Hold k] : R α := match t with
  | .d (.int b) => k b
  | _ => .bad
@[simp] theorem R.onI_int (b : Int) (k : Int → R α) : R.onI (.d (.int b)) k = k b := rfl
def R.wp (r : R α) (Q : α → Ce → Prop) (E : Exc → Ce → Prop) : Prop := match r with
  | .ok a ce => Q a ce
  | .ex x ce => E x ce
  | .bad => False
theorem R.wp_bind {r : R α} {k : α → Ce → R β} {Q : β → Ce → Prop} {E : Exc → Ce → Prop} : (r.bind k).wp Q E = r.wp (fun a ce => (k a ce).wp Q E) E := by cases r <;> rfl
theorem R.wp_noEx {r : R α} {Q : α → Ce → Prop} {E E' : Exc → Ce → Prop} (h : r.noEx.wp Q E) : r.wp Q E' := by
  cases r with
  | ok a ce => exact h
  | ex x ce => exact h.elim
  | bad => exact h
theorem R.wp_opt {o : Option α} {k : α → R β} {Q : β → Ce → Prop} {E : Exc → Ce → Prop} (h : (R.opt o k).wp Q E) : ∃ a, o = some a ∧ (k a).wp Q E := by
  cases o with
  | none => exact h.elim
  | some a => exact ⟨a, rfl, h⟩
theorem R.wp_chk {p : Prop} {r : R α} {Q : α → Ce → Prop} {E : Exc → Ce → Prop} (h : (R.chk p r).wp Q E) : p ∧ r.wp Q E := by
  unfold R.chk at h
  split at h
  · next hp => exact ⟨hp, h⟩
  · exact h.elim
theorem R.wp_onB {t : T} {k : Bool → R α} {Q : α → Ce → Prop} {E : Exc → Ce → Prop} (h : (R.onB t k).wp Q E) : ∃ b, t = .d (.bl b) ∧ (k b).wp Q E := by
  unfold R.onB at h
  split at h
  · next b => exact ⟨b, rfl, h⟩
  · exact h.elim
theorem R.wp_onI {t : T} {k : Int → R α} {Q : α → Ce → Prop} {E : Exc → Ce → Prop} (h : (R.onI t k).wp Q E) : ∃ b, t = .d (.int b) ∧ (k b).wp Q E := by
  unfold R.onI at h
  split at h
  · next b => exact ⟨b, rfl, h⟩
  · exact h.elim
theorem R.wp_mono {r : R α} {Q Q' : α → Ce → Prop} {E E' : Exc → Ce → Prop} (h : r.wp Q E) (hq : ∀ a ce, Q a ce → Q' a ce) (he : ∀ x ce, E x ce → E' x ce) : r.wp Q' E' := by
  cases r with
  | ok a ce => exact hq a ce h
  | ex x ce => exact he x ce h
  | bad => exact h
end
abbrev MG (α : Type) := Sl → Ce → R α
abbrev M := MG T
abbrev MT := MG Bool
abbrev MA := MG (List T)
def wV {α : Type} (m : MG α) : Sl → Ce → (α → Ce → Prop) → Ex1 → Prop := fun sl ce Q E => (m sl ce).wp Q fun x ce' => E x sl ce'
section
variable {X : Cx} {e a b c : Expr} {es : List Expr} {pos p p2 : Pos}
theorem DE.weak {u u' : UE} (h : DE X e u) (hw : ∀ sl ce Q E, u' sl ce Q E → u sl ce Q E) : DE X e u' := by
  obtain ⟨t, p, s⟩ := h.ex
  exact ⟨t, p, fun W σ H sl ce G m Qd Ed Qv R w h k => s W σ H sl ce G m Qd Ed Qv R w (hw _ _ _ _ h) k⟩
theorem DT.weak {u u' : UT} (h : DT X e u) (hw : ∀ sl ce Q E, u' sl ce Q E → u sl ce Q E) : DT X e u' := by
  obtain ⟨t, p, s⟩ := h.ex
  exact ⟨t, p, fun W σ H sl ce G m Qd Ed Qv R w h k => s W σ H sl ce G m Qd Ed Qv R w (hw _ _ _ _ h) k⟩
theorem DTs.weak {u u' : UT} (h : DTs X es u) (hw : ∀ sl ce Q E, u' sl ce Q E → u sl ce Q E) : DTs X es u' := by
  obtain ⟨t, p, s⟩ := h.ex
  exact ⟨t, p, fun W σ H sl ce G m Qd Ed Qv R w h k => s W σ H sl ce G m Qd Ed Qv R w (hw _ _ _ _ h) k⟩
theorem DW.weak {u u' : UT} (h : DW X e u) (hw : ∀ sl ce Q E, u' sl ce Q E → u sl ce Q E) : DW X e u' := by
  obtain ⟨t, p, s⟩ := h.ex
  exact ⟨t, p, fun W σ H sl ce G m Qd Ed Qv R w h k => s W σ H sl ce G m Qd Ed Qv R w (hw _ _ _ _ h) k⟩
theorem DA.weak {u u' : UA} (h : DA X es u) (hw : ∀ sl ce Q E, u' sl ce Q E → u sl ce Q E) : DA X es u' := by
  obtain ⟨t, p, s⟩ := h.ex
  exact ⟨t, p, fun W σ H sl ce G m Qd Ed Qv R w h k => s W σ H sl ce G m Qd Ed Qv R w (hw _ _ _ _ h) k⟩
theorem DO.weak {o : Option Expr} {u u' : UO} (h : DO X o u) (hw : ∀ sl ce Q E, u' sl ce Q E → u sl ce Q E) : DO X o u' := by
  obtain ⟨t, p, s⟩ := h.ex
  exact ⟨t, p, fun W σ H sl ce G m Qd Ed Qv R w h k => s W σ H sl ce G m Qd Ed Qv R w (hw _ _ _ _ h) k⟩
theorem DK.weak {kws : List Keyword} {u u' : UA} (h : DK X kws u) (hw : ∀ sl ce Q E, u' sl ce Q E → u sl ce Q E) : DK X kws u' := by
  obtain ⟨t, p, s⟩ := h.ex
  exact ⟨t, p, fun W σ H sl ce G m Qd Ed Qv R w h k => s W σ H sl ce G m Qd Ed Qv R w (hw _ _ _ _ h) k⟩
theorem DI.weak {tg : Expr} {u u' : UI} (h : DI X tg e u) (hw : ∀ sl ce Q E, u' sl ce Q E → u sl ce Q E) : DI X tg e u' := by
  obtain ⟨t, p, s⟩ := h.ex
  exact ⟨t, p, fun W σ H sl ce G m Qd Ed Qv R w h k => s W σ H sl ce G m Qd Ed Qv R w (hw _ _ _ _ h) k⟩
structure EM (X : Cx) (e : Expr) (m : M) : Prop where
  de : DE X e (wV m)
structure TM (X : Cx) (e : Expr) (m : MT) : Prop where
  dt : DT X e (wV m)
structure WM (X : Cx) (e : Expr) (m : MT) : Prop where
  dw : DW X e (wV m)
structure AM (X : Cx) (es : List Expr) (m : MA) : Prop where
  da : DA X es (wV m)
structure OM (X : Cx) (o : Option Expr) (m : MG (Option Int)) : Prop where
  do_ : DO X o (wV m)
structure IM (X : Cx) (tg e : Expr) (m : MA) : Prop where
  di : DI X tg e (wV m)
structure KM (X : Cx) (kws : List Keyword) (m : MA) : Prop where
  dk : DK X kws (wV m)
structure TsM (X : Cx) (es : List Expr) (m : MT) : Prop where
  dts : DTs X es (wV m)
/-! ### names and constants -/
def sg : Sl → Nat → Option T
  | [], _ => none
  | x :: _, 0 => x
  | _ :: r, n + 1 => sg r n
@[simp] theorem sg_zero (x : Option T) (r : Sl) : sg (x :: r) 0 = x := rfl
@[simp] theorem sg_succ (x : Option T) (r : Sl) (n : Nat) : sg (x :: r) (n + 1) = sg r n := rfl
theorem sg_get : ∀ {sl : Sl} {i : Nat} {t : T}, sg sl i = some t → sl[i]? = some (some t)
  | x :: r, 0, t, h => by cases h; rfl
  | x :: r, n + 1, t, h => by simpa using sg_get (sl := r) (i := n) h
def mVar (i : Nat) : M := fun sl ce => R.opt (sg sl i) fun t => .ok t ce
theorem em_var (i : Nat) {x : Str} (hN : X.N[i]? = some x := by rfl) (hv : Vis X.env.scope x := by first | exact Or.inl rfl | exact Or.inr (Or.inl rfl) | exact Or.inr (Or.inr rfl)) (hd : (x == ("__debug__" : Str)) = false := by decide) (hcd : (x == ("__classdict__" : Str)) = false := by decide) : EM X (.Name x pos) (mVar i) :=
  ⟨(de_var i hN hv hd hcd).weak fun sl ce Q E h => by
    obtain ⟨t, e, h⟩ := R.wp_opt h
    unfold uVar
    rw [sg_get e]
    exact h⟩
def mC (d : D) : M := fun _ ce => .ok (.d d) ce
theorem EM.of_C {d : D} (h : DE X e (uC d)) : EM X e (mC d) := ⟨h.weak fun _ _ _ _ h => h⟩
theorem em_int {i : Int} {j : Nat} : EM X (.Constant (.int i) j pos) (mC (.int i)) := .of_C de_int
theorem em_bl {i : Bool} {j : Nat} : EM X (.Constant (.bool i) j pos) (mC (.bl i)) := .of_C de_bl
theorem em_non {j : Nat} : EM X (.Constant .none j pos) (mC .non) := .of_C de_non
theorem em_str {i : Str} {j : Nat} : EM X (.Constant (.str i) j pos) (mC (.str i)) := .of_C de_str
theorem em_gint {x : Str} {i : Int} (hm : ∃ t, X.mg x = some (.int i t)) (hg : Gl X x := by rfl) (hd : (x == ("__debug__" : Str)) = false := by decide) : EM X (.Name x pos) (mC (.int i)) := .of_C (de_gint hm hg hd)
theorem em_gstr {x : Str} {i : Str} (hm : ∃ t, X.mg x = some (.str i t)) (hg : Gl X x := by rfl) (hd : (x == ("__debug__" : Str)) = false := by decide) : EM X (.Name x pos) (mC (.str i)) := .of_C (de_gstr hm hg hd)
theorem em_gref {x : Str} {i : Addr} (hm : X.mg x = some (.ref i)) (hg : Gl X x := by rfl) (hd : (x == ("__debug__" : Str)) = false := by decide) : EM X (.Name x pos) (mC (.raw (.ref i))) := .of_C (de_gref hm hg hd)
theorem em_ty {x : Str} {T : String} (hm : X.mg x = none) (hv : bootBuiltins x = some (.type T)) (hg : Gl X x := by rfl) (hn : x ≠ "__name__" := by decide) (hd : (x == ("__debug__" : Str)) = false := by decide) : EM X (.Name x pos) (mC (.raw (.ty T))) := .of_C (de_ty hm hv hg hn hd)
def mNever : M := fun _ _ => .bad
theorem em_never : EM X e mNever := ⟨de_never.weak fun _ _ _ _ h => h.elim⟩
/-! ### arguments, tuples, lists -/
def mNil : MA := fun _ ce => .ok [] ce
def mCons (a : M) (r : MA) : MA := fun sl ce => (a sl ce).bind fun x ce1 => (r sl ce1).bind fun xs ce2 => .ok (x :: xs) ce2
theorem am_nil : AM X [] mNil := ⟨da_nil.weak fun _ _ _ _ h => h⟩
theorem am_cons {ma : M} {mr : MA} (ha : EM X e ma) (hr : AM X es mr) (hs : starEach (e :: es) X.env = (false, eval e X.env) :: starEach es X.env := by rfl) : AM X (e :: es) (mCons ma mr) :=
  ⟨(da_cons ha.de hr.da hs).weak fun sl ce Q E h => by
    unfold wV mCons at h
    simp only [R.wp_bind] at h
    exact h⟩
def lenOk (n : Nat) : Prop := n ≤ 16777216
theorem lenOk.ok {n : Nat} (h : lenOk n) : n ≤ sizeLine := by rw [sizeLine_eq]; exact h
noncomputable def mTup (u : MA) : M := fun sl ce => (u sl ce).bind fun ts ce1 => R.opt (unT ts) fun ds => R.chk (lenOk ds.length) (.ok (.d (.tup ds)) ce1)
noncomputable def mLst (u : MA) : M := fun sl ce => (u sl ce).bind fun ts ce1 => R.opt (unT ts) fun ds => R.chk (lenOk ds.length) (.ok (.d (.lst ds)) ce1)
noncomputable def mLstC (u : MA) : M := fun sl ce => (u sl ce).bind fun ds ce1 => R.chk (lenOk ds.length) (.ok (.cel ce1.length) (ce1 ++ [.lst ds]))
theorem em_tup {m : MA} {x1} (h : AM X es m) : EM X (.Tuple es x1 pos) (mTup m) := ⟨(de_tup h.da).weak fun sl ce Q E h => by
  unfold wV mTup at h
  simp only [R.wp_bind] at h
  refine R.wp_mono h (fun ts ce1 h => ?_) fun _ _ h => h
  obtain ⟨ds, e, h⟩ := R.wp_opt h
  obtain ⟨hl, h⟩ := R.wp_chk h
  rw [e]
  exact ⟨hl.ok, h⟩⟩
theorem em_lst {m : MA} (h : AM X es m) : EM X (.List es pos) (mLst m) := ⟨(de_lst h.da).weak fun sl ce Q E h => by
  unfold wV mLst at h
  simp only [R.wp_bind] at h
  refine R.wp_mono h (fun ts ce1 h => ?_) fun _ _ h => h
  obtain ⟨ds, e, h⟩ := R.wp_opt h
  obtain ⟨hl, h⟩ := R.wp_chk h
  rw [e]
  exact ⟨hl.ok, h⟩⟩
theorem em_lstC {m : MA} (h : AM X es m) : EM X (.List es pos) (mLstC m) := ⟨(de_lstC h.da).weak fun sl ce Q E h => by
  unfold wV mLstC at h
  simp only [R.wp_bind] at h
  refine R.wp_mono h (fun ts ce1 h => ?_) fun _ _ h => h
  obtain ⟨hl, h⟩ := R.wp_chk h
  exact ⟨hl.ok, h⟩⟩
/-! ### operators -/
abbrev B2 := T → T → Ce → R T
structure OpM (X : Cx) (f : Value → Value → Sem Value) (o : B2) : Prop where
  od : OpD X f fun x y ce Q => (o x y ce).wp Q fun _ _ => False
structure IxM (X : Cx) (o : B2) : Prop where
  ix : IxD X fun x y ce Q => (o x y ce).wp Q fun _ _ => False
theorem OpD.weak {f : Value → Value → Sem Value} {o o' : O2} (h : OpD X f o) (hw : ∀ x y ce Q, o' x y ce Q → o x y ce Q) : OpD X f o' := by
  obtain ⟨r, p, s⟩ := h
  exact ⟨r, p, fun H ce G m Qd Qv x y v u R rx ry h k => s H ce G m Qd Qv x y v u R rx ry (hw _ _ _ _ h) k⟩
theorem IxD.weak {o o' : O2} (h : IxD X o) (hw : ∀ x y ce Q, o' x y ce Q → o x y ce Q) : IxD X o' := by
  obtain ⟨r, p, s⟩ := h
  exact ⟨r, p, fun H ce G m Qd Qv x y v u R rx ry h k => s H ce G m Qd Qv x y v u R rx ry (hw _ _ _ _ h) k⟩
def mOp (o : B2) (a b : M) : M := fun sl ce => (a sl ce).bind fun x ce1 => (b sl ce1).bind fun y ce2 => (o x y ce2).noEx
theorem mOp_wp {o : B2} {ma mb : M} {sl : Sl} {ce : Ce} {Q : T → Ce → Prop} {E : Ex1} (h : wV (mOp o ma mb) sl ce Q E) : uOp (fun x y ce Q => (o x y ce).wp Q fun _ _ => False) (wV ma) (wV mb) sl ce Q E := by
  unfold wV mOp at h
  simp only [R.wp_bind] at h
  exact R.wp_mono h (fun x ce1 h => R.wp_mono h (fun y ce2 h => R.wp_noEx h) fun _ _ h => h) fun _ _ h => h
theorem em_bin {op : Operator} {o : B2} {ma mb : M} (ho : OpM X (binaryOp op) o) (ha : EM X a ma) (hb : EM X b mb) : EM X (.BinOp a op b pos) (mOp o ma mb) := ⟨(de_bin ho.od ha.de hb.de).weak fun sl ce Q E h => mOp_wp h⟩
theorem em_cmp {op : CmpOp} {o : B2} {ma mb : M} (ho : OpM X (compareOp op) o) (ha : EM X a ma) (hb : EM X b mb) (hm : behindInMarks op b = false := by first | exact nomark _ | rfl) : EM X (.Compare a [op] [b] pos) (mOp o ma mb) := ⟨(de_cmp ho.od ha.de hb.de hm).weak fun sl ce Q E h => mOp_wp h⟩
theorem em_ixD {o : B2} {ma mb : M} (ho : IxM X o) (ha : EM X a ma) (hb : EM X b mb) (hs : PlainIx b := by exact fun _ _ => rfl) : EM X (.Subscript a b pos) (mOp o ma mb) := ⟨(de_ixD ho.ix ha.de hb.de hs).weak fun sl ce Q E h => mOp_wp h⟩
/-- a <= b <= c -/
def mChain (o o' : B2) (a b c : M) : M := fun sl ce => (a sl ce).bind fun x ce1 => (b sl ce1).bind fun y ce2 => (o x y ce2).noEx.bind fun z ce3 => R.onB z fun t => R.cnd t ((c sl ce3).bind fun w ce4 => (o' y w ce4).noEx) (.ok (.d (.bl false)) ce3)
theorem mChain_wp {o o' : B2} {ma mb mc : M} {sl : Sl} {ce : Ce} {Q : T → Ce → Prop} {E : Ex1} (h : wV (mChain o o' ma mb mc) sl ce Q E) : uChain (fun x y ce Q => (o x y ce).wp Q fun _ _ => False) (fun x y ce Q => (o' x y ce).wp Q fun _ _ => False) (wV ma) (wV mb) (wV mc) sl ce Q E := by
  unfold wV mChain at h
  simp only [R.wp_bind] at h
  refine R.wp_mono h (fun x ce1 h => R.wp_mono h (fun y ce2 h => R.wp_mono (R.wp_noEx (E' := fun _ _ => False) h) (fun z ce3 h => ?_) fun _ _ h => h) fun _ _ h => h) fun _ _ h => h
  obtain ⟨t, rfl, h⟩ := R.wp_onB h
  cases t with
  | true =>
    have h' : (((mc sl ce3).bind fun w ce4 => (o' y w ce4).noEx)).wp Q (fun x ce' => E x sl ce') := h
    rw [R.wp_bind] at h'
    exact R.wp_mono h' (fun w ce4 h => R.wp_noEx h) fun _ _ h => h
  | false => exact h
theorem em_chain {op op' : CmpOp} {o o' : B2} {ma mb mc : M} (ho : OpM X (compareOp op) o) (ho' : OpM X (compareOp op') o') (ha : EM X a ma) (hb : EM X b mb) (hc : EM X c mc) (hm : lastMarks [op, op'] [b, c] = false := by with_unfolding_all rfl) : EM X (.Compare a [op, op'] [b, c] pos) (mChain o o' ma mb mc) :=
  ⟨(de_chain ho.od ho'.od ha.de hb.de hc.de hm).weak fun sl ce Q E h => mChain_wp h⟩
/-! ### tests -/
def mTru (a : M) : MT := fun sl ce => (a sl ce).bind fun t ce1 => R.opt (truthD ce1 t) fun b => .ok b ce1
def mTB (a : M) : MT := fun sl ce => (a sl ce).bind fun t ce1 => R.onB t fun b => .ok b ce1
def mNotT (a : MT) : MT := fun sl ce => (a sl ce).bind fun b ce1 => .ok (!b) ce1
def mOrT (a b : MT) : MT := fun sl ce => (a sl ce).bind fun t ce1 => R.cnd t (.ok true ce1) (b sl ce1)
def mIfE (t : MT) (a b : M) : M := fun sl ce => (t sl ce).bind fun t ce1 => R.cnd t (a sl ce1) (b sl ce1)
def mAndV (a b : M) : M := fun sl ce => (a sl ce).bind fun x ce1 => R.onB x fun t => R.cnd t (b sl ce1) (.ok (.d (.bl false)) ce1)
theorem tm_val {ma : M} (ha : EM X e ma) (he : ∀ whole, isTrue e X.env whole = (do let v ← whole; standAt e.pos; holding [v] (truthy v)) := by intro _; rfl) : TM X e (mTru ma) := ⟨(dt_val ha.de he).weak fun sl ce Q E h => by
  unfold wV mTru at h
  simp only [R.wp_bind] at h
  refine R.wp_mono h (fun t ce1 h => ?_) fun _ _ h => h
  obtain ⟨b, e, h⟩ := R.wp_opt h
  rw [e]
  exact h⟩
theorem mTB_wp {ma : M} {ua : UE} (hw : ∀ sl ce Q E, wV ma sl ce Q E → ua sl ce Q E) {sl : Sl} {ce : Ce} {Q : Bool → Ce → Prop} {E : Ex1} (h : wV (mTB ma) sl ce Q E) : uTB ua sl ce Q E := by
  unfold wV mTB at h
  simp only [R.wp_bind] at h
  refine hw _ _ _ _ (R.wp_mono h (fun t ce1 h => ?_) fun _ _ h => h)
  obtain ⟨b, rfl, h⟩ := R.wp_onB h
  exact h
theorem tm_cmp {op : CmpOp} {o : B2} {ma mb : M} (ho : OpM X (compareOp op) o) (ha : EM X a ma) (hb : EM X b mb) (hm : behindInMarks op b = false := by first | exact nomark _ | rfl) : TM X (.Compare a [op] [b] pos) (mTB (mOp o ma mb)) := ⟨(dt_cmp ho.od ha.de hb.de hm).weak fun _ _ _ _ h => mTB_wp (fun _ _ _ _ h => mOp_wp h) h⟩
theorem tm_chain {op op' : CmpOp} {o o' : B2} {ma mb mc : M} (ho : OpM X (compareOp op) o) (ho' : OpM X (compareOp op') o') (ha : EM X a ma) (hb : EM X b mb) (hc : EM X c mc) (hm : lastMarks [op, op'] [b, c] = false := by with_unfolding_all rfl) : TM X (.Compare a [op, op'] [b, c] pos) (mTB (mChain o o' ma mb mc)) := ⟨(dt_chain ho.od ho'.od ha.de hb.de hc.de hm).weak fun _ _ _ _ h => mTB_wp (fun _ _ _ _ h => mChain_wp h) h⟩
section
variable {tA tB : MT} {ma mb : M}
theorem tm_not (ha : TM X a tA) : TM X (.UnaryOp .Not a pos) (mNotT tA) := ⟨(dt_not ha.dt).weak fun sl ce Q E h => by
  unfold wV mNotT at h
  simp only [R.wp_bind] at h
  exact h⟩
theorem wm_or1 (ha : TM X a tA) : WM X (.BoolOp .Or [a] pos) tA := ⟨dw_or1 ha.dt⟩
theorem wm_or {rest : List Expr} (ha : TM X a tA) (hb : WM X (.BoolOp .Or (b :: rest) pos) tB) : WM X (.BoolOp .Or (a :: b :: rest) pos) (mOrT tA tB) := ⟨(dw_or ha.dt hb.dw).weak fun sl ce Q E h => by
  unfold wV mOrT at h
  simp only [R.wp_bind] at h
  refine R.wp_mono h (fun t ce1 h => ?_) fun _ _ h => h
  cases t <;> exact h⟩
theorem WM.tm (h : WM X a tA) : TM X a tA := ⟨h.dw.dt⟩
theorem em_ifExp (hc : TM X c tA) (ha : EM X a ma) (hb : EM X b mb) : EM X (.IfExp c a b pos) (mIfE tA ma mb) := ⟨(de_ifExp hc.dt ha.de hb.de).weak fun sl ce Q E h => by
  unfold wV mIfE at h
  simp only [R.wp_bind] at h
  refine R.wp_mono h (fun t ce1 h => ?_) fun _ _ h => h
  cases t <;> exact h⟩
theorem em_one {op} (h : EM X a ma) : EM X (.BoolOp op [a] pos) ma := ⟨de_one h.de⟩
theorem em_and {rest : List Expr} (ha : EM X a ma) (hb : EM X (.BoolOp .And (b :: rest) pos) mb) : EM X (.BoolOp .And (a :: b :: rest) pos) (mAndV ma mb) := ⟨(de_and ha.de hb.de).weak fun sl ce Q E h => by
  unfold wV mAndV at h
  simp only [R.wp_bind] at h
  refine R.wp_mono h (fun x ce1 h => ?_) fun _ _ h => h
  obtain ⟨t, rfl, h⟩ := R.wp_onB h
  cases t <;> exact h⟩
def mYes : MT := fun _ ce => .ok true ce
theorem tsm_nil : TsM X [] mYes := ⟨dts_nil.weak fun _ _ _ _ h => h⟩
theorem tsm_one (h : TM X c tA) : TsM X [c] tA := ⟨dts_one h.dt⟩
end
end
end DL

namespace DL
open PySem L2
section
variable {X : Cx} {e a b c : Expr} {es : List Expr} {pos p p2 : Pos}
/-! ### + - * // % ** -/
noncomputable def oAddM : B2 := fun x y ce => match x, y with
  | .d (.int i), .d (.int j) => .ok (.d (.int (i + j))) ce
  | .d (.str a), .d (.str b) => R.chk (lenOk (a.length + b.length)) (.ok (.d (.str (a ++ b))) ce)
  | .d (.tup xs), .d (.tup ys) => R.chk (lenOk (xs.length + ys.length)) (.ok (.d (.tup (xs ++ ys))) ce)
  | .d (.lst xs), .d (.lst ys) => R.chk (lenOk (xs.length + ys.length)) (.ok (.d (.lst (xs ++ ys))) ce)
  | x, y => R.opt (seqL ce x) fun xs => R.opt (seqL ce y) fun ys => R.opt (unT xs) fun xs => R.opt (unT ys) fun ys => R.chk (lenOk (xs.length + ys.length)) (.ok (.d (.lst (xs ++ ys))) ce)
@[simp] theorem oAddM_int (i j : Int) (ce : Ce) : oAddM (.d (.int i)) (.d (.int j)) ce = .ok (.d (.int (i + j))) ce := rfl
@[simp] theorem oAddM_str (a b : Str) (ce : Ce) : oAddM (.d (.str a)) (.d (.str b)) ce = R.chk (lenOk (a.length + b.length)) (.ok (.d (.str (a ++ b))) ce) := rfl
@[simp] theorem oAddM_tup (xs ys : List D) (ce : Ce) : oAddM (.d (.tup xs)) (.d (.tup ys)) ce = R.chk (lenOk (xs.length + ys.length)) (.ok (.d (.tup (xs ++ ys))) ce) := rfl
@[simp] theorem oAddM_lst (xs ys : List D) (ce : Ce) : oAddM (.d (.lst xs)) (.d (.lst ys)) ce = R.chk (lenOk (xs.length + ys.length)) (.ok (.d (.lst (xs ++ ys))) ce) := rfl
@[simp] theorem oAddM_celL (k : Nat) (y : T) (ce : Ce) : oAddM (.cel k) y ce = R.opt (seqL ce (.cel k)) fun xs => R.opt (seqL ce y) fun ys => R.opt (unT xs) fun xs => R.opt (unT ys) fun ys => R.chk (lenOk (xs.length + ys.length)) (.ok (.d (.lst (xs ++ ys))) ce) := rfl
@[simp] theorem oAddM_celR (k : Nat) (xs : List D) (ce : Ce) : oAddM (.d (.lst xs)) (.cel k) ce = R.opt (seqL ce (.d (.lst xs))) fun xs => R.opt (seqL ce (.cel k)) fun ys => R.opt (unT xs) fun xs => R.opt (unT ys) fun ys => R.chk (lenOk (xs.length + ys.length)) (.ok (.d (.lst (xs ++ ys))) ce) := rfl
theorem om_add : OpM X (binaryOp .Add) oAddM := ⟨od_add.weak fun x y ce Q h => by
  unfold oAddM at h
  unfold oAdd
  split at h
  · exact h
  · obtain ⟨hl, h⟩ := R.wp_chk h; exact ⟨hl.ok, h⟩
  · obtain ⟨hl, h⟩ := R.wp_chk h; exact ⟨hl.ok, h⟩
  · obtain ⟨hl, h⟩ := R.wp_chk h; exact ⟨hl.ok, h⟩
  · next n1 n2 n3 n4 =>
    obtain ⟨xs, e1, h⟩ := R.wp_opt h
    obtain ⟨ys, e2, h⟩ := R.wp_opt h
    obtain ⟨xs', e3, h⟩ := R.wp_opt h
    obtain ⟨ys', e4, h⟩ := R.wp_opt h
    obtain ⟨hl, h⟩ := R.wp_chk h
    first
      | (rw [e1, e2]; dsimp only; rw [e3, e4]; exact ⟨hl.ok, h⟩)
      | (split
         · exact (n1 _ _ rfl rfl).elim
         · exact (n2 _ _ rfl rfl).elim
         · exact (n3 _ _ rfl rfl).elim
         · exact (n4 _ _ rfl rfl).elim
         · rw [e1, e2]
           dsimp only
           rw [e3, e4]
           exact ⟨hl.ok, h⟩)⟩
noncomputable def oIntM (C : Int → Int → Prop) (g : Int → Int → D) : B2 := fun x y ce => R.onI x fun i => R.onI y fun j => R.chk (C i j) (.ok (.d (g i j)) ce)
def oInt0M (g : Int → Int → D) : B2 := fun x y ce => R.onI x fun i => R.onI y fun j => .ok (.d (g i j)) ce
theorem oIntM_wp {C : Int → Int → Prop} {g : Int → Int → D} {x y : T} {ce : Ce} {Q : T → Ce → Prop} {E : Exc → Ce → Prop} (h : (oIntM C g x y ce).wp Q E) : oInt C g x y ce Q := by
  obtain ⟨i, rfl, h1⟩ := R.wp_onI h
  obtain ⟨j, rfl, h2⟩ := R.wp_onI h1
  exact R.wp_chk h2
theorem oInt0M_wp {g : Int → Int → D} {x y : T} {ce : Ce} {Q : T → Ce → Prop} {E : Exc → Ce → Prop} (h : (oInt0M g x y ce).wp Q E) : oInt0 g x y ce Q := by
  obtain ⟨i, rfl, h1⟩ := R.wp_onI h
  obtain ⟨j, rfl, h2⟩ := R.wp_onI h1
  exact h2
noncomputable def oMulM : B2 := oIntM CMul fun i j => .int (i * j)
noncomputable def oFdivM : B2 := oIntM CDiv fun i j => .int (i / j)
noncomputable def oModM : B2 := oIntM (fun _ j => 0 < j) fun i j => .int (i % j)
noncomputable def oPowM : B2 := oIntM CPow fun i j => .int (i ^ j.toNat)
theorem om_mul : OpM X (binaryOp .Mult) oMulM := ⟨od_mul.weak fun _ _ _ _ h => oIntM_wp h⟩
theorem om_fdiv : OpM X (binaryOp .FloorDiv) oFdivM := ⟨od_fdiv.weak fun _ _ _ _ h => oIntM_wp h⟩
theorem om_mod : OpM X (binaryOp .Mod) oModM := ⟨od_mod.weak fun _ _ _ _ h => oIntM_wp h⟩
theorem om_pow : OpM X (binaryOp .Pow) oPowM := ⟨od_pow.weak fun _ _ _ _ h => oIntM_wp h⟩
/-! ### comparisons -/
def oCmpM (ci : Int → Int → Bool) (cs : Str → Str → Bool) : B2 := fun x y ce => match x, y with
  | .d (.int i), .d (.int j) => .ok (.d (.bl (ci i j))) ce
  | .d (.str a), .d (.str b) => .ok (.d (.bl (cs a b))) ce
  | _, _ => .bad
theorem oCmpM_wp {ci : Int → Int → Bool} {cs : Str → Str → Bool} {x y : T} {ce : Ce} {Q : T → Ce → Prop} {E : Exc → Ce → Prop} (h : (oCmpM ci cs x y ce).wp Q E) : oCmp ci cs x y ce Q := by
  unfold oCmpM at h
  unfold oCmp
  split at h
  · exact h
  · exact h
  · exact h.elim
def oLtM : B2 := oCmpM (fun i j => decide (i < j)) ltS
@[simp] theorem oLtM_int (i j : Int) (ce : Ce) : oLtM (.d (.int i)) (.d (.int j)) ce = .ok (.d (.bl (decide (i < j)))) ce := rfl
@[simp] theorem oLtM_str (i j : Str) (ce : Ce) : oLtM (.d (.str i)) (.d (.str j)) ce = .ok (.d (.bl (ltS i j))) ce := rfl
theorem om_lt : OpM X (compareOp .Lt) oLtM := ⟨od_lt.weak fun _ _ _ _ h => oCmpM_wp h⟩
def oLeM : B2 := oInt0M fun i j => .bl (decide (i ≤ j))
def oGtM : B2 := oInt0M fun i j => .bl (decide (j < i))
def oGeM : B2 := oInt0M fun i j => .bl (decide (j ≤ i))
theorem om_le : OpM X (compareOp .LtE) oLeM := ⟨od_le.weak fun _ _ _ _ h => oInt0M_wp h⟩
theorem om_gt : OpM X (compareOp .Gt) oGtM := ⟨od_gt.weak fun _ _ _ _ h => oInt0M_wp h⟩
theorem om_ge : OpM X (compareOp .GtE) oGeM := ⟨od_ge.weak fun _ _ _ _ h => oInt0M_wp h⟩
/-! ### == and != -/
def okD : Nat → D → Bool
  | _, .non => true
  | _, .bl _ => true
  | _, .int _ => true
  | _, .str x => okS x
  | n + 1, .tup xs => xs.all (okD n)
  | n + 1, .lst xs => xs.all (okD n)
  | _, _ => false
theorem okD_ok : ∀ (n : Nat) (d : D), okD n d = true → OkN n d
  | n, .non, _ => ok_non.mono (Nat.zero_le _)
  | n, .bl _, _ => ok_bl.mono (Nat.zero_le _)
  | n, .int _, _ => ok_int.mono (Nat.zero_le _)
  | n, .str x, h => (ok_str (by cases n <;> exact h)).mono (Nat.zero_le _)
  | 0, .tup xs, h => by simp [okD] at h
  | 0, .lst xs, h => by simp [okD] at h
  | n + 1, .tup xs, h => ok_tup (okL_of fun d hd => okD_ok n d (List.all_eq_true.mp (show xs.all (okD n) = true from h) d hd))
  | n + 1, .lst xs, h => ok_lst (okL_of fun d hd => okD_ok n d (List.all_eq_true.mp (show xs.all (okD n) = true from h) d hd))
  | n, .dic _, h => by cases n <;> simp [okD] at h
  | n, .ins _ _, h => by cases n <;> simp [okD] at h
  | n, .exc _ _ _ _, h => by cases n <;> simp [okD] at h
  | n, .raw _, h => by cases n <;> simp [okD] at h
/-- what a thing says, a list that is a cell too -/
def vD (ce : Ce) : T → Option D
  | .d x => some x
  | .cel k => match ce[k]? with
    | some (.lst xs) => (unT xs).map .lst
    | _ => none
  | .tup _ => none
theorem vD_ok {K : PySem.W.Frag} {H : Hp} {ce : Ce} {G : Hp} {m : List Addr} (R : RelS K wd H ce G m) {t : T} {v : V} {d : D} {q : PyData} (r : RepT K m G t v) (h : vD ce t = some d) (hp : pyD d = some q) : Dp K H v q := by
  cases t with
  | tup es => cases h
  | d x => cases h; exact pyD_ok R.gh _ _ _ r hp
  | cel k =>
    simp only [vD] at h
    split at h
    · next xs e =>
      cases hu : unT xs with
      | none => rw [hu] at h; cases h
      | some ds =>
        rw [hu] at h
        cases h
        obtain ⟨a, hm, rfl⟩ := r
        obtain ⟨vs, hs, rs⟩ := R.cel k a _ hm e
        have rl := unT_ok rs hu
        unfold pyD at hp
        cases q2 : pyDs ds with
        | none => rw [q2] at hp; cases hp
        | some ps => rw [q2] at hp; cases hp; exact .lst (SqL.of hs) (pyDs_ok R.gh ds vs ps rl q2)
    · cases h
noncomputable def oEqM (neg : Bool) : B2 := fun x y ce => match x, y with
  | .d (.int i), .d (.int j) => .ok (.d (.bl (neg != decide (i = j)))) ce
  | .d (.str i), .d (.str j) => .ok (.d (.bl (neg != decide (i = j)))) ce
  | .d (.bl i), .d (.bl j) => .ok (.d (.bl (neg != decide (i = j)))) ce
  | x, y => R.opt (vD ce x) fun x => R.opt (vD ce y) fun y => R.chk (okD 16 x = true ∧ okD 16 y = true) (.ok (.d (.bl (neg != eqD x y))) ce)
@[simp] theorem oEqM_int (neg : Bool) (i j : Int) (ce : Ce) : oEqM neg (.d (.int i)) (.d (.int j)) ce = .ok (.d (.bl (neg != decide (i = j)))) ce := rfl
@[simp] theorem oEqM_str (neg : Bool) (i j : Str) (ce : Ce) : oEqM neg (.d (.str i)) (.d (.str j)) ce = .ok (.d (.bl (neg != decide (i = j)))) ce := rfl
@[simp] theorem oEqM_bl (neg : Bool) (i j : Bool) (ce : Ce) : oEqM neg (.d (.bl i)) (.d (.bl j)) ce = .ok (.d (.bl (neg != decide (i = j)))) ce := rfl
@[simp] theorem oEqM_tup (neg : Bool) (xs : List D) (y : T) (ce : Ce) : oEqM neg (.d (.tup xs)) y ce = R.opt (vD ce y) fun y => R.chk (okD 16 (.tup xs) = true ∧ okD 16 y = true) (.ok (.d (.bl (neg != eqD (.tup xs) y))) ce) := rfl
@[simp] theorem oEqM_lst (neg : Bool) (xs : List D) (y : T) (ce : Ce) : oEqM neg (.d (.lst xs)) y ce = R.opt (vD ce y) fun y => R.chk (okD 16 (.lst xs) = true ∧ okD 16 y = true) (.ok (.d (.bl (neg != eqD (.lst xs) y))) ce) := rfl
@[simp] theorem oEqM_cel (neg : Bool) (k : Nat) (y : T) (ce : Ce) : oEqM neg (.cel k) y ce = R.opt (vD ce (.cel k)) fun x => R.opt (vD ce y) fun y => R.chk (okD 16 x = true ∧ okD 16 y = true) (.ok (.d (.bl (neg != eqD x y))) ce) := rfl
@[simp] theorem oEqM_non (neg : Bool) (y : T) (ce : Ce) : oEqM neg (.d .non) y ce = R.opt (vD ce y) fun y => R.chk (okD 16 .non = true ∧ okD 16 y = true) (.ok (.d (.bl (neg != eqD .non y))) ce) := rfl
theorem oEqM_wp {neg : Bool} {x y : T} {ce : Ce} {Q : T → Ce → Prop} {E : Exc → Ce → Prop} (h : (oEqM neg x y ce).wp Q E) : (∃ a b, x = .d a ∧ y = .d b ∧ oEqB neg x y ce Q) ∨ ∃ a b, vD ce x = some a ∧ vD ce y = some b ∧ okD 16 a = true ∧ okD 16 b = true ∧ Q (.d (.bl (neg != eqD a b))) ce := by
  unfold oEqM at h
  split at h
  · exact .inl ⟨_, _, rfl, rfl, h⟩
  · exact .inl ⟨_, _, rfl, rfl, h⟩
  · exact .inl ⟨_, _, rfl, rfl, h⟩
  · obtain ⟨a, e1, h⟩ := R.wp_opt h
    obtain ⟨b, e2, h⟩ := R.wp_opt h
    obtain ⟨⟨h1, h2⟩, h⟩ := R.wp_chk h
    exact .inr ⟨a, b, e1, e2, h1, h2, h⟩
theorem om_eq (hu : X.A.units + 64 < cLine) : OpM X (compareOp .Eq) (oEqM false) := by
  obtain ⟨r0, p0, s0⟩ := od_eq (X := X) hu
  refine ⟨_, p0.or (op_eqD hu), fun H ce G m Qd Qv x y v u R rx ry h k => ?_⟩
  rcases oEqM_wp h with ⟨a, b, rfl, rfl, h⟩ | ⟨a, b, e1, e2, h1, h2, h⟩
  · exact .inl (s0 H ce G m Qd Qv _ _ v u R rx ry h k)
  · obtain ⟨p1, a1, b1⟩ := (okD_ok _ _ h1).shaped (by decide)
    obtain ⟨p2, a2, b2⟩ := (okD_ok _ _ h2).shaped (by decide)
    refine .inr ⟨p1, p2, vD_ok R rx e1 a1, vD_ok R ry e2 a2, b1, b2, k _ ce G m _ H R .refl ?_ h⟩
    unfold eqD
    rw [a1, a2, dec_bxor]
    rfl
theorem om_ne (hu : X.A.units + 64 < cLine) : OpM X (compareOp .NotEq) (oEqM true) := by
  obtain ⟨r0, p0, s0⟩ := od_ne (X := X) hu
  refine ⟨_, p0.or (op_neD hu), fun H ce G m Qd Qv x y v u R rx ry h k => ?_⟩
  rcases oEqM_wp h with ⟨a, b, rfl, rfl, h⟩ | ⟨a, b, e1, e2, h1, h2, h⟩
  · exact .inl (s0 H ce G m Qd Qv _ _ v u R rx ry h k)
  · obtain ⟨p1, a1, b1⟩ := (okD_ok _ _ h1).shaped (by decide)
    obtain ⟨p2, a2, b2⟩ := (okD_ok _ _ h2).shaped (by decide)
    refine .inr ⟨p1, p2, vD_ok R rx e1 a1, vD_ok R ry e2 a2, b1, b2, k _ ce G m _ H R .refl ?_ h⟩
    unfold eqD
    rw [a1, a2, dec_nxor]
    rfl
/-! ### in, is -/
def oInM (neg : Bool) : B2 := fun x y ce => match x, y with
  | .d (.str c), .d (.str z) => match c.cps.toList with
    | [n] => .ok (.d (.bl (neg != decide (n ∈ z.cps.toList)))) ce
    | _ => .bad
  | .d (.str x), y => R.opt (seqB ce y) fun ds => R.opt (strsD ds) fun xs => .ok (.d (.bl (neg != decide (x ∈ xs)))) ce
  | _, _ => .bad
@[simp] theorem oInM_sign (neg : Bool) (n : Nat) (z : Str) (ce : Ce) : oInM neg (.d (.str ⟨#[n]⟩)) (.d (.str z)) ce = .ok (.d (.bl (neg != decide (n ∈ z.cps.toList)))) ce := rfl
@[simp] theorem oInM_tup (neg : Bool) (x : Str) (xs : List D) (ce : Ce) : oInM neg (.d (.str x)) (.d (.tup xs)) ce = R.opt (seqB ce (.d (.tup xs))) fun ds => R.opt (strsD ds) fun xs => .ok (.d (.bl (neg != decide (x ∈ xs)))) ce := rfl
@[simp] theorem oInM_lst (neg : Bool) (x : Str) (xs : List D) (ce : Ce) : oInM neg (.d (.str x)) (.d (.lst xs)) ce = R.opt (seqB ce (.d (.lst xs))) fun ds => R.opt (strsD ds) fun xs => .ok (.d (.bl (neg != decide (x ∈ xs)))) ce := rfl
@[simp] theorem oInM_cel (neg : Bool) (x : Str) (k : Nat) (ce : Ce) : oInM neg (.d (.str x)) (.cel k) ce = R.opt (seqB ce (.cel k)) fun ds => R.opt (strsD ds) fun xs => .ok (.d (.bl (neg != decide (x ∈ xs)))) ce := rfl
theorem oInM_wp {neg : Bool} {x y : T} {ce : Ce} {Q : T → Ce → Prop} {E : Exc → Ce → Prop} (h : (oInM neg x y ce).wp Q E) : oIn neg x y ce Q := by
  have gen : ∀ (s : Str) (y : T), (∀ z, y ≠ .d (.str z)) → (R.opt (seqB ce y) fun ds => R.opt (strsD ds) fun xs => R.ok (T.d (.bl (neg != decide (s ∈ xs)))) ce).wp Q E → oIn neg (.d (.str s)) y ce Q := fun s y hn h => by
    obtain ⟨ds, e1, h1⟩ := R.wp_opt h
    obtain ⟨xs, e2, h2⟩ := R.wp_opt h1
    unfold oIn
    split
    · next e0 => exact (hn _ rfl).elim
    · next x' y' hh e0 =>
      cases hh
      rw [e1]; dsimp only; rw [e2]; exact h2
    · next n1 n2 => first | exact (n1 _ rfl).elim | exact (n2 _ rfl).elim | exact (n1 rfl).elim | (exfalso; apply n1 <;> rfl)
  cases x with
  | cel k => exact h.elim
  | tup es => exact h.elim
  | d x =>
    cases x with
    | str s =>
      cases y with
      | cel k => exact gen s _ (fun _ z => nomatch z) h
      | tup es => exact gen s _ (fun _ z => nomatch z) h
      | d y =>
        cases y with
        | str z =>
          simp only [oInM] at h
          simp only [oIn]
          split at h
          · next n e => first | exact h | (rw [e]; exact h)
          · exact h.elim
        | non => exact gen s _ (fun _ z => nomatch z) h
        | bl _ => exact gen s _ (fun _ z => nomatch z) h
        | int _ => exact gen s _ (fun _ z => nomatch z) h
        | tup _ => exact gen s _ (fun _ z => nomatch z) h
        | lst _ => exact gen s _ (fun _ z => nomatch z) h
        | dic _ => exact gen s _ (fun _ z => nomatch z) h
        | ins _ _ => exact gen s _ (fun _ z => nomatch z) h
        | exc _ _ _ _ => exact gen s _ (fun _ z => nomatch z) h
        | raw _ => exact gen s _ (fun _ z => nomatch z) h
    | _ => exact h.elim
theorem om_in : OpM X (compareOp .In) (oInM false) := ⟨od_in.weak fun _ _ _ _ h => oInM_wp h⟩
theorem om_notin : OpM X (compareOp .NotIn) (oInM true) := ⟨od_notin.weak fun _ _ _ _ h => oInM_wp h⟩
def oIsNM (neg : Bool) : B2 := fun x y ce => match y with
  | .d .non => match x with
    | .d .non => .ok (.d (.bl (!neg))) ce
    | .d (.raw _) => .bad
    | _ => .ok (.d (.bl neg)) ce
  | _ => .bad
theorem oIsNM_wp {neg : Bool} {x y : T} {ce : Ce} {Q : T → Ce → Prop} {E : Exc → Ce → Prop} (h : (oIsNM neg x y ce).wp Q E) : oIsN neg x y ce Q := by
  unfold oIsNM at h
  unfold oIsN
  split at h
  · split at h
    · exact h
    · exact h.elim
    · next n1 n2 =>
      first
        | exact h
        | (dsimp only
           split
           · next q => exact (n1 rfl).elim
           · next q => exact (n2 _ rfl).elim
           · exact h)
  · exact h.elim
theorem om_is : OpM X (compareOp .Is) (oIsNM false) := ⟨od_is.weak fun _ _ _ _ h => oIsNM_wp h⟩
/-! ### x[i], x[a:b] -/
noncomputable def oIxM : B2 := fun x y ce => match x with
  | .d (.tup xs) => R.onI y fun i => R.opt (atI xs i) fun d => .ok (.d d) ce
  | .d (.lst xs) => R.onI y fun i => R.opt (atI xs i) fun d => .ok (.d d) ce
  | .d (.str z) => R.onI y fun i => R.opt (atI z.cps.toList i) fun c => R.chk (lenOk z.length) (.ok (.d (.str ⟨#[c]⟩)) ce)
  | .cel k => R.onI y fun i => R.opt (seqL ce (.cel k)) fun xs => R.opt (atI xs i) fun d => .ok d ce
  | _ => .bad
@[simp] theorem oIxM_tup (xs : List D) (y : T) (ce : Ce) : oIxM (.d (.tup xs)) y ce = R.onI y fun i => R.opt (atI xs i) fun d => .ok (.d d) ce := rfl
@[simp] theorem oIxM_lst (xs : List D) (y : T) (ce : Ce) : oIxM (.d (.lst xs)) y ce = R.onI y fun i => R.opt (atI xs i) fun d => .ok (.d d) ce := rfl
@[simp] theorem oIxM_str (z : Str) (y : T) (ce : Ce) : oIxM (.d (.str z)) y ce = R.onI y fun i => R.opt (atI z.cps.toList i) fun c => R.chk (lenOk z.length) (.ok (.d (.str ⟨#[c]⟩)) ce) := rfl
@[simp] theorem oIxM_cel (k : Nat) (y : T) (ce : Ce) : oIxM (.cel k) y ce = R.onI y fun i => R.opt (seqL ce (.cel k)) fun xs => R.opt (atI xs i) fun d => .ok d ce := rfl
theorem seqL_cel {ce : Ce} {k : Nat} {xs : List T} (h : seqL ce (.cel k) = some xs) : ce[k]? = some (.lst xs) := by
  simp only [seqL] at h
  split at h
  · next e => cases h; exact e
  · cases h
theorem im_seq : IxM X oIxM := ⟨id_seq.weak fun x y ce Q h => by
  unfold oIxM at h
  split at h
  · obtain ⟨i, rfl, h⟩ := R.wp_onI h
    obtain ⟨d, e, h⟩ := R.wp_opt h
    simp only [oIx, e]
    exact h
  · obtain ⟨i, rfl, h⟩ := R.wp_onI h
    obtain ⟨d, e, h⟩ := R.wp_opt h
    simp only [oIx, e]
    exact h
  · obtain ⟨i, rfl, h⟩ := R.wp_onI h
    obtain ⟨d, e, h⟩ := R.wp_opt h
    obtain ⟨hl, h⟩ := R.wp_chk h
    simp only [oIx, e]
    exact ⟨hl.ok, h⟩
  · obtain ⟨i, rfl, h⟩ := R.wp_onI h
    obtain ⟨xs, e, h⟩ := R.wp_opt h
    obtain ⟨d, e2, h⟩ := R.wp_opt h
    simp only [oIx, seqL_cel e, e2]
    exact h
  · exact h.elim⟩
theorem em_ix {ma mb : M} (ha : EM X a ma) (hb : EM X b mb) (hs : PlainIx b := by exact fun _ _ => rfl) : EM X (.Subscript a b pos) (mOp oIxM ma mb) := em_ixD im_seq ha hb hs
def mNoP : MG (Option Int) := fun _ ce => .ok none ce
def mPart (a : M) : MG (Option Int) := fun sl ce => (a sl ce).bind fun x ce1 => R.onI x fun i => .ok (some i) ce1
theorem om_none : OM X none mNoP := ⟨do_none.weak fun _ _ _ _ h => h⟩
theorem om_some {ma : M} (ha : EM X e ma) : OM X (some e) (mPart ma) := ⟨(do_some ha.de).weak fun sl ce Q E h => by
  unfold wV mPart at h
  simp only [R.wp_bind] at h
  refine R.wp_mono h (fun x ce1 h => ?_) fun _ _ h => h
  obtain ⟨i, rfl, h⟩ := R.wp_onI h
  exact h⟩
noncomputable def oSlM (x : T) (lo hi : Option Int) (ce : Ce) : R T := match x with
  | .d (.tup xs) => .ok (.d (.tup (cutD xs lo hi))) ce
  | .d (.lst xs) => .ok (.d (.lst (cutD xs lo hi))) ce
  | .d (.str z) => R.chk (lenOk z.length) (.ok (.d (.str (cutS z lo hi))) ce)
  | _ => .bad
@[simp] theorem oSlM_tup (xs : List D) (lo hi : Option Int) (ce : Ce) : oSlM (.d (.tup xs)) lo hi ce = .ok (.d (.tup (cutD xs lo hi))) ce := rfl
@[simp] theorem oSlM_lst (xs : List D) (lo hi : Option Int) (ce : Ce) : oSlM (.d (.lst xs)) lo hi ce = .ok (.d (.lst (cutD xs lo hi))) ce := rfl
@[simp] theorem oSlM_str (z : Str) (lo hi : Option Int) (ce : Ce) : oSlM (.d (.str z)) lo hi ce = R.chk (lenOk z.length) (.ok (.d (.str (cutS z lo hi))) ce) := rfl
noncomputable def mSlice (a : M) (l h : MG (Option Int)) : M := fun sl ce => (a sl ce).bind fun x ce1 => (l sl ce1).bind fun lo ce2 => (h sl ce2).bind fun hi ce3 => oSlM x lo hi ce3
theorem em_slice {lo hi : Option Expr} {ma : M} {ml mh : MG (Option Int)} (ha : EM X a ma) (hl : OM X lo ml) (hh : OM X hi mh) : EM X (.Subscript a (.Slice lo hi none p2) pos) (mSlice ma ml mh) := ⟨(de_slice ha.de hl.do_ hh.do_).weak fun sl ce Q E h => by
  unfold wV mSlice at h
  simp only [R.wp_bind] at h
  refine R.wp_mono h (fun x ce1 h => R.wp_mono h (fun lo ce2 h => R.wp_mono h (fun hi ce3 h => ?_) fun _ _ h => h) fun _ _ h => h) fun _ _ h => h
  unfold oSlM at h
  split at h
  · exact h
  · exact h
  · obtain ⟨hl, h⟩ := R.wp_chk h; exact ⟨hl.ok, h⟩
  · exact h.elim⟩
/-! ### calls of built-ins -/
abbrev B1 := List T → Ce → R T
structure CaM (X : Cx) (f : Value) (o : B1) : Prop where
  cd : CaD X f fun ts ce Q => (o ts ce).wp Q fun _ _ => False
theorem CaD.weak {f : Value} {o o' : OC} (h : CaD X f o) (hw : ∀ ts ce Q, o' ts ce Q → o ts ce Q) : CaD X f o' := by
  obtain ⟨r, p, s⟩ := h
  exact ⟨r, p, fun H ce G m Qd Qv ts vs R r h k => s H ce G m Qd Qv ts vs R r (hw _ _ _ h) k⟩
theorem CaD.or {f : Value} {o o' : OC} (h : CaD X f o) (h' : CaD X f o') : CaD X f fun ts ce Q => o ts ce Q ∨ o' ts ce Q := by
  obtain ⟨r, p, s⟩ := h
  obtain ⟨r', p', s'⟩ := h'
  exact ⟨_, p.or p', fun H ce G m Qd Qv ts vs R r h k => h.elim (fun h => .inl (s H ce G m Qd Qv ts vs R r h k)) fun h => .inr (s' H ce G m Qd Qv ts vs R r h k)⟩
def mCB (o : B1) (u : MA) : M := fun sl ce => (u sl ce).bind fun ts ce1 => (o ts ce1).noEx
theorem mCB_wp {o : B1} {mu : MA} {sl : Sl} {ce : Ce} {Q : T → Ce → Prop} {E : Ex1} (h : wV (mCB o mu) sl ce Q E) : uCB (fun ts ce Q => (o ts ce).wp Q fun _ _ => False) (wV mu) sl ce Q E := by
  unfold wV mCB at h
  simp only [R.wp_bind] at h
  exact R.wp_mono h (fun x ce1 h => R.wp_noEx h) fun _ _ h => h
theorem em_callB {x : Str} {id : String} {o : B1} {mu : MA} (hc : CaM X (.builtin id) o) (hm : X.mg x = none) (hv : bootBuiltins x = some (.builtin id)) (ha : AM X (e :: es) mu) (hg : Gl X x := by rfl) (hn : x ≠ "__name__" := by decide) (hdb : (x == ("__debug__" : Str)) = false := by decide)
    (he : starEach (e :: es) X.env = (false, eval e X.env) :: starEach es X.env := by rfl) (hpl : (backTo pos (starEach es X.env)).any (·.1) = false := by rfl) : EM X (.Call (.Name x p) (e :: es) [] pos) (mCB o mu) := ⟨(de_callB hc.cd hm hv ha.da hg hn hdb he hpl).weak fun _ _ _ _ h => mCB_wp h⟩
theorem em_callTy {x : Str} {T : String} {o : B1} {mu : MA} (hc : CaM X (.type T) o) (hm : X.mg x = none) (hv : bootBuiltins x = some (.type T)) (ha : AM X (e :: es) mu) (hg : Gl X x := by rfl) (hn : x ≠ "__name__" := by decide) (hdb : (x == ("__debug__" : Str)) = false := by decide)
    (he : starEach (e :: es) X.env = (false, eval e X.env) :: starEach es X.env := by rfl) (hpl : (backTo pos (starEach es X.env)).any (·.1) = false := by rfl) : EM X (.Call (.Name x p) (e :: es) [] pos) (mCB o mu) := ⟨(de_callTy hc.cd hm hv ha.da hg hn hdb he hpl).weak fun _ _ _ _ h => mCB_wp h⟩
def R.on1 {α : Type} (ts : List T) (k : T → R α) [Hold k] : R α := match ts with
  | [t] => k t
  | _ => .bad
@[simp] theorem R.on1_one {α : Type} (t : T) (k : T → R α) : R.on1 [t] k = k t := rfl
theorem R.wp_on1 {α : Type} {ts : List T} {k : T → R α} {Q : α → Ce → Prop} {E : Exc → Ce → Prop} (h : (R.on1 ts k).wp Q E) : ∃ t, ts = [t] ∧ (k t).wp Q E := by
  unfold R.on1 at h
  split at h
  · exact ⟨_, rfl, h⟩
  · exact h.elim
/-- how many -/
def cntD (ce : Ce) : T → Option Nat
  | .d (.str z) => if z.length ≤ 16777216 then some z.length else none
  | .d (.dic kvs) => some kvs.length
  | .d (.tup xs) => some xs.length
  | .d (.lst xs) => some xs.length
  | .cel k => match ce[k]? with
    | some (.lst xs) => some xs.length
    | some (.dic xs) => some xs.length
    | _ => none
  | _ => none
def oLenM : B1 := fun ts ce => R.on1 ts fun t => R.opt (cntD ce t) fun n => .ok (.d (.int (n : Nat))) ce
theorem cm_len : CaM X (.builtin "len") oLenM := ⟨(cd_len.or cd_lenD).weak fun ts ce Q h => by
  obtain ⟨t, rfl, h⟩ := R.wp_on1 h
  obtain ⟨n, e, h⟩ := R.wp_opt h
  unfold cntD at e
  split at e
  · next z =>
    split at e
    · next hz => cases e; exact .inl ⟨lenOk.ok hz, h⟩
    · cases e
  · next kvs => cases e; refine .inr ?_; simp only [oLenD, dicOf, List.length_map]; exact h
  · next xs => cases e; refine .inl ?_; simp only [oLen, seqB, List.length_map]; exact h
  · next xs => cases e; refine .inl ?_; simp only [oLen, seqB, seqL, List.length_map]; exact h
  · split at e
    · next q => cases e; refine .inl ?_; simp only [oLen, seqB, seqL, q]; exact h
    · next q => cases e; refine .inr ?_; simp only [oLenD, dicOf, q]; exact h
    · cases e
  · cases e⟩
def oInt1M : B1 := fun ts ce => R.on1 ts fun t => R.onI t fun i => .ok (.d (.int i)) ce
theorem cm_int : CaM X (.type "int") oInt1M := ⟨cd_int.weak fun ts ce Q h => by
  obtain ⟨t, rfl, h⟩ := R.wp_on1 h
  obtain ⟨i, rfl, h⟩ := R.wp_onI h
  exact h⟩
def oMax2M : B1 := fun ts ce => match ts with
  | [x, y] => R.onI x fun i => R.onI y fun j => .ok (.d (.int (if j > i then j else i))) ce
  | _ => .bad
@[simp] theorem oMax2M_two (x y : T) (ce : Ce) : oMax2M [x, y] ce = R.onI x fun i => R.onI y fun j => .ok (.d (.int (if j > i then j else i))) ce := rfl
theorem cm_max2 (hc : X.calm = true) : CaM X (.builtin "max") oMax2M := ⟨(cd_max2 hc).weak fun ts ce Q h => by
  unfold oMax2M at h
  split at h
  · obtain ⟨i, rfl, h1⟩ := R.wp_onI h
    obtain ⟨j, rfl, h2⟩ := R.wp_onI h1
    exact h2
  · exact h.elim⟩
def oAllM : B1 := fun ts ce => match ts with
  | [.d (.lst xs)] => R.opt (blsD xs) fun bs => .ok (.d (.bl (bs.all id))) ce
  | _ => .bad
@[simp] theorem oAllM_one (xs : List D) (ce : Ce) : oAllM [.d (.lst xs)] ce = R.opt (blsD xs) fun bs => .ok (.d (.bl (bs.all id))) ce := rfl
theorem cm_all (hc : X.calm = true) : CaM X (.builtin "all") oAllM := ⟨(cd_all hc).weak fun ts ce Q h => by
  unfold oAllM at h
  split at h
  · obtain ⟨bs, e, h⟩ := R.wp_opt h
    simp only [oAll, e]
    exact h
  · exact h.elim⟩
def R.onSq {α : Type} (ce : Ce) (t : T) (k : List D → R α) : R α := R.opt (seqB ce t) fun xs => R.opt (unT xs) k
def oTupleM : B1 := fun ts ce => R.on1 ts fun t => R.onSq ce t fun ds => .ok (.d (.tup ds)) ce
theorem seqB_cases {ce : Ce} {t : T} {xs : List T} (h : seqB ce t = some xs) : (∃ ds, t = .d (.tup ds) ∧ xs = ds.map T.d) ∨ (∃ ds, t = .d (.lst ds) ∧ xs = ds.map T.d) ∨ ∃ k, t = .cel k ∧ ce[k]? = some (.lst xs) := by
  unfold seqB at h
  split at h
  · cases h; exact .inl ⟨_, rfl, rfl⟩
  · unfold seqL at h
    split at h
    · cases h; exact .inr (.inl ⟨_, rfl, rfl⟩)
    · split at h
      · next e => cases h; exact .inr (.inr ⟨_, rfl, e⟩)
      · cases h
    · cases h
theorem cm_tuple : CaM X (.type "tuple") oTupleM := ⟨cd_tuple.weak fun ts ce Q h => by
  obtain ⟨t, rfl, h⟩ := R.wp_on1 h
  obtain ⟨xs, e, h⟩ := R.wp_opt h
  obtain ⟨ds, e2, hz⟩ := R.wp_opt h
  rcases seqB_cases e with ⟨d, rfl, rfl⟩ | ⟨d, rfl, rfl⟩ | ⟨k, rfl, e3⟩
  · rw [unT_map] at e2; cases e2; exact hz
  · rw [unT_map] at e2; cases e2; exact hz
  · simp only [oTuple, e3, e2]; exact hz⟩
def oListCM : B1 := fun ts ce => R.on1 ts fun t => R.opt (seqB ce t) fun xs => .ok (.cel ce.length) (ce ++ [.lst xs])
theorem cm_listC : CaM X (.type "list") oListCM := ⟨cd_listC.weak fun ts ce Q h => by
  obtain ⟨t, rfl, h⟩ := R.wp_on1 h
  obtain ⟨xs, e, h⟩ := R.wp_opt h
  simp only [oListC, e]
  exact h⟩
/-- isinstance -/
def isiD (Cs : List Addr) (ce : Ce) (t : T) (c : D) : Option Bool := match tagOf ce t with
  | some g => if okT Cs g = true then match c with
    | .tup cs => match cs.mapM clsOf with
      | some us => if us.all (okA Cs) = true then some (us.any (isiT g)) else none
      | none => none
    | c => match clsOf c with
      | some u => if okA Cs u = true then some (isiT g u) else none
      | none => none else none
  | none => none
def oIsiM (Cs : List Addr) : B1 := fun ts ce => match ts with
  | [t, .d c] => R.opt (isiD Cs ce t c) fun b => .ok (.d (.bl b)) ce
  | _ => .bad
@[simp] theorem oIsiM_two (Cs : List Addr) (t : T) (c : D) (ce : Ce) : oIsiM Cs [t, .d c] ce = R.opt (isiD Cs ce t c) fun b => .ok (.d (.bl b)) ce := rfl
theorem cm_isi {Cs : List Addr} (I : IsiOk X.K Cs) : CaM X (.builtin "isinstance") (oIsiM Cs) := ⟨(cd_isi I).weak fun ts ce Q h => by
  unfold oIsiM at h
  split at h
  · next t c =>
    obtain ⟨b, e, h⟩ := R.wp_opt h
    unfold isiD at e
    split at e
    · next g hg =>
      split at e
      · next ht =>
        split at e
        · next cs =>
          split at e
          · next us hu =>
            split at e
            · next ha => cases e; simp only [oIsi, hg, hu]; exact ⟨ht, ha, h⟩
            · cases e
          · cases e
        · next hc =>
          split at e
          · next u hu =>
            split at e
            · next ha =>
              cases e
              unfold oIsi
              split
              · next e0 => cases e0; exact (hc _ rfl).elim
              · next e0 => cases e0; rw [hg, hu]; exact ⟨ht, ha, h⟩
              · next n1 n2 => exact (n2 _ _ rfl).elim
            · cases e
          · cases e
      · cases e
    · cases e
  · exact h.elim⟩
end
end DL

namespace DL
open PySem L2
/-! ### what is new behind a def never changes again -/
def frzL (g : T → Option D) : List T → Option (List D)
  | [] => some []
  | t :: r => match g t with
    | some d => (frzL g r).map (d :: ·)
    | none => none
def frzK {κ : Type} (g : T → Option D) : List (κ × T) → Option (List (κ × D))
  | [] => some []
  | (k, t) :: r => match g t with
    | some d => (frzK g r).map ((k, d) :: ·)
    | none => none
def frzC' (g : T → Option D) : Cell → Option D
  | .lst xs => (frzL g xs).map D.lst
  | .dic xs => (frzK g xs).map D.dic
  | .ins C xs => (frzK g xs).map (D.ins C)
  | .tdic _ _ => none
  | .tab _ _ => none
  | .gone => none
def frzE (g : T → Option D) : List (D ⊕ Nat) → Option (List D)
  | [] => some []
  | .inl d :: r => (frzE g r).map (d :: ·)
  | .inr k :: r => match g (.cel k) with
    | some d => (frzE g r).map (d :: ·)
    | none => none
def frzD (ce : Ce) (n : Nat) : Nat → T → Option D
  | _, .d x => some x
  | 0, .tup _ => none
  | f + 1, .tup es => (frzE (frzD ce n f) es).map D.tup
  | 0, .cel _ => none
  | f + 1, .cel k => if k < n then none else match ce[k]? with
    | some c => frzC' (frzD ce n f) c
    | none => none
def retT (ce : Ce) (n : Nat) : T → Option T
  | .d x => some (.d x)
  | .cel k => if k < n then some (.cel k) else (frzD ce n 8 (.cel k)).map T.d
  | .tup es => if es.all (elB n) = true then some (.tup es) else (frzD ce n 9 (.tup es)).map T.d
def keepL (g : T → Option T) : List T → Option (List T)
  | [] => some []
  | t :: r => match g t with
    | some d => (keepL g r).map (d :: ·)
    | none => none
def keepK {κ : Type} (g : T → Option T) : List (κ × T) → Option (List (κ × T))
  | [] => some []
  | (k, t) :: r => match g t with
    | some d => (keepK g r).map ((k, d) :: ·)
    | none => none
def keepC (g : T → Option T) : Cell → Option Cell
  | .lst xs => (keepL g xs).map .lst
  | .dic xs => (keepK g xs).map .dic
  | .ins C xs => (keepK g xs).map (.ins C)
  | .tdic sh xs => (keepK g xs).map (.tdic sh)
  | .tab P q => some (.tab P q)
  | .gone => some .gone
open Classical in
noncomputable def retL (g : T → Option T) : Ce → Ce → Option Ce
  | [], _ => some []
  | c :: r, c' :: r' => match (if c' = c then some c else keepC g c') with
    | some c0 => (retL g r r').map (c0 :: ·)
    | none => none
  | _ :: _, [] => none
noncomputable def retR (ce : Ce) (t : T) (ce' : Ce) : R T := R.opt (retL (retT ce' ce.length) ce ce') fun ce0 => R.opt (retT ce' ce.length t) fun t' => .ok t' ce0
noncomputable def retX (ce : Ce) (x : Exc) (ce' : Ce) : R T := R.opt (retL (retT ce' ce.length) ce ce') fun ce0 => .ex x ce0
section
variable {K : PySem.W.Frag} {H H' : Hp} {ce ce' : Ce} {G G' G2 : Hp} {m m' : List Addr}
theorem frzL_ok {g : T → Option D} (hg : ∀ t v d, RepT K m' G' t v → g t = some d → Rep K G2 d v) : ∀ {ts : List T} {vs : List V} {ds : List D}, RepTL K m' G' ts vs → frzL g ts = some ds → RepL K G2 ds vs
  | [], vs, ds, r, h => by cases h; exact r
  | t :: ts, vs, ds, ⟨v, r, e, rv, rr⟩, h => by
    simp only [frzL] at h
    split at h
    · next d q =>
      cases q2 : frzL g ts with
      | none => rw [q2] at h; cases h
      | some xs => rw [q2] at h; cases h; exact ⟨v, r, e, hg t v d rv q, frzL_ok hg rr q2⟩
    · cases h
theorem frzK_ok {g : T → Option D} (hg : ∀ t v d, RepT K m' G' t v → g t = some d → Rep K G2 d v) : ∀ {ts : List (Key × T)} {vs : List (Key × V)} {ds : List (Key × D)}, RepTK K m' G' ts vs → frzK g ts = some ds → RepK K G2 ds vs
  | [], vs, ds, r, h => by cases h; exact r
  | (k, t) :: ts, vs, ds, ⟨v, r, e, rv, rr⟩, h => by
    simp only [frzK] at h
    split at h
    · next d q =>
      cases q2 : frzK g ts with
      | none => rw [q2] at h; cases h
      | some xs => rw [q2] at h; cases h; exact ⟨v, r, e, hg t v d rv q, frzK_ok hg rr q2⟩
    · cases h
theorem frzF_ok {g : T → Option D} (hg : ∀ t v d, RepT K m' G' t v → g t = some d → Rep K G2 d v) : ∀ {ts : List (Str × T)} {vs : List (Str × V)} {ds : List (Str × D)}, RepTK K m' G' ts vs → frzK g ts = some ds → RepF K G2 ds vs
  | [], vs, ds, r, h => by cases h; exact r
  | (k, t) :: ts, vs, ds, ⟨v, r, e, rv, rr⟩, h => by
    simp only [frzK] at h
    split at h
    · next d q =>
      cases q2 : frzK g ts with
      | none => rw [q2] at h; cases h
      | some xs => rw [q2] at h; cases h; exact ⟨v, r, e, hg t v d rv q, frzF_ok hg rr q2⟩
    · cases h
theorem frzE_ok {g : T → Option D} (hg : ∀ t v d, RepT K m' G' t v → g t = some d → Rep K G2 d v) (gg : Gg G' G2) : ∀ {es : List (D ⊕ Nat)} {vs : List V} {ds : List D}, RepE K m' G' es vs → frzE g es = some ds → RepL K G2 ds vs
  | [], vs, ds, r, h => by cases h; exact r
  | .inl d :: es, vs, ds, ⟨v, r, e, rv, rr⟩, h => by
    simp only [frzE] at h
    cases q2 : frzE g es with
    | none => rw [q2] at h; cases h
    | some xs => rw [q2] at h; cases h; exact ⟨v, r, e, Rep.mono gg _ _ rv, frzE_ok hg gg rr q2⟩
  | .inr k :: es, vs, ds, ⟨a, r, e, rv, rr⟩, h => by
    simp only [frzE] at h
    split at h
    · next d q =>
      cases q2 : frzE g es with
      | none => rw [q2] at h; cases h
      | some xs => rw [q2] at h; cases h; exact ⟨.ref a, r, e, hg (.cel k) (.ref a) d ⟨a, rv, rfl⟩ q, frzE_ok hg gg rr q2⟩
    · cases h
open Classical in
/-- G, and all that stands at some addresses -/
noncomputable def Gall (G H : Hp) (l : List Addr) : Hp := fun a => match G a with
  | some u => some u
  | none => if a ∈ l then H a else none
theorem Gall.gg {l : List Addr} : Gg G' (Gall G' H' l) := fun a u h => by unfold Gall; rw [h]
theorem frzD_ok (R : RelS K wd H' ce' G' m') (n : Nat) : ∀ (f : Nat) (t : T) (v : V) (d : D), RepT K m' G' t v → frzD ce' n f t = some d → Rep K (Gall G' H' (m'.drop n)) d v
  | f, .d x, v, d, r, h => by
    have e : some x = some d := by cases f <;> exact h
    cases e
    exact Rep.mono Gall.gg _ _ r
  | 0, .tup es, v, d, r, h => by cases h
  | f + 1, .tup es, v, d, r, h => by
    simp only [frzD] at h
    obtain ⟨a, vs, rfl, hs, rs⟩ := r
    cases q2 : frzE (frzD ce' n f) es with
    | none => rw [q2] at h; cases h
    | some ds => rw [q2] at h; cases h; exact ⟨a, vs, rfl, Gall.gg.sqT hs, frzE_ok (frzD_ok R n f) Gall.gg rs q2⟩
  | 0, .cel k, v, d, r, h => by cases h
  | f + 1, .cel k, v, d, r, h => by
    simp only [frzD] at h
    split at h
    · cases h
    · next hk =>
      split at h
      · next c q =>
        obtain ⟨a, hm, rfl⟩ := r
        have hc := R.cel k a c hm q
        have hmem : a ∈ m'.drop n := List.mem_iff_getElem?.mpr ⟨k - n, by rw [List.getElem?_drop]; rw [show n + (k - n) = k from by omega]; exact hm⟩
        have hga : ∀ o, H' a = some o → Gall G' H' (m'.drop n) a = some o := fun o ho => by
          unfold Gall
          rw [R.out k a hm (by rw [q]; intro z; cases z; cases h)]
          dsimp only
          rw [if_pos hmem]; exact ho
        have ih := frzD_ok R n f
        cases c with
        | lst xs =>
          obtain ⟨vs, hH, rs⟩ := hc
          simp only [frzC'] at h
          cases q2 : frzL (frzD ce' n f) xs with
          | none => rw [q2] at h; cases h
          | some ds => rw [q2] at h; cases h; exact ⟨a, vs, rfl, SqL.of (hga _ hH), frzL_ok ih rs q2⟩
        | dic xs =>
          obtain ⟨vs, hH, rs⟩ := hc
          simp only [frzC'] at h
          cases q2 : frzK (frzD ce' n f) xs with
          | none => rw [q2] at h; cases h
          | some ds => rw [q2] at h; cases h; exact ⟨a, vs, rfl, hga _ hH, frzK_ok ih rs q2⟩
        | ins C xs =>
          obtain ⟨dx, vs, hH, rs⟩ := hc
          simp only [frzC'] at h
          cases q2 : frzK (frzD ce' n f) xs with
          | none => rw [q2] at h; cases h
          | some ds => rw [q2] at h; cases h; exact ⟨a, dx, vs, rfl, hga _ hH, frzF_ok ih rs q2⟩
        | tdic sh xs => cases h
        | tab P q => cases h
        | gone => cases h
      · cases h
theorem retT_ok (R : RelS K wd H' ce' G' m') {n : Nat} (hn : n ≤ m'.length) {t t' : T} {v : V} (r : RepT K m' G' t v) (h : retT ce' n t = some t') : RepT K (m'.take n) (Gall G' H' (m'.drop n)) t' v := by
  cases t with
  | d x => cases h; exact Rep.mono Gall.gg _ _ r
  | cel k =>
    simp only [retT] at h
    split at h
    · next hk =>
      cases h
      obtain ⟨a, hm, e⟩ := r
      exact ⟨a, by rw [List.getElem?_take_of_lt hk]; exact hm, e⟩
    · cases q : frzD ce' n 8 (.cel k) with
      | none => rw [q] at h; cases h
      | some d => rw [q] at h; cases h; exact frzD_ok R n 8 _ _ _ r q
  | tup es =>
    simp only [retT] at h
    split at h
    · next hb =>
      cases h
      obtain ⟨a, vs, e, hs, rs⟩ := r
      exact ⟨a, vs, e, Gall.gg.sqT hs, (rs.mono (List.prefix_refl _) Gall.gg).less hn hb⟩
    · cases q : frzD ce' n 9 (.tup es) with
      | none => rw [q] at h; cases h
      | some d => rw [q] at h; cases h; exact frzD_ok R n 9 _ _ _ r q
theorem keepL_ok (R : RelS K wd H' ce' G' m') {n : Nat} (hn : n ≤ m'.length) : ∀ {ts ts' : List T} {vs : List V}, RepTL K m' G' ts vs → keepL (retT ce' n) ts = some ts' → RepTL K (m'.take n) (Gall G' H' (m'.drop n)) ts' vs
  | [], ts', vs, r, h => by cases h; exact r
  | t :: ts, ts', vs, ⟨v, r, e, rv, rr⟩, h => by
    simp only [keepL] at h
    split at h
    · next d q =>
      cases q2 : keepL (retT ce' n) ts with
      | none => rw [q2] at h; cases h
      | some xs => rw [q2] at h; cases h; exact ⟨v, r, e, retT_ok R hn rv q, keepL_ok R hn rr q2⟩
    · cases h
theorem keepK_ok {κ : Type} (R : RelS K wd H' ce' G' m') {n : Nat} (hn : n ≤ m'.length) : ∀ {ts ts' : List (κ × T)} {vs : List (κ × V)}, RepTK K m' G' ts vs → keepK (retT ce' n) ts = some ts' → RepTK K (m'.take n) (Gall G' H' (m'.drop n)) ts' vs
  | [], ts', vs, r, h => by cases h; exact r
  | (k, t) :: ts, ts', vs, ⟨v, r, e, rv, rr⟩, h => by
    simp only [keepK] at h
    split at h
    · next d q =>
      cases q2 : keepK (retT ce' n) ts with
      | none => rw [q2] at h; cases h
      | some xs => rw [q2] at h; cases h; exact ⟨v, r, e, retT_ok R hn rv q, keepK_ok R hn rr q2⟩
    · cases h
theorem keepC_ok (R : RelS K wd H' ce' G' m') {n : Nat} (hn : n ≤ m'.length) {a : Addr} {c c' : Cell} (hc : CellOk K wd m' G' H' a c) (h : keepC (retT ce' n) c = some c') : CellOk K wd (m'.take n) (Gall G' H' (m'.drop n)) H' a c' := by
  cases c with
  | lst xs =>
    obtain ⟨vs, hH, rs⟩ := hc
    simp only [keepC] at h
    cases q2 : keepL (retT ce' n) xs with
    | none => rw [q2] at h; cases h
    | some ds => rw [q2] at h; cases h; exact ⟨vs, hH, keepL_ok R hn rs q2⟩
  | dic xs =>
    obtain ⟨vs, hH, rs⟩ := hc
    simp only [keepC] at h
    cases q2 : keepK (retT ce' n) xs with
    | none => rw [q2] at h; cases h
    | some ds => rw [q2] at h; cases h; exact ⟨vs, hH, keepK_ok R hn rs q2⟩
  | ins C xs =>
    obtain ⟨dx, vs, hH, rs⟩ := hc
    simp only [keepC] at h
    cases q2 : keepK (retT ce' n) xs with
    | none => rw [q2] at h; cases h
    | some ds => rw [q2] at h; cases h; exact ⟨dx, vs, hH, keepK_ok R hn rs q2⟩
  | tdic sh xs =>
    obtain ⟨ws, ys, rs, hl, hH, rt, hs, hd⟩ := hc
    simp only [keepC] at h
    cases q2 : keepK (retT ce' n) xs with
    | none => rw [q2] at h; cases h
    | some ds => rw [q2] at h; cases h; exact ⟨ws, ys, keepK_ok R hn rs q2, hl, hH, TdR.mono (fun _ _ z => z.mono Gall.gg) rt, hs, hd⟩
  | tab P q =>
    cases h
    obtain ⟨e, ps, h, ht, hcc⟩ := hc
    refine ⟨e, ps, h, ht, fun pos cv z => ?_⟩
    obtain ⟨c, e1, e2⟩ := hcc pos cv z
    exact ⟨c, e1, Gall.gg _ _ e2⟩
  | gone => cases h; exact hc
theorem retL_get {g : T → Option T} : ∀ {l l' l0 : Ce}, retL g l l' = some l0 → l0.length = l.length ∧ l.length ≤ l'.length ∧ ∀ (k : Nat) (c0 : Cell), l0[k]? = some c0 → ∃ c', l'[k]? = some c' ∧ ((l[k]? = some c' ∧ c0 = c') ∨ keepC g c' = some c0)
  | [], l', l0, h => by cases h; exact ⟨rfl, Nat.zero_le _, fun k c0 h => by simp at h⟩
  | c :: r, [], l0, h => by cases h
  | c :: r, c' :: r', l0, h => by
    simp only [retL] at h
    split at h
    · next c1 q =>
      cases q2 : retL g r r' with
      | none => rw [q2] at h; cases h
      | some xs =>
        rw [q2] at h; cases h
        obtain ⟨h1, h2, h3⟩ := retL_get q2
        refine ⟨by simp [h1], by simp; omega, fun k c0 hk => ?_⟩
        cases k with
        | zero =>
          simp at hk
          subst hk
          refine ⟨c', rfl, ?_⟩
          split at q
          · next e => cases q; exact .inl ⟨by simp [e], e.symm⟩
          · exact .inr q
        | succ k =>
          simp at hk
          obtain ⟨c2, e1, e2⟩ := h3 k c0 hk
          exact ⟨c2, by simpa using e1, by simpa using e2⟩
    · cases h
theorem ret_ok (R : RelS K wd H ce G m) (R' : RelS K wd H' ce' G' m') (s : Stp H m G H' m' G') {ce0 : Ce} (h : retL (retT ce' ce.length) ce ce' = some ce0) :
    RelS K wd H' ce0 (Gall G' H' (m'.drop ce.length)) m ∧ Stp H m G H' m (Gall G' H' (m'.drop ce.length)) ∧ ∀ t v t', RepT K m' G' t v → retT ce' ce.length t = some t' → RepT K m (Gall G' H' (m'.drop ce.length)) t' v := by
  obtain ⟨h1, h2, h3⟩ := retL_get h
  have hn : ce.length ≤ m'.length := by rw [R'.len]; exact h2
  have em : m'.take ce.length = m := by
    obtain ⟨x, rfl⟩ := s.pre
    rw [← R.len]; simp
  have nd : ∀ a ∈ m, a ∉ m'.drop ce.length := fun a ha hb => by
    have hd := R'.nd
    rw [← List.take_append_drop ce.length m', em, List.nodup_append] at hd
    exact hd.2.2 a ha a hb rfl
  refine ⟨⟨fun a u hu => ?_, R.nd, by rw [R.len, h1], fun k a hm hgo => ?_, fun k a c hm hc => ?_⟩, ⟨s.keep, List.prefix_refl m, fun a ha => .inl ha, s.gg.trans Gall.gg, s.stay, fun a u hu => ?_, s.kg⟩, fun t v t' r ht => ?_⟩
  · unfold Gall at hu
    split at hu
    · next u' e => cases hu; exact R'.gh a _ e
    · split at hu
      · exact .inl hu
      · cases hu
  · unfold Gall
    have hk : k < ce.length := by rw [← R.len]; exact (List.getElem?_eq_some_iff.mp hm).1
    have ha : a ∈ m := List.mem_of_getElem? hm
    have hm' : m'[k]? = some a := by rw [← em, List.getElem?_take_of_lt hk] at hm; exact hm
    rw [R'.out k a hm' (fun z => ?_)]
    · dsimp only
      rw [if_neg (nd a ha)]
    · obtain ⟨c0, hc0⟩ : ∃ c0, ce0[k]? = some c0 := ⟨_, List.getElem?_eq_getElem (by rw [h1]; exact hk)⟩
      obtain ⟨c', e1, e2⟩ := h3 k c0 hc0
      rw [z] at e1
      cases e1
      rcases e2 with ⟨_, rfl⟩ | e2
      · exact hgo hc0
      · cases e2; exact hgo hc0
  · obtain ⟨c', e1, e2⟩ := h3 k c hc
    have hk : k < ce.length := by rw [← h1]; exact (List.getElem?_eq_some_iff.mp hc).1
    have hm' : m'[k]? = some a := by rw [← em, List.getElem?_take_of_lt hk] at hm; exact hm
    have ok' := R'.cel k a c' hm' e1
    rcases e2 with ⟨e2, rfl⟩ | e2
    · have hb : cellB ce.length c = true := List.all_eq_true.mp R.tops c (List.mem_of_getElem? e2)
      have := (ok'.less hn hb).mono (List.prefix_refl _) (Gall.gg (H' := H') (l := m'.drop ce.length)) (fun o h => h)
      rw [em] at this
      exact this
    · have := keepC_ok R' hn ok' e2
      rw [em] at this
      exact this
  · unfold Gall at hu
    split at hu
    · next u' e => cases hu; exact s.gnew a _ e
    · split at hu
      · next hl =>
        rcases s.new a (List.mem_of_mem_drop hl) with z | z
        · exact (nd a z hl).elim
        · exact .inr (.inl z)
      · cases hu
  · have := retT_ok R' hn r ht
    rw [em] at this
    exact this
theorem RepX.mono {cls : Value} {dd : Option Addr} {x : Exc} (g : Gg G G') (r : RepX K G cls dd x) : RepX K G' cls dd x := by
  obtain ⟨e, r⟩ := r
  refine ⟨e, ?_⟩
  cases dd with
  | none => exact r
  | some d => obtain ⟨ws, h, rf⟩ := r; exact ⟨ws, g _ _ h, RepF.mono g _ _ rf⟩
end
/-! ### the shapes that come -/
section
variable {g : T → Option T}
@[simp] theorem retL_nil (l : Ce) : retL g [] l = some [] := by cases l <;> rfl
@[simp] theorem retL_self : ∀ (ce l : Ce), retL g ce (ce ++ l) = some ce
  | [], l => by simp
  | c :: r, l => by simp only [List.cons_append, retL, if_pos, retL_self r l, Option.map_some]
@[simp] theorem retL_same (ce : Ce) : retL g ce ce = some ce := by simpa using retL_self (g := g) ce []
theorem retL_cons {c c' : Cell} {r r' : Ce} (h : keepC g c' = some c') : retL g (c :: r) (c' :: r') = (retL g r r').map (c' :: ·) := by
  simp only [retL]
  by_cases e : c' = c
  · rw [if_pos e, e]
  · rw [if_neg e, h]
@[simp] theorem keepL_d : ∀ (xs : List D), keepL (retT ce n) (xs.map T.d) = some (xs.map T.d)
  | [] => rfl
  | x :: r => by simp only [List.map_cons, keepL, retT, keepL_d r, Option.map_some]
@[simp] theorem retT_d (ce : Ce) (n : Nat) (x : D) : retT ce n (.d x) = some (.d x) := rfl
theorem retT_new {ce l : Ce} {i : Nat} : retT (ce ++ l) ce.length (.cel (ce.length + i)) = (match l[i]? with
    | some c => frzC' (frzD (ce ++ l) ce.length 7) c
    | none => none).map T.d := by
  simp only [retT, frzD]
  rw [if_neg (by omega), if_neg (by omega), List.getElem?_append_right (by omega), show ce.length + i - ce.length = i from by omega]
theorem retT_new0 {ce l : Ce} : retT (ce ++ l) ce.length (.cel ce.length) = (match l[0]? with
    | some c => frzC' (frzD (ce ++ l) ce.length 7) c
    | none => none).map T.d := retT_new (i := 0)
theorem frzD_new {ce l : Ce} {i f : Nat} : frzD (ce ++ l) ce.length (f + 1) (.cel (ce.length + i)) = match l[i]? with
    | some c => frzC' (frzD (ce ++ l) ce.length f) c
    | none => none := by
  simp only [frzD]
  rw [if_neg (by omega), List.getElem?_append_right (by omega), show ce.length + i - ce.length = i from by omega]
@[simp] theorem frzD_d (ce : Ce) (n f : Nat) (x : D) : frzD ce n f (.d x) = some x := by cases f <;> rfl
@[simp] theorem frzL_d {ce : Ce} {n f : Nat} : ∀ xs : List D, frzL (frzD ce n f) (xs.map T.d) = some xs
  | [] => rfl
  | x :: r => by simp only [List.map_cons, frzL, frzD_d, frzL_d r, Option.map_some]
@[simp] theorem frzK_d {κ : Type} {ce : Ce} {n f : Nat} : ∀ xs : List (κ × D), frzK (frzD ce n f) (xs.map fun p => (p.1, T.d p.2)) = some xs
  | [] => rfl
  | x :: r => by simp only [List.map_cons, frzK, frzD_d, frzK_d r, Option.map_some]
end
end DL

namespace DL
open PySem L2
abbrev Fn := List T → Ce → R T
def phi (F : Fn) : Phi := fun ts ce Q E => (F ts ce).wp Q E
section
variable {X : Cx} {e a b c : Expr} {es : List Expr} {pos p p2 apos : Pos} {C f g : Addr} {k : Nat} {F : Fn} {ma mb mc : M} {mu : MA}
/-! ### calls of own defs -/
def mCall (F : Fn) (u : MA) : M := fun sl ce => (u sl ce).bind fun ts ce1 => F ts ce1
theorem mCall_wp {sl : Sl} {ce : Ce} {Q : T → Ce → Prop} {E : Ex1} (h : wV (mCall F mu) sl ce Q E) : uCall (phi F) (wV mu) sl ce Q E := by
  unfold wV mCall at h
  simp only [R.wp_bind] at h
  exact h
theorem em_call {x : Str} (FX : FnX X.prog X.w X.K X.mg X.base k f (phi F)) (hr : Room k X.A) (hm : X.mg x = some (.ref f)) (hk : PySem.W.keepIn X.K (.ref f) = true) (ha : AM X (e :: es) mu) (hg : Gl X x := by rfl)
    (hdb : (x == ("__debug__" : Str)) = false := by decide) (he : starEach (e :: es) X.env = (false, eval e X.env) :: starEach es X.env := by rfl) (hpl : (backTo pos (starEach es X.env)).any (·.1) = false := by rfl) : EM X (.Call (.Name x p) (e :: es) [] pos) (mCall F mu) := ⟨(de_call FX hr hm hk ha.da hg hdb he hpl).weak fun _ _ _ _ h => mCall_wp h⟩
/-! ### C(..) -/
def R.onN {α : Type} (t : T) (r : R α) [Hold r] : R α := match t with
  | .d .non => r
  | _ => .bad
@[simp] theorem R.onN_non {α : Type} (r : R α) : R.onN (.d .non) r = r := rfl
theorem R.wp_onN {α : Type} {t : T} {r : R α} {Q : α → Ce → Prop} {E : Exc → Ce → Prop} (h : (R.onN t r).wp Q E) : t = .d .non ∧ r.wp Q E := by
  unfold R.onN at h
  split at h
  · exact ⟨rfl, h⟩
  · exact h.elim
noncomputable def R.made (ce : Ce) (r : R T) : R T := match r with
  | .ok v ce2 => R.onN v (retR ce (.cel ce.length) ce2)
  | .ex x ce2 => retX ce x ce2
  | .bad => .bad
@[simp] theorem R.made_ok (ce : Ce) (v : T) (ce2 : Ce) : R.made ce (.ok v ce2) = R.onN v (retR ce (.cel ce.length) ce2) := rfl
noncomputable def mkR (C : Addr) (F : Fn) (ts : List T) (ce : Ce) : R T := R.made ce (F (.cel ce.length :: ts) (ce ++ [.ins C []]))
noncomputable def mMake (C : Addr) (F : Fn) (u : MA) : M := fun sl ce => (u sl ce).bind fun ts ce1 => mkR C F ts ce1
theorem semMakeM {K : PySem.W.Frag} {ta : WX → TA} (sa : SemA K wd ta (wV mu)) : SemE K wd (fun W => tMakeX K wd C (phi F) W (ta W)) (wV (mMake C F mu)) := by
  intro W σ H sl ce G m Qd Ed Qv Rl w h k
  have h' : wV mu sl ce (fun ts ce1 => (mkR C F ts ce1).wp Qd fun x ce' => Ed x sl ce') Ed := by
    unfold wV mMake at h
    rw [R.wp_bind] at h
    exact h
  refine sa W σ H sl ce G m _ Ed _ Rl w h' fun ts ce1 G1 m1 vs H1 R1 s1 r1 h1 => ?_
  intro x dx hx hdx ne
  obtain ⟨Ra, sa1⟩ := R1.toRelS.beside (.own x) hdx
  have hx' : upd H1 dx (.own x) x = none := by rw [upd_ne (Ne.symm ne)]; exact hx
  obtain ⟨Rb, sb⟩ := Ra.cell (o := .ins C dx []) (c := .ins C []) hx' ⟨dx, [], upd_same, rfl⟩
  have sab := sa1.trans sb
  refine ⟨ce1 ++ [.ins C []], G1, m1 ++ [x], .cel ce1.length :: ts, fun v ce2 => (R.onN v (retR ce1 (.cel ce1.length) ce2)).wp Qd fun x ce' => Ed x sl ce', fun x ce2 => (retX ce1 x ce2).wp Qd fun x ce' => Ed x sl ce', Rb, ⟨_, _, rfl, ⟨x, by rw [← R1.len]; exact snoc_last, rfl⟩, r1.mono sab.pre sab.gg⟩, ?_, fun d ce' G' m' v H' R' s' r' q' => ?_, fun y ce' G' m' cls dd H' R' s' r' q' => ?_⟩
  · unfold mkR R.made at h1
    unfold phi
    cases e : F (.cel ce1.length :: ts) (ce1 ++ [.ins C []]) with
    | ok v ce2 => rw [e] at h1; exact h1
    | ex x ce2 => rw [e] at h1; exact h1
    | bad => rw [e] at h1; exact h1.elim
  · obtain ⟨rfl, q⟩ := R.wp_onN q'
    obtain ⟨ce0, e1, q⟩ := R.wp_opt q
    obtain ⟨t', e2, q⟩ := R.wp_opt q
    obtain ⟨R2, s2, hr⟩ := ret_ok R1.toRelS R' (sab.trans s') e1
    have hmx : m'[ce1.length]? = some x := by
      rw [← R1.len]
      exact pre_get s'.pre snoc_last
    exact ⟨r', k t' ce0 _ m1 _ H' (R1.step s2 R2) (s1.trans s2) (hr (.cel ce1.length) _ _ ⟨x, hmx, rfl⟩ e2) q⟩
  · obtain ⟨ce0, e1, q⟩ := R.wp_opt q'
    obtain ⟨R2, s2, hr⟩ := ret_ok R1.toRelS R' (sab.trans s') e1
    exact w cls dd σ H' y sl ce0 _ m1 (R1.step s2 R2) (s1.trans s2) (r'.mono Gall.gg) q
theorem em_make {x : Str} (Mk' : Mk X.K C f) (FX : FnX X.prog X.w X.K X.mg X.base k f (phi F)) (hr : Room (k + 1) X.A) (hm : X.mg x = some (.ref C)) (ha : AM X (e :: es) mu) (hg : Gl X x := by rfl)
    (hdb : (x == ("__debug__" : Str)) = false := by decide) (he : starEach (e :: es) X.env = (false, eval e X.env) :: starEach es X.env := by rfl) (hpl : (backTo pos (starEach es X.env)).any (·.1) = false := by rfl) : EM X (.Call (.Name x p) (e :: es) [] pos) (mMake C F mu) := by
  obtain ⟨ta, pa, sa⟩ := ha.da.ex
  refine ⟨⟨fun W => tMakeX X.K X.w C (phi F) W (ta W), fun W tk => ⟨fun pins s σ H Q I h => ?_⟩, semMakeM sa⟩⟩
  refine wpAny_Call_Name_kw (ld_glob I hg hm ?_ hdb)
  refine PySem.W.callWith_K (h₀ := X.base) I.ok.mod.kin Mk'.kp (thn ((pa W tk).run pos pins s σ H _ I h) fun us s1 ⟨vs, H1, I1, r, q⟩ => ⟨I1.kIn, ?_⟩) he hpl
  exact run_makeX Mk' FX hr (passAt tk σ) I1 r q
/-! ### fields, properties, methods -/
noncomputable def R.ins {α : Type} (ce : Ce) (t : T) (C : Addr) (k : List (Str × T) → R α) : R α := R.opt (insOf ce t) fun q => R.chk (q.1 = C) (k q.2)
theorem R.wp_ins {α : Type} {ce : Ce} {t : T} {k : List (Str × T) → R α} {Q : α → Ce → Prop} {E : Exc → Ce → Prop} (h : (R.ins ce t C k).wp Q E) : ∃ fs, insOf ce t = some (C, fs) ∧ (k fs).wp Q E := by
  obtain ⟨⟨C', fs⟩, e, h⟩ := R.wp_opt h
  obtain ⟨h1, h2⟩ := R.wp_chk h
  cases h1
  exact ⟨fs, e, h2⟩
noncomputable def mFld (C : Addr) (n : Str) (a : M) : M := fun sl ce => (a sl ce).bind fun x ce1 => R.ins ce1 x C fun fs => R.opt (fs.lookup n) fun d => .ok d ce1
theorem em_fld {n : Str} (ha : EM X e ma) (c : Cls X.K C) (hn : NoAttr X.K C n) (hb : attributeBase e n X.env (eval e X.env) = eval e X.env := by rfl) : EM X (.Attribute e n pos) (mFld C n ma) := ⟨(de_fld ha.de c hn hb).weak fun sl ce Q E h => by
  unfold wV mFld at h
  simp only [R.wp_bind] at h
  refine R.wp_mono h (fun x ce1 h => ?_) fun _ _ h => h
  obtain ⟨fs, e1, h⟩ := R.wp_ins h
  obtain ⟨d, e2, h⟩ := R.wp_opt h
  rw [e1]
  refine ⟨rfl, ?_⟩
  rw [e2]
  exact h⟩
noncomputable def mProp (C : Addr) (F : Fn) (a : M) : M := fun sl ce => (a sl ce).bind fun x ce1 => R.ins ce1 x C fun _ => (F [x] ce1).noEx
theorem em_prop {n : Str} {pa : Addr} (ha : EM X e ma) (c : Cls X.K C) (hp : PropOf X.K C n pa g) (FX : FnX X.prog X.w X.K X.mg X.base k g (phi F)) (hr : Room (k + 1) X.A) (hab : attributeBase e n X.env (eval e X.env) = eval e X.env := by rfl) : EM X (.Attribute e n pos) (mProp C F ma) := ⟨(de_prop ha.de c hp FX hr hab).weak fun sl ce Q E h => by
  unfold wV mProp at h
  simp only [R.wp_bind] at h
  refine R.wp_mono h (fun x ce1 h => ?_) fun _ _ h => h
  obtain ⟨fs, e1, h⟩ := R.wp_ins h
  rw [e1]
  exact ⟨rfl, R.wp_noEx h⟩⟩
noncomputable def mMeth (C : Addr) (n : Str) (F : Fn) (a : M) (u : MA) : M := fun sl ce => (a sl ce).bind fun x ce1 => R.ins ce1 x C fun fs => R.chk (fs.lookup n = none) ((u sl ce1).bind fun ts ce2 => F (x :: ts) ce2)
theorem mMeth_wp {n : Str} {sl : Sl} {ce : Ce} {Q : T → Ce → Prop} {E : Ex1} (h : wV (mMeth C n F ma mu) sl ce Q E) : uMeth C n (phi F) (wV ma) (wV mu) sl ce Q E := by
  unfold wV mMeth at h
  simp only [R.wp_bind] at h
  refine R.wp_mono h (fun x ce1 h => ?_) fun _ _ h => h
  obtain ⟨fs, e1, h⟩ := R.wp_ins h
  obtain ⟨e2, h⟩ := R.wp_chk h
  rw [e1]
  refine ⟨rfl, e2, ?_⟩
  rw [R.wp_bind] at h
  exact h
theorem em_meth {n : Str} {pl : Sem Bool} (ho : EM X a ma) (c : Cls X.K C) (hm : Meth X.K C n f) (FX : FnX X.prog X.w X.K X.mg X.base k f (phi F)) (hr : Room k X.A) (ha : AM X (e :: es) mu)
    (hst : starEach (e :: es) X.env = (false, eval e X.env) :: starEach es X.env := by rfl) (hpl : (backTo pos (starEach es X.env)).any (·.1) = false := by rfl)
    (ht : eval (.Call (.Attribute a n apos) (e :: es) [] pos) X.env = (do
      let ov ← eval a X.env
      standAt apos.atName
      let (f, first) ← holding [ov] (getMethod ov n pl)
      callWith pos f first (backTo pos (starEach (e :: es) X.env)) (backToKw pos (keywordEach [] X.env))) := by rfl) :
    EM X (.Call (.Attribute a n apos) (e :: es) [] pos) (mMeth C n F ma mu) := ⟨(de_meth ho.de c hm FX hr ha.da hst hpl ht).weak fun _ _ _ _ h => mMeth_wp h⟩
/-! ### len(o), e in o, o[e], o == o' -/
noncomputable def oInOM (C : Addr) (F : Fn) (neg : Bool) : B2 := fun x y ce => R.ins ce y C fun _ => (F [y, x] ce).noEx.bind fun v ce' => R.onB v fun b => .ok (.d (.bl (neg != b))) ce'
theorem oInOM_wp {neg : Bool} {x y : T} {ce : Ce} {Q : T → Ce → Prop} {E : Exc → Ce → Prop} (h : (oInOM C F neg x y ce).wp Q E) : oInO C (phi F) neg x y ce Q := by
  obtain ⟨fs, e1, h2⟩ := R.wp_ins h
  simp only [oInO, e1]
  refine ⟨trivial, ?_⟩
  rw [R.wp_bind] at h2
  refine R.wp_mono (R.wp_noEx (E' := fun _ _ => False) h2) (fun v ce' h => ?_) fun _ _ h => h
  obtain ⟨n, rfl, h3⟩ := R.wp_onB h
  exact h3
theorem om_notinO (hs : PySem.W.findIn X.K (.ref C) "__contains__" = some (some (.ref f))) (hf : PySem.W.isFn X.K (.ref f) = true) (FX : FnX X.prog X.w X.K X.mg X.base k f (phi F)) (hr : Room k X.A) : OpM X (compareOp .NotIn) (oInOM C F true) := ⟨(od_notinO hs hf FX hr).weak fun _ _ _ _ h => oInOM_wp h⟩
noncomputable def mGetO (C : Addr) (F : Fn) (a b : M) : M := fun sl ce => (a sl ce).bind fun x ce1 => (b sl ce1).bind fun y ce2 => R.ins ce2 x C fun _ => F [x, y] ce2
theorem em_getO (hs : PySem.W.findIn X.K (.ref C) "__getitem__" = some (some (.ref f))) (hfn : PySem.W.fnIn X.K f = true) (hf : PySem.W.isFn X.K (.ref f) = true) (FX : FnX X.prog X.w X.K X.mg X.base k f (phi F)) (hr : Room (k + 1) X.A) (ha : EM X a ma) (hb : EM X b mb)
    (hsl : ∀ x i, subscripted b true (.ref x) i = runValue (.builtin "lifetime.subscript" ⟨[.ref x, i], []⟩) := by intros; with_unfolding_all rfl) : EM X (.Subscript a b pos) (mGetO C F ma mb) := ⟨(de_getO hs hfn hf FX hr ha.de hb.de hsl).weak fun sl ce Q E h => by
  unfold wV mGetO at h
  simp only [R.wp_bind] at h
  refine R.wp_mono h (fun x ce1 h => R.wp_mono h (fun y ce2 h => ?_) fun _ _ h => h) fun _ _ h => h
  obtain ⟨fs, e1, h2⟩ := R.wp_ins h
  rw [e1]
  exact ⟨rfl, h2⟩⟩
noncomputable def oEqOM (C : Addr) (F : Fn) (neg : Bool) : B2 := fun x y ce => R.ins ce x C fun _ => R.ins ce y C fun _ => (F [x, y] ce).noEx.bind fun v ce' => R.onB v fun b => .ok (.d (.bl (neg != b))) ce'
theorem oEqOM_wp {neg : Bool} {x y : T} {ce : Ce} {Q : T → Ce → Prop} {E : Exc → Ce → Prop} (h : (oEqOM C F neg x y ce).wp Q E) : oEqO C (phi F) neg x y ce Q := by
  obtain ⟨fs, e1, h1⟩ := R.wp_ins h
  obtain ⟨gs, e2, h2⟩ := R.wp_ins h1
  simp only [oEqO, e1, e2]
  refine ⟨trivial, trivial, ?_⟩
  rw [R.wp_bind] at h2
  refine R.wp_mono (R.wp_noEx (E' := fun _ _ => False) h2) (fun v ce' h => ?_) fun _ _ h => h
  obtain ⟨n, rfl, h3⟩ := R.wp_onB h
  exact h3
theorem om_eqO (hs : PySem.W.findIn X.K (.ref C) "__eq__" = some (some (.ref f))) (hf : PySem.W.isFn X.K (.ref f) = true) (FX : FnX X.prog X.w X.K X.mg X.base k f (phi F)) (hr : Room k X.A) : OpM X (compareOp .Eq) (oEqOM C F false) := ⟨(od_eqO hs hf FX hr).weak fun _ _ _ _ h => oEqOM_wp h⟩
theorem om_neO (hs : PySem.W.findIn X.K (.ref C) "__eq__" = some (some (.ref f))) (hne : PySem.W.findIn X.K (.ref C) "__ne__" = some (some (.builtin "object.__ne__"))) (hob : PySem.W.mroIn X.K C (.type "object") = some true) (hf : PySem.W.isFn X.K (.ref f) = true) (FX : FnX X.prog X.w X.K X.mg X.base k f (phi F)) (hr : Room (k + 1) X.A) : OpM X (compareOp .NotEq) (oEqOM C F true) := ⟨(od_neO hs hne hob hf FX hr).weak fun _ _ _ _ h => oEqOM_wp h⟩
/-! ### dicts -/
def mDNew : M := fun _ ce => .ok (.cel ce.length) (ce ++ [.dic []])
theorem em_dnew : EM X (.Dict [] [] pos) mDNew := ⟨de_dnew.weak fun _ _ _ _ h => h⟩
def oDGetM : B2 := fun x y ce => R.opt (dicOf ce x) fun kvs => R.opt (keyT y) fun k => R.opt (valA kvs k) fun t => .ok t ce
theorem em_dget (ha : EM X a ma) (hb : EM X b mb) (hu : X.A.units + 1 < cLine) (hs : NoSl b := by exact fun _ _ => rfl) : EM X (.Subscript a b pos) (mOp oDGetM ma mb) := ⟨(de_dget ha.de hb.de hu hs).weak fun sl ce Q E h => by
  have h' := mOp_wp h
  refine R.wp_mono h' (fun x ce1 h => R.wp_mono h (fun y ce2 h => ?_) fun _ _ h => h) fun _ _ h => h
  obtain ⟨kvs, e1, h⟩ := R.wp_opt h
  obtain ⟨kk, e2, h⟩ := R.wp_opt h
  obtain ⟨t, e3, h⟩ := R.wp_opt h
  simp only [oDGet, e1, e2, e3]
  exact h⟩
def oDInM (neg : Bool) : B2 := fun x y ce => R.opt (dicOf ce y) fun kvs => R.opt (keyT x) fun k => .ok (.d (.bl (neg != (valA kvs k).isSome))) ce
theorem oDInM_wp {neg : Bool} {x y : T} {ce : Ce} {Q : T → Ce → Prop} {E : Exc → Ce → Prop} (h : (oDInM neg x y ce).wp Q E) : oDIn neg x y ce Q := by
  obtain ⟨kvs, e1, h1⟩ := R.wp_opt h
  obtain ⟨kk, e2, h2⟩ := R.wp_opt h1
  simp only [oDIn, e1, e2]
  exact h2
theorem om_notinD (hu : X.A.units + 1 < cLine) : OpM X (compareOp .NotIn) (oDInM true) := ⟨(od_notinD hu).weak fun _ _ _ _ h => oDInM_wp h⟩
def mDGet2 (a b c : M) : M := fun sl ce => (a sl ce).bind fun x ce1 => R.opt (dicOf ce1 x) fun _ => (b sl ce1).bind fun y ce2 => (c sl ce2).bind fun z ce3 => R.opt (dicOf ce3 x) fun kvs => R.opt (keyT y) fun k => .ok ((valA kvs k).getD z) ce3
theorem em_dget2 {apos cpos : Pos} (ha : EM X a ma) (hb : EM X b mb) (hc : EM X c mc) (hu : X.A.units + 1 < cLine) (mm : M2 X a "get" apos b c cpos := by exact ⟨rfl, rfl, rfl, rfl⟩) : EM X (.Call (.Attribute a "get" apos) [b, c] [] cpos) (mDGet2 ma mb mc) := ⟨(de_dget2 ha.de hb.de hc.de hu mm).weak fun sl ce Q E h => by
  unfold wV mDGet2 at h
  rw [R.wp_bind] at h
  refine R.wp_mono h (fun x ce1 h => ?_) fun _ _ h => h
  obtain ⟨kv0, e0, h⟩ := R.wp_opt h
  refine ⟨by rw [e0]; rfl, ?_⟩
  simp only [R.wp_bind] at h
  refine R.wp_mono h (fun y ce2 h => R.wp_mono h (fun z ce3 h => ?_) fun _ _ h => h) fun _ _ h => h
  obtain ⟨kvs, e1, h⟩ := R.wp_opt h
  obtain ⟨kk, e2, h⟩ := R.wp_opt h
  simp only [kDGet2, e1, e2]
  exact h⟩
def oDictM : B1 := fun ts ce => match ts with
  | [.d (.lst ds)] => R.opt (pairsD ds) fun kds => .ok (.d (.dic (mergeA [] kds))) ce
  | _ => .bad
@[simp] theorem oDictM_lst (ds : List D) (ce : Ce) : oDictM [.d (.lst ds)] ce = R.opt (pairsD ds) fun kds => .ok (.d (.dic (mergeA [] kds))) ce := rfl
theorem cm_dict (hc : X.calm = true) : CaM X (.type "dict") oDictM := ⟨(cd_dict hc).weak fun ts ce Q h => by
  unfold oDictM at h
  split at h
  · obtain ⟨kds, e, h⟩ := R.wp_opt h
    simp only [oDict, e]
    exact h
  · exact h.elim⟩
end
end DL

namespace DL
open PySem L2
/-! ### targets -/
abbrev GT := T → Sl → Option Sl
abbrev GTs := List T → Sl → Option Sl
def wG (g : GT) : UG := fun t sl ce Q => ∃ sl', g t sl = some sl' ∧ Q sl' ce
def wGs (g : GTs) : UGs := fun t sl ce Q => ∃ sl', g t sl = some sl' ∧ Q sl' ce
section
variable {X : Cx} {e a b c tg iter : Expr} {es : List Expr} {pos p : Pos} {js js' : List Nat} {ma mb mc : M} {mu mi : MA} {mt : MT}
theorem DG.weak {u u' : UG} (h : DG X tg js u) (hw : ∀ t sl ce Q, u' t sl ce Q → u t sl ce Q) : DG X tg js u' := by
  obtain ⟨t, p, s⟩ := h.ex
  exact ⟨t, p, fun σ H sl ce G m Qd Qs t v R r h k => s σ H sl ce G m Qd Qs t v R r (hw _ _ _ _ h) k⟩
theorem DGs.weak {u u' : UGs} (h : DGs X es js u) (hw : ∀ t sl ce Q, u' t sl ce Q → u t sl ce Q) : DGs X es js u' := by
  obtain ⟨t, p, s⟩ := h.ex
  exact ⟨t, p, fun σ H sl ce G m Qd Qs t v R r h k => s σ H sl ce G m Qd Qs t v R r (hw _ _ _ _ h) k⟩
structure GM (X : Cx) (tg : Expr) (js : List Nat) (g : GT) : Prop where
  dg : DG X tg js (wG g)
structure GsM (X : Cx) (es : List Expr) (js : List Nat) (g : GTs) : Prop where
  dgs : DGs X es js (wGs g)
def gName (i : Nat) : GT := fun t sl => some (sl.set i (some t))
def gNil : GTs := fun ts sl => match ts with
  | [] => some sl
  | _ => none
def gCons (g : GT) (gs : GTs) : GTs := fun ts sl => match ts with
  | t :: r => (g t sl).bind fun sl1 => gs r sl1
  | [] => none
def gTup (n : Nat) (gs : GTs) : GT := fun t sl => match t with
  | .d (.tup ds) => if ds.length = n then gs (ds.map T.d) sl else none
  | _ => none
@[simp] theorem gNil_nil (sl : Sl) : gNil [] sl = some sl := rfl
@[simp] theorem gCons_cons (g : GT) (gs : GTs) (t : T) (r : List T) (sl : Sl) : gCons g gs (t :: r) sl = (g t sl).bind fun sl1 => gs r sl1 := rfl
@[simp] theorem gTup_tup (n : Nat) (gs : GTs) (ds : List D) (sl : Sl) : gTup n gs (.d (.tup ds)) sl = if ds.length = n then gs (ds.map T.d) sl else none := rfl
theorem gm_name (i : Nat) {x : Str} (hN : X.N.Nodup) (hi : X.N[i]? = some x := by rfl) (hx : Loc X.env.scope x := by first | exact Or.inl rfl | exact Or.inr rfl) (hf : X.fn x = true ∨ X.env.scope.names.lookup x = some .local := by first | exact .inl rfl | exact .inr rfl | assumption) : GM X (.Name x pos) [i] (gName i) :=
  ⟨(dg_name i hN hi hx hf).weak fun t sl ce Q ⟨sl', e, h⟩ => by cases e; exact h⟩
theorem gsm_nil : GsM X [] [] gNil := ⟨dgs_nil.weak fun ts sl ce Q ⟨sl', e, h⟩ => by
  unfold gNil at e
  split at e
  · cases e; exact h
  · cases e⟩
theorem gsm_cons {g : GT} {gs : GTs} (h1 : GM X e js g) (h2 : GsM X es js' gs) (hs : (assignEach (e :: es) X.env).map (·.2) = assign e X.env :: (assignEach es X.env).map (·.2) := by rfl) : GsM X (e :: es) (js ++ js') (gCons g gs) := ⟨(dgs_cons h1.dg h2.dgs hs).weak fun ts sl ce Q ⟨sl', e, h⟩ => by
  cases ts with
  | nil => cases e
  | cons t' r =>
    simp only [gCons] at e
    cases q : g t' sl with
    | none => rw [q] at e; cases e
    | some sl1 => rw [q] at e; exact ⟨sl1, q, sl', e, h⟩⟩
theorem gm_tup {k n : Nat} {gs : GTs} (h : GsM X es js gs) (hc : X.calm = true := by rfl) (hn : (assignEach es X.env).length = n := by rfl) (hst : (assignEach es X.env).findIdx? (·.1) = none := by rfl) : GM X (.Tuple es k pos) js (gTup n gs) := ⟨(dg_tup h.dgs hc hn hst).weak fun t sl ce Q ⟨sl', e, h⟩ => by
  unfold gTup at e
  split at e
  · split at e
    · next hl => exact ⟨hl, sl', e, h⟩
    · cases e
  · cases e⟩
/-! ### what is walked -/
def itL : T → Option (List T)
  | .d (.lst ds) => some (ds.map T.d)
  | _ => none
def itT : T → Option (List T)
  | .d (.tup ds) => some (ds.map T.d)
  | _ => none
def itS : T → Option (List T)
  | .d (.str z) => some (signs z)
  | _ => none
def itDK : T → Option (List T)
  | .d (.dic kvs) => some (kvs.map fun p => T.d (keyD p.1))
  | _ => none
def itDV : T → Option (List T)
  | .d (.dic kvs) => some (kvs.map fun p => T.d p.2)
  | _ => none
@[simp] theorem itL_lst (ds : List D) : itL (.d (.lst ds)) = some (ds.map T.d) := rfl
@[simp] theorem itT_tup (ds : List D) : itT (.d (.tup ds)) = some (ds.map T.d) := rfl
@[simp] theorem itS_str (z : Str) : itS (.d (.str z)) = some (signs z) := rfl
@[simp] theorem itDK_dic (kvs : List (Key × D)) : itDK (.d (.dic kvs)) = some (kvs.map fun p => T.d (keyD p.1)) := rfl
@[simp] theorem itDV_dic (kvs : List (Key × D)) : itDV (.d (.dic kvs)) = some (kvs.map fun p => T.d p.2) := rfl
def mIt (f : T → Option (List T)) (a : M) : MA := fun sl ce => (a sl ce).bind fun x ce1 => R.opt (f x) fun xs => .ok xs ce1
theorem mIt_wp {f : T → Option (List T)} {sl : Sl} {ce : Ce} {Q : List T → Ce → Prop} {E : Ex1} (h : wV (mIt f ma) sl ce Q E) : wV ma sl ce (fun x ce1 => ∃ xs, f x = some xs ∧ Q xs ce1) E := by
  unfold wV mIt at h
  rw [R.wp_bind] at h
  exact R.wp_mono h (fun x ce1 h => R.wp_opt h) fun _ _ h => h
theorem im_list (ha : EM X e ma) : IM X tg e (mIt itL ma) := ⟨(di_list ha.de).weak fun sl ce Q E h => R.wp_mono (mIt_wp h) (fun x ce1 ⟨xs, e, h⟩ => by
  unfold itL at e
  split at e
  · cases e; exact h
  · cases e) fun _ _ h => h⟩
theorem im_tup (ha : EM X e ma) : IM X tg e (mIt itT ma) := ⟨(di_tup ha.de).weak fun sl ce Q E h => R.wp_mono (mIt_wp h) (fun x ce1 ⟨xs, e, h⟩ => by
  unfold itT at e
  split at e
  · cases e; exact h
  · cases e) fun _ _ h => h⟩
theorem im_str (ha : EM X e ma) : IM X tg e (mIt itS ma) := ⟨(di_str ha.de).weak fun sl ce Q E h => R.wp_mono (mIt_wp h) (fun x ce1 ⟨xs, e, h⟩ => by
  unfold itS at e
  split at e
  · cases e; exact h
  · cases e) fun _ _ h => h⟩
theorem im_dkeys (ha : EM X e ma) : IM X tg e (mIt itDK ma) := ⟨(di_dkeys ha.de).weak fun sl ce Q E h => R.wp_mono (mIt_wp h) (fun x ce1 ⟨xs, e, h⟩ => by
  unfold itDK at e
  split at e
  · cases e; exact h
  · cases e) fun _ _ h => h⟩
theorem im_dvalues {apos cpos : Pos} (ha : EM X e ma) (hbase : attributeBase e "values" X.env (eval e X.env) = eval e X.env := by rfl) (hline : (apos.endLine == cpos.line) = true := by rfl) : IM X tg (.Call (.Attribute e "values" apos) [] [] cpos) (mIt itDV ma) := ⟨(di_dvalues ha.de hbase hline).weak fun sl ce Q E h => R.wp_mono (mIt_wp h) (fun x ce1 ⟨xs, e, h⟩ => by
  unfold itDV at e
  split at e
  · cases e; exact h
  · cases e) fun _ _ h => h⟩
noncomputable def mRange1 (u : MA) : MA := fun sl ce => (u sl ce).bind fun ts ce1 => R.on1 ts fun t => R.onI t fun j => R.chk (-(2 ^ 62) ≤ j ∧ j < 2 ^ 62) (.ok ((List.range j.toNat).map fun (i : Nat) => .d (.int i)) ce1)
theorem im_range1 (ha : AM X [a] mu) (hm : X.mg "range" = none) (hg : Gl X "range" := by rfl) (hs : starEach [a] X.env = [(false, eval a X.env)] := by rfl) : IM X tg (.Call (.Name "range" p) [a] [] pos) (mRange1 mu) := ⟨(di_range1 ha.da hm hg hs).weak fun sl ce Q E h => by
  unfold wV mRange1 at h
  rw [R.wp_bind] at h
  refine R.wp_mono h (fun ts ce1 h => ?_) fun _ _ h => h
  obtain ⟨t, rfl, h1⟩ := R.wp_on1 h
  obtain ⟨j, rfl, h2⟩ := R.wp_onI h1
  exact R.wp_chk h2⟩
def zipT : List T → Option (List T)
  | [.d (.tup xs), .d (.tup ys)] => some (zipD xs ys)
  | [.d (.lst xs), .d (.lst ys)] => some (zipD xs ys)
  | _ => none
@[simp] theorem zipT_tup (xs ys : List D) : zipT [.d (.tup xs), .d (.tup ys)] = some (zipD xs ys) := rfl
@[simp] theorem zipT_lst (xs ys : List D) : zipT [.d (.lst xs), .d (.lst ys)] = some (zipD xs ys) := rfl
def mZip (u : MA) : MA := fun sl ce => (u sl ce).bind fun ts ce1 => R.opt (zipT ts) fun xs => .ok xs ce1
theorem im_zip {e2 : Expr} {tpos : Pos} {elts : List Expr} {kk : Nat} (ha : AM X [e, e2] mu) (hm : X.mg "zip" = none) (hg : Gl X "zip" := by rfl)
    (hs : starEach [e, e2] X.env = (false, eval e X.env) :: starEach [e2] X.env := by rfl) (hpl : (backTo pos (starEach [e2] X.env)).any (·.1) = false := by rfl) : IM X (.Tuple elts kk tpos) (.Call (.Name "zip" p) [e, e2] [] pos) (mZip mu) := ⟨(di_zip ha.da hm hg hs hpl).weak fun sl ce Q E h => by
  unfold wV mZip at h
  rw [R.wp_bind] at h
  refine R.wp_mono h (fun ts ce1 h => ?_) fun _ _ h => h
  obtain ⟨xs, e, h⟩ := R.wp_opt h
  unfold zipT at e
  split at e
  · cases e; exact h
  · cases e; exact h
  · cases e⟩
def enumT : T → Option (List T)
  | .d (.tup xs) => some (enumD xs)
  | _ => none
@[simp] theorem enumT_tup (xs : List D) : enumT (.d (.tup xs)) = some (enumD xs) := rfl
def mEnum (u : MA) : MA := fun sl ce => (u sl ce).bind fun ts ce1 => R.on1 ts fun t => R.opt (enumT t) fun xs => .ok xs ce1
theorem im_enum {tpos : Pos} {elts : List Expr} {kk : Nat} (ha : AM X [e] mu) (hm : X.mg "enumerate" = none) (hg : Gl X "enumerate" := by rfl) (hs : starEach [e] X.env = [(false, eval e X.env)] := by rfl) : IM X (.Tuple elts kk tpos) (.Call (.Name "enumerate" p) [e] [] pos) (mEnum mu) := ⟨(di_enum ha.da hm hg hs).weak fun sl ce Q E h => by
  unfold wV mEnum at h
  rw [R.wp_bind] at h
  refine R.wp_mono h (fun ts ce1 h => ?_) fun _ _ h => h
  obtain ⟨t, rfl, h1⟩ := R.wp_on1 h
  obtain ⟨xs, e, h2⟩ := R.wp_opt h1
  unfold enumT at e
  split at e
  · cases e; exact h2
  · cases e⟩
/-! ### list comprehensions -/
def R.onD {α : Type} (t : T) (k : D → R α) [Hold k] : R α := match t with
  | .d x => k x
  | _ => .bad
@[simp] theorem R.onD_d {α : Type} (x : D) (k : D → R α) : R.onD (.d x) k = k x := rfl
theorem R.wp_onD {α : Type} {t : T} {k : D → R α} {Q : α → Ce → Prop} {E : Exc → Ce → Prop} (h : (R.onD t k).wp Q E) : ∃ x, t = .d x ∧ (k x).wp Q E := by
  unfold R.onD at h
  split at h
  · exact ⟨_, rfl, h⟩
  · exact h.elim
def itemM (g : GT) (t : MT) (e : M) (sl : Sl) (x : T) (ce : Ce) : R (Option D) := R.opt (g x sl) fun sl1 => (t sl1 ce).noEx.bind fun b ce1 => R.cnd b ((e sl1 ce1).noEx.bind fun y ce2 => R.onD y fun d => .ok (some d) ce2) (.ok none ce1)
def compM (f : T → Ce → R (Option D)) [Hold f] : List T → Ce → R (List D)
  | [], ce => .ok [] ce
  | x :: r, ce => (f x ce).bind fun o ce1 => (compM f r ce1).bind fun ds ce2 => .ok (o.toList ++ ds) ce2
@[simp] theorem compM_nil (f : T → Ce → R (Option D)) (ce : Ce) : compM f [] ce = .ok [] ce := rfl
@[simp] theorem compM_cons (f : T → Ce → R (Option D)) (x : T) (r : List T) (ce : Ce) : compM f (x :: r) ce = (f x ce).bind fun o ce1 => (compM f r ce1).bind fun ds ce2 => .ok (o.toList ++ ds) ce2 := rfl
noncomputable def mLc (i : MA) (g : GT) (t : MT) (e : M) (vs : List Nat) : M := fun sl ce => (i sl ce).bind fun items ce1 => R.chk (items.length < 1000000) ((compM (itemM g t e (wipeD sl vs)) items ce1).bind fun ds ce2 => .ok (.d (.lst ds)) ce2)
theorem itemM_ex {g : GT} {t : MT} {e : M} {sl : Sl} {x : T} {ce : Ce} {Q : Option D → Ce → Prop} {E : Exc → Ce → Prop} (h : (itemM g t e sl x ce).wp Q E) : ∃ sl1, g x sl = some sl1 ∧ (t sl1 ce).wp (fun b ce1 => match b with
    | true => (e sl1 ce1).wp (fun y ce2 => ∃ d, y = .d d ∧ Q (some d) ce2) fun _ _ => False
    | false => Q none ce1) fun _ _ => False := by
  obtain ⟨sl1, e1, h1⟩ := R.wp_opt h
  refine ⟨sl1, e1, ?_⟩
  rw [R.wp_bind] at h1
  refine R.wp_mono (R.wp_noEx (E' := fun _ _ => False) h1) (fun b ce1 h => ?_) fun _ _ h => h
  cases b with
  | true =>
    have h' : ((e sl1 ce1).noEx.bind fun y ce2 => R.onD y fun d => R.ok (some d) ce2).wp Q E := h
    rw [R.wp_bind] at h'
    exact R.wp_mono (R.wp_noEx (E' := fun _ _ => False) h') (fun y ce2 h => R.wp_onD h) fun _ _ h => h
  | false => exact h
theorem compM_wp {g : GT} {t : MT} {e : M} {sl : Sl} {E : Exc → Ce → Prop} : ∀ (items : List T) (acc : List D) (ce : Ce) (Q : List D → Ce → Prop), (compM (itemM g t e sl) items ce).wp (fun ds ce' => Q (acc ++ ds) ce') E → compD (wG g) (wV t) (wV e) sl Q items acc ce
  | [], acc, ce, Q, h => by
    simp only [compM, R.wp, List.append_nil] at h
    exact h
  | x :: r, acc, ce, Q, h => by
    rw [compM_cons, R.wp_bind] at h
    unfold compD
    have h1 : (itemM g t e sl x ce).wp (fun o ce1 => (compM (itemM g t e sl) r ce1).wp (fun ds ce2 => Q (acc ++ (o.toList ++ ds)) ce2) E) E := R.wp_mono h (fun o ce1 h => by rw [R.wp_bind] at h; exact h) fun _ _ h => h
    obtain ⟨sl1, e1, h2⟩ := itemM_ex h1
    refine ⟨sl1, e1, ?_⟩
    refine R.wp_mono h2 (fun b ce1 h => ?_) fun _ _ h => h
    cases b with
    | true =>
      refine R.wp_mono h (fun y ce2 ⟨d, e, h⟩ => ?_) fun _ _ h => h
      subst e
      refine compM_wp (E := E) r (acc ++ [d]) ce2 Q ?_
      simpa [List.append_assoc] using h
    | false =>
      refine compM_wp (E := E) r acc ce1 Q ?_
      simpa using h
theorem mLc_wp {g : GT} {vs : List Nat} {sl : Sl} {ce : Ce} {Q : T → Ce → Prop} {E : Ex1} (h : wV (mLc mi g mt mb vs) sl ce Q E) : uLc (wV mi) (wG g) (wV mt) (wV mb) vs sl ce Q E := by
  unfold wV mLc at h
  rw [R.wp_bind] at h
  refine R.wp_mono h (fun items ce1 h => ?_) fun _ _ h => h
  obtain ⟨hl, h⟩ := R.wp_chk h
  rw [R.wp_bind] at h
  exact ⟨hl, compM_wp (E := fun x ce' => E x sl ce') items [] ce1 _ (by simp only [List.nil_append]; exact h)⟩
theorem em_lc {g : GT} {elt : Expr} {ifs : List Expr} {scope : Scope} {own : List (Str × Nat)} (hN : X.N.Nodup) (hi : IM X tg iter mi) (ok : BlkOk X.N X.env.scope scope own)
    (hg : ∀ (s : Shared) (H : Hp) (C : Addr) (cl : List (Str × Addr)) (fp : List Addr), GM (X.blk s H scope (compEnvC scope cl C X.env) fp) tg js g) (ht : ∀ (s : Shared) (H : Hp) (C : Addr) (cl : List (Str × Addr)) (fp : List Addr), TsM (X.blk s H scope (compEnvC scope cl C X.env) fp) ifs mt)
    (he : ∀ (s : Shared) (H : Hp) (C : Addr) (cl : List (Str × Addr)) (fp : List Addr), EM (X.blk s H scope (compEnvC scope cl C X.env) fp) elt mb) (hv : ∀ j ∈ js, j ∈ own.map (·.2) := by decide) (hc : X.calm = true := by rfl) (hs : ∀ x, foldedSetIterable iter X.env x = pure x := by intro _; rfl) :
    EM X (.ListComp elt [⟨tg, iter, ifs, 0⟩] scope pos) (mLc mi g mt mb (own.map (·.2))) := ⟨(de_lc hN hi.di ok (fun s H C cl fp => (hg s H C cl fp).dg) (fun s H C cl fp => (ht s H C cl fp).dts) (fun s H C cl fp => (he s H C cl fp).de) hv hc hs).weak fun _ _ _ _ h => mLc_wp h⟩
end
/-! ### statements -/
inductive RS where
  | nx (sl : Sl) (ce : Ce)
  | bk (sl : Sl) (ce : Ce)
  | ct (sl : Sl) (ce : Ce)
  | rt (t : T) (ce : Ce)
  | ex (x : Exc) (sl : Sl) (ce : Ce)
  | bad
abbrev MS := Sl → Ce → RS
def RS.wp (r : RS) (N : DEnds) : Prop := match r with
  | .nx sl ce => N.nx sl ce
  | .bk sl ce => N.bk sl ce
  | .ct sl ce => N.ct sl ce
  | .rt t ce => N.rt t ce
  | .ex x sl ce => N.ex x sl ce
  | .bad => False
def wS (m : MS) : US := fun N sl ce => (m sl ce).wp N
def R.st {α : Type} (r : R α) (sl : Sl) (k : α → Ce → RS) [Hold k] : RS := match r with
  | .ok a ce => k a ce
  | .ex x ce => .ex x sl ce
  | .bad => .bad
@[simp] theorem R.st_ok {α : Type} (a : α) (ce : Ce) (sl : Sl) (k : α → Ce → RS) : (R.ok a ce).st sl k = k a ce := rfl
@[simp] theorem R.st_ex {α : Type} (x : Exc) (ce : Ce) (sl : Sl) (k : α → Ce → RS) : (R.ex x ce : R α).st sl k = .ex x sl ce := rfl
theorem R.wp_st {α : Type} {r : R α} {sl : Sl} {k : α → Ce → RS} {N : DEnds} : (r.st sl k).wp N = r.wp (fun a ce => (k a ce).wp N) fun x ce => N.ex x sl ce := by cases r <;> rfl
def RS.seq (r : RS) (k : MS) [Hold k] : RS := match r with
  | .nx sl ce => k sl ce
  | .bk sl ce => .bk sl ce
  | .ct sl ce => .ct sl ce
  | .rt t ce => .rt t ce
  | .ex x sl ce => .ex x sl ce
  | .bad => .bad
@[simp] theorem RS.seq_nx (sl : Sl) (ce : Ce) (k : MS) : (RS.nx sl ce).seq k = k sl ce := rfl
@[simp] theorem RS.seq_rt (t : T) (ce : Ce) (k : MS) : (RS.rt t ce).seq k = .rt t ce := rfl
@[simp] theorem RS.seq_ex (x : Exc) (sl : Sl) (ce : Ce) (k : MS) : (RS.ex x sl ce).seq k = .ex x sl ce := rfl
theorem RS.wp_seq {r : RS} {k : MS} {N : DEnds} (h : (r.seq k).wp N) : r.wp { N with nx := fun sl ce => (k sl ce).wp N } := by cases r <;> exact h
def RS.loop (r : RS) (k : MS) [Hold k] : RS := match r with
  | .nx sl ce => k sl ce
  | .bk sl ce => .nx sl ce
  | .ct sl ce => k sl ce
  | .rt t ce => .rt t ce
  | .ex x sl ce => .ex x sl ce
  | .bad => .bad
@[simp] theorem RS.loop_nx (sl : Sl) (ce : Ce) (k : MS) : (RS.nx sl ce).loop k = k sl ce := rfl
def RS.cnd (b : Bool) (x y : RS) [Hold x] [Hold y] : RS := match b with
  | true => x
  | false => y
@[simp] theorem RS.cnd_true (x y : RS) : RS.cnd true x y = x := rfl
@[simp] theorem RS.cnd_false (x y : RS) : RS.cnd false x y = y := rfl
def RS.opt {α : Type} (o : Option α) (k : α → RS) [Hold k] : RS := match o with
  | some a => k a
  | none => .bad
@[simp] theorem RS.opt_some {α : Type} (a : α) (k : α → RS) : RS.opt (some a) k = k a := rfl
theorem RS.wp_opt {α : Type} {o : Option α} {k : α → RS} {N : DEnds} (h : (RS.opt o k).wp N) : ∃ a, o = some a ∧ (k a).wp N := by
  cases o with
  | none => exact h.elim
  | some a => exact ⟨a, rfl, h⟩
open Classical in
noncomputable def RS.chk (p : Prop) (r : RS) [Hold r] : RS := if p then r else .bad
theorem RS.chk_of {p : Prop} {r : RS} (h : p) : RS.chk p r = r := if_pos h
theorem RS.wp_chk {p : Prop} {r : RS} {N : DEnds} (h : (RS.chk p r).wp N) : p ∧ r.wp N := by
  unfold RS.chk at h
  split at h
  · next hp => exact ⟨hp, h⟩
  · exact h.elim
def RS.onC (t : T) (k : Nat → RS) [Hold k] : RS := match t with
  | .cel n => k n
  | _ => .bad
@[simp] theorem RS.onC_cel (n : Nat) (k : Nat → RS) : RS.onC (.cel n) k = k n := rfl
theorem RS.wp_onC {t : T} {k : Nat → RS} {N : DEnds} (h : (RS.onC t k).wp N) : ∃ n, t = .cel n ∧ (k n).wp N := by
  unfold RS.onC at h
  split at h
  · exact ⟨_, rfl, h⟩
  · exact h.elim
def RS.onI (t : T) (k : Int → RS) [Hold k] : RS := match t with
  | .d (.int n) => k n
  | _ => .bad
@[simp] theorem RS.onI_int (n : Int) (k : Int → RS) : RS.onI (.d (.int n)) k = k n := rfl
theorem RS.wp_onI {t : T} {k : Int → RS} {N : DEnds} (h : (RS.onI t k).wp N) : ∃ n, t = .d (.int n) ∧ (k n).wp N := by
  unfold RS.onI at h
  split at h
  · exact ⟨_, rfl, h⟩
  · exact h.elim
end DL

namespace DL
open PySem L2
section
variable {X : Cx} {e a b c tg iter : Expr} {es : List Expr} {st : Stmt} {rest bs cs : List Stmt} {pos p : Pos} {js : List Nat} {ma mb mc mo mk : M} {mu mi : MA} {mt : MT} {sa sb : MS}
theorem DS.weak {u u' : US} (h : DS X st u) (hw : ∀ N sl ce, u' N sl ce → u N sl ce) : DS X st u' := by
  obtain ⟨t, p, s⟩ := h.ex
  exact ⟨t, p, fun W σ H sl ce G m N D R w h k => s W σ H sl ce G m N D R w (hw _ _ _ h) k⟩
theorem DSs.weak {u u' : US} (h : DSs X rest u) (hw : ∀ N sl ce, u' N sl ce → u N sl ce) : DSs X rest u' := by
  obtain ⟨t, p, s⟩ := h.ex
  exact ⟨t, p, fun W σ H sl ce G m N D R w h k => s W σ H sl ce G m N D R w (hw _ _ _ h) k⟩
structure SM (X : Cx) (st : Stmt) (m : MS) : Prop where
  ds : DS X st (wS m)
structure SsM (X : Cx) (sts : List Stmt) (m : MS) : Prop where
  dss : DSs X sts (wS m)
def sNext : MS := fun sl ce => .nx sl ce
def sSeq (a b : MS) : MS := fun sl ce => (a sl ce).seq b
theorem ssm_nil : SsM X [] sNext := ⟨dss_nil.weak fun _ _ _ h => h⟩
theorem ssm_one (h : SM X st sa) : SsM X [st] sa := ⟨dss_one h.ds⟩
theorem ssm_cons (h : SM X st sa) (h2 : SsM X rest sb) : SsM X (st :: rest) (sSeq sa sb) := ⟨(dss_cons h.ds h2.dss).weak fun _ _ _ h => RS.wp_seq h⟩
def sDrop (a : M) : MS := fun sl ce => (a sl ce).st sl fun _ ce1 => .nx sl ce1
theorem sm_expr (ha : EM X e ma) (hs : swapsWith e none pos.line X.env = pure false := by rfl) : SM X (.Expr e pos) (sDrop ma) := ⟨(ds_expr ha.de hs).weak fun N sl ce h => by
  unfold wS sDrop at h
  rw [R.wp_st] at h
  exact h⟩
def sRet (a : M) : MS := fun sl ce => (a sl ce).st sl fun t ce1 => .rt t ce1
theorem sm_ret (ha : EM X e ma) : SM X (.Return (some e) pos) (sRet ma) := ⟨(ds_ret ha.de).weak fun N sl ce h => by
  unfold wS sRet at h
  rw [R.wp_st] at h
  exact h⟩
def sIf (t : MT) (a b : MS) : MS := fun sl ce => (t sl ce).st sl fun q ce1 => RS.cnd q (a sl ce1) (b sl ce1)
theorem sm_if (hc : TM X c mt) (ha : SsM X bs sa) (hb : SsM X cs sb) : SM X (.If c bs cs pos) (sIf mt sa sb) := ⟨(ds_if hc.dt ha.dss hb.dss).weak fun N sl ce h => by
  unfold wS sIf at h
  rw [R.wp_st] at h
  refine R.wp_mono h (fun q ce1 h => ?_) fun _ _ h => h
  cases q <;> exact h⟩
def sAsg (a : M) (g : GT) : MS := fun sl ce => (a sl ce).st sl fun t ce1 => RS.opt (g t sl) fun sl' => .nx sl' ce1
theorem sm_asg {g : GT} (he : EM X e ma) (hg : GM X tg js g) (hs : swapsWithSole [tg] e pos.line X.env = pure false := by rfl) (hw : swappedStores [tg] e X.env = pure none := by rfl)
    (h1 : (assignEach [tg] X.env).map (·.2) = [assign tg X.env] := by rfl) : SM X (.Assign [tg] e pos) (sAsg ma g) := ⟨(ds_asg he.de hg.dg hs hw h1).weak fun N sl ce h => by
  unfold wS sAsg at h
  rw [R.wp_st] at h
  exact R.wp_mono h (fun t ce1 h => RS.wp_opt h) fun _ _ h => h⟩
def sSet (i : Nat) (a : M) : MS := fun sl ce => (a sl ce).st sl fun t ce1 => .nx (sl.set i (some t)) ce1
theorem sSet_wp {i : Nat} {N : DEnds} {sl : Sl} {ce : Ce} (h : wS (sSet i ma) N sl ce) : uAsg (wV ma) (ugName i) N sl ce := by
  unfold wS sSet at h
  rw [R.wp_st] at h
  exact h
theorem sm_set (i : Nat) {x : Str} {pos' : Pos} (hN : X.N.Nodup) (he : EM X e ma) (hi : X.N[i]? = some x := by rfl) (hx : Loc X.env.scope x := by first | exact Or.inl rfl | exact Or.inr rfl) (hs : swapsWith e (some (.Name x pos')) pos.line X.env = pure false := by rfl) (hf : X.fn x = true ∨ X.env.scope.names.lookup x = some .local := by first | exact .inl rfl | exact .inr rfl | assumption) :
    SM X (.Assign [.Name x pos'] e pos) (sSet i ma) := ⟨(ds_set i hN he.de hi hx hs hf).weak fun _ _ _ h => sSet_wp h⟩
theorem sm_setLc (i : Nat) {g : GT} {elt : Expr} {y : Str} {py spos : Pos} {scope : Scope} {own : List (Str × Nat)} (hN : X.N.Nodup) (hi : IM X tg iter mi) (ok : BlkOk X.N X.env.scope scope own)
    (hg : ∀ (s : Shared) (H : Hp) (C : Addr) (cl : List (Str × Addr)) (fp : List Addr), GM (X.blk s H scope (compEnvC scope cl C X.env) fp) tg js g) (ht : ∀ (s : Shared) (H : Hp) (C : Addr) (cl : List (Str × Addr)) (fp : List Addr), TsM (X.blk s H scope (compEnvC scope cl C X.env) fp) es mt)
    (he : ∀ (s : Shared) (H : Hp) (C : Addr) (cl : List (Str × Addr)) (fp : List Addr), EM (X.blk s H scope (compEnvC scope cl C X.env) fp) elt mb) (hy : X.N[i]? = some y := by rfl) (hyl : X.env.scope.names.lookup y = some .local := by rfl)
    (hsw : swapsWith (.ListComp elt [⟨tg, iter, es, 0⟩] scope pos) (some (.Name y py)) spos.line X.env = pure true := by exact sw_true rfl rfl rfl (by decide +kernel))
    (hv : ∀ j ∈ js, j ∈ own.map (·.2) := by decide) (hc : X.calm = true := by rfl) (hs : ∀ x, foldedSetIterable iter X.env x = pure x := by intro _; rfl) :
    SM X (.Assign [.Name y py] (.ListComp elt [⟨tg, iter, es, 0⟩] scope pos) spos) (sSet i (mLc mi g mt mb (own.map (·.2)))) := ⟨(ds_setLc i hN hi.di ok (fun s H C cl fp => (hg s H C cl fp).dg) (fun s H C cl fp => (ht s H C cl fp).dts) (fun s H C cl fp => (he s H C cl fp).de) hy hyl hsw hv hc hs).weak fun N sl ce h => by
  unfold wS sSet at h
  rw [R.wp_st] at h
  exact mLc_wp (Q := fun t ce1 => N.nx (sl.set i (some t)) ce1) h⟩
def sPar (i j : Nat) (u : MA) : MS := fun sl ce => (u sl ce).st sl fun ts ce1 => match ts with
  | [t, t'] => .nx ((sl.set i (some t)).set j (some t')) ce1
  | _ => .bad
/-! ### fields and items -/
def insC : Cell → Option (Addr × List (Str × T))
  | .ins C fs => some (C, fs)
  | _ => none
def lstC : Cell → Option (List T)
  | .lst xs => some xs
  | _ => none
def dicC : Cell → Option (List (Key × T))
  | .dic xs => some xs
  | _ => none
@[simp] theorem insC_ins (C : Addr) (fs : List (Str × T)) : insC (.ins C fs) = some (C, fs) := rfl
@[simp] theorem lstC_lst (xs : List T) : lstC (.lst xs) = some xs := rfl
@[simp] theorem dicC_dic (xs : List (Key × T)) : dicC (.dic xs) = some xs := rfl
theorem opt_bind {α β : Type} {o : Option α} {f : α → Option β} {b : β} (h : o.bind f = some b) : ∃ a, o = some a ∧ f a = some b := by
  cases o with
  | none => cases h
  | some a => exact ⟨a, rfl, h⟩
theorem insC_some {c : Cell} {q : Addr × List (Str × T)} (h : insC c = some q) : c = .ins q.1 q.2 := by
  cases c <;> simp [insC] at h
  subst h; rfl
theorem lstC_some {c : Cell} {q : List T} (h : lstC c = some q) : c = .lst q := by
  cases c <;> simp [lstC] at h
  subst h; rfl
theorem dicC_some {c : Cell} {q : List (Key × T)} (h : dicC c = some q) : c = .dic q := by
  cases c <;> simp [dicC] at h
  subst h; rfl
@[simp] theorem insOf_cel (ce : Ce) (k : Nat) : insOf ce (.cel k) = (ce[k]?).bind insC := by
  simp only [insOf]
  cases ce[k]? with
  | none => rfl
  | some c => cases c <;> rfl
@[simp] theorem seqL_celE (ce : Ce) (k : Nat) : seqL ce (.cel k) = (ce[k]?).bind lstC := by
  simp only [seqL]
  cases ce[k]? with
  | none => rfl
  | some c => cases c <;> rfl
@[simp] theorem seqB_celE (ce : Ce) (k : Nat) : seqB ce (.cel k) = (ce[k]?).bind lstC := seqL_celE ce k
@[simp] theorem dicOf_celE (ce : Ce) (k : Nat) : dicOf ce (.cel k) = (ce[k]?).bind dicC := by
  simp only [dicOf]
  cases ce[k]? with
  | none => rfl
  | some c => cases c <;> rfl
noncomputable def sStF (C : Addr) (f : Str) (o a : M) : MS := fun sl ce => (a sl ce).st sl fun t ce1 => (o sl ce1).st sl fun q ce2 => RS.onC q fun k => RS.opt ((ce2[k]?).bind insC) fun r => RS.chk (r.1 = C ∧ r.2.length < 1000) (.nx sl (ce2.set k (.ins C (putD f t r.2))))
theorem sm_fld {C : Addr} {f : Str} {pos' : Pos} (c : Cls X.K C) (n : NoAttr X.K C f) (ho : EM X a mo) (he : EM X e ma) (hs : swapsWith e (some (.Attribute a f pos')) pos.line X.env = pure false := by rfl) : SM X (.Assign [.Attribute a f pos'] e pos) (sStF C f mo ma) := ⟨(ds_fld c n ho.de he.de hs).weak fun N sl ce h => by
  unfold wS sStF at h
  rw [R.wp_st] at h
  refine R.wp_mono h (fun t ce1 h => ?_) fun _ _ h => h
  rw [R.wp_st] at h
  refine R.wp_mono h (fun q ce2 h => ?_) fun _ _ h => h
  obtain ⟨k, rfl, h1⟩ := RS.wp_onC h
  obtain ⟨r, e1, h2⟩ := RS.wp_opt h1
  obtain ⟨cc, e2, e3⟩ := opt_bind e1
  have := insC_some e3
  subst this
  obtain ⟨⟨e4, e5⟩, h3⟩ := RS.wp_chk h2
  dsimp only
  rw [e2]
  exact ⟨e4, e5, h3⟩⟩
noncomputable def sStI (o i a : M) : MS := fun sl ce => (a sl ce).st sl fun t ce1 => (o sl ce1).st sl fun q ce2 => (i sl ce2).st sl fun iv ce3 => RS.onC q fun k => RS.onI iv fun n => RS.opt ((ce3[k]?).bind lstC) fun xs => RS.opt (ixN xs.length n) fun j => .nx sl (ce3.set k (.lst (xs.set j t)))
theorem sm_setI {pos' : Pos} (ho : EM X a mo) (hi : EM X b mb) (he : EM X e ma) (hs : swapsWithSole [.Subscript a b pos'] e pos.line X.env = pure false := by rfl) (hw : swappedStores [.Subscript a b pos'] e X.env = pure none := by rfl)
    (h1 : (assignEach [.Subscript a b pos'] X.env).map (·.2) = [assign (.Subscript a b pos') X.env] := by rfl)
    (ha : ∀ v, assign (.Subscript a b pos') X.env v = (do
      let ov ← holding [v] (eval a X.env)
      let iv ← holding [v, ov] (eval b X.env)
      standAt pos'
      holding [v, ov, iv] (setItem ov iv v)
      release [v, ov, iv] []) := by intro _; rfl) : SM X (.Assign [.Subscript a b pos'] e pos) (sStI mo mb ma) := ⟨(ds_setI ho.de hi.de he.de hs hw h1 ha).weak fun N sl ce h => by
  unfold wS sStI at h
  rw [R.wp_st] at h
  refine R.wp_mono h (fun t ce1 h => ?_) fun _ _ h => h
  rw [R.wp_st] at h
  refine R.wp_mono h (fun q ce2 h => ?_) fun _ _ h => h
  rw [R.wp_st] at h
  refine R.wp_mono h (fun iv ce3 h => ?_) fun _ _ h => h
  obtain ⟨k, rfl, h1⟩ := RS.wp_onC h
  obtain ⟨n, rfl, h2⟩ := RS.wp_onI h1
  obtain ⟨xs, e1, h3⟩ := RS.wp_opt h2
  obtain ⟨cc, e2, e3⟩ := opt_bind e1
  have := lstC_some e3
  subst this
  obtain ⟨j, e4, h4⟩ := RS.wp_opt h3
  dsimp only
  rw [e2]
  dsimp only
  rw [e4]
  exact h4⟩
noncomputable def sDPut (o i a : M) : MS := fun sl ce => (a sl ce).st sl fun t ce1 => (o sl ce1).st sl fun q ce2 => (i sl ce2).st sl fun iv ce3 => RS.onC q fun k => RS.opt (keyT iv) fun kk => RS.opt ((ce3[k]?).bind dicC) fun kvs => RS.chk (kvs.length < 16777216) (.nx sl (ce3.set k (.dic (putA kvs kk t))))
theorem sm_dput {pos' : Pos} (ho : EM X a mo) (hi : EM X b mb) (he : EM X e ma) (hu : X.A.units + 1 < cLine) (hs : swapsWith e (some (.Subscript a b pos')) pos.line X.env = pure false := by rfl) : SM X (.Assign [.Subscript a b pos'] e pos) (sDPut mo mb ma) := ⟨(ds_dput ho.de hi.de he.de hu hs).weak fun N sl ce h => by
  unfold wS sDPut at h
  rw [R.wp_st] at h
  refine R.wp_mono h (fun t ce1 h => ?_) fun _ _ h => h
  rw [R.wp_st] at h
  refine R.wp_mono h (fun q ce2 h => ?_) fun _ _ h => h
  rw [R.wp_st] at h
  refine R.wp_mono h (fun iv ce3 h => ?_) fun _ _ h => h
  obtain ⟨k, rfl, h1⟩ := RS.wp_onC h
  obtain ⟨kk, e0, h2⟩ := RS.wp_opt h1
  obtain ⟨xs, e1, h3⟩ := RS.wp_opt h2
  obtain ⟨cc, e2, e3⟩ := opt_bind e1
  have := dicC_some e3
  subst this
  obtain ⟨e4, h4⟩ := RS.wp_chk h3
  simp only [kDPut, e0, e2]
  exact ⟨by rw [sizeLine_eq]; exact e4, h4⟩⟩
/-! ### append, pop -/
def R.onC {α : Type} (t : T) (k : Nat → R α) [Hold k] : R α := match t with
  | .cel n => k n
  | _ => .bad
@[simp] theorem R.onC_cel {α : Type} (n : Nat) (k : Nat → R α) : R.onC (.cel n) k = k n := rfl
theorem R.wp_onC {α : Type} {t : T} {k : Nat → R α} {Q : α → Ce → Prop} {E : Exc → Ce → Prop} (h : (R.onC t k).wp Q E) : ∃ n, t = .cel n ∧ (k n).wp Q E := by
  unfold R.onC at h
  split at h
  · exact ⟨_, rfl, h⟩
  · exact h.elim
noncomputable def mBM (o : List T → List T → Option (T × List T)) (a : M) (u : MA) : M := fun sl ce => (a sl ce).bind fun x ce1 => R.onC x fun k => R.opt ((ce1[k]?).bind lstC) fun _ => (u sl ce1).bind fun ts ce2 => R.opt ((ce2[k]?).bind lstC) fun xs => R.opt (o xs ts) fun r => .ok r.1 (ce2.set k (.lst r.2))
theorem mBM_wp {o : List T → List T → Option (T × List T)} {od : Nat → List T → List T → Ce → (T → Ce → Prop) → Prop} (ho : ∀ k xs ts ce Q r, o xs ts = some r → Q r.1 (ce.set k (.lst r.2)) → od k xs ts ce Q) {sl : Sl} {ce : Ce} {Q : T → Ce → Prop} {E : Ex1} (h : wV (mBM o ma mu) sl ce Q E) : uBM (wV ma) (wV mu) od sl ce Q E := by
  unfold wV mBM at h
  rw [R.wp_bind] at h
  refine R.wp_mono h (fun x ce1 h => ?_) fun _ _ h => h
  obtain ⟨k, rfl, h1⟩ := R.wp_onC h
  obtain ⟨xs0, e0, h2⟩ := R.wp_opt h1
  obtain ⟨c0, e1, e2⟩ := opt_bind e0
  have := lstC_some e2
  subst this
  dsimp only
  rw [e1]
  dsimp only
  rw [R.wp_bind] at h2
  refine R.wp_mono h2 (fun ts ce2 h => ?_) fun _ _ h => h
  obtain ⟨xs, e3, h3⟩ := R.wp_opt h
  obtain ⟨cc, e4, e5⟩ := opt_bind e3
  have := lstC_some e5
  subst this
  obtain ⟨r, e6, h4⟩ := R.wp_opt h3
  rw [e4]
  exact ho k xs ts ce2 Q r e6 h4
def bApp (xs ts : List T) : Option (T × List T) := match ts with
  | [t] => if xs.length < 16777216 then some (.d .non, xs ++ [t]) else none
  | _ => none
@[simp] theorem bApp_one (xs : List T) (t : T) : bApp xs [t] = if xs.length < 16777216 then some (.d .non, xs ++ [t]) else none := rfl
theorem em_append {e0 : Expr} {apos cpos : Pos} (ho : EM X a ma) (ha : AM X [e0] mu) (hpe : ∀ {to : TE} {t : TA}, PE X a to → PA X [e0] t → PE X (.Call (.Attribute a "append" apos) [e0] [] cpos) (tBM X.K "list" rAppend to t) := by exact fun h1 h2 => pe_bm PySem.F.plainAttrs_list PySem.F.slot_list_append PySem.F.type_list_append mt_append h1 h2) :
    EM X (.Call (.Attribute a "append" apos) [e0] [] cpos) (mBM bApp ma mu) := ⟨(de_append ho.de ha.da hpe).weak fun sl ce Q E h => mBM_wp (fun k xs ts ce Q r e q => by
  unfold bApp at e
  split at e
  · split at e
    · next hl => cases e; exact ⟨by rw [sizeLine_eq]; exact hl, q⟩
    · cases e
  · cases e) h⟩
def bPop (xs ts : List T) : Option (T × List T) := match ts with
  | [.d (.int i)] => if -(2 ^ 63) ≤ i ∧ i < 2 ^ 63 then (ixN xs.length i).bind fun j => (xs[j]?).map fun t => (t, xs.eraseIdx j) else none
  | _ => none
@[simp] theorem bPop_one (xs : List T) (i : Int) : bPop xs [.d (.int i)] = if -(2 ^ 63) ≤ i ∧ i < 2 ^ 63 then (ixN xs.length i).bind fun j => (xs[j]?).map fun t => (t, xs.eraseIdx j) else none := rfl
theorem em_popAt {e0 : Expr} {apos cpos : Pos} (ho : EM X a ma) (ha : AM X [e0] mu) (hpe : ∀ {to : TE} {t : TA}, PE X a to → PA X [e0] t → PE X (.Call (.Attribute a "pop" apos) [e0] [] cpos) (tBM X.K "list" rPopAt to t) := by exact fun h1 h2 => pe_bm PySem.F.plainAttrs_list PySem.F.slot_list_pop PySem.F.type_list_pop mt_popAt h1 h2) :
    EM X (.Call (.Attribute a "pop" apos) [e0] [] cpos) (mBM bPop ma mu) := ⟨(de_popAt ho.de ha.da hpe).weak fun sl ce Q E h => mBM_wp (fun k xs ts ce Q r e q => by
  unfold bPop at e
  split at e
  · next i =>
    split at e
    · next hl =>
      obtain ⟨j, e1, e2⟩ := opt_bind e
      cases e3 : xs[j]? with
      | none => rw [e3] at e2; cases e2
      | some t => rw [e3] at e2; cases e2; simp only [oPopAt, e1, e3]; exact ⟨hl, q⟩
    · cases e
  · cases e) h⟩
/-! ### a, b, c = .. -/
/-! ### for, while -/
def forL (g : GT) (b : MS) [Hold g] [Hold b] : List T → MS
  | [], sl, ce => .nx sl ce
  | t :: r, sl, ce => RS.opt (g t sl) fun sl1 => (b sl1 ce).loop (forL g b r)
@[simp] theorem forL_nil (g : GT) (b : MS) (sl : Sl) (ce : Ce) : forL g b [] sl ce = .nx sl ce := rfl
@[simp] theorem forL_cons (g : GT) (b : MS) (t : T) (r : List T) (sl : Sl) (ce : Ce) : forL g b (t :: r) sl ce = RS.opt (g t sl) fun sl1 => (b sl1 ce).loop (forL g b r) := rfl
def sFor (i : MA) (g : GT) (b : MS) : MS := fun sl ce => (i sl ce).st sl fun items ce1 => forL g b items sl ce1
theorem RS.wp_loop {r : RS} {k : MS} {N : DEnds} (h : (r.loop k).wp N) : r.wp { N with nx := fun sl ce => (k sl ce).wp N, ct := fun sl ce => (k sl ce).wp N, bk := N.nx } := by cases r <;> exact h
theorem RS.wp_mono {r : RS} {N N' : DEnds} (h : r.wp N) (h1 : ∀ sl ce, N.nx sl ce → N'.nx sl ce) (h2 : ∀ t ce, N.rt t ce → N'.rt t ce) (h3 : ∀ x sl ce, N.ex x sl ce → N'.ex x sl ce) (h4 : ∀ sl ce, N.bk sl ce → N'.bk sl ce) (h5 : ∀ sl ce, N.ct sl ce → N'.ct sl ce) : r.wp N' := by
  cases r with
  | nx sl ce => exact h1 _ _ h
  | bk sl ce => exact h4 _ _ h
  | ct sl ce => exact h5 _ _ h
  | rt t ce => exact h2 _ _ h
  | ex x sl ce => exact h3 _ _ _ h
  | bad => exact h
theorem forL_wp {g : GT} {N : DEnds} : ∀ (items : List T) (sl : Sl) (ce : Ce), (forL g sa items sl ce).wp N → loopD (wG g) (wS sa) N items sl ce
  | [], sl, ce, h => h
  | t :: r, sl, ce, h => by
    obtain ⟨sl1, e1, h1⟩ := RS.wp_opt h
    exact ⟨sl1, e1, RS.wp_mono (RS.wp_loop h1) (fun sl ce h => forL_wp r sl ce h) (fun _ _ h => h) (fun _ _ _ h => h) (fun _ _ h => h) fun sl ce h => forL_wp r sl ce h⟩
theorem sm_for {g : GT} {body : List Stmt} (hp : PassesOwn (model X.prog X.w) X.A X.env X.xe) (hi : IM X tg iter mi) (hg : GM X tg js g) (hb : SsM X body sa) (hc : X.calm = true := by rfl) (hs : ∀ x, foldedSetIterable iter X.env x = pure x := by intro _; rfl) : SM X (.For tg iter body [] pos) (sFor mi g sa) := ⟨(ds_for hp hi.di hg.dg hb.dss hc hs).weak fun N sl ce h => by
  unfold wS sFor at h
  rw [R.wp_st] at h
  exact R.wp_mono h (fun items ce1 h => forL_wp items sl ce1 h) fun _ _ h => h⟩
def whileL (t : MT) (b : MS) [Hold t] [Hold b] : Nat → MS
  | 0, _, _ => .bad
  | n + 1, sl, ce => (t sl ce).st sl fun q ce1 => RS.cnd q ((b sl ce1).loop (whileL t b n)) (.nx sl ce1)
theorem whileL_succ (t : MT) (b : MS) (n : Nat) (sl : Sl) (ce : Ce) : whileL t b (n + 1) sl ce = (t sl ce).st sl fun q ce1 => RS.cnd q ((b sl ce1).loop (whileL t b n)) (.nx sl ce1) := rfl
def sWhile (n : Sl → Ce → Nat) (t : MT) (b : MS) : MS := fun sl ce => whileL t b (n sl ce) sl ce
theorem sm_while (n : Sl → Ce → Nat) {body : List Stmt} (hp : PassesOwn (model X.prog X.w) X.A X.env X.xe) (hc : TM X c mt) (hb : SsM X body sa) : SM X (.While c body [] pos) (sWhile n mt sa) := ⟨(ds_while hp hc.dt hb.dss).weak fun N sl ce h => by
  refine ⟨fun n sl ce => (whileL mt sa n sl ce).wp N, ⟨n sl ce, h⟩, fun n sl ce h => ?_⟩
  cases n with
  | zero => exact h.elim
  | succ n =>
    rw [whileL_succ, R.wp_st] at h
    refine R.wp_mono h (fun q ce1 h => ?_) fun _ _ h => h
    cases q with
    | true => exact RS.wp_mono (RS.wp_loop h) (fun sl ce h => ⟨n, Nat.lt_succ_self _, h⟩) (fun _ _ h => h) (fun _ _ _ h => h) (fun _ _ h => h) fun sl ce h => ⟨n, Nat.lt_succ_self _, h⟩
    | false => exact h⟩
/-! ### raise, try -/
structure XM (X : Cx) (e : Expr) (m : MG Exc) : Prop where
  dmk : DMk X e (wV m)
theorem DMk.weak {u u' : UX} (h : DMk X e u) (hw : ∀ sl ce Q E, u' sl ce Q E → u sl ce Q E) : DMk X e u' := by
  obtain ⟨t, p, s⟩ := h.ex
  exact ⟨t, p, fun W σ H sl ce G m Qd Ed Qv R w h k => s W σ H sl ce G m Qd Ed Qv R w (hw _ _ _ _ h) k⟩
def sRaise (x : MG Exc) : MS := fun sl ce => (x sl ce).st sl fun y ce1 => .ex y sl ce1
theorem sm_raise {mx : MG Exc} (he : XM X e mx) (hc : X.calm = true := by rfl) : SM X (.Raise (some e) none pos) (sRaise mx) := ⟨(ds_raise he.dmk hc).weak fun N sl ce h => by
  unfold wS sRaise at h
  rw [R.wp_st] at h
  exact h⟩
def mXown (C : Addr) : MG Exc := fun _ ce => .ok ⟨.ref C, []⟩ ce
theorem xm_own {x m : Str} {j : Nat} {p2 : Pos} {C : Addr} {B newId initId : String} {bmB : List Value} (F : ExcBaseFacts B newId initId bmB) (q : PySem.W.excIn X.K C bmB newId = true) (gC : X.mg x = some (.ref C)) (kC : PySem.W.keepIn X.K (.ref C) = true) (r : Raises X (.ref C)) (hg : Gl X x := by rfl)
    (hdb : (x == ("__debug__" : Str)) = false := by decide) : XM X (.Call (.Name x p) [.Constant (.str m) j p2] [] pos) (mXown C) := ⟨(dmk_own F q gC kC r hg hdb).weak fun _ _ _ _ h => h⟩
theorem km_nil : KM X [] mNil := ⟨dk_nil.weak fun _ _ _ _ h => h⟩
theorem km_cons {nm : Option Str} {kpos : Pos} {kws : List Keyword} (ha : EM X e ma) (hr : KM X kws mu) : KM X (⟨nm, e, kpos⟩ :: kws) (mCons ma mu) := ⟨(dk_cons ha.de hr.dk).weak fun sl ce Q E h => by
  unfold wV mCons at h
  simp only [R.wp_bind] at h
  exact h⟩
noncomputable def mXkw (C : Addr) (ns : List Str) (u : MA) : MG Exc := fun sl ce => (u sl ce).bind fun ts ce1 => R.opt (unT ts) fun ds => R.chk (ds.length = ns.length) (.ok ⟨.ref C, ns.zip ds⟩ ce1)
theorem xm_kw {x : Str} {k : Nat} {C : Addr} {ns : List Str} {kws : List Keyword} (T : XMk X.prog X.w X.K X.mg C ns) (gC : X.mg x = some (.ref C)) (hr : Room k X.A) (hk : KM X kws mu) (hnm : (backToKw pos (keywordEach kws X.env)).filterMap (·.1) = ns := by rfl) (hall : (backToKw pos (keywordEach kws X.env)).all (·.1.isSome) = true := by rfl)
    (hpl : ((backTo pos (starEach [] X.env)).any (·.1) || (backToKw pos (keywordEach kws X.env)).any (·.1.isNone)) = false := by rfl) (hg : Gl X x := by rfl) (hdb : (x == ("__debug__" : Str)) = false := by decide) : XM X (.Call (.Name x p) [] kws pos) (mXkw C ns mu) := ⟨(dmk_kw T gC hr hk.dk hnm hall hpl hg hdb).weak fun sl ce Q E h => by
  unfold wV mXkw at h
  rw [R.wp_bind] at h
  refine R.wp_mono h (fun ts ce1 h => ?_) fun _ _ h => h
  obtain ⟨ds, e, h⟩ := R.wp_opt h
  rw [e]
  exact R.wp_chk h⟩
def RS.noEx (r : RS) : RS := match r with
  | .ex _ _ _ => .bad
  | .nx sl ce => .nx sl ce
  | .bk sl ce => .bk sl ce
  | .ct sl ce => .ct sl ce
  | .rt t ce => .rt t ce
  | .bad => .bad
def RS.unset (i : Nat) (r : RS) : RS := match r with
  | .nx sl ce => .nx (sl.set i none) ce
  | .bk sl ce => .bk (sl.set i none) ce
  | .ct sl ce => .ct (sl.set i none) ce
  | .rt t ce => .rt t ce
  | _ => .bad
open Classical in
/-- whatever the addresses of the error are -/
noncomputable def RS.any (x : Exc) (f : Addr → Option Addr → RS) : RS := if ∀ a d, (d = none → x.fs = []) → f a d = f 0 (some 0) then f 0 (some 0) else .bad
theorem RS.any_eq {x : Exc} {f : Addr → Option Addr → RS} {r : RS} (h : ∀ a d, (d = none → x.fs = []) → f a d = r) : RS.any x f = r := by
  have h0 : f 0 (some 0) = r := h 0 (some 0) (fun z => nomatch z)
  unfold RS.any
  rw [if_pos (fun a d hd => by rw [h a d hd, h0]), h0]
theorem RS.wp_any {x : Exc} {f : Addr → Option Addr → RS} {N : DEnds} (h : (RS.any x f).wp N) : ∀ a d, (d = none → x.fs = []) → (f a d).wp N := by
  unfold RS.any at h
  split at h
  · next hh => exact fun a d hd => by rw [hh a d hd]; exact h
  · exact h.elim
noncomputable def mXf (a : Addr) (cls : Value) (d : Option Addr) (C : Addr) (n : Str) (u : M) : M := fun sl ce => (u sl ce).bind fun t ce1 => match t with
  | .d (.exc a' dd _ fs) => R.chk (a' = a ∧ cls = .ref C ∧ d = some dd) (R.opt (fs.lookup n) fun v => .ok (.d v) ce1)
  | _ => .bad
theorem em_xf {ad C : Addr} {oe : Obj} {cls : Value} {d : Option Addr} {pn : List (Addr × Obj)} {n : Str} (TT : XfC X.K C) (hno : PySem.W.findIn X.K (.ref C) n = some none) (hz : Zc cls d oe) (hf : ∃ vs, oe.data = .fields vs) (he : EM (X.suite ad ((ad, oe) :: pn)) e ma) (hb : attributeBase e n X.env (eval e X.env) = eval e X.env := by rfl) :
    EM (X.suite ad ((ad, oe) :: pn)) (.Attribute e n pos) (mXf ad cls d C n ma) := ⟨(de_xf TT hno hz hf he.de hb).weak fun sl ce Q E h => by
  unfold wV mXf at h
  rw [R.wp_bind] at h
  refine R.wp_mono h (fun t ce1 h => ?_) fun _ _ h => h
  split at h
  · obtain ⟨⟨h1, h2, h3⟩, h4⟩ := R.wp_chk h
    obtain ⟨v, e, h5⟩ := R.wp_opt h4
    refine ⟨h1, h2, h3, ?_⟩
    rw [e]
    exact h5
  · exact h.elim⟩
end
/-! ### a def -/
noncomputable def RS.out (ce : Ce) (r : RS) : R T := match r with
  | .nx _ ce' => retR ce (.d .non) ce'
  | .rt t ce' => retR ce t ce'
  | .ex x _ ce' => retX ce x ce'
  | _ => .bad
@[simp] theorem RS.out_rt (ce : Ce) (t : T) (ce' : Ce) : (RS.rt t ce').out ce = retR ce t ce' := rfl
@[simp] theorem RS.out_ex (ce : Ce) (x : Exc) (sl : Sl) (ce' : Ce) : (RS.ex x sl ce').out ce = retX ce x ce' := rfl
/-- behind a def all cells stay -/
def RS.outK (r : RS) : R T := match r with
  | .nx _ ce' => .ok (.d .non) ce'
  | .rt t ce' => .ok t ce'
  | .ex x _ ce' => .ex x ce'
  | _ => .bad
@[simp] theorem RS.outK_nx (sl : Sl) (ce' : Ce) : (RS.nx sl ce').outK = .ok (.d .non) ce' := rfl
@[simp] theorem RS.outK_rt (t : T) (ce' : Ce) : (RS.rt t ce').outK = .ok t ce' := rfl
@[simp] theorem RS.outK_ex (x : Exc) (sl : Sl) (ce' : Ce) : (RS.ex x sl ce').outK = .ex x ce' := rfl
noncomputable def mDef (N : List Str) (n : Nat) (b : MS) : Fn := fun ts ce => if ts.length = n then (b (startD N ts) ce).out ce else .bad
def mDefK (N : List Str) (n : Nat) (b : MS) : Fn := fun ts ce => if ts.length = n then (b (startD N ts) ce).outK else .bad
section
variable {P : Program} {w : World} {K : PySem.W.Frag} {mg : Str → Option Value} {base : Heap}
theorem fnKM {x qual : Str} {st : Stmt} {f : Addr} {fd : FuncData} {N ps : List Str} {k : Nat} {b : MS} (F : Fun K x qual st f fd) (S : FnScope N ps (defScope st))
    (hd : ∀ (cdv : Value) (A : Around) (outer : List Env) (s : Shared) (H : Hp) (E : XK), Room k (A.deeper (PyProof.Rows.envOfC qual (defScope st) s.heap.objs.size f cdv)) →
        PassesOwn (model P w) (cxOf (L2.CX P w) P w K mg base N qual (defScope st) f cdv A outer s H E).A (cxOf (L2.CX P w) P w K mg base N qual (defScope st) f cdv A outer s H E).env (cxOf (L2.CX P w) P w K mg base N qual (defScope st) f cdv A outer s H E).xe →
        SsM (cxOf (L2.CX P w) P w K mg base N qual (defScope st) f cdv A outer s H E) (defBody st) b) : FnOk P w K mg base (L2.CX P w) (k + 1) f fd ps (spD K w (phi (mDef N ps.length b))) := by
  refine F.okX S (fun vs H Q E h => ?_) fun cdv A outer s H vs Q E hr h => ?_
  · obtain ⟨ce, G, m, ts, Qd, Ed, Rl, r, hφ, _⟩ := h
    rw [r.length]
    unfold phi mDef at hφ
    split at hφ
    · next hl => exact hl
    · exact hφ.elim
  · obtain ⟨ce, G, m, ts, Qd, Ed, Rl, r, hφ, kq, ke⟩ := h
    obtain ⟨tf, pf, sf⟩ := (hd cdv A outer s H E hr (passes_of rfl)).dss.ex
    refine ⟨tf (fun cls d _ H => E cls d H), pf _ (takes_of rfl rfl rfl rfl), ?_⟩
    have hφ' : ((b (startD N ts) ce).out ce).wp Qd Ed := by
      unfold phi mDef at hφ
      split at hφ
      · exact hφ
      · exact hφ.elim
    refine sf _ (L2.start N vs) H (startD N ts) ce G m { nx := fun _ ce' => (retR ce (.d .non) ce').wp Qd Ed, rt := fun t ce' => (retR ce t ce').wp Qd Ed, ex := fun x _ ce' => (retX ce x ce').wp Qd Ed } _ (rel_start Rl r) ?_ ?_ ⟨?_, ?_, ?_, ?_⟩
    · intro cls dd σ' H' x sl' ce' G' m' R' s' rx hx
      obtain ⟨ce0, e1, hE⟩ := R.wp_opt hx
      obtain ⟨R2, s2, hr2⟩ := ret_ok Rl R'.toRelS s' e1
      exact ke x ce0 _ m cls dd H' R2 s2 (rx.mono Gall.gg) hE
    · unfold wS
      cases e : b (startD N ts) ce with
      | nx _ _ => rw [e] at hφ'; exact hφ'
      | rt _ _ => rw [e] at hφ'; exact hφ'
      | ex _ _ _ => rw [e] at hφ'; exact hφ'
      | bk _ _ => rw [e] at hφ'; exact hφ'.elim
      | ct _ _ => rw [e] at hφ'; exact hφ'.elim
      | bad => rw [e] at hφ'; exact hφ'.elim
    · intro σ' H' sl' ce' G' m' R' s' hx
      obtain ⟨ce0, e1, hx⟩ := R.wp_opt hx
      obtain ⟨t', e2, hQ⟩ := R.wp_opt hx
      cases e2
      obtain ⟨R2, s2, hr2⟩ := ret_ok Rl R'.toRelS s' e1
      exact kq (.d .non) ce0 _ m .non H' R2 s2 rfl hQ
    · intro t v H' ce' G' m' R' s' rt hx
      obtain ⟨ce0, e1, hx⟩ := R.wp_opt hx
      obtain ⟨t', e2, hQ⟩ := R.wp_opt hx
      obtain ⟨R2, s2, hr2⟩ := ret_ok Rl R' s' e1
      exact kq t' ce0 _ m v H' R2 s2 (hr2 t v t' rt e2) hQ
    · exact fun _ _ _ _ _ _ _ _ z => z.elim
    · exact fun _ _ _ _ _ _ _ _ z => z.elim
theorem fnM {x qual : Str} {st : Stmt} {f : Addr} {fd : FuncData} {N ps : List Str} {k : Nat} {b : MS} (F : Fun K x qual st f fd) (S : FnScope N ps (defScope st)) (hb : Binds K fd ps []) (hK : K.In base)
    (hd : ∀ (cdv : Value) (A : Around) (outer : List Env) (s : Shared) (H : Hp) (E : XK), Room k (A.deeper (PyProof.Rows.envOfC qual (defScope st) s.heap.objs.size f cdv)) →
        PassesOwn (model P w) (cxOf (L2.CX P w) P w K mg base N qual (defScope st) f cdv A outer s H E).A (cxOf (L2.CX P w) P w K mg base N qual (defScope st) f cdv A outer s H E).env (cxOf (L2.CX P w) P w K mg base N qual (defScope st) f cdv A outer s H E).xe →
        SsM (cxOf (L2.CX P w) P w K mg base N qual (defScope st) f cdv A outer s H E) (defBody st) b) : FnX P w K mg base (k + 1) f (phi (mDef N ps.length b)) := fnX_of (fnKM F S hd) hb hK
theorem fnMK {x qual : Str} {st : Stmt} {f : Addr} {fd : FuncData} {N ps : List Str} {k : Nat} {b : MS} (F : Fun K x qual st f fd) (S : FnScope N ps (defScope st)) (hb : Binds K fd ps []) (hK : K.In base)
    (hd : ∀ (cdv : Value) (A : Around) (outer : List Env) (s : Shared) (H : Hp) (E : XK), Room k (A.deeper (PyProof.Rows.envOfC qual (defScope st) s.heap.objs.size f cdv)) →
        PassesOwn (model P w) (cxOf (L2.CX P w) P w K mg base N qual (defScope st) f cdv A outer s H E).A (cxOf (L2.CX P w) P w K mg base N qual (defScope st) f cdv A outer s H E).env (cxOf (L2.CX P w) P w K mg base N qual (defScope st) f cdv A outer s H E).xe →
        SsM (cxOf (L2.CX P w) P w K mg base N qual (defScope st) f cdv A outer s H E) (defBody st) b) : FnX P w K mg base (k + 1) f (phi (mDefK N ps.length b)) := by
  refine fnX_of (F.okX S (fun vs H Q E h => ?_) fun cdv A outer s H vs Q E hr h => ?_) hb hK
  · obtain ⟨ce, G, m, ts, Qd, Ed, Rl, r, hφ, _⟩ := h
    rw [r.length]
    unfold phi mDefK at hφ
    split at hφ
    · next hl => exact hl
    · exact hφ.elim
  · obtain ⟨ce, G, m, ts, Qd, Ed, Rl, r, hφ, kq, ke⟩ := h
    obtain ⟨tf, pf, sf⟩ := (hd cdv A outer s H E hr (passes_of rfl)).dss.ex
    refine ⟨tf (fun cls d _ H => E cls d H), pf _ (takes_of rfl rfl rfl rfl), ?_⟩
    have hφ' : ((b (startD N ts) ce).outK).wp Qd Ed := by
      unfold phi mDefK at hφ
      split at hφ
      · exact hφ
      · exact hφ.elim
    refine sf _ (L2.start N vs) H (startD N ts) ce G m { nx := fun _ ce' => Qd (.d .non) ce', rt := Qd, ex := fun x _ ce' => Ed x ce' } _ (rel_start Rl r) ?_ ?_ ⟨?_, ?_, ?_, ?_⟩
    · intro cls dd σ' H' x sl' ce' G' m' R' s' rx hx
      exact ke x ce' G' m' cls dd H' R'.toRelS s' rx hx
    · unfold wS
      cases e : b (startD N ts) ce with
      | nx _ _ => rw [e] at hφ'; exact hφ'
      | rt _ _ => rw [e] at hφ'; exact hφ'
      | ex _ _ _ => rw [e] at hφ'; exact hφ'
      | bk _ _ => rw [e] at hφ'; exact hφ'.elim
      | ct _ _ => rw [e] at hφ'; exact hφ'.elim
      | bad => rw [e] at hφ'; exact hφ'.elim
    · intro σ' H' sl' ce' G' m' R' s' hx
      exact kq (.d .non) ce' G' m' .non H' R'.toRelS s' rfl hx
    · intro t v H' ce' G' m' R' s' rt hx
      exact kq t ce' G' m' v H' R' s' rt hx
    · exact fun _ _ _ _ _ _ _ _ z => z.elim
    · exact fun _ _ _ _ _ _ _ _ z => z.elim
end
end DL

theorem L2.Room.units1 {k : Nat} {A : PySem.Around} (r : L2.Room k A) : A.units + 1 < PySem.cLine := by have := r.units; omega
namespace L2
open PySem PySem.Spec PyProof.Rows
end L2
namespace DL
open PySem L2
/-! ### one way or another -/
section
variable {X : Cx} {e a b c tg iter kx vx elt : Expr} {es ifs : List Expr} {pos p : Pos} {js : List Nat} {ma mb mc mo mk mv : M} {mu mi : MA} {mt : MT} {sa sb : MS}
/-! ### what is new is frozen -/
noncomputable def mFrz (a : M) : M := fun sl ce => (a sl ce).bind fun t ce2 => retR ce t ce2
theorem semFrz {K : PySem.W.Frag} {ta : WX → TE} (sa : SemE K wd ta (wV ma)) : SemE K wd ta (wV (mFrz ma)) := by
  intro W σ H sl ce G m Qd Ed Qv Rl w h k
  have h' : wV ma sl ce (fun t ce2 => (retR ce t ce2).wp Qd fun x ce' => Ed x sl ce') Ed := by
    unfold wV mFrz at h
    rw [R.wp_bind] at h
    exact h
  refine sa W σ H sl ce G m _ Ed _ Rl w h' fun t ce2 G2 m2 v H2 R2 s2 r2 h2 => ?_
  obtain ⟨ce0, e1, h3⟩ := R.wp_opt h2
  obtain ⟨t', e2, h4⟩ := R.wp_opt h3
  obtain ⟨R3, s3, hr⟩ := ret_ok Rl.toRelS R2.toRelS s2 e1
  exact k t' ce0 _ m v H2 (Rl.step s3 R3) s3 (hr t v t' r2 e2) h4
theorem em_frz (ha : EM X e ma) : EM X e (mFrz ma) := by
  obtain ⟨ta, pa, sa⟩ := ha.de.ex
  exact ⟨⟨ta, pa, semFrz sa⟩⟩
/-! ### a list or dict that is complete: data from now on -/
def takeC : Cell → Option D
  | .lst xs => (unT xs).map D.lst
  | .dic xs => (unK xs).map D.dic
  | _ => none
theorem takeC_lst (xs : List T) : takeC (.lst xs) = (unT xs).map D.lst := rfl
theorem takeC_dic (xs : List (Key × T)) : takeC (.dic xs) = (unK xs).map D.dic := rfl
def R.take (t : T) (ce : Ce) : R T := match t with
  | .d x => .ok (.d x) ce
  | .cel k => R.opt ((ce[k]?).bind takeC) fun d => .ok (.d d) (ce.set k .gone)
  | .tup _ => .bad
theorem R.take_cel (k : Nat) (ce : Ce) : R.take (.cel k) ce = R.opt ((ce[k]?).bind takeC) fun d => .ok (.d d) (ce.set k .gone) := rfl
def mTake (a : M) : M := fun sl ce => (a sl ce).bind fun t ce1 => R.take t ce1
theorem semTake {K : PySem.W.Frag} {ta : WX → TE} (sa : SemE K wd ta (wV ma)) : SemE K wd ta (wV (mTake ma)) := by
  intro W σ H sl ce G m Qd Ed Qv Rl w h k
  have h' : wV ma sl ce (fun t ce1 => (R.take t ce1).wp Qd fun x ce' => Ed x sl ce') Ed := by
    unfold wV mTake at h
    rw [R.wp_bind] at h
    exact h
  refine sa W σ H sl ce G m _ Ed _ Rl w h' fun t ce2 G2 m2 v H2 R2 s2 r2 h2 => ?_
  cases t with
  | tup es => exact h2.elim
  | d x => exact k (.d x) ce2 G2 m2 v H2 R2 s2 r2 h2
  | cel j =>
    obtain ⟨d, e1, h3⟩ := R.wp_opt h2
    obtain ⟨c, e2, e3⟩ := opt_bind e1
    obtain ⟨a, hm, rfl⟩ := r2
    have hlv : ce2[j]? ≠ some .gone := by rw [e2]; intro z; cases z; cases e3
    have hc := R2.cel j a c hm e2
    cases c with
    | lst xs =>
      obtain ⟨vs, hH, rs⟩ := hc
      obtain ⟨R3, s3⟩ := R2.toRelS.taken hm hlv hH
      simp only [takeC] at e3
      cases q : unT xs with
      | none => rw [q] at e3; cases e3
      | some ds =>
        rw [q] at e3; cases e3
        exact k _ _ _ m2 _ H2 (R2.step s3 R3) (s2.trans s3) (show RepT K m2 _ (.d (.lst ds)) _ from ⟨a, vs, rfl, SqL.of upd_same, RepL.mono s3.gg _ _ (unT_ok rs q)⟩) h3
    | dic xs =>
      obtain ⟨vs, hH, rs⟩ := hc
      obtain ⟨R3, s3⟩ := R2.toRelS.taken hm hlv hH
      simp only [takeC] at e3
      cases q : unK xs with
      | none => rw [q] at e3; cases e3
      | some ds =>
        rw [q] at e3; cases e3
        exact k _ _ _ m2 _ H2 (R2.step s3 R3) (s2.trans s3) (show RepT K m2 _ (.d (.dic ds)) _ from ⟨a, vs, rfl, upd_same, RepK.mono s3.gg _ _ (unK_ok rs q)⟩) h3
    | ins _ _ => cases e3
    | tdic _ _ => cases e3
    | tab _ _ => cases e3
    | gone => cases e3
theorem em_take (ha : EM X e ma) : EM X e (mTake ma) := by
  obtain ⟨ta, pa, sa⟩ := ha.de.ex
  exact ⟨⟨ta, pa, semTake sa⟩⟩
/-! ### comprehensions into a cell -/
end
end DL

namespace DL
open PySem L2 PyProof.Rows
/-! ### the order of texts -/
theorem ltCps_iff : ∀ a b : List Nat, Spec.ltCps a b = decide (a < b)
  | [], [] => by simp [Spec.ltCps]
  | [], b :: r => by simp [Spec.ltCps]
  | a :: r, [] => by simp [Spec.ltCps]
  | a :: r, b :: t => by
    simp only [Spec.ltCps, ltCps_iff r t, List.cons_lt_cons_iff]
    by_cases h : a < b <;> by_cases h2 : a = b <;> simp [h, h2]
/-- a text stands ahead of another, or is the same -/
def leS (a b : Str) : Bool := !ltS b a
theorem str_ext {a b : Str} (h : a.cps.toList = b.cps.toList) : a = b := by
  obtain ⟨⟨x⟩⟩ := a
  obtain ⟨⟨y⟩⟩ := b
  simp at h
  subst h
  rfl
theorem ltS_irrefl (a : Str) : ltS a a = false := by simp [ltS, List.lt_irrefl]
theorem ltS_trans {a b c : Str} (h : ltS a b = true) (h' : ltS b c = true) : ltS a c = true := by
  simp only [ltS, decide_eq_true_eq] at *
  exact List.lt_trans h h'
theorem ltS_total {a b : Str} (h : a ≠ b) : ltS a b = true ∨ ltS b a = true := by
  simp only [ltS, decide_eq_true_eq]
  by_cases h1 : a.cps.toList < b.cps.toList
  · exact .inl h1
  · by_cases h2 : b.cps.toList < a.cps.toList
    · exact .inr h2
    · exact absurd (str_ext (List.le_antisymm (List.not_lt.mp h2) (List.not_lt.mp h1))) h
theorem ltS_asymm {a b : Str} (h : ltS a b = true) : ltS b a = false := by
  cases e : ltS b a with
  | false => rfl
  | true => exact absurd (ltS_trans h e) (by rw [ltS_irrefl]; simp)
theorem leS_trans (a b c : Str) (h : leS a b = true) (h' : leS b c = true) : leS a c = true := by
  simp only [leS, Bool.not_eq_true'] at *
  by_cases e : b = c
  · subst e; exact h
  · by_cases e2 : a = b
    · subst e2; exact h'
    · have h1 := (ltS_total e2).resolve_right (by rw [h]; simp)
      have h2 := (ltS_total e).resolve_right (by rw [h']; simp)
      exact ltS_asymm (ltS_trans h1 h2)
theorem leS_total (a b : Str) : (leS a b || leS b a) = true := by
  simp only [leS, Bool.or_eq_true, Bool.not_eq_true']
  by_cases e : a = b
  · subst e; exact .inl (ltS_irrefl _)
  · rcases ltS_total e with h | h
    · exact .inl (ltS_asymm h)
    · exact .inr (ltS_asymm h)
theorem leS_antisymm {a b : Str} (h : leS a b = true) (h' : leS b a = true) : a = b := by
  by_cases e : a = b
  · exact e
  · simp only [leS, Bool.not_eq_true'] at *
    rcases ltS_total e with z | z
    · rw [z] at h'; cases h'
    · rw [z] at h; cases h
/-- sorted(xs) -/
def srt (xs : List Str) : List Str := xs.mergeSort leS
theorem srt_perm (xs : List Str) : (srt xs).Perm xs := List.mergeSort_perm xs leS
theorem srt_pair (xs : List Str) : (srt xs).Pairwise (fun a b => leS a b = true) := List.pairwise_mergeSort leS_trans leS_total xs
theorem risingS_pair : ∀ (xs : List Str) (p : Str), risingS p xs = true → (p :: xs).Pairwise (fun a b => leS a b = true)
  | [], p, _ => List.pairwise_singleton _ _
  | x :: r, p, h => by
    simp only [risingS, Bool.and_eq_true, Bool.not_eq_true'] at h
    obtain ⟨h1, h2⟩ := h
    have ih := risingS_pair r x h2
    rw [ltCps_iff] at h1
    have h1' : leS p x = true := by simp only [leS, ltS, Bool.not_eq_true']; exact h1
    refine List.pairwise_cons.mpr ⟨fun y hy => ?_, ih⟩
    rcases List.mem_cons.mp hy with rfl | hy
    · exact h1'
    · exact leS_trans _ _ _ h1' ((List.pairwise_cons.mp ih).1 y hy)
theorem sortedS_pair {xs : List Str} (h : sortedS xs = true) : xs.Pairwise (fun a b => leS a b = true) := by
  cases xs with
  | nil => exact .nil
  | cons x r => exact risingS_pair r x h
theorem srt_uniq {xs ys : List Str} (hp : ys.Perm xs) (h : sortedS ys = true) : ys = srt xs :=
  List.Perm.eq_of_pairwise (fun a b _ _ h1 h2 => leS_antisymm h1 h2) (sortedS_pair h) (srt_pair xs) (hp.trans (srt_perm xs).symm)
section
variable {X : Cx} {e a b c tg iter : Expr} {es : List Expr} {pos p : Pos} {ma mb mc mo : M} {mu : MA}
/-! ### sorted -/
noncomputable def oSortSM : B1 := fun ts ce => match ts with
  | [.d (.lst ds)] => R.opt (strD ds) fun xs => R.chk (xs.length < 64) (.ok (.d (.lst ((srt xs).map .str))) ce)
  | _ => .bad
@[simp] theorem oSortSM_lst (ds : List D) (ce : Ce) : oSortSM [.d (.lst ds)] ce = R.opt (strD ds) fun xs => R.chk (xs.length < 64) (.ok (.d (.lst ((srt xs).map .str))) ce) := rfl
theorem cm_sortS : CaM X (.builtin "sorted") oSortSM := ⟨cd_sortS.weak fun ts ce Q h => by
  unfold oSortSM at h
  split at h
  · obtain ⟨xs, e, h1⟩ := R.wp_opt h
    obtain ⟨hl, h2⟩ := R.wp_chk h1
    simp only [oSortS, e]
    exact ⟨hl, fun ys hp hs => by rw [srt_uniq hp hs]; exact h2⟩
  · exact h.elim⟩
/-! ### dict(d), list(d) -/
theorem unK_map (ds : List (Key × D)) : unK (ds.map fun p => (p.1, T.d p.2)) = some ds := by
  induction ds with
  | nil => rfl
  | cons x r ih => simp [unK, ih]
/-! ### sum, max, min, int(bool) -/
/-! ### xs * n, xs a cell -/
noncomputable def oRepCM : B2 := fun x y ce => R.onC x fun k => R.opt ((ce[k]?).bind lstC) fun xs => R.onI y fun n => R.chk (-(2 ^ 63) ≤ n ∧ n < 2 ^ 63 ∧ xs.length * n.toNat ≤ 16777216) (.ok (.cel ce.length) (ce ++ [.lst (List.replicate n.toNat xs).flatten]))
theorem RepTL.rep {K : PySem.W.Frag} {m : List Addr} {G : Hp} {xs : List T} {vs : List V} (r : RepTL K m G xs vs) : ∀ n, RepTL K m G (List.replicate n xs).flatten (List.replicate n vs).flatten
  | 0 => rfl
  | n + 1 => by
    rw [List.replicate_succ, List.replicate_succ, List.flatten_cons, List.flatten_cons]
    exact r.append (RepTL.rep r n)
theorem om_repC : OpM X (binaryOp .Mult) oRepCM := by
  refine ⟨⟨_, op_rep, fun H ce G m Qd Qv x y v u Rl rx ry h k => ?_⟩⟩
  obtain ⟨kk, rfl, h1⟩ := R.wp_onC h
  obtain ⟨xs, e1, h2⟩ := R.wp_opt h1
  obtain ⟨cc, e2, e3⟩ := opt_bind e1
  have := lstC_some e3
  subst this
  obtain ⟨n, rfl, h3⟩ := R.wp_onI h2
  obtain ⟨⟨c1, c2, c3⟩, h4⟩ := R.wp_chk h3
  obtain ⟨a, hm, rfl⟩ := rx
  cases ry
  obtain ⟨vs, hH, rs⟩ := Rl.cel kk a _ hm e2
  refine ⟨a, n, vs, rfl, rfl, hH, c1, c2, by rw [rs.length, sizeLine_eq]; exact c3, fun p hp => ?_⟩
  obtain ⟨R2, s2⟩ := Rl.cell (o := .lst (List.replicate n.toNat vs).flatten) (c := .lst (List.replicate n.toNat xs).flatten) hp ⟨_, upd_same, (rs.rep _).mono (List.prefix_append m [p]) (Gg.refl _)⟩
  exact k (.cel ce.length) _ _ _ _ _ R2 s2 ⟨p, by rw [← Rl.len]; exact snoc_last, rfl⟩ h4
/-! ### x op= e -/
end
/-! ### defs with defaults; a def that is not run -/
section
variable {P : Program} {w : World} {K : PySem.W.Frag} {mg : Str → Option Value} {base : Heap}
theorem FnX.bad {k : Nat} {f : Addr} : FnX P w K mg base k f (phi fun _ _ => .bad) := fun _ _ _ _ _ _ _ _ _ _ _ h => by
  obtain ⟨_, _, _, _, _, _, _, _, z, _⟩ := h
  exact z.elim
end
end DL

namespace DL
open PySem L2 He
section
variable {P : Program} {w : World} {K : PySem.W.Frag} {mg : Str → Option Value} {base : Heap}
end
end DL

namespace DL
open PySem L2 He
/-! ### how a run goes: one row for each form -/
theorem mVar_ap (i : Nat) (sl : Sl) (ce : Ce) : mVar i sl ce = R.opt (sg sl i) fun t => .ok t ce := rfl
theorem mC_ap (d : D) (sl : Sl) (ce : Ce) : mC d sl ce = .ok (.d d) ce := rfl
theorem mNever_ap  (sl : Sl) (ce : Ce) : mNever  sl ce = .bad := rfl
theorem mNil_ap  (sl : Sl) (ce : Ce) : mNil  sl ce = .ok [] ce := rfl
theorem mCons_ap (a : M) (r : MA) (sl : Sl) (ce : Ce) : mCons a r sl ce = (a sl ce).bind fun x ce1 => (r sl ce1).bind fun xs ce2 => .ok (x :: xs) ce2 := rfl
theorem mTup_ap (u : MA) (sl : Sl) (ce : Ce) : mTup u sl ce = (u sl ce).bind fun ts ce1 => R.opt (unT ts) fun ds => R.chk (lenOk ds.length) (.ok (.d (.tup ds)) ce1) := rfl
theorem mLst_ap (u : MA) (sl : Sl) (ce : Ce) : mLst u sl ce = (u sl ce).bind fun ts ce1 => R.opt (unT ts) fun ds => R.chk (lenOk ds.length) (.ok (.d (.lst ds)) ce1) := rfl
theorem mLstC_ap (u : MA) (sl : Sl) (ce : Ce) : mLstC u sl ce = (u sl ce).bind fun ds ce1 => R.chk (lenOk ds.length) (.ok (.cel ce1.length) (ce1 ++ [.lst ds])) := rfl
theorem mOp_ap (o : B2) (a b : M) (sl : Sl) (ce : Ce) : mOp o a b sl ce = (a sl ce).bind fun x ce1 => (b sl ce1).bind fun y ce2 => (o x y ce2).noEx := rfl
theorem mChain_ap (o o' : B2) (a b c : M) (sl : Sl) (ce : Ce) : mChain o o' a b c sl ce = (a sl ce).bind fun x ce1 => (b sl ce1).bind fun y ce2 => (o x y ce2).noEx.bind fun z ce3 => R.onB z fun t => R.cnd t ((c sl ce3).bind fun w ce4 => (o' y w ce4).noEx) (.ok (.d (.bl false)) ce3) := rfl
theorem mTru_ap (a : M) (sl : Sl) (ce : Ce) : mTru a sl ce = (a sl ce).bind fun t ce1 => R.opt (truthD ce1 t) fun b => .ok b ce1 := rfl
theorem mTB_ap (a : M) (sl : Sl) (ce : Ce) : mTB a sl ce = (a sl ce).bind fun t ce1 => R.onB t fun b => .ok b ce1 := rfl
theorem mNotT_ap (a : MT) (sl : Sl) (ce : Ce) : mNotT a sl ce = (a sl ce).bind fun b ce1 => .ok (!b) ce1 := rfl
theorem mOrT_ap (a b : MT) (sl : Sl) (ce : Ce) : mOrT a b sl ce = (a sl ce).bind fun t ce1 => R.cnd t (.ok true ce1) (b sl ce1) := rfl
theorem mIfE_ap (t : MT) (a b : M) (sl : Sl) (ce : Ce) : mIfE t a b sl ce = (t sl ce).bind fun t ce1 => R.cnd t (a sl ce1) (b sl ce1) := rfl
theorem mAndV_ap (a b : M) (sl : Sl) (ce : Ce) : mAndV a b sl ce = (a sl ce).bind fun x ce1 => R.onB x fun t => R.cnd t (b sl ce1) (.ok (.d (.bl false)) ce1) := rfl
theorem mYes_ap  (sl : Sl) (ce : Ce) : mYes  sl ce = .ok true ce := rfl
theorem mNoP_ap  (sl : Sl) (ce : Ce) : mNoP  sl ce = .ok none ce := rfl
theorem mPart_ap (a : M) (sl : Sl) (ce : Ce) : mPart a sl ce = (a sl ce).bind fun x ce1 => R.onI x fun i => .ok (some i) ce1 := rfl
theorem mCB_ap (o : B1) (u : MA) (sl : Sl) (ce : Ce) : mCB o u sl ce = (u sl ce).bind fun ts ce1 => (o ts ce1).noEx := rfl
theorem oLenM_ap  (ts : List T) (ce : Ce) : oLenM  ts ce = R.on1 ts fun t => R.opt (cntD ce t) fun n => .ok (.d (.int (n : Nat))) ce := rfl
theorem oInt1M_ap  (ts : List T) (ce : Ce) : oInt1M  ts ce = R.on1 ts fun t => R.onI t fun i => .ok (.d (.int i)) ce := rfl
theorem oTupleM_ap  (ts : List T) (ce : Ce) : oTupleM  ts ce = R.on1 ts fun t => R.onSq ce t fun ds => .ok (.d (.tup ds)) ce := rfl
theorem oListCM_ap  (ts : List T) (ce : Ce) : oListCM  ts ce = R.on1 ts fun t => R.opt (seqB ce t) fun xs => .ok (.cel ce.length) (ce ++ [.lst xs]) := rfl
theorem mCall_ap (F : Fn) (u : MA) (sl : Sl) (ce : Ce) : mCall F u sl ce = (u sl ce).bind fun ts ce1 => F ts ce1 := rfl
theorem mMake_ap (C : Addr) (F : Fn) (u : MA) (sl : Sl) (ce : Ce) : mMake C F u sl ce = (u sl ce).bind fun ts ce1 => mkR C F ts ce1 := rfl
theorem mFld_ap (C : Addr) (n : Str) (a : M) (sl : Sl) (ce : Ce) : mFld C n a sl ce = (a sl ce).bind fun x ce1 => R.ins ce1 x C fun fs => R.opt (fs.lookup n) fun d => .ok d ce1 := rfl
theorem mProp_ap (C : Addr) (F : Fn) (a : M) (sl : Sl) (ce : Ce) : mProp C F a sl ce = (a sl ce).bind fun x ce1 => R.ins ce1 x C fun _ => (F [x] ce1).noEx := rfl
theorem mMeth_ap (C : Addr) (n : Str) (F : Fn) (a : M) (u : MA) (sl : Sl) (ce : Ce) : mMeth C n F a u sl ce = (a sl ce).bind fun x ce1 => R.ins ce1 x C fun fs => R.chk (fs.lookup n = none) ((u sl ce1).bind fun ts ce2 => F (x :: ts) ce2) := rfl
theorem oInOM_ap (C : Addr) (F : Fn) (neg : Bool) (x y : T) (ce : Ce) : oInOM C F neg x y ce = R.ins ce y C fun _ => (F [y, x] ce).noEx.bind fun v ce' => R.onB v fun b => .ok (.d (.bl (neg != b))) ce' := rfl
theorem mGetO_ap (C : Addr) (F : Fn) (a b : M) (sl : Sl) (ce : Ce) : mGetO C F a b sl ce = (a sl ce).bind fun x ce1 => (b sl ce1).bind fun y ce2 => R.ins ce2 x C fun _ => F [x, y] ce2 := rfl
theorem oEqOM_ap (C : Addr) (F : Fn) (neg : Bool) (x y : T) (ce : Ce) : oEqOM C F neg x y ce = R.ins ce x C fun _ => R.ins ce y C fun _ => (F [x, y] ce).noEx.bind fun v ce' => R.onB v fun b => .ok (.d (.bl (neg != b))) ce' := rfl
theorem mDNew_ap  (sl : Sl) (ce : Ce) : mDNew  sl ce = .ok (.cel ce.length) (ce ++ [.dic []]) := rfl
theorem oDGetM_ap  (x y : T) (ce : Ce) : oDGetM  x y ce = R.opt (dicOf ce x) fun kvs => R.opt (keyT y) fun k => R.opt (valA kvs k) fun t => .ok t ce := rfl
theorem oDInM_ap (neg : Bool) (x y : T) (ce : Ce) : oDInM neg x y ce = R.opt (dicOf ce y) fun kvs => R.opt (keyT x) fun k => .ok (.d (.bl (neg != (valA kvs k).isSome))) ce := rfl
theorem mDGet2_ap (a b c : M) (sl : Sl) (ce : Ce) : mDGet2 a b c sl ce = (a sl ce).bind fun x ce1 => R.opt (dicOf ce1 x) fun _ => (b sl ce1).bind fun y ce2 => (c sl ce2).bind fun z ce3 => R.opt (dicOf ce3 x) fun kvs => R.opt (keyT y) fun k => .ok ((valA kvs k).getD z) ce3 := rfl
theorem mRange1_ap (u : MA) (sl : Sl) (ce : Ce) : mRange1 u sl ce = (u sl ce).bind fun ts ce1 => R.on1 ts fun t => R.onI t fun j => R.chk (-(2 ^ 62) ≤ j ∧ j < 2 ^ 62) (.ok ((List.range j.toNat).map fun (i : Nat) => .d (.int i)) ce1) := rfl
theorem mZip_ap (u : MA) (sl : Sl) (ce : Ce) : mZip u sl ce = (u sl ce).bind fun ts ce1 => R.opt (zipT ts) fun xs => .ok xs ce1 := rfl
theorem mEnum_ap (u : MA) (sl : Sl) (ce : Ce) : mEnum u sl ce = (u sl ce).bind fun ts ce1 => R.on1 ts fun t => R.opt (enumT t) fun xs => .ok xs ce1 := rfl
theorem mLc_ap (i : MA) (g : GT) (t : MT) (e : M) (vs : List Nat) (sl : Sl) (ce : Ce) : mLc i g t e vs sl ce = (i sl ce).bind fun items ce1 => R.chk (items.length < 1000000) ((compM (itemM g t e (wipeD sl vs)) items ce1).bind fun ds ce2 => .ok (.d (.lst ds)) ce2) := rfl
theorem sNext_ap  (sl : Sl) (ce : Ce) : sNext  sl ce = .nx sl ce := rfl
theorem sSeq_ap (a b : MS) (sl : Sl) (ce : Ce) : sSeq a b sl ce = (a sl ce).seq b := rfl
theorem sDrop_ap (a : M) (sl : Sl) (ce : Ce) : sDrop a sl ce = (a sl ce).st sl fun _ ce1 => .nx sl ce1 := rfl
theorem sRet_ap (a : M) (sl : Sl) (ce : Ce) : sRet a sl ce = (a sl ce).st sl fun t ce1 => .rt t ce1 := rfl
theorem sIf_ap (t : MT) (a b : MS) (sl : Sl) (ce : Ce) : sIf t a b sl ce = (t sl ce).st sl fun q ce1 => RS.cnd q (a sl ce1) (b sl ce1) := rfl
theorem sAsg_ap (a : M) (g : GT) (sl : Sl) (ce : Ce) : sAsg a g sl ce = (a sl ce).st sl fun t ce1 => RS.opt (g t sl) fun sl' => .nx sl' ce1 := rfl
theorem sSet_ap (i : Nat) (a : M) (sl : Sl) (ce : Ce) : sSet i a sl ce = (a sl ce).st sl fun t ce1 => .nx (sl.set i (some t)) ce1 := rfl
theorem sStF_ap (C : Addr) (f : Str) (o a : M) (sl : Sl) (ce : Ce) : sStF C f o a sl ce = (a sl ce).st sl fun t ce1 => (o sl ce1).st sl fun q ce2 => RS.onC q fun k => RS.opt ((ce2[k]?).bind insC) fun r => RS.chk (r.1 = C ∧ r.2.length < 1000) (.nx sl (ce2.set k (.ins C (putD f t r.2)))) := rfl
theorem sStI_ap (o i a : M) (sl : Sl) (ce : Ce) : sStI o i a sl ce = (a sl ce).st sl fun t ce1 => (o sl ce1).st sl fun q ce2 => (i sl ce2).st sl fun iv ce3 => RS.onC q fun k => RS.onI iv fun n => RS.opt ((ce3[k]?).bind lstC) fun xs => RS.opt (ixN xs.length n) fun j => .nx sl (ce3.set k (.lst (xs.set j t))) := rfl
theorem sDPut_ap (o i a : M) (sl : Sl) (ce : Ce) : sDPut o i a sl ce = (a sl ce).st sl fun t ce1 => (o sl ce1).st sl fun q ce2 => (i sl ce2).st sl fun iv ce3 => RS.onC q fun k => RS.opt (keyT iv) fun kk => RS.opt ((ce3[k]?).bind dicC) fun kvs => RS.chk (kvs.length < 16777216) (.nx sl (ce3.set k (.dic (putA kvs kk t)))) := rfl
theorem sFor_ap (i : MA) (g : GT) (b : MS) (sl : Sl) (ce : Ce) : sFor i g b sl ce = (i sl ce).st sl fun items ce1 => forL g b items sl ce1 := rfl
theorem sWhile_ap (n : Sl → Ce → Nat) (t : MT) (b : MS) (sl : Sl) (ce : Ce) : sWhile n t b sl ce = whileL t b (n sl ce) sl ce := rfl
theorem sRaise_ap (x : MG Exc) (sl : Sl) (ce : Ce) : sRaise x sl ce = (x sl ce).st sl fun y ce1 => .ex y sl ce1 := rfl
theorem mXown_ap (C : Addr) (sl : Sl) (ce : Ce) : mXown C sl ce = .ok ⟨.ref C, []⟩ ce := rfl
theorem mXkw_ap (C : Addr) (ns : List Str) (u : MA) (sl : Sl) (ce : Ce) : mXkw C ns u sl ce = (u sl ce).bind fun ts ce1 => R.opt (unT ts) fun ds => R.chk (ds.length = ns.length) (.ok ⟨.ref C, ns.zip ds⟩ ce1) := rfl
theorem mFrz_ap (a : M) (sl : Sl) (ce : Ce) : mFrz a sl ce = (a sl ce).bind fun t ce2 => retR ce t ce2 := rfl
theorem mTake_ap (a : M) (sl : Sl) (ce : Ce) : mTake a sl ce = (a sl ce).bind fun t ce1 => R.take t ce1 := rfl
theorem oRepCM_ap  (x y : T) (ce : Ce) : oRepCM  x y ce = R.onC x fun k => R.opt ((ce[k]?).bind lstC) fun xs => R.onI y fun n => R.chk (-(2 ^ 63) ≤ n ∧ n < 2 ^ 63 ∧ xs.length * n.toNat ≤ 16777216) (.ok (.cel ce.length) (ce ++ [.lst (List.replicate n.toNat xs).flatten])) := rfl
theorem mSlice_ap (a : M) (l h : MG (Option Int)) (sl : Sl) (ce : Ce) : mSlice a l h sl ce = (a sl ce).bind fun x ce1 => (l sl ce1).bind fun lo ce2 => (h sl ce2).bind fun hi ce3 => oSlM x lo hi ce3 := rfl
theorem mIt_ap (f : T → Option (List T)) (a : M) (sl : Sl) (ce : Ce) : mIt f a sl ce = (a sl ce).bind fun x ce1 => R.opt (f x) fun xs => .ok xs ce1 := rfl
theorem mBM_ap (o : List T → List T → Option (T × List T)) (a : M) (u : MA) (sl : Sl) (ce : Ce) : mBM o a u sl ce = (a sl ce).bind fun x ce1 => R.onC x fun k => R.opt ((ce1[k]?).bind lstC) fun _ => (u sl ce1).bind fun ts ce2 => R.opt ((ce2[k]?).bind lstC) fun xs => R.opt (o xs ts) fun r => .ok r.1 (ce2.set k (.lst r.2)) := rfl
theorem sPar_ap (i j : Nat) (u : MA) (sl : Sl) (ce : Ce) : sPar i j u sl ce = (u sl ce).st sl fun ts ce1 => match ts with
  | [t, t'] => .nx ((sl.set i (some t)).set j (some t')) ce1
  | _ => .bad := rfl
theorem gName_ap (i : Nat) (t : T) (sl : Sl) : gName i t sl = some (sl.set i (some t)) := rfl
theorem itemM_ap (g : GT) (t : MT) (e : M) (sl : Sl) (x : T) (ce : Ce) : itemM g t e sl x ce = R.opt (g x sl) fun sl1 => (t sl1 ce).noEx.bind fun b ce1 => R.cnd b ((e sl1 ce1).noEx.bind fun y ce2 => R.onD y fun d => .ok (some d) ce2) (.ok none ce1) := rfl
theorem oLeM_ap (x y : T) (ce : Ce) : oLeM x y ce = R.onI x fun i => R.onI y fun j => .ok (.d (.bl (decide (i ≤ j)))) ce := rfl
theorem oGtM_ap (x y : T) (ce : Ce) : oGtM x y ce = R.onI x fun i => R.onI y fun j => .ok (.d (.bl (decide (j < i)))) ce := rfl
theorem oGeM_ap (x y : T) (ce : Ce) : oGeM x y ce = R.onI x fun i => R.onI y fun j => .ok (.d (.bl (decide (j ≤ i)))) ce := rfl
theorem oMulM_ap (x y : T) (ce : Ce) : oMulM x y ce = R.onI x fun i => R.onI y fun j => R.chk (CMul i j) (.ok (.d (.int (i * j))) ce) := rfl
theorem oFdivM_ap (x y : T) (ce : Ce) : oFdivM x y ce = R.onI x fun i => R.onI y fun j => R.chk (CDiv i j) (.ok (.d (.int (i / j))) ce) := rfl
theorem oModM_ap (x y : T) (ce : Ce) : oModM x y ce = R.onI x fun i => R.onI y fun j => R.chk (0 < j) (.ok (.d (.int (i % j))) ce) := rfl
theorem oPowM_ap (x y : T) (ce : Ce) : oPowM x y ce = R.onI x fun i => R.onI y fun j => R.chk (CPow i j) (.ok (.d (.int (i ^ j.toNat))) ce) := rfl
theorem onSq_ap {α : Type} (ce : Ce) (t : T) (k : List D → R α) : R.onSq ce t k = R.opt (seqB ce t) fun xs => R.opt (unT xs) k := rfl
theorem ins_ap {α : Type} (ce : Ce) (t : T) (C : Addr) (k : List (Str × T) → R α) : R.ins ce t C k = R.opt (insOf ce t) fun q => R.chk (q.1 = C) (k q.2) := rfl
theorem mkR_ap (C : Addr) (F : Fn) (ts : List T) (ce : Ce) : mkR C F ts ce = R.made ce (F (.cel ce.length :: ts) (ce ++ [.ins C []])) := rfl
/-! ### what a plain return gives -/
theorem retR_same (ce : Ce) (d : D) (l : Ce) : retR ce (.d d) (ce ++ l) = .ok (.d d) ce := by simp [retR]; rfl
theorem retR_self (ce : Ce) (d : D) : retR ce (.d d) ce = .ok (.d d) ce := by simp [retR]; rfl
theorem retX_same (ce : Ce) (x : Exc) (l : Ce) : retX ce x (ce ++ l) = .ex x ce := by simp [retX]
theorem retX_self (ce : Ce) (x : Exc) : retX ce x ce = .ex x ce := by simp [retX]
/-! ### no going into what is not run yet -/
/-! ### small things -/
theorem unT_nil : unT [] = some [] := rfl
theorem unT_cons (x : D) (r : List T) : unT (.d x :: r) = (unT r).map (List.cons x) := by
  simp only [unT]
  cases unT r <;> rfl
theorem lenOk_iff (n : Nat) : lenOk n = (n ≤ 16777216) := rfl
theorem ins_D (ce : Ce) (C : Addr) (fs : List (Str × D)) : insOf ce (.d (.ins C fs)) = some (C, fs.map fun p => (p.1, .d p.2)) := rfl
theorem seqB_tup (ce : Ce) (xs : List D) : seqB ce (.d (.tup xs)) = some (xs.map T.d) := rfl
theorem seqB_lst (ce : Ce) (xs : List D) : seqB ce (.d (.lst xs)) = some (xs.map T.d) := rfl
theorem seqL_lst (ce : Ce) (xs : List D) : seqL ce (.d (.lst xs)) = some (xs.map T.d) := rfl
theorem dicOf_dic (ce : Ce) (kvs : List (Key × D)) : dicOf ce (.d (.dic kvs)) = some (kvs.map fun p => (p.1, .d p.2)) := rfl
theorem cnt_tup (ce : Ce) (xs : List D) : cntD ce (.d (.tup xs)) = some xs.length := rfl
theorem cnt_lst (ce : Ce) (xs : List D) : cntD ce (.d (.lst xs)) = some xs.length := rfl
theorem cnt_dic (ce : Ce) (xs : List (Key × D)) : cntD ce (.d (.dic xs)) = some xs.length := rfl
theorem cnt_str (ce : Ce) (z : Str) : cntD ce (.d (.str z)) = if z.length ≤ 16777216 then some z.length else none := rfl
def cntC : Cell → Option Nat
  | .lst xs => some xs.length
  | .dic xs => some xs.length
  | _ => none
theorem cntC_lst (xs : List T) : cntC (.lst xs) = some xs.length := rfl
theorem cntC_dic (xs : List (Key × T)) : cntC (.dic xs) = some xs.length := rfl
theorem cnt_cel (ce : Ce) (k : Nat) : cntD ce (.cel k) = (ce[k]?).bind cntC := by
  simp only [cntD]
  cases ce[k]? with
  | none => rfl
  | some c => cases c <;> rfl
theorem tru_bl (ce : Ce) (b : Bool) : truthD ce (.d (.bl b)) = some b := rfl
theorem key_str (x : Str) : keyT (.d (.str x)) = some (.inr x) := rfl
theorem key_int (x : Int) : keyT (.d (.int x)) = some (.inl x) := rfl
theorem keyD_str (x : Str) : keyD (.inr x) = .str x := rfl
theorem vD_d (ce : Ce) (x : D) : vD ce (.d x) = some x := rfl
theorem vD_cel (ce : Ce) (k : Nat) : vD ce (.cel k) = ((ce[k]?).bind lstC).bind fun xs => (unT xs).map .lst := by
  simp only [vD]
  cases ce[k]? with
  | none => rfl
  | some c => cases c <;> rfl
theorem atI0 {α : Type} (a : α) (r : List α) : atI (a :: r) 0 = some a := by simp [atI, ixN]
theorem atI1 {α : Type} (a b : α) (r : List α) : atI (a :: b :: r) 1 = some b := by
  unfold atI ixN
  rw [if_pos (by decide), if_pos (by simp; omega)]
  rfl
theorem atI2 {α : Type} (a b c : α) (r : List α) : atI (a :: b :: c :: r) 2 = some c := by
  unfold atI ixN
  rw [if_pos (by decide), if_pos (by simp; omega)]
  rfl
theorem atI3 {α : Type} (a b c d : α) (r : List α) : atI (a :: b :: c :: d :: r) 3 = some d := by
  unfold atI ixN
  rw [if_pos (by decide), if_pos (by simp; omega)]
  rfl
theorem ix0 (n : Nat) : ixN (n + 1) 0 = some 0 := by
  unfold ixN
  rw [if_pos (by decide), if_pos (by omega)]
  rfl
theorem ix1 (n : Nat) : ixN (n + 2) 1 = some 1 := by
  unfold ixN
  rw [if_pos (by decide), if_pos (by omega)]
  rfl
theorem ix2 (n : Nat) : ixN (n + 3) 2 = some 2 := by
  unfold ixN
  rw [if_pos (by decide), if_pos (by omega)]
  rfl
/-- cells behind others -/
theorem ga_len (a : Ce) (c : Cell) (l : Ce) : (a ++ c :: l)[a.length]? = some c := by simp
theorem ga_add (a l : Ce) (i : Nat) : (a ++ l)[a.length + i]? = l[i]? := by rw [List.getElem?_append_right (by omega)]; congr 1; omega
theorem gs_len (a : Ce) (c c' : Cell) (l : Ce) : (a ++ c :: l).set a.length c' = a ++ c' :: l := by
  rw [List.set_append_right _ _ (Nat.le_refl _)]; simp
theorem gs_add (a l : Ce) (i : Nat) (c' : Cell) : (a ++ l).set (a.length + i) c' = a ++ l.set i c' := by
  rw [List.set_append_right _ _ (by omega)]; congr 2; omega
theorem opt_nonempty_isEmpty (b : Bool) : (true != b) = !b := by cases b <;> rfl
theorem fb_id (b : Bool) : (false != b) = b := by cases b <;> rfl
theorem w_set0 {α : Type} (x y : α) (r : List α) : (x :: r).set 0 y = y :: r := rfl
theorem w_set1 {α : Type} (x y : α) (r : List α) (n : Nat) : (x :: r).set (n + 1) y = x :: r.set n y := rfl
theorem w_omap {α β : Type} (a : α) (f : α → β) : (some a).map f = some (f a) := rfl
theorem w_obind {α β : Type} (a : α) (f : α → Option β) : (some a).bind f = f a := rfl
theorem w_len1 {α : Type} (a : α) (r : List α) : (a :: r).length = r.length + 1 := rfl
theorem w_len0 {α : Type} : ([] : List α).length = 0 := rfl
theorem w_ite {α : Type} (a b : α) : (if True then a else b) = a := if_pos trivial
theorem w_app {α : Type} (a b c : List α) : (a ++ b) ++ c = a ++ (b ++ c) := List.append_assoc a b c
theorem w_app1 {α : Type} (x : α) (a b : List α) : (x :: a) ++ b = x :: (a ++ b) := rfl
theorem w_app0 {α : Type} (b : List α) : [] ++ b = b := rfl
theorem w_nt : (!true) = false := rfl
theorem w_nf : (!false) = true := rfl
theorem w_get0 {α : Type} (x : α) (r : List α) : (x :: r)[0]? = some x := rfl
theorem w_get1 {α : Type} (x : α) (r : List α) (n : Nat) : (x :: r)[n + 1]? = r[n]? := rfl
theorem w_wipe0 (sl : Sl) : wipeD sl [] = sl := rfl
theorem w_wipe1 (sl : Sl) (v : Nat) (vs : List Nat) : wipeD sl (v :: vs) = (wipeD sl vs).set v none := rfl
theorem w_chk {α : Type} {p : Prop} {r : R α} (h : p) : R.chk p r = r := R.chk_of h
theorem w_chkS {p : Prop} {r : RS} (h : p) : RS.chk p r = r := RS.chk_of h
theorem w_if {α : Type} {p : Prop} [Decidable p] {a b : α} (h : p) : (if p then a else b) = a := if_pos h
theorem w_unT (ds : List D) : unT (ds.map T.d) = some ds := unT_map ds
theorem w_dec {p : Prop} [Decidable p] (h : p) : decide p = true := decide_eq_true h
theorem w_decF {p : Prop} [Decidable p] (h : ¬p) : decide p = false := decide_eq_false h
theorem w_ifF {α : Type} {p : Prop} [Decidable p] {a b : α} (h : ¬p) : (if p then a else b) = b := if_neg h
theorem w_tand (p : Prop) : (True ∧ p) = p := by simp
theorem w_andt (p : Prop) : (p ∧ True) = p := by simp
theorem w_lt1 (n : Nat) : (0 < n + 1) = True := by simp
/-! ### objects that are made -/
theorem putD_nil (f : Str) (d : T) : putD f d [] = [(f, d)] := rfl
theorem putD_cons (f g : Str) (d x : T) (r : List (Str × T)) : putD f d ((g, x) :: r) = if g = f then (g, d) :: r else (g, x) :: putD f d r := rfl
theorem retR_new0 (ce : Ce) (c : Cell) (l : Ce) : retR ce (.cel ce.length) (ce ++ c :: l) = R.opt (frzC' (frzD (ce ++ c :: l) ce.length 7) c) fun d => .ok (.d d) ce := by
  rw [retR, retL_self, R.opt_some, DL.retT_new0]
  simp only [List.getElem?_cons_zero]
  cases frzC' (frzD (ce ++ c :: l) ce.length 7) c <;> rfl
theorem retR_newN (ce l : Ce) (i : Nat) : retR ce (.cel (ce.length + i)) (ce ++ l) = R.opt ((l[i]?).bind (frzC' (frzD (ce ++ l) ce.length 7))) fun d => .ok (.d d) ce := by
  rw [retR, retL_self, R.opt_some, DL.retT_new]
  cases l[i]? with
  | none => rfl
  | some c =>
    simp only [Option.bind_some]
    cases frzC' (frzD (ce ++ l) ce.length 7) c <;> rfl
theorem frzD_nN (ce l : Ce) (i f : Nat) : frzD (ce ++ l) ce.length (f + 1) (.cel (ce.length + i)) = (l[i]?).bind (frzC' (frzD (ce ++ l) ce.length f)) := by
  rw [DL.frzD_new]
  cases l[i]? <;> rfl
theorem frzC_ins (g : T → Option D) (C : Addr) (fs : List (Str × T)) : frzC' g (.ins C fs) = (frzK g fs).map (D.ins C) := rfl
theorem frzC_lst (g : T → Option D) (fs : List T) : frzC' g (.lst fs) = (frzL g fs).map D.lst := rfl
theorem frzC_dic (g : T → Option D) (fs : List (Key × T)) : frzC' g (.dic fs) = (frzK g fs).map D.dic := rfl
theorem frzK_nil {κ : Type} (g : T → Option D) : frzK g ([] : List (κ × T)) = some [] := rfl
theorem frzK_cons {κ : Type} (g : T → Option D) (k : κ) (t : T) (r : List (κ × T)) : frzK g ((k, t) :: r) = (g t).bind fun d => (frzK g r).map ((k, d) :: ·) := by
  simp only [frzK]
  cases g t <;> rfl
theorem frzL_nil (g : T → Option D) : frzL g [] = some [] := rfl
theorem frzL_cons (g : T → Option D) (t : T) (r : List T) : frzL g (t :: r) = (g t).bind fun d => (frzL g r).map (d :: ·) := by
  simp only [frzL]
  cases g t <;> rfl
/-! ### comprehensions that do not touch the cells -/
theorem compM_map {α : Type} {f : T → Ce → R (Option D)} (G : α → T) (h : α → Option D) (ce : Ce) : ∀ l : List α, (∀ a ∈ l, f (G a) ce = .ok (h a) ce) → compM f (l.map G) ce = .ok (l.filterMap h) ce
  | [], _ => rfl
  | a :: r, hi => by
    rw [List.map_cons, compM_cons, hi a List.mem_cons_self, R.bind_ok, compM_map G h ce r (fun x hx => hi x (List.mem_cons_of_mem _ hx)), R.bind_ok]
    cases e : h a <;> simp [e]
theorem compM_all {α : Type} {f : T → Ce → R (Option D)} (G : α → T) (h : α → D) (ce : Ce) (l : List α) (hi : ∀ a ∈ l, f (G a) ce = .ok (some (h a)) ce) : compM f (l.map G) ce = .ok (l.map h) ce := by
  rw [compM_map G (fun a => some (h a)) ce l hi]
  simp
theorem compM_filter {α : Type} {f : T → Ce → R (Option D)} (G : α → T) (p : α → Bool) (h : α → D) (ce : Ce) (l : List α) (hi : ∀ a ∈ l, f (G a) ce = .ok (if p a then some (h a) else none) ce) : compM f (l.map G) ce = .ok ((l.filter p).map h) ce := by
  rw [compM_map G (fun a => if p a then some (h a) else none) ce l hi]
  congr 1
  induction l with
  | nil => rfl
  | cons a r ih =>
    have ih' := ih (fun x hx => hi x (List.mem_cons_of_mem _ hx))
    by_cases q : p a
    · simp [q, ih']
    · simp [q, ih']
end DL

namespace DL
open PySem L2
/-! ### [*a, *b]: tuples, lists, dicts -/
section
variable {X : Cx} {pins : List (Addr × Obj)} {σ : L2.St} {H : Hp} {s : Shared}
end
section
variable {X : Cx} {e : Expr} {es : List Expr} {p pos : Pos}
end
end DL

namespace DL
open PySem L2
/-! ### a, b, .. = e1, e2, .. by a tuple: cells may be among them -/
section
variable {X : Cx} {es tgs : List Expr} {pos pt pt2 : Pos} {js : List Nat}
end
end DL

namespace DL
open PySem L2
/-- as many names -/
def nn (n : Nat) : List Str := List.replicate n ""
/-! ### dicts with tuples as keys -/
section
variable {β : Type}
end
section
variable {K : PySem.W.Frag} {m : List Addr} {G H : Hp} {ce : Ce}
end
section
variable {X : Cx} {e a b c : Expr} {ma mb mc : M} {pos p : Pos}
end
end DL

namespace DL
open PySem L2
/-! ### d | e -/
section
variable {prog : Program} {w : World} {κ : Type} [DecidableEq κ] {knd : PySem.KeyKind prog w κ} {A : Around} {E : Value → Shared → Prop} {s : Shared}
/-- the copy -/
theorem copy_of {id : String} {a : Addr} {kvs : List (κ × Value)} {Q : Value → Shared → Prop} (ha : (a == sysModules) = false) (m : s.heap.DictOf knd a kvs) (hl : kvs.length ≤ sizeLine)
    (h : ∀ o : Obj, (s.heap.push o).DictOf knd s.heap.objs.size kvs → Q (.ref s.heap.objs.size) { s with heap := s.heap.push o }) : wpAny (model prog w) A (Builtin.Dict.copyOf id (.ref a)) Q E s := by
  have hT := m.typeIs
  obtain ⟨o, es, ep, ho, hc, hdat, hk, hp, hn⟩ := m
  have hes : es.size ≤ sizeLine + 1 := by
    have e1 := hp.length
    have e2 : es.toList.length = es.size := by simp
    omega
  have fin : ∀ es' : Array DictEntry, es' = es → Q (.ref s.heap.objs.size) { s with heap := s.heap.push { cls := .type "dict", data := .dict es' } } := by
    rintro es' rfl
    exact h _ ⟨_, es', 0, Heap.get?_push_size _ rfl, ⟨rfl, rfl, rfl⟩, rfl, hk, hp, hn⟩
  unfold Builtin.Dict.copyOf
  refine wpAny_bind (wpAny_pure ?_)
  unfold Builtin.Dict.showsAll
  rw [if_neg (show ¬ (a == sysModules) = true by rw [ha]; exact Bool.false_ne_true)]
  refine wpAny_bind (wpAny_pure (wpAny_bind (wpAny_dictEntries ho hdat ?_)))
  by_cases q : es.isEmpty = true
  · rw [if_pos q]
    exact wpAny_bind (wpAny_rule (wpAny_newObj_type (fin #[] (Array.isEmpty_iff.mp q).symm)))
  · rw [if_neg q]
    refine wpAny_bind ?_
    unfold Builtin.Dict.readDirectly
    refine wpAny_bind (wpAny_isInstance hT isSubtype_dict_dict ?_)
    simp only [Bool.not_true, Bool.false_eq_true, if_false]
    refine wpAny_bind (wpAny_specialOf hT F.slot_dict_iter.lookup (wpAny_pure ?_))
    simp only [beq_self_eq_true, if_true]
    exact wpAny_bind (wpAny_entriesForEmpty (knd := knd) ho hdat hk (wpAny_newObj_type (fin es rfl) hes))
theorem call_or {a b : Addr} {kvs more : List (κ × Value)} {Q : Value → Shared → Prop} (ha : (a == sysModules) = false) (hb : (b == sysModules) = false) (m : s.heap.DictOf knd a kvs) (m' : s.heap.DictOf knd b more) (hl : kvs.length + more.length ≤ sizeLine)
    (h : ∀ h', h'.DictOf knd s.heap.objs.size (merged kvs more) → (∀ c o, s.heap.get? c = some o → h'.get? c = some o) → Q (.ref s.heap.objs.size) { s with heap := h' }) :
    wpAny (model prog w) A (call (.builtin "dict.__or__") [.ref a, .ref b]) Q E s := by
  refine wpAny_call_entry F.slot_dict_or m.typeIs F.entry_dict_or ?_ (F.args_dict_or_2 _ _)
  unfold Builtin.«dict.__or__»
  refine wpAny_bind ?_
  unfold Builtin.Dict.dictSlotArgs
  refine wpAny_bind (wpAny_notOrdered_dict m.typeIs ?_)
  refine wpAny_bind (wpAny_pure (wpAny_pure ?_))
  show wpAny _ _ (andM (isInstance (Value.ref a) (.type "dict")) (isInstance (Value.ref b) (.type "dict")) >>= _) _ _ s
  refine wpAny_bind ?_
  unfold andM
  refine wpAny_bind (wpAny_isInstance m.typeIs isSubtype_dict_dict ?_)
  simp only [toBool]
  refine wpAny_isInstance m'.typeIs isSubtype_dict_dict ?_
  simp only [Bool.not_true, Bool.false_eq_true, if_false]
  have hl' : kvs.length ≤ sizeLine := by omega
  refine wpAny_bind (copy_of ha m hl' fun o mn => ?_)
  have lb : b < s.heap.objs.size := by obtain ⟨o', _, _, ho', _⟩ := m'; exact Heap.lt_size ho'
  have hne : s.heap.objs.size ≠ b := fun z => by rw [z] at lb; exact Nat.lt_irrefl _ lb
  have mb : (s.heap.push o).DictOf knd b more := m'.push _
  refine wpAny_bind (wpAny_pure ?_)
  refine wpAny_holding ?_
  unfold Builtin.Dict.updateFrom
  refine wpAny_bind (wpAny_typeOf (s := { s with heap := s.heap.push o }) mb.typeIs ?_)
  rw [if_neg (by decide)]
  refine wpAny_bind ?_
  unfold Builtin.Dict.merge
  refine wpAny_bind ?_
  unfold Builtin.Dict.readDirectly
  refine wpAny_bind (wpAny_isInstance (s := { s with heap := s.heap.push o }) mb.typeIs isSubtype_dict_dict ?_)
  simp only [Bool.not_true, Bool.false_eq_true, if_false]
  refine wpAny_bind (wpAny_specialOf (s := { s with heap := s.heap.push o }) mb.typeIs F.slot_dict_iter.lookup (wpAny_pure ?_))
  simp only [beq_self_eq_true, if_true]
  refine wpAny_bind (wpAny_pure ?_)
  refine wpAny_mergeDict (hsz := hl) hne hb mn mb fun h' hd' ho' hs' => ?_
  refine wpAny_bind (wpAny_pure (wpAny_pure ⟨_, rfl, h h' hd' fun c oc e => ?_⟩))
  exact (hs'.2 c (fun z => by have := Heap.lt_size e; rw [z] at this; exact Nat.lt_irrefl _ this)).trans (Heap.get?_push_of_some _ e)
end
section
variable {X : Cx} {a b : Expr} {ma mb : M} {pos : Pos}
def rUnion : R2 := fun x y H Q => ∃ a b kvs more, x = V.ref a ∧ y = V.ref b ∧ Rd H a (.dK kvs) ∧ Rd H b (.dK more) ∧ kvs.length + more.length ≤ sizeLine ∧ ∀ p, H p = none → Q (.ref p) (upd H p (.dK (mergeK kvs more)))
theorem op_union : OpR X (binaryOp .BitOr) rUnion := by
  intro pins s σ H x y v u Q I rx ry h
  obtain ⟨a, b, kvs, more, rfl, rfl, ha, hb, hl, q⟩ := h
  obtain rfl : v = Value.ref a := rx
  obtain rfl : u = Value.ref b := ry
  obtain ⟨z1, y1, vs1, r1, d1⟩ := dk_rd I.hok ha
  obtain ⟨z2, y2, vs2, r2, d2⟩ := dk_rd I.hok hb
  refine wpAny_binaryOp_same d1.typeIs d2.typeIs F.fills_dict_or F.slot_dict_or (call_or y1 y2 d1 d2 (by rw [← r1.length, ← r2.length]; exact hl) fun h' dd hk => ⟨(fun e => nomatch e), ?_⟩)
  have hz : (mergeK kvs more).length ≤ sizeLine := Nat.le_trans (length_mergeK more kvs) hl
  exact ⟨.ref s.heap.objs.size, upd H s.heap.objs.size (.dK (mergeK kvs more)), I.laid (t' := s.toks) hk (Nat.le_refl _) (dk_new hz (beq_eq_false_iff_ne.mpr (Ne.symm (Nat.ne_of_lt I.big))) (r2.merge r1) dd), rfl, q _ (I.hok.fresh (Nat.le_refl _))⟩
noncomputable def oUnionM : B2 := fun x y ce => R.opt (dicOf ce x) fun kvs => R.opt (dicOf ce y) fun more => R.opt (unK (mergeA kvs more)) fun ds => R.chk (kvs.length + more.length ≤ 16777216) (.ok (.d (.dic ds)) ce)
theorem oUnionM_ap (x y : T) (ce : Ce) : oUnionM x y ce = R.opt (dicOf ce x) fun kvs => R.opt (dicOf ce y) fun more => R.opt (unK (mergeA kvs more)) fun ds => R.chk (kvs.length + more.length ≤ 16777216) (.ok (.d (.dic ds)) ce) := rfl
theorem om_union {hu : X.A.units + 64 < cLine} : OpM X (binaryOp .BitOr) oUnionM := by
  refine ⟨⟨_, op_union, fun H ce G m Qd Qv x y v u Rl rx ry h k => ?_⟩⟩
  obtain ⟨kvs, e1, h⟩ := R.wp_opt h
  obtain ⟨more, e2, h⟩ := R.wp_opt h
  obtain ⟨ds, e3, h⟩ := R.wp_opt h
  obtain ⟨hl, h⟩ := R.wp_chk h
  obtain ⟨ad, ws, rfl, hd, rk⟩ := dicOf_ok Rl rx e1
  obtain ⟨bd, ns, rfl, hb, rn⟩ := dicOf_ok Rl ry e2
  refine ⟨ad, bd, ws, ns, rfl, rfl, hd, hb, by rw [rk.length, rn.length, sizeLine_eq]; exact hl, fun p hp => ?_⟩
  obtain ⟨R2, s2⟩ := Rl.laid (.dK (mergeK ws ns)) hp
  exact k (.d (.dic ds)) ce _ m _ _ R2 s2 ⟨p, _, rfl, upd_same, RepK.mono s2.gg _ _ (unK_ok (tk_merge rn rk) e3)⟩ h
/-! ### {k: v, ..} -/
structure PM (X : Cx) (pos : Pos) (ks : List (Option Expr)) (vs : List Expr) (mp : MG (List (Key × T))) : Prop where
  ex : ∃ tf : WX → List (TE × TE), (∀ W, Takes X W → PPs X pos ks vs (tf W)) ∧ ∀ (W : WX) (σ : L2.St) (H : Hp) (sl : Sl) (ce : Ce) (G : Hp) (m : List Addr) (Qd : List (Key × T) → Ce → Prop) (Ed : Ex1) (Qv : List (V × V) → Hp → Prop), Rel X.K X.w σ H sl ce G m → Wish X.K X.w W H m G Ed → wV mp sl ce Qd Ed →
    (∀ kts ce' G' m' kvs H', Rel X.K X.w σ H' sl ce' G' m' → Stp H m G H' m' G' → RepTK X.K m' G' kts kvs → Qd kts ce' → Qv (kvs.map fun kv => (kV kv.1, kv.2)) H') → tPairs (tf W) σ H Qv
def mPNil : MG (List (Key × T)) := fun _ ce => .ok [] ce
def mPCons (mk mv : M) (mr : MG (List (Key × T))) : MG (List (Key × T)) := fun sl ce => (mk sl ce).bind fun x ce1 => (mv sl ce1).bind fun y ce2 => R.opt (keyT x) fun k => (mr sl ce2).bind fun kts ce3 => .ok ((k, y) :: kts) ce3
theorem mPNil_ap (sl : Sl) (ce : Ce) : mPNil sl ce = .ok [] ce := rfl
theorem mPCons_ap (mk mv : M) (mr : MG (List (Key × T))) (sl : Sl) (ce : Ce) : mPCons mk mv mr sl ce = (mk sl ce).bind fun x ce1 => (mv sl ce1).bind fun y ce2 => R.opt (keyT x) fun k => (mr sl ce2).bind fun kts ce3 => .ok ((k, y) :: kts) ce3 := rfl
theorem pm_nil : PM X pos [] [] mPNil := ⟨fun _ => [], fun _ _ => pps_nil, fun W σ H sl ce G m Qd Ed Qv Rl w h k => k [] ce G m [] H Rl .refl rfl h⟩
theorem pm_cons {ks : List (Option Expr)} {vs : List Expr} {mr : MG (List (Key × T))} (hk : EM X a ma) (hv : EM X b mb) (hr : PM X pos ks vs mr) : PM X pos (some a :: ks) (b :: vs) (mPCons ma mb mr) := by
  obtain ⟨ta, pa, sa⟩ := hk.de.ex
  obtain ⟨tb, pb, sb⟩ := hv.de.ex
  obtain ⟨tr, pr, sr⟩ := hr.ex
  refine ⟨fun W => (ta W, tb W) :: tr W, fun W tk => pps_cons (pa W tk) (pb W tk) (pr W tk), fun W σ H sl ce G m Qd Ed Qv Rl w h k => ?_⟩
  unfold wV mPCons at h
  rw [R.wp_bind] at h
  refine sa W σ H sl ce G m _ Ed _ Rl w h fun x ce1 G1 m1 v H1 R1 s1 r1 h1 => ?_
  rw [R.wp_bind] at h1
  refine sb W σ H1 sl ce1 G1 m1 _ Ed _ R1 (w.step s1) h1 fun y ce2 G2 m2 u H2 R2 s2 r2 h2 => ?_
  obtain ⟨kk, e, h3⟩ := R.wp_opt h2
  rw [R.wp_bind] at h3
  refine sr W σ H2 sl ce2 G2 m2 _ Ed _ R2 (w.step (s1.trans s2)) h3 fun kts ce3 G3 m3 kvs H3 R3 s3 r3 h4 => ?_
  have ek : v = kV kk := keyT_ok r1 e
  have hq := k ((kk, y) :: kts) ce3 G3 m3 ((kk, u) :: kvs) H3 R3 ((s1.trans s2).trans s3) ⟨u, kvs, rfl, r2.mono s3.pre s3.gg, r3⟩ h4
  rw [ek]
  exact hq
noncomputable def mDictC (mp : MG (List (Key × T))) : M := fun sl ce => (mp sl (ce ++ [.dic []])).bind fun kts ce2 => R.chk (ce2[ce.length]? = some (.dic []) ∧ kts.length ≤ 15) (.ok (.cel ce.length) (ce2.set ce.length (.dic (mergeA [] kts))))
theorem mDictC_ap (mp : MG (List (Key × T))) (sl : Sl) (ce : Ce) : mDictC mp sl ce = (mp sl (ce ++ [.dic []])).bind fun kts ce2 => R.chk (ce2[ce.length]? = some (.dic []) ∧ kts.length ≤ 15) (.ok (.cel ce.length) (ce2.set ce.length (.dic (mergeA [] kts)))) := rfl
theorem em_dictC {ks : List (Option Expr)} {vs : List Expr} {mp : MG (List (Key × T))} (hp : PM X pos ks vs mp) (hall : ks.all (·.isSome) = true := by rfl) (hl : ks.length = vs.length := by rfl) (h0 : ks ≠ [] := by exact fun z => nomatch z) (h15 : ks.length ≤ 15 := by decide) : EM X (.Dict ks vs pos) (mDictC mp) := by
  obtain ⟨tf, pf, sf⟩ := hp.ex
  refine ⟨⟨fun W => tDisp (tf W), fun W tk => pe_disp (pf W tk) hall hl h0 h15, fun W σ H sl ce G m Qd Ed Qv Rl w h k => ?_⟩⟩
  intro p hpn
  obtain ⟨R1, s1⟩ := Rl.toRelS.cell (o := .dK []) (c := .dic []) hpn ⟨[], upd_same, rfl⟩
  have R1' := Rl.step s1 R1
  unfold wV mDictC at h
  rw [R.wp_bind] at h
  have h' : wV mp sl (ce ++ [.dic []]) (fun kts ce2 => (R.chk (ce2[ce.length]? = some (Cell.dic []) ∧ kts.length ≤ 15) (R.ok (T.cel ce.length) (ce2.set ce.length (.dic (mergeA [] kts))))).wp Qd fun x ce' => Ed x sl ce') Ed := h
  refine sf W σ _ sl (ce ++ [.dic []]) _ _ _ Ed _ R1' (w.step s1) h' fun kts ce2 G2 m2 kvs H2 R2 s2 r2 h2 => ?_
  obtain ⟨⟨hc, h15'⟩, h3⟩ := R.wp_chk h2
  have hm1 : (m ++ [p])[ce.length]? = some p := by rw [← Rl.len]; exact snoc_last
  have hm : m2[ce.length]? = some p := pre_get s2.pre hm1
  obtain ⟨ws, hH, rw0⟩ := R2.cel ce.length p _ hm hc
  have e0 : ws = [] := rw0
  subst e0
  refine ⟨hH, kvs, rfl, by rw [r2.length]; exact h15', ?_⟩
  obtain ⟨R3, s3⟩ := R2.toRelS.write (o := .dK (mergeK [] kvs)) (c := .dic (mergeA [] kts)) hm (by rw [hc]; exact fun z => nomatch z) ⟨_, upd_same, tk_merge r2 (show RepTK X.K m2 G2 ([] : List (Key × T)) [] from rfl)⟩
  exact k (.cel ce.length) _ _ m2 _ _ (R2.step s3 R3) ((s1.trans s2).trans s3) ⟨p, hm, rfl⟩ h3
end
end DL

namespace DL
open PySem L2
/-! ### d == e, the values data -/
/-- what the values are -/
def okV (kvs : List (Key × D)) : Bool := kvs.all fun p => okD 16 p.2
def eqK (ds es : List (Key × D)) : Bool := ds.length == es.length && ds.all fun p => match valA es p.1 with
  | some u => eqD p.2 u
  | none => false
section
variable {X : Cx} {pins : List (Addr × Obj)} {σ : L2.St} {H G : Hp} {s : Shared}
theorem eqP_data (I : Inv X pins σ H s) (g : Gs G H) {A : Around} (hu : A.units + 60 < cLine) {x y : D} {v u : V} {a b : Value} (hx : okD 16 x = true) (hy : okD 16 y = true) (rx : Rep X.K G x v) (ry : Rep X.K G y u) (ra : RelV v a) (rb : RelV u b) : SeqAt.EqP X.prog X.w A s a b (eqD x y) := by
  obtain ⟨p, e1, c1, d1⟩ := okD_ok 16 x hx
  obtain ⟨q, e2, c2, d2⟩ := okD_ok 16 y hy
  have e : eqD x y = PyData.eqv p q := by unfold eqD; rw [e1, e2]
  obtain ⟨as, r1⟩ := Dp.reads I p v a (pyD_ok g _ _ _ rx e1) ra
  obtain ⟨bs, r2⟩ := Dp.reads I q u b (pyD_ok g _ _ _ ry e2) rb
  rw [e]
  refine (SeqAt.eqAt_reads p q A s a b as bs r1 r2 c1 c2 ?_).eqP
  have h2 : min p.depth q.depth ≤ p.depth := Nat.min_le_left _ _
  omega
theorem repK_val {K : PySem.W.Frag} {k : Key} : ∀ {ds : List (Key × D)} {ws : List (Key × V)}, RepK K G ds ws → (∀ u, valA ds k = some u → ∃ v, valV ws k = some v ∧ Rep K G u v) ∧ (valA ds k = none → valV ws k = none)
  | [], ws, r => by
    have e : ws = [] := r
    subst e
    exact ⟨fun t h => (by cases h), fun _ => rfl⟩
  | (k', d) :: ds, ws, r => by
    obtain ⟨v, r', e, rv, rr⟩ := r
    subst e
    by_cases q : k' = k
    · have e1 : valA ((k', d) :: ds) k = some d := by simp [valA, List.find?_cons, q]
      refine ⟨fun t h => ⟨v, valV_pos q, ?_⟩, fun h => ?_⟩
      · rw [e1] at h; cases h; exact rv
      · rw [e1] at h; cases h
    · have e1 : valA ((k', d) :: ds) k = valA ds k := by simp [valA, List.find?_cons, q]
      rw [e1, valV_neg (p := (k', v)) q]
      exact repK_val rr
theorem valA_ok {es : List (Key × D)} (h : okV es = true) {k : Key} {u : D} (e : valA es k = some u) : okD 16 u = true := by
  unfold valA at e
  cases q : es.find? fun kv => decide (kv.1 = k) with
  | none => rw [q] at e; cases e
  | some p =>
    rw [q] at e
    cases e
    exact List.all_eq_true.mp h p (List.mem_of_find?_eq_some q)
theorem hits_data (I : Inv X pins σ H s) (g : Gs G H) {A : Around} (hu : A.units + 60 < cLine) {es : List (Key × D)} {ws : List (Key × V)} {vb : List (Key × Value)} (ho : okV es = true) (re : RepK X.K G es ws) (rb : KV ws vb) :
    ∀ {ds : List (Key × D)} {us : List (Key × V)} {va : List (Key × Value)}, okV ds = true → RepK X.K G ds us → KV us va → PySem.W.KeqHitsP X.prog X.w A s vb va (ds.all fun p => match valA es p.1 with
      | some u => eqD p.2 u
      | none => false)
  | [], us, va, _, r, k => by
    have e : us = [] := r
    subst e
    cases k
    exact .nil
  | (key, d) :: ds, us, va, hd, r, k => by
    obtain ⟨v, us', e, rv, rr⟩ := r
    subst e
    cases k with
    | @cons p q ps qs hp ht =>
      obtain ⟨k1, r1⟩ := hp
      obtain ⟨qk, qv⟩ := q
      have k1' : key = qk := k1
      subst k1'
      have hd' : okD 16 d = true ∧ okV ds = true := by
        unfold okV at hd ⊢
        rw [List.all_cons, Bool.and_eq_true] at hd
        exact hd
      have ih := hits_data I g hu ho re rb hd'.2 rr ht
      rw [List.all_cons]
      dsimp only
      cases e : valA es key with
      | none =>
        have h1 := (repK_val (k := key) re).2 e
        have h2 : valueAt vb key = none := RelO.none_of (by rw [← h1]; exact rb.val key)
        rw [Bool.false_and]
        exact .miss h2
      | some u =>
        obtain ⟨w', h1, h2⟩ := (repK_val (k := key) re).1 u e
        obtain ⟨y, hy, ry⟩ := RelO.some_of (v := w') (o := valueAt vb key) (by rw [← h1]; exact rb.val key)
        exact .hit hy (eqP_data I g hu hd'.1 (valA_ok ho e) rv h2 r1 ry) ih
/-- d == e -/
def rDeq (K : PySem.W.Frag) : R2 := fun x y H Q => ∃ (G : Hp) (a b : Addr) (ds es : List (Key × D)) (us ws : List (Key × V)), Gs G H ∧ x = V.ref a ∧ y = V.ref b ∧ Rd H a (.dK us) ∧ Rd H b (.dK ws) ∧ RepK K G ds us ∧ RepK K G es ws ∧ okV ds = true ∧ okV es = true ∧ Q (.bl (eqK ds es)) H
theorem op_deq (hu : X.A.units + 64 < cLine) : OpR X (compareOp .Eq) (rDeq X.K) := by
  intro pins s σ H x y v u Q I rx ry h
  obtain ⟨G, a, b, ds, es, us, ws, g, rfl, rfl, ha, hb, rd, re, od, oe, q⟩ := h
  obtain rfl : v = Value.ref a := rx
  obtain rfl : u = Value.ref b := ry
  obtain ⟨_, ya, va, ra, da⟩ := dk_rd I.hok ha
  obtain ⟨_, yb, vb, rb, db⟩ := dk_rd I.hok hb
  have hl : va.length = ds.length := by rw [← ra.length]; exact rd.length'
  have hl' : vb.length = es.length := by rw [← rb.length]; exact re.length'
  refine PySem.W.rcP_dicts (knd := mixKind X.prog X.w) (r := ds.all fun p => match valA es p.1 with
      | some u => eqD p.2 u
      | none => false) ya yb da db (by omega) (fun _ => hits_data I g (by show X.A.units + 1 + 60 < cLine; omega) oe re rb od rd ra) _ _ ?_
  refine ⟨.bl (eqK ds es), H, I, ?_, q⟩
  unfold eqK
  rw [hl, hl']
  rfl
noncomputable def oDeqM (neg : Bool) : B2 := fun x y ce => R.opt (dicOf ce x) fun kvs => R.opt (dicOf ce y) fun more => R.opt (unK kvs) fun ds => R.opt (unK more) fun es => R.chk (okV ds = true ∧ okV es = true) (.ok (.d (.bl (neg != eqK ds es))) ce)
theorem oDeqM_ap (neg : Bool) (x y : T) (ce : Ce) : oDeqM neg x y ce = R.opt (dicOf ce x) fun kvs => R.opt (dicOf ce y) fun more => R.opt (unK kvs) fun ds => R.opt (unK more) fun es => R.chk (okV ds = true ∧ okV es = true) (.ok (.d (.bl (neg != eqK ds es))) ce) := rfl
theorem om_deq_Eq (hu : X.A.units + 64 < cLine) : OpM X (compareOp .Eq) (oDeqM false) := by
  refine ⟨⟨_, op_deq hu, fun H ce G m Qd Qv x y v u Rl rx ry h k => ?_⟩⟩
  obtain ⟨kvs, e1, h⟩ := R.wp_opt h
  obtain ⟨more, e2, h⟩ := R.wp_opt h
  obtain ⟨ds, e3, h⟩ := R.wp_opt h
  obtain ⟨es, e4, h⟩ := R.wp_opt h
  obtain ⟨⟨o1, o2⟩, h⟩ := R.wp_chk h
  obtain ⟨ad, us, rfl, hd, rk⟩ := dicOf_ok Rl rx e1
  obtain ⟨bd, ws, rfl, hb, rn⟩ := dicOf_ok Rl ry e2
  exact ⟨G, ad, bd, ds, es, us, ws, Rl.gh, rfl, rfl, hd, hb, unK_ok rk e3, unK_ok rn e4, o1, o2, k (.d (.bl (eqK ds es))) ce G m _ H Rl .refl rfl (by
    have h5 : Qd _ _ := h
    simpa using h5)⟩
end
/-! ### x *= e -/
section
variable {X : Cx} {e : Expr} {ma : M} {pos : Pos}
noncomputable def sAugMul (i : Nat) (a : M) : MS := fun sl ce => RS.opt (sg sl i) fun x => (a sl ce).st sl fun y ce1 => RS.onI x fun p => RS.onI y fun q => RS.chk (CMul p q) (.nx (sl.set i (some (.d (.int (p * q))))) ce1)
theorem sAugMul_ap (i : Nat) (a : M) (sl : Sl) (ce : Ce) : sAugMul i a sl ce = RS.opt (sg sl i) fun x => (a sl ce).st sl fun y ce1 => RS.onI x fun p => RS.onI y fun q => RS.chk (CMul p q) (.nx (sl.set i (some (.d (.int (p * q))))) ce1) := rfl
theorem ip_mul : PIp X .Mult (rI CMul fun i j => .int (i * j)) := iop_mul
theorem sm_augMul (i : Nat) {x : Str} {pos' : Pos} (hN : X.N.Nodup) (he : EM X e ma) (hi : X.N[i]? = some x := by rfl) (hx : Loc X.env.scope x := by first | exact Or.inl rfl | exact Or.inr rfl) (hf : X.fn x = true ∨ X.env.scope.names.lookup x = some .local := by first | exact .inl rfl | exact .inr rfl | assumption) :
    SM X (.AugAssign (.Name x pos') .Mult e pos) (sAugMul i ma) := by
  obtain ⟨t, p, s⟩ := he.de.ex
  refine ⟨⟨_, fun W tk => ps_aug hN hi hx (p W tk) ip_mul hf, fun W σ H sl ce G m N D Rl w h cv => ?_⟩⟩
  obtain ⟨x0, e0, h1⟩ := RS.wp_opt h
  rw [R.wp_st] at h1
  obtain ⟨v0, hv0, r0⟩ := Rl.sls i x0 (sg_get e0)
  refine ⟨v0, hv0, s W σ H sl ce G m _ N.ex _ Rl w h1 fun y ce1 G1 m1 v H1 R1 s1 r1 h2 => ?_⟩
  obtain ⟨p0, rfl, h3⟩ := RS.wp_onI h2
  obtain ⟨q0, rfl, h4⟩ := RS.wp_onI h3
  obtain ⟨hc, h5⟩ := RS.wp_chk h4
  cases r0
  cases r1
  exact ⟨p0, q0, rfl, rfl, hc, cv.nx _ H1 _ ce1 G1 m1 (R1.set i (t := .d (.int (p0 * q0))) (v := .int (p0 * q0)) rfl) s1 h5⟩
end
end DL

namespace DL
open PySem L2
/-! ### sorted of a tuple of texts -/
section
open PyProof.Rows
variable {X : Cx}
end
end DL

namespace DL
open PySem L2
/-! ### list(d.items()), d a cell -/
section
variable {K : PySem.W.Frag} {H H' G : Hp} {ce : Ce} {m : List Addr}
theorem Gall.at {l : List Addr} {a : Addr} {u : HO} (hg : G a = none) (ha : a ∈ l) (hu : H' a = some u) : Gall G H' l a = some u := by
  unfold Gall
  rw [hg]
  dsimp only
  rw [if_pos ha]; exact hu
end
section
variable {X : Cx} {e : Expr} {ma : M} {p apos cpos pos : Pos}
end
end DL

namespace DL
open PySem L2
/-! ### sorted of a list of data -/
section
variable {X : Cx}
end
end DL

namespace DL
open PySem L2
/-! ### x in l, both data -/
section
variable {X : Cx}
end
end DL

namespace DL
open PySem L2
/-! ### sep.join(list of texts) -/
section
variable {X : Cx} {o e : Expr} {ma mb : M} {apos pos : Pos}
end
end DL

namespace DL
open PySem L2
/-! ### [e for x in a if t for y in b if t'] -/
section
variable {X : Cx} {tg iter tg1 iter1 elt : Expr} {ifs ifs1 : List Expr} {ui ui1 : UI} {js js1 : List Nat} {mi mi1 : MA} {mt mt1 : MT} {mb : M} {pos : Pos}
end
end DL

namespace DL
open PySem L2
/-! ### xs[::-1] -/
section
variable {X : Cx} {e : Expr} {ma : M} {k : Nat} {p1 p2 p3 pos : Pos}
end
end DL
namespace DL
open PySem L2
/-! ### enumerate(list), range(i, j) -/
section
variable {X : Cx} {tg e a b : Expr} {u : UA} {mu : MA} {p pos : Pos}
end
end DL
namespace DL
open PySem L2
/-! ### > of texts -/
end DL

namespace DL
open PySem L2 PySem.Spec PyProof.Rows
/-! ### list(d.items()), d a dict that never changes -/
section
variable {X : Cx} {e : Expr} {te : TE} {ma : M} {p apos cpos pos : Pos}
end
end DL

namespace DL
open PySem L2 PySem.W PyProof.Rows
/-! ### data of one PyData are one -/
/-! ### max(a, b) of data -/
section
variable {prog : Program} {w : World} {A : Around} {E : Value → Shared → Prop} {s : Shared}
end
section
variable {X : Cx}
end
end DL

namespace DL
open PySem L2 PySem.W PyProof.Rows
/-! ### a list or dict of a name that is complete: data ahead of a statement -/
section
variable {X : Cx} {st : Stmt} {ms : MS}
end
/-! ### bits of numbers -/
/-! ### xs.extend(ys), both cells -/
section
variable {X : Cx} {a e0 : Expr} {ma : M} {mu : MA} {apos cpos : Pos}
end
/-! ### sorted of a data list that may have one item of any kind -/
end DL

namespace DL
open PySem L2
section
variable {X : Cx}
/-! ### min(a, b) of numbers -/
/-! ### d == {} -/
end
end DL

namespace DL
open PySem L2
/-! ### a list that an object's field names becomes data ahead of a statement -/
section
variable {K : PySem.W.Frag} {H : Hp} {ce : Ce} {G : Hp} {m : List Addr}
end
section
variable {X : Cx} {st : Stmt} {ms : MS}
end
end DL

namespace DL
open PySem L2 He PySem.Spec PyProof.Rows
/-! ### dict(zip(a, b)) of lists -/
section
variable {X : Cx}
/-! ### xs.index(y) -/
end
/-! ### a def called with fewer arguments than it has parameters -/
section
variable {P : Program} {w : World} {K : PySem.W.Frag} {mg : Str → Option Value} {base : Heap}
end
end DL

/-! A lambda is made: the exact state behind it. -/
namespace DL
open PySem PySem.Spec PyProof.Rows L2 LamX
section
variable {X : Cx} {pins : List (Addr × Obj)} {σ : L2.St} {H : Hp} {s : Shared}
/-- what the making of a lambda leaves: nothing new, or a new code object in the table -/
def Made (H : Hp) (P c' : Addr) (q : Str) (ps : Array Value) (H1 : Hp) : Prop :=
  H1 = H ∨ ∃ ps' : Array Value, H c' = none ∧ H1 = upd (upd H P (.tbl ps')) c' (CodeO c' q) ∧ TriplesOk ps'.toList ∧ ∀ (pos : Pos) (cv : Value), codeAmong pos ps'.toList = some cv → codeAmong pos ps.toList = some cv ∨ cv = .ref c'
theorem lam_make3 {c P : Addr} {ps : Array Value} {params : Arguments} {body : Expr} {scope : Scope} {pos : Pos} {E Q : Value → Shared → Prop} (I : Inv X pins σ H s) (B : TabB X.base X.mg c P) (hcode : X.env.code = .ref c)
    (hP : H P = some (.tbl ps)) (ht : TriplesOk ps.toList) (ha : ∀ (pos : Pos) (cv : Value), codeAmong pos ps.toList = some cv → ∃ c, cv = .ref c ∧ H c = some (CodeO c (X.env.qual ++ "<lambda>")))
    (hdef : defaultsOf params X.env = ([], [])) (hfree : ∀ y ∈ scope.names, y.2 = .free → ∃ c, X.env.cells.lookup y.1 = some c)
    (h : ∀ (f c' : Addr) (pm ctv : Value) (H1 : Hp) (s' : Shared), Inv X pins σ H1 s' → Made H P c' (X.env.qual ++ "<lambda>") ps H1 →
      s'.heap.get? f = some (PySem.W.kla_obj "<lambda>" (X.env.qual ++ "<lambda>") params body scope (cloFrom X.env.cells scope.names []) pm c' ctv) → H1 f = none → f ∉ frs X.stack → H1 c' = some (CodeO c' (X.env.qual ++ "<lambda>")) → Q (.ref f) s') :
    wpAny (model X.prog X.w) X.A (eval (.Lambda params body scope pos) X.env) Q E s := by
  have hPs : s.heap.get? P = some { cls := .none, data := .fields ps } := I.hok P _ hP
  have outside : ∀ f, s.heap.objs.size ≤ f → f ∉ frs X.stack := fun f hf z => (List.mem_cons.mp (I.stkSub _ z)).elim (fun e => by
    have := I.lt
    rw [← e] at this
    exact Nat.lt_irrefl _ (Nat.lt_of_lt_of_le this hf)) (fun e => I.nofs hf e)
  refine PySem.W.kla_eval hdef ?_
  cases hc : codeAmong pos ps.toList with
  | some cv =>
    obtain ⟨c', rfl, hco⟩ := ha pos cv hc
    refine PySem.W.kla_makeFunctionHit (mg := X.mg) (c := c) (P := P) (ps := ps) (closure_ok hfree) I.ok.glob (I.mod.glob.keeps I.bk) hcode (B.code.keeps I.bk) hPs ht hc (B.bm.keeps I.bk) fun ctv h' tk hx hsz => ?_
    exact h _ c' _ ctv H _ (I.kept fun b o e => Heap.get?_push_of_some _ (hx b o e)) (.inl rfl) (Heap.get?_push_size _ rfl) (I.hok.fresh hsz) (outside _ hsz) hco
  | none =>
    refine PySem.W.kla_makeFunction (mg := X.mg) (c := c) (P := P) (ps := ps) (closure_ok hfree) I.ok.glob (I.mod.glob.keeps I.bk) hcode (B.code.keeps I.bk) hPs ht hc B.gP (B.bm.keeps I.bk) fun c' ctv h' tk hx hge hlt hrec htb => ?_
    obtain ⟨_, oc, vs, t, e2, hoc, hd, hv⟩ := hrec
    cases e2
    have hsz : s.heap.objs.size ≤ h'.objs.size := by omega
    have hc0 : H c' = none := I.hok.fresh hge
    have hn : h'.objs.size ≠ c' := by omega
    have hnP : h'.objs.size ≠ P := Nat.ne_of_gt (Nat.lt_of_lt_of_le (Heap.lt_size hPs) hsz)
    have J := inv_table (t' := tk) (more := #[rawInt pos.line, rawInt pos.col, .ref c']) (h' := h'.push (PySem.W.kla_obj "<lambda>" (X.env.qual ++ "<lambda>") params body scope (cloFrom X.env.cells scope.names []) ((X.mg "__name__").getD .none) c' ctv)) I hP
      (fun b o hb e => Heap.get?_push_of_some _ (hx b o hb e)) (Heap.get?_push_of_some _ htb) hge ⟨oc, vs, t, Heap.get?_push_of_some _ hoc, hd, hv⟩
    refine h _ c' _ ctv _ _ J (.inr ⟨_, hc0, rfl, ?_, fun p cv e => ?_⟩) (Heap.get?_push_size _ rfl) (by rw [upd_ne hn, upd_ne hnP]; exact I.hok.fresh hsz) (outside _ hsz) upd_same
    · rw [show (ps ++ #[rawInt pos.line, rawInt pos.col, Value.ref c']).toList = ps.toList ++ [rawInt pos.line, rawInt pos.col, .ref c'] by simp]
      exact PySem.TriplesOk_snoc _ _ _ _ ht
    · rw [show (ps ++ #[rawInt pos.line, rawInt pos.col, Value.ref c']).toList = ps.toList ++ [rawInt pos.line, rawInt pos.col, .ref c'] by simp] at e
      exact among_app _ ht e
end
/-- the state behind it, as trees -/
theorem RelS.made {K : PySem.W.Frag} {wd : World} {H : Hp} {ce : Ce} {G : Hp} {m : List Addr} {j : Nat} {P : Addr} {q : Str} (R : RelS K wd H ce G m) (hj : ce[j]? = some (.tab P q)) :
    ∃ ps : Array Value, H P = some (.tbl ps) ∧ TriplesOk ps.toList ∧ (∀ (pos : Pos) (cv : Value), codeAmong pos ps.toList = some cv → ∃ c, cv = .ref c ∧ G c = some (CodeO c q)) ∧
      ∀ (c' : Addr) (H1 : Hp), Made H P c' q ps H1 → H1 c' = some (CodeO c' q) → ∃ G1, RelS K wd H1 ce G1 m ∧ Stp H m G H1 m G1 := by
  have hjm : j < m.length := by
    rw [R.len]
    exact (List.getElem?_eq_some_iff.mp hj).1
  have hm : m[j]? = some m[j] := List.getElem?_eq_getElem hjm
  have hc := R.cel j _ _ hm hj
  obtain ⟨e, ps, hP, ht, ha⟩ := hc
  rw [e] at hP hm
  refine ⟨ps, hP, ht, ha, fun c' H1 md hco => ?_⟩
  rcases md with rfl | ⟨ps', hn, rfl, ht', hps⟩
  · exact ⟨G, R, .refl⟩
  · have hne : c' ≠ P := fun z => by rw [z, hP] at hn; cases hn
    -- the new code object first, then the table's cell
    obtain ⟨R1, s1⟩ := R.laid (CodeO c' q) hn
    have hlive : ce[j]? ≠ some .gone := by rw [hj]; exact fun z => nomatch z
    have g0 : G c' = none := R.gh.fresh hn
    obtain ⟨R2, s2⟩ := R1.write (o := .tbl ps') (c := .tab P q) hm hlive ⟨rfl, ps', upd_same, ht', fun pos cv z => by
      rcases hps pos cv z with z | rfl
      · obtain ⟨c, e1, e2⟩ := ha pos cv z
        exact ⟨c, e1, Gg.new g0 _ _ e2⟩
      · exact ⟨c', rfl, upd_same⟩⟩
    have hset : ce.set j (.tab P q) = ce := by
      refine List.ext_getElem? fun i => ?_
      by_cases z : i = j
      · subst z
        rw [List.getElem?_set_self (by rw [← R.len]; exact hjm), hj]
      · rw [List.getElem?_set_ne (Ne.symm z)]
    rw [hset] at R2
    have hcomm : upd (upd H c' (CodeO c' q)) P (.tbl ps') = upd (upd H P (.tbl ps')) c' (CodeO c' q) := by
      funext a
      by_cases z1 : a = P
      · subst z1
        rw [upd_same, upd_ne (Ne.symm hne), upd_same]
      · by_cases z2 : a = c'
        · subst z2
          rw [upd_ne z1, upd_same, upd_same]
        · rw [upd_ne z1, upd_ne z2, upd_ne z2, upd_ne z1]
    rw [hcomm] at R2 s2
    exact ⟨_, R2, s1.trans s2⟩
end DL

/-! x(lambda: body): x an own def that calls what it is handed ahead of all else, under try. -/
namespace DL
open PySem PySem.Spec PyProof.Rows L2
/-- no slot is known -/
theorem rel_none {K : PySem.W.Frag} {wd : World} {σ : L2.St} {H : Hp} {ce : Ce} {G : Hp} {m : List Addr} {n : Nat} (R : RelS K wd H ce G m) (h : σ.length = n) : Rel K wd σ H (List.replicate n none) ce G m :=
  { R with
    sln := by rw [h, List.length_replicate]
    sls := fun i d e => by
      rw [List.getElem?_replicate] at e
      split at e <;> cases e }
/-! ### a def that calls the one thing that it is handed -/
def LamFn (P : Program) (w : World) (K : PySem.W.Frag) (mg : Str → Option Value) (base : Heap) (k : Nat) (g : Addr) (F : (Ce → R T) → Ce → R T) : Prop :=
  ∃ (a : Str) (Ng : List Str) (qg : Str) (sg : Scope) (cdg : Value), Ng[0]? = some a ∧ Vis sg a ∧ (a == ("__debug__" : Str)) = false ∧ (a == ("__classdict__" : Str)) = false ∧
    ∀ (A : Around) (outer : List Env) (s : Shared) (H : Hp) (f c' : Addr) (q : Str) (Q : VK) (E : XK) (tl : XK → Hp → VK → Prop) (work : Ce → R T) (ce : Ce) (G : Hp) (m : List Addr) (Qd : T → Ce → Prop) (Ed : Exc → Ce → Prop),
      Room k A → Env0 P w K mg base A outer s H → RelS K w H ce G m → H c' = some (LamX.CodeO c' q) →
      (∀ (W' : WX) (pn : List (Addr × Obj)) (xe : Value → Shared → Prop) (Ech : XK) (p1 p2 : Pos), Takes ((cxOf (L2.CX P w) P w K mg base Ng qg sg g cdg A outer s H E).tr pn xe) W' → (∀ cls d σ' H', Ech cls d H' → W' cls d σ' H') →
        PE ((cxOf (L2.CX P w) P w K mg base Ng qg sg g cdg A outer s H E).tr pn xe) (.Call (.Name a p1) [] [] p2) (fun σZ HZ Q => σZ[0]? = some (some (.ref f)) ∧ HZ c' = some (LamX.CodeO c' q) ∧ tl Ech HZ Q)) →
      (∀ (Ech : XK) (Q' : VK) (Qw : T → Ce → Prop) (Ew : Exc → Ce → Prop), (work ce).wp Qw Ew → (∀ d ce' G' m' v H', RelS K w H' ce' G' m' → Stp H m G H' m' G' → RepT K m' G' d v → Qw d ce' → Q' v H') →
        (∀ x ce' G' m' cls dd H', RelS K w H' ce' G' m' → Stp H m G H' m' G' → RepX K G' cls dd x → Ew x ce' → Ech cls dd H') → tl Ech H Q') →
      (F work ce).wp Qd Ed → (∀ d ce' G' m' v H', RelS K w H' ce' G' m' → Stp H m G H' m' G' → RepT K m' G' d v → Qd d ce' → Q v H') →
      (∀ x ce' G' m' cls dd H', RelS K w H' ce' G' m' → Stp H m G H' m' G' → RepX K G' cls dd x → Ed x ce' → E cls dd H') →
      codeAny (model P w) A (.call (.ref g) ⟨[.ref f], []⟩) (CR (L2.CX P w) outer P w H s Q E) s
noncomputable def mLam (j : Nat) (P : Addr) (q : Str) (F : (Ce → R T) → Ce → R T) (mb : M) : M := fun sl ce => match ce[j]? with
  | some (.tab P' q') => if P' = P ∧ q' = q then F (fun ce' => mb sl ce') ce else .bad
  | _ => .bad
theorem mLam_at {j : Nat} {P : Addr} {q : Str} {F : (Ce → R T) → Ce → R T} {mb : M} {sl : Sl} {ce : Ce} (h : ce[j]? = some (.tab P q)) : mLam j P q F mb sl ce = F (fun ce' => mb sl ce') ce := by
  unfold mLam
  rw [h]
  exact if_pos ⟨rfl, rfl⟩
theorem mLam_wp {j : Nat} {P : Addr} {q : Str} {F : (Ce → R T) → Ce → R T} {mb : M} {sl : Sl} {ce : Ce} {Q : T → Ce → Prop} {E : Exc → Ce → Prop} (h : (mLam j P q F mb sl ce).wp Q E) : ce[j]? = some (.tab P q) ∧ (F (fun ce' => mb sl ce') ce).wp Q E := by
  unfold mLam at h
  split at h
  · next P' q' e =>
    split at h
    · next z =>
      obtain ⟨rfl, rfl⟩ := z
      exact ⟨e, h⟩
    · exact h.elim
  · exact h.elim
section
variable {X : Cx}
theorem em_lamcall {x q : Str} {g c P : Addr} {j k kb : Nat} {F : (Ce → R T) → Ce → R T} {mb : M} {params : Arguments} {body : Expr} {scope : Scope} {p lpos pos : Pos} (hL : LamFn X.prog X.w X.K X.mg X.base k g F) (hr : Room k X.A) (hr2 : Room (kb + 2) X.A) (hm : X.mg x = some (.ref g)) (hk : PySem.W.keepIn X.K (.ref g) = true)
    (TB : LamX.TabB X.base X.mg c P) (hcode : X.env.code = .ref c)
    (hb : ∀ (A : Around) (outer : List Env) (s s2 : Shared) (H : Hp) (E : XK) (f c' : Addr), Room kb (A.deeper (LamX.lamEnv X scope s.heap.objs.size f c')) → EM (LamX.lamCx X A outer s H E scope f c') body mb)
    (hl : LamX.lamSB X.env.scope scope = true := by rfl) (hdef : defaultsOf params X.env = ([], []) := by rfl) (hbind : ∀ (q : Str) (cl : List (Str × Addr)) (pm cv ctv : Value), bindArgs (PySem.W.kla_fn "<lambda>" q params body scope cl pm cv ctv) ⟨[], []⟩ = pure [] := by intros; rfl)
    (hq : X.env.qual ++ "<lambda>" = q := by rfl) (hg : Gl X x := by rfl) (hdb : (x == ("__debug__" : Str)) = false := by decide) : EM X (.Call (.Name x p) [.Lambda params body scope lpos] [] pos) (mLam j P q F mb) := by
  subst hq
  refine ⟨⟨fun W => canE X.K X.w (wV (mLam j P (X.env.qual ++ "<lambda>") F mb)) W, fun W tk => ⟨fun pins s σ H Q I h => ?_⟩, fun W σ H sl ce G m Qd Ed Qv R w h k => ⟨sl, ce, G, m, Qd, Ed, R, w, h, k⟩⟩⟩
  obtain ⟨sl, ce, G, m, Qd, Ed, R, w, h, kk⟩ := h
  obtain ⟨hj, hF⟩ := mLam_wp h
  obtain ⟨ps, hP, ht, ha, mk⟩ := R.toRelS.made hj
  have L := LamX.lamS_by hl
  have ha' : ∀ (pos : Pos) (cv : Value), codeAmong pos ps.toList = some cv → ∃ c, cv = .ref c ∧ H c = some (LamX.CodeO c (X.env.qual ++ "<lambda>")) := fun pos cv z => by
    obtain ⟨c, e1, e2⟩ := ha pos cv z
    refine ⟨c, e1, ?_⟩
    rcases R.gh _ _ e2 with y | ⟨⟨_, y⟩, _⟩
    · exact y
    · exact nomatch (show HO.ext _ = HO.dK _ from y)
  obtain ⟨a, Ng, qg, sg, cdg, hN0, hva, hd1, hd2, run⟩ := hL
  refine wpAny_Call_Name_kw (ld_glob I hg hm ?_ hdb)
  refine PySem.W.callWith_K (h₀ := X.base) I.ok.mod.kin hk ?_ (by rfl) (by rfl)
  show wpAny _ _ (spliced ((false, eval (.Lambda params body scope lpos) X.env) :: backTo pos (starEach [] X.env))) _ _ s
  refine Calls.spliced_cons (lam_make3 I TB hcode hP ht ha' hdef (L.has I.ok) fun f c' pm ctv H1 s' I1 md hf hfn hfr hco => ?_)
  refine Calls.spliced_nil ⟨I1.kIn, ?_⟩
  obtain ⟨G1, R1, s1⟩ := mk c' H1 md hco
  have rc : codeAny (model X.prog X.w) X.A (.call (.ref g) ⟨[.ref f], []⟩) (CR (L2.CX X.prog X.w) X.stack X.prog X.w H1 s' Q (WE W σ)) s' :=
    run X.A X.stack s' H1 f c' (X.env.qual ++ "<lambda>") Q (WE W σ) (fun Ech HZ Q' => canE X.K X.w (wV mb) (fun cls d _ H => Ech cls d H) σ HZ Q') (fun ce' => mb sl ce') ce G1 m Qd (fun x ce' => Ed x sl ce') hr I1.env0 R1 hco
      (fun W' pn xe Ech p1 p2 tk' hW => LamX.pe_act (CXg := L2.CX X.prog X.w) (i := 0) I1 L hf hfn hfr (hbind _ _ _ _ _) tk' hW (hr2.deeper _) (fun A outer s2 H hr3 => (hb A outer s2 s2 H Ech f c' hr3).de.can (takes_of rfl rfl rfl rfl)) hN0 hva hd1 hd2)
      (fun Ech Q' Qw Ew hw hk he => ⟨sl, ce, G1, m, Qw, fun x _ ce' => Ew x ce', R.step s1 R1, fun cls dd σ' H' x sl' ce' G' m' R' s' rx h => he x ce' G' m' cls dd H' R'.toRelS s' rx h, hw, fun d ce' G' m' v H' R' s' r q => hk d ce' G' m' v H' R'.toRelS s' r q⟩)
      hF (fun d ce' G' m' v H' R' s2 r q => kk d ce' G' m' v H' (R.step (s1.trans s2) R') (s1.trans s2) r q)
      (fun x ce' G' m' cls dd H' R' s2 rx h => w cls dd σ H' x sl ce' G' m' (R.step (s1.trans s2) R') (s1.trans s2) rx h)
  refine wpAny_call (codeAny_mono rc fun r s2 hq => ?_)
  cases r with
  | error e => exact passAt tk σ pins H1 s' e s2 I1 hq
  | ok fl =>
    cases fl with
    | ret u => exact I1.after hq
    | next => exact False.elim hq
    | brk => exact False.elim hq
    | cont => exact False.elim hq
end
/-! ### try: a() except cx as n: suite; rest -/
section
variable {P : Program} {w : World} {K : PySem.W.Frag} {mg : Str → Option Value} {base : Heap}
theorem out_wp {r : RS} {ce : Ce} {Qd : T → Ce → Prop} {Ed : Exc → Ce → Prop} (h : (r.out ce).wp Qd Ed) : r.wp { nx := fun _ ce' => (retR ce (.d .non) ce').wp Qd Ed, rt := fun t ce' => (retR ce t ce').wp Qd Ed, ex := fun x _ ce' => (retX ce x ce').wp Qd Ed } := by
  cases r with
  | nx _ _ => exact h
  | rt _ _ => exact h
  | ex _ _ _ => exact h
  | bk _ _ => exact h.elim
  | ct _ _ => exact h.elim
  | bad => exact h.elim
theorem unset_wp {r : RS} {i : Nat} {N : DEnds} (h : (r.unset i).wp N) : r.wp { nx := fun sl ce => N.nx (sl.set i none) ce, rt := N.rt, ex := E0D, bk := fun sl ce => N.bk (sl.set i none) ce, ct := fun sl ce => N.ct (sl.set i none) ce } := by
  cases r with
  | nx _ _ => exact h
  | rt _ _ => exact h
  | ex _ _ _ => exact h.elim
  | bk _ _ => exact h
  | ct _ _ => exact h
  | bad => exact h.elim
/-! ### the law's own table -/
theorem tabA_of {x : Str} (h : tabB K x = true) : PySem.W.tabIn K x = some (tabA K x) ∧ PySem.W.codeHdIn K (tabA K x).1 (tabA K x).2 = true ∧ K.lookup (tabA K x).2 = none := by
  unfold tabB at h
  simp only [Bool.and_eq_true] at h
  obtain ⟨h1, h2, h3⟩ := h
  refine ⟨?_, h2, Option.isNone_iff_eq_none.mp h3⟩
  unfold tabA
  cases e : PySem.W.tabIn K x with
  | none => rw [e] at h1; cases h1
  | some z => rfl
theorem tab_code {x : Str} (h : tabB K x = true) {oc : Value} {od : Option Addr} {fd : FuncData} {osl : Array (Option Value)} (lk : K.lookup (He.ga K x) = some ⟨oc, od, .func fd, osl⟩) : fd.code = .ref (tabA K x).1 := by
  obtain ⟨e, _, _⟩ := tabA_of h
  generalize tabA K x = z at e
  unfold PySem.W.tabIn at e
  unfold He.ga at lk
  split at e
  · next f hf =>
    rw [hf] at lk
    simp only at lk
    rw [lk] at e
    simp only at e
    split at e
    · next c hc =>
      split at e
      · split at e
        · cases e
          exact hc
        · cases e
      · cases e
    · cases e
  · cases e
/-- as fnKM; the body may know the def's code object -/
theorem fnKMc {x qual : Str} {st : Stmt} {f : Addr} {fd : FuncData} {N ps : List Str} {k : Nat} {b : MS} (Fn : Fun K x qual st f fd) {cdA : Value} (hcA : fd.code = cdA) (S : FnScope N ps (defScope st))
    (hd : ∀ (cdv : Value), cdv = cdA → ∀ (A : Around) (outer : List Env) (s : Shared) (H : Hp) (E : XK), Room k (A.deeper (PyProof.Rows.envOfC qual (defScope st) s.heap.objs.size f cdv)) →
        PassesOwn (model P w) (cxOf (L2.CX P w) P w K mg base N qual (defScope st) f cdv A outer s H E).A (cxOf (L2.CX P w) P w K mg base N qual (defScope st) f cdv A outer s H E).env (cxOf (L2.CX P w) P w K mg base N qual (defScope st) f cdv A outer s H E).xe →
        SsM (cxOf (L2.CX P w) P w K mg base N qual (defScope st) f cdv A outer s H E) (defBody st) b) : FnOk P w K mg base (L2.CX P w) (k + 1) f fd ps (spD K w (phi (mDef N ps.length b))) := by
  obtain ⟨oc, od, kV, doc, pm, an, cdv, ct, osl, rfl, lk, hcd⟩ := Fn.ex
  refine L2.fn_of lk hcd S (fun vs H Q E h => ?_) fun A outer s H vs Q E hr h => ?_
  · obtain ⟨ce, G, m, ts, Qd, Ed, Rl, r, hφ, _⟩ := h
    rw [r.length]
    unfold phi mDef at hφ
    split at hφ
    · next hl => exact hl
    · exact hφ.elim
  · obtain ⟨ce, G, m, ts, Qd, Ed, Rl, r, hφ, kq, ke⟩ := h
    obtain ⟨tf, pf, sf⟩ := (hd cdv hcA A outer s H E hr (passes_of rfl)).dss.ex
    refine ⟨tf (fun cls d _ H => E cls d H), pf _ (takes_of rfl rfl rfl rfl), ?_⟩
    have hφ' : ((b (startD N ts) ce).out ce).wp Qd Ed := by
      unfold phi mDef at hφ
      split at hφ
      · exact hφ
      · exact hφ.elim
    refine sf _ (L2.start N vs) H (startD N ts) ce G m { nx := fun _ ce' => (retR ce (.d .non) ce').wp Qd Ed, rt := fun t ce' => (retR ce t ce').wp Qd Ed, ex := fun x _ ce' => (retX ce x ce').wp Qd Ed } _ (rel_start Rl r) ?_ ?_ ⟨?_, ?_, ?_, ?_⟩
    · intro cls dd σ' H' x sl' ce' G' m' R' s' rx hx
      obtain ⟨ce0, e1, hE⟩ := R.wp_opt hx
      obtain ⟨R2, s2, hr2⟩ := ret_ok Rl R'.toRelS s' e1
      exact ke x ce0 _ m cls dd H' R2 s2 (rx.mono Gall.gg) hE
    · unfold wS
      cases e : b (startD N ts) ce with
      | nx _ _ => rw [e] at hφ'; exact hφ'
      | rt _ _ => rw [e] at hφ'; exact hφ'
      | ex _ _ _ => rw [e] at hφ'; exact hφ'
      | bk _ _ => rw [e] at hφ'; exact hφ'.elim
      | ct _ _ => rw [e] at hφ'; exact hφ'.elim
      | bad => rw [e] at hφ'; exact hφ'.elim
    · intro σ' H' sl' ce' G' m' R' s' hx
      obtain ⟨ce0, e1, hx⟩ := R.wp_opt hx
      obtain ⟨t', e2, hQ⟩ := R.wp_opt hx
      cases e2
      obtain ⟨R2, s2, hr2⟩ := ret_ok Rl R'.toRelS s' e1
      exact kq (.d .non) ce0 _ m .non H' R2 s2 rfl hQ
    · intro t v H' ce' G' m' R' s' rt hx
      obtain ⟨ce0, e1, hx⟩ := R.wp_opt hx
      obtain ⟨t', e2, hQ⟩ := R.wp_opt hx
      obtain ⟨R2, s2, hr2⟩ := ret_ok Rl R' s' e1
      exact kq t' ce0 _ m v H' R2 s2 (hr2 t v t' rt e2) hQ
    · exact fun _ _ _ _ _ _ _ _ z => z.elim
    · exact fun _ _ _ _ _ _ _ _ z => z.elim
end
end DL

/-! isinstance of a caught error; count and index of bools. -/
namespace DL
open PySem PySem.Spec PyProof.Rows L2
/-! ### isinstance(error, C), error the caught one -/
/-! ### xs.count(b), xs.index(b) of bools -/
section
variable {X : Cx}
end
end DL

/-! A law with lambdas: its own table of code objects. -/
namespace DL
open PySem PySem.Spec PyProof.Rows L2
abbrev lamQ : Str := (("law" : Str) ++ ".<locals>.") ++ "<lambda>"
def tabL (K : PySem.W.Frag) : Cell := .tab (tabA K "law").2 lamQ
theorem mLam_tab (K : PySem.W.Frag) (F : (Ce → R T) → Ce → R T) (mb : M) (sl : Sl) (ce : Ce) : mLam 0 (tabA K "law").2 lamQ F mb sl (tabL K :: ce) = F (fun ce' => mb sl ce') (tabL K :: ce) := mLam_at rfl
theorem keepC_tab (K : PySem.W.Frag) (f : T → Option T) : keepC f (tabL K) = some (tabL K) := rfl
end DL

namespace DL
open PySem L2
/-! ### x in t, t a tuple of data -/
section
variable {X : Cx}
end
end DL

namespace DL
open PySem L2 PySem.Spec PyProof.Rows
/-! ### d == e, the values objects with an own __eq__ -/
section
variable {prog : Program} {w : World} {K : Type} [DecidableEq K] {knd : KeyKind prog w K} {A : Around} {E : Value → Shared → Prop} {s : Shared}
end
/-! ### trees that stand at one place are one tree -/
mutual
def sh : D → D → Bool
  | .non, .non => true
  | .bl _, .bl _ => true
  | .int _, .int _ => true
  | .str _, .str _ => true
  | .tup xs, .tup ys => shL xs ys
  | .lst xs, .lst ys => shL xs ys
  | .dic xs, .dic ys => shK xs ys
  | .ins _ xs, .ins _ ys => shF xs ys
  | _, _ => false
def shL : List D → List D → Bool
  | [], _ => true
  | x :: xs, y :: ys => sh x y && shL xs ys
  | _ :: _, [] => true
def shK : List (Key × D) → List (Key × D) → Bool
  | [], _ => true
  | (_, x) :: xs, (_, y) :: ys => sh x y && shK xs ys
  | _ :: _, [] => true
def shF : List (Str × D) → List (Str × D) → Bool
  | [], _ => true
  | (_, x) :: xs, (_, y) :: ys => sh x y && shF xs ys
  | _ :: _, [] => true
end
section
variable {X : Cx} {pins : List (Addr × Obj)} {σ : L2.St} {H G : Hp} {s : Shared}
end
/-! ### the comparison, at values -/
def LoopV (K : PySem.W.Frag) (w : World) (φ : Phi) (C a b : Addr) (o : Obj) (us ws : List (Key × V)) : List (Key × V) → Hp → (Bool → Hp → Prop) → Prop
  | [], H, Q => H a = some (.frz o (.dK us)) ∧ Rd H b (.dK ws) ∧ Q true H
  | (k, v) :: r, H, Q => H a = some (.frz o (.dK us)) ∧ Rd H b (.dK ws) ∧ match valV ws k with
    | none => Q false H
    | some u => ∃ a1 b1, v = .ref a1 ∧ u = .ref b1 ∧ (a1 = b1 → LoopV K w φ C a b o us ws r H Q ∨ ∃ (G : Hp) (d e : D), Gs G H ∧ sh d e = true ∧ d ≠ e ∧ Rep K G d v ∧ Rep K G e u) ∧
      (a1 ≠ b1 → ∃ dx fs dy gs, H a1 = some (.ins C dx fs) ∧ H b1 = some (.ins C dy gs) ∧ spD K w φ [v, u] H (fun z H' => ∃ t, z = .bl t ∧ (t = true → LoopV K w φ C a b o us ws r H' Q) ∧ (t = false → Q false H')) EF)
theorem LoopV.at {K : PySem.W.Frag} {w : World} {φ : Phi} {C a b : Addr} {o : Obj} {us ws r : List (Key × V)} {H : Hp} {Q : Bool → Hp → Prop} (h : LoopV K w φ C a b o us ws r H Q) : H a = some (.frz o (.dK us)) ∧ Rd H b (.dK ws) := by
  cases r with
  | nil => exact ⟨h.1, h.2.1⟩
  | cons p r => obtain ⟨k, v⟩ := p; exact ⟨h.1, h.2.1⟩
section
variable {X : Cx} {C f : Addr} {k : Nat} {φ : Phi} {F : Fn}
/-! ### the same, at trees -/
end
end DL

namespace L2
open PySem PySem.Spec PyProof.Rows
/-! ### sorted(set(l)) of a list of ints -/
section
variable {P : Program} {w : World} {A : Around} {E : Value → Shared → Prop} {s : Shared}
end
end L2

namespace DL
open PySem L2 PySem.Spec PyProof.Rows
/-! ### sorted(set(l)), the list made of ints -/
section
variable {X : Cx} {e : Expr} {p0 p pos pos2 : Pos}
end
end DL

namespace DL
open PySem L2 PySem.Spec PyProof.Rows
/-! ### o.f, o.g = d, e: two fields of a cell, d and e data -/
section
variable {X : Cx} {o : Expr} {f : Str} {q : Pos}
end
def tup2 : T → Option (D × D)
  | .d (.tup [a, b]) => some (a, b)
  | _ => none
theorem tup2_tup (a b : D) : tup2 (.d (.tup [a, b])) = some (a, b) := rfl
theorem tup2_eq {t : T} {p : D × D} (h : tup2 t = some p) : t = .d (.tup [p.1, p.2]) := by
  unfold tup2 at h
  split at h
  · cases h; rfl
  · cases h
section
variable {X : Cx} {a a' : Expr} {es : List Expr} {C : Addr} {f1 f2 : Str} {mo mo' : M} {mu : MA} {q1 q2 pt pt2 pos : Pos} {kt k2}
end
end DL

namespace PySem.W
open PySem PySem.Calls PyProof.Rows PyProof.V PySem.Spec
/-! ### tuple(d): the keys of a dict -/
section
variable {prog : Program} {w : World} {A : Around} {E : Value → Shared → Prop} {s : Shared} {T : String} {r d : Addr} {n : Nat} {P : Nat → Value → Prop} {OK : Heap → Prop}
end
end PySem.W
namespace DL
open PySem L2
section
variable {X : Cx}
end
end DL

namespace DL
open PySem L2
section
variable {X : Cx}
/-! ### l == [], l != [] whatever the list holds -/
end
end DL

/-! A law with lambdas in one def more: two tables of code objects. -/
namespace DL
open PySem PySem.Spec PyProof.Rows L2
abbrev lamN (n : Str) : Str := (n ++ ".<locals>.") ++ "<lambda>"
def tabN (K : PySem.W.Frag) (n : Str) : Cell := .tab (tabA K n).2 (lamN n)
theorem mLam_tabN (K : PySem.W.Frag) (n : Str) (F : (Ce → R T) → Ce → R T) (mb : M) (sl : Sl) (ce : Ce) : mLam 1 (tabA K n).2 (lamN n) F mb sl (tabL K :: tabN K n :: ce) = F (fun ce' => mb sl ce') (tabL K :: tabN K n :: ce) := mLam_at rfl
theorem keepC_tabN (K : PySem.W.Frag) (n : Str) (f : T → Option T) : keepC f (tabN K n) = some (tabN K n) := rfl
section
variable {P : Program} {w : World} {K : PySem.W.Frag} {mg : Str → Option Value} {base : Heap}
/-- as fnM; the body may know the def's code object -/
theorem fnMc {x qual : Str} {st : Stmt} {f : Addr} {fd : FuncData} {N ps : List Str} {k : Nat} {b : MS} (Fn : Fun K x qual st f fd) {cdA : Value} (hcA : fd.code = cdA) (S : FnScope N ps (defScope st)) (hb : Binds K fd ps []) (hK : K.In base)
    (hd : ∀ (cdv : Value), cdv = cdA → ∀ (A : Around) (outer : List Env) (s : Shared) (H : Hp) (E : XK), Room k (A.deeper (PyProof.Rows.envOfC qual (defScope st) s.heap.objs.size f cdv)) →
        PassesOwn (model P w) (cxOf (L2.CX P w) P w K mg base N qual (defScope st) f cdv A outer s H E).A (cxOf (L2.CX P w) P w K mg base N qual (defScope st) f cdv A outer s H E).env (cxOf (L2.CX P w) P w K mg base N qual (defScope st) f cdv A outer s H E).xe →
        SsM (cxOf (L2.CX P w) P w K mg base N qual (defScope st) f cdv A outer s H E) (defBody st) b) : FnX P w K mg base (k + 1) f (phi (mDef N ps.length b)) := fnX_of (fnKMc Fn hcA S hd) hb hK
end
/-- two tables lie apart -/
def difT (x y : Str) (K : PySem.W.Frag) : Bool := decide ((tabA K x).2 ≠ (tabA K y).2)
/-- the end of a law with two tables, both empty at its start -/
theorem walk_ofET2 {l : PySem.W.OpenLaw} {n k : Nat} {q : Program} {loose : List Str} {XP : (Str → Option Value) → Heap → Prop} {YP : World → Heap → Prop} {d dL dN : DefRec} {CX : CXT} {x y : Str}
    (hn : l.most = some n) (hn2 : n ≤ sizeLine) (hdf : d.params.defaults = []) (hr : Room k callerA) (hrec : (recsOf q).find? (fun e => e.name == d.name) = some dL) (hrec2 : (recsOf q).find? (fun e => e.name == y) = some dN)
    (F : ∀ (w : World) (mg : Str → Option Value) (fa : Addr) (h : Heap), YP w h → h.Ns mainGlobals mg → mg d.name = some (.ref fa) →
      ∃ (K : PySem.W.Frag) (fd : FuncData) (sp : Sp), K.In h ∧ tabB K d.name = true ∧ tabB K y = true ∧ (∀ (s : Shared) (u : Value), BindsTo s fd ⟨[u], []⟩ [(x, u)]) ∧
        (∀ (H : Hp) (a : Addr) (ns : List Int), ns.length ≤ n → H (tabA K d.name).2 = some (.tbl #[]) → H (tabA K y).2 = some (.tbl #[]) → SqL K H a (ns.map V.int) → sp [.ref a] H (fun v _ => v = .bl true) fun _ _ _ => False) ∧
        ∀ base : Heap, K.In base → base.Ns mainGlobals mg → LamX.TabB base mg (tabA K d.name).1 (tabA K d.name).2 → LamX.TabB base mg (tabA K y).1 (tabA K y).2 → FnOk l.prog w K mg base CX k fa fd [x] sp)
    (hCX : ∀ (H : Hp) (s : Shared) (e : Value) (s' : Shared), CX [] H s (fun _ _ _ => False) e s' → False) :
    PySem.W.WalkO q loose XP YP l.row.toRowW d [] (fun f vs => PySem.call f vs) := by
  refine Att.attach_callB hn hdf fun w s₀ s₁ mg mb fa o pm cd doc a vs ns G Y ho hd hcd hmg hobj hints hlen hbits hg => ?_
  obtain ⟨K, fd, sp, KX, ht, hty, hb, hsp, hF⟩ := F w mg fa _ Y G.T.g hmg
  obtain ⟨e1, e2, e3⟩ := tabA_of ht
  obtain ⟨f1, f2, f3⟩ := tabA_of hty
  obtain ⟨t1, t2⟩ := PySem.W.tab_of (c := (tabA K d.name).1) (P := (tabA K d.name).2) G.T KX hrec e1
  obtain ⟨u1, u2⟩ := PySem.W.tab_of (c := (tabA K y).1) (P := (tabA K y).2) G.T KX hrec2 f1
  exact LamX.law_callTs (cs := [tabA K d.name, tabA K y]) KX G.T.g G.T.b G.T.builtins G.T.nolimit hg (fun p hp => by
    rcases List.mem_cons.mp hp with rfl | hp
    · exact t2
    · rw [List.mem_singleton.mp hp]
      exact u2) (fun p hp => by
    rcases List.mem_cons.mp hp with rfl | hp
    · exact e3
    · rw [List.mem_singleton.mp hp]
      exact f3) (fun p hp => by
    rcases List.mem_cons.mp hp with rfl | hp
    · exact t1
    · rw [List.mem_singleton.mp hp]
      exact u1) G.T.bmain hobj hints (Nat.le_trans hlen hn2) hr
    (fun base KB NB TB => hF base KB NB (TB _ List.mem_cons_self) (TB _ (List.mem_cons_of_mem _ List.mem_cons_self))) hb (fun H hH hS => hsp H a ns hlen (hH _ List.mem_cons_self) (hH _ (List.mem_cons_of_mem _ List.mem_cons_self)) hS) fun H e s' => hCX H s₁ e s'
/-- the law's start: the script as data, the two tables as the first cells -/
theorem law_start2 {K : PySem.W.Frag} {w : World} {H : Hp} {a : Addr} {ns : List Int} {φ : Phi} {y : Str} (hne : (tabA K "law").2 ≠ (tabA K y).2) (hT : H (tabA K "law").2 = some (.tbl #[])) (hT2 : H (tabA K y).2 = some (.tbl #[])) (e3 : K.lookup (tabA K "law").2 = none) (e4 : K.lookup (tabA K y).2 = none) (hS : SqL K H a (ns.map V.int))
    (key : φ [.d (.lst (ns.map .int))] [tabL K, tabN K y] (fun t _ => t = .d (.bl true)) fun _ _ => False) : spD K w φ [.ref a] H (fun v _ => v = .bl true) fun _ _ _ => False := by
  have rl : ∀ {G : Hp} (l : List Int), RepL K G (l.map D.int) (l.map V.int) := fun l => by
    induction l with
    | nil => rfl
    | cons x r ih => exact ⟨_, _, rfl, rfl, ih⟩
  let P := (tabA K "law").2
  let P2 := (tabA K y).2
  have nP : ∀ o, H a = some o → (∀ z, o ≠ .tbl z) → a ≠ P ∧ a ≠ P2 := fun o h hz => ⟨fun z => by
    rw [z] at h
    rw [hT] at h
    cases h
    exact hz _ rfl, fun z => by
    rw [z] at h
    rw [hT2] at h
    cases h
    exact hz _ rfl⟩
  have hS' : SqL K (fun b => if b = P ∨ b = P2 then none else H b) a (ns.map V.int) := by
    rcases hS with (h | ⟨o, h⟩) | h
    · refine .inl (.inl ?_)
      obtain ⟨n1, n2⟩ := nP _ h (fun z => by simp)
      show (if a = P ∨ a = P2 then none else H a) = _
      rw [if_neg (by simp [n1, n2])]
      exact h
    · refine .inl (.inr ⟨o, ?_⟩)
      obtain ⟨n1, n2⟩ := nP _ h (fun z => by simp)
      show (if a = P ∨ a = P2 then none else H a) = _
      rw [if_neg (by simp [n1, n2])]
      exact h
    · exact .inr h
  refine ⟨[tabL K, tabN K y], fun b => if b = P ∨ b = P2 then none else H b, [P, P2], [.d (.lst (ns.map .int))], fun t _ => t = .d (.bl true), fun _ _ => False, ⟨fun b u h => ?_, List.nodup_cons.mpr ⟨fun h => hne (List.mem_singleton.mp h), List.nodup_cons.mpr ⟨List.not_mem_nil, List.nodup_nil⟩⟩, rfl, fun k b h _ => ?_, fun k b c h1 h2 => ?_⟩, ⟨_, [], rfl, ⟨a, _, rfl, hS', rl ns⟩, rfl⟩, key, ?_, fun _ _ _ _ _ _ _ _ _ _ z => z.elim⟩
  · split at h
    · cases h
    · exact .inl h
  · match k, h with
    | 0, h =>
      cases h
      exact if_pos (.inl rfl)
    | 1, h =>
      cases h
      exact if_pos (.inr rfl)
    | k + 2, h => cases h
  · match k, h1, h2 with
    | 0, h1, h2 =>
      cases h1
      cases h2
      exact ⟨rfl, #[], hT, True.intro, fun pos cv z => by
        have z : codeAmong pos [] = some cv := z
        simp [codeAmong] at z⟩
    | 1, h1, h2 =>
      cases h1
      cases h2
      exact ⟨rfl, #[], hT2, True.intro, fun pos cv z => by
        have z : codeAmong pos [] = some cv := z
        simp [codeAmong] at z⟩
    | k + 2, h1, h2 => cases h1
  · intro d ce' G' m' v H' _ _ r e
    subst e
    exact r
end DL

namespace DL
open PySem L2 PySem.W PyProof.Rows
/-! ### min(xs, default=c) of a list of ints -/
section
variable {X : Cx}
end
end DL

namespace DL
open PySem L2 PySem.Spec PyProof.Rows
/-! ### x |= e -/
/-! ### sorted(d.items()), d a dict of texts -/
section
variable {X : Cx} {e : Expr} {te : TE} {ma : M} {p apos cpos pos : Pos}
end
end DL

namespace DL
open PySem L2 PySem.Spec PyProof.Rows
/-! ### x in d.values(), x not in d.values(): all values texts -/
section
variable {prog : Program} {w : World} {A : Around} {E : Value → Shared → Prop}
end
section
variable {X : Cx} {a e : Expr} {ta te : TE} {apos cpos pos : Pos}
end
section
variable {X : Cx} {a e : Expr} {ma mb : M} {apos cpos pos : Pos}
end
end DL

namespace DL
open PySem L2 PySem.Spec PyProof.Rows
/-! ### sorted(d), a list of one's own -/
section
variable {X : Cx}
end
end DL

namespace DL
open PySem L2 PySem.Spec PyProof.Rows
/-! ### xs * n, xs a tuple -/
section
variable {X : Cx}
end
end DL

/-! ### xs.extend(ys), ys a list that does not change -/
namespace PySem.AutoSeq1
end PySem.AutoSeq1
namespace DL
open PySem L2 PySem.Spec PyProof.Rows
section
variable {X : Cx}
variable {a e0 : Expr} {ma : M} {mu : MA} {apos cpos : Pos}
end
end DL

namespace DL
open PySem L2
/-! ### a cell made data with all that it holds; all cells from it on are gone -/
section
variable {X : Cx} {st : Stmt} {ms : MS}
end
end DL

/-! ### two tuples whose items are equal, one by one, in one program -/
namespace PySem.SeqAt
open AutoSeq1 (wpAny_loadPart')
open MeetsSeq MeetsSeq2 MeetsSeq3 SeqRoads2
section
variable {prog : Program} {w : World}
end
end PySem.SeqAt
namespace DL
open PySem L2
section
variable {X : Cx} {pins : List (Addr × Obj)} {σ : L2.St} {H G : Hp} {s : Shared}
end
end DL

namespace L2
open PySem PySem.Spec PyProof.Rows
/-! ### a tuple or a list from its end to its head: x[::-1] -/
section
variable {P : Program} {w : World} {A : Around} {E : Value → Shared → Prop} {s : Shared}
end
section
variable {X : Cx} {e : Expr} {te : TE} {tk0 : TO} {k : Expr} {pos p2 : Pos}
end
end L2
namespace DL
open PySem L2 PySem.Spec PyProof.Rows
section
variable {X : Cx} {a k : Expr} {ma : M} {mk : MG (Option Int)} {pos p2 : Pos}
end
end DL

namespace DL
open PySem L2 PySem.Spec PyProof.Rows
/-! ### list(d.values()), d a dict that never changes -/
section
variable {X : Cx} {e : Expr} {te : TE} {ma : M} {p apos cpos pos : Pos}
end
end DL

namespace DL
open PySem L2 PySem.Spec PyProof.Rows
/-! ### xs.pop(), xs a list in the cells -/
section
variable {X : Cx} {a : Expr} {ma : M} {apos cpos : Pos}
end
/-! ### xs == [], whatever the items are -/
section
variable {X : Cx}
end
end DL

namespace DL
open PySem L2 PySem.Spec PyProof.Rows
/-! ### sum(d.values()), d a dict that never changes, its values ints -/
section
variable {X : Cx} {e : Expr} {te : TE} {ma : M} {p apos cpos pos : Pos}
end
end DL

namespace DL
open PySem L2 PySem.Spec PyProof.Rows
/-! ### dict(d), a new dict in the cells -/
section
variable {X : Cx}
end
end DL

namespace DL
open PySem L2 PySem.Spec PyProof.Rows
/-! ### sorted(d), the keys ints -/
section
variable {X : Cx}
end
end DL

namespace DL
open PySem L2 PySem.Spec PyProof.Rows
/-! ### d.pop(k, x), d a cell -/
section
variable {X : Cx} {e a b c : Expr} {ma mb mc : M} {pos p : Pos}
end
end DL
namespace L2
open PySem PySem.Spec PyProof.Rows
/-! ### try with several except clauses, each with or without a name -/
/-- a clause: its class, the slot of its name, its suite -/
abbrev ClZ := Value × Option Nat × (Addr → Value → Option Addr → TS)
def clzS (oi : Option Nat) (a : Addr) (σ : St) : St := match oi with
  | none => σ
  | some i => σ.set i (some (.ref a))
def clzU (oi : Option Nat) (σ : St) : St := match oi with
  | none => σ
  | some i => σ.set i none
def clzD (oi : Option Nat) (D : Ends) : Ends := { nx := fun σ H => D.nx (clzU oi σ) H, rt := D.rt, bk := fun σ H => D.bk (clzU oi σ) H, ct := fun σ H => D.ct (clzU oi σ) H }
def wCls (K : PySem.W.Frag) (Wout : WX) (D : Ends) : List ClZ → WX
  | [] => Wout
  | (c, oi, ts) :: r => fun cls d σ H => ∃ b, PySem.W.exmOne K cls c = some b ∧ (b = true → ∀ a, H a = none → ts a cls d (clzD oi D) (clzS oi a σ) H) ∧ (b = false → wCls K Wout D r cls d σ H)
inductive ClsOk (X : Cx) : List ExceptHandler → List ClZ → Prop
  | nil : ClsOk X [] []
  | cons {x : Str} {c : Value} {oi : Option Nat} {on : Option Str} {ts : Addr → Value → Option Addr → TS} {b₀ : Stmt} {suite : List Stmt} {np pos' : Pos} {hds : List ExceptHandler} {l : List ClZ} (hc : Names X x c)
      (ho : (oi = none ∧ on = none) ∨ ∃ i n, oi = some i ∧ on = some n ∧ X.N[i]? = some n ∧ X.env.kindOf n = some .local)
      (hsu : ∀ (a : Addr) (oe : Obj) (cls : Value) (d : Option Addr) (pn : List (Addr × Obj)), Zc cls d oe → (∃ vs, oe.data = .fields vs) → PSs (X.suite a ((a, oe) :: pn)) (b₀ :: suite) (ts a cls d)) (r : ClsOk X hds l) :
      ClsOk X (.ExceptHandler (some (.Name x np)) on (b₀ :: suite) pos' :: hds) ((c, oi, ts) :: l)
section
variable {X : Cx} {body : List Stmt} {h₀ : ExceptHandler} {hds : List ExceptHandler} {l : List ClZ} {pos : Pos} {tb : WX → TS} {Wout : WX}
theorem ps_cls (hs : X.stack = X.env :: X.outer) (hf : X.env.frame = some X.env.locals) (hN : X.N.Nodup) (tk : Takes X Wout)
    (hb : ∀ (W : WX) (pn : List (Addr × Obj)) (xe : Value → Shared → Prop), Takes (X.tr pn xe) W → PassesOwn (model X.prog X.w) X.A X.env xe → PSs (X.tr pn xe) body (tb W))
    (hh : ClsOk X (h₀ :: hds) l) : PS X (.Try body (h₀ :: hds) [] [] pos) (fun D σ H => tb (wCls X.K Wout D l) D σ H) := by
  refine ⟨fun pins s σ H D I h => ?_⟩
  have ok := I.ok
  have hfr : X.A.frames = some (X.env :: X.outer) := by rw [ok.frames, hs]
  refine wpAny_Try_except (wpAny_mono ((hb (wCls X.K Wout D l) (X.pn ++ pins) (fun e s₁ => wpAny (model X.prog X.w) X.A (noteFrame e X.env) (fun _ s₂ => wpAny (model X.prog X.w) X.A (setFlight e none) (fun _ s₃ =>
    wpAny (model X.prog X.w) X.A (handleBy e X.env (h₀ :: hds)) (SP X pins D) X.xe s₃) X.xe s₂) X.xe s₁) (fun u s' xx => ?_) PassesOwn.looking).run [] s σ H D (I.toTry _) h) (fun f s1 hsp => ?_) (fun e s1 he => he))
  · obtain ⟨a, B, sI, pins', σ', H', cls, d, rfl, J', nb, up, sky, na, os, ag, w⟩ := xx
    have J : Inv X pins σ' H' sI := J'.ofTry ok
    show wpAny (model X.prog X.w) X.A (noteFrame (.ref a) X.env) _ _ _
    refine Sky.land Zc.steady hfr hf (by rw [← hs]; exact sky) fun h3 fl3 up3 => ?_
    have J3 : Inv X pins σ' H' { s' with heap := h3 } := J.landed nb fl3.1 (up.trans up3) os ag
    obtain ⟨oe3, vs3, he3, hz3, hd3⟩ := fl3.there
    have nfr : a ∉ frs (X.env :: X.outer) := fun hm => by
      obtain ⟨_, o', e', hnf⟩ := Heap.FunFrames.mem fl3.2.2.1 hm
      rw [he3] at e'
      cases e'
      exact hnf _ hd3
    have nL : a ≠ X.env.locals := fun z => nfr (List.mem_filterMap.mpr ⟨X.env, List.mem_cons_self, by rw [hf, z]⟩)
    have nF : a ∉ X.fs := fun hm => by
      obtain ⟨e, he, q⟩ := List.mem_filterMap.mp hm
      exact nfr (List.mem_filterMap.mpr ⟨e, List.mem_cons_of_mem _ he, q⟩)
    have S3 := J3.suite he3 hd3 na nL nF
    suffices go : ∀ {hds' : List ExceptHandler} {l' : List ClZ}, ClsOk X hds' l' → wCls X.K Wout D l' cls d σ' H' → wpAny (model X.prog X.w) X.A (handleBy (.ref a) X.env hds') (SP X pins D) X.xe { s' with heap := h3 } from go hh w
    intro hds' l' hk
    induction hk with
    | nil =>
      intro w
      refine wpAny_handleBy_nil ?_
      obtain ⟨_, _, _, oe, vs, T, oT, ts', he, hz, hd, h1, hr⟩ := id fl3
      unfold PySem.passOn
      refine wpAny_bind (wpAny_field he hd h1 ?_)
      rw [if_neg (show ¬ ((Value.ref T == Value.none) = true) from by simp)]
      have fin : wpAny (model X.prog X.w) X.A (setFlight (.ref a) X.env.frame) (fun _ s4 => wpAny (model X.prog X.w) X.A (throw (.ref a) : Sem Flow) (SP X pins D) X.xe s4) X.xe { s' with heap := h3 } := by
        rw [hf]
        refine HandSPX.setFlight_upZ fl3 fun h4 hh4 up4 => wpAny_throw (tk _ _ ⟨a, B, sI, pins, σ', H', cls, d, rfl, J, nb, (up.trans up3).trans up4, .inr (.inr (by rw [hs]; exact hh4)), na, os, ag, w⟩)
      first
        | exact wpAny_bind (wpAny_pure (wpAny_bind fin))
        | exact wpAny_bind fin
    | @cons x c oi on ts b₀ suite np pos' hds2 l2 hc ho hsu r ih =>
      intro w
      obtain ⟨b, hb1, hyes, hno⟩ := w
      refine wpAny_handleBy_cons (codeAny_handlers_test ?_) (by intro q; cases q)
      have LM := PySem.W.exm_one (M := model X.prog X.w) (J3.kIn) (fun A Q E s k q => wpAny_typeOf_ref (k _ _ he3) (by rw [hz3.1]; exact q) : PySem.W.Looks (model X.prog X.w) h3 (typeOf (.ref a)) cls) hb1
      have test : ∀ {Q : Value → Shared → Prop} {E : Value → Shared → Prop}, Q c { s' with heap := h3 } → wpAny (model X.prog X.w) (X.A.mark (some (.ref a))) (eval (.Name x np) X.env) Q E { s' with heap := h3 } := fun {Q E} q => by
        obtain ⟨hg, hdbg, hm | ⟨hm, hv, hnn⟩⟩ := hc
        · exact ld_glob (X := X.suite a ((a, oe3) :: (X.pn ++ pins))) S3 hg hm q hdbg
        · exact ld_blt (X := X.suite a ((a, oe3) :: (X.pn ++ pins))) S3 hg hm hv q hnn hdbg
      refine test (LM.here ?_)
      cases b with
      | false => exact ih (hno rfl)
      | true =>
        have y := hyes rfl a na
        rcases ho with ⟨rfl, rfl⟩ | ⟨i, n, rfl, rfl, hi, hln⟩
        · refine codeAny_handlers_suite ?_
          refine HandSPX.lands_againZ fl3 fun h4 fl4 up4 => ?_
          have J4 : Inv X pins σ' H' { s' with heap := h4 } := J.landed nb fl4.1 ((up.trans up3).trans up4) os ag
          obtain ⟨oe4, vs4, he4, hz4, hd4⟩ := fl4.there
          refine wpAny_mono ((hsu a oe4 cls d (X.pn ++ pins) hz4 ⟨_, hd4⟩).run [] _ _ H' _ (J4.suite he4 hd4 na nL nF) y) (fun f s6 hsp => ?_) (fun _ _ z => False.elim z)
          cases f with
          | ret u =>
            obtain ⟨v6, σ6, H6, S6, r6, q6⟩ := hsp
            exact ⟨_, _, _, S6.unsuite ok, r6, q6⟩
          | next | brk | cont =>
            obtain ⟨σ6, H6, S6, q6⟩ := hsp
            exact ⟨_, _, S6.unsuite ok, q6⟩
        · refine codeAny_handlers_suite_as ?_
          refine HandSPX.lands_againZ fl3 fun h4 fl4 up4 => ?_
          have J4 : Inv X pins σ' H' { s' with heap := h4 } := J.landed nb fl4.1 ((up.trans up3).trans up4) os ag
          obtain ⟨oe4, vs4, he4, hz4, hd4⟩ := fl4.there
          refine store_ok (X := X.suite a ((a, oe4) :: (X.pn ++ pins))) (v := .ref a) (J4.suite he4 hd4 na nL nF) hN hi (.inl hln) rfl (fun s5 S5 => ?_) (.inr hln)
          refine wpAny_mono ((hsu a oe4 cls d (X.pn ++ pins) hz4 ⟨_, hd4⟩).run [] s5 _ H' _ S5 y) (fun f s6 hsp => ?_) (fun _ _ z => False.elim z)
          cases f with
          | ret u =>
            obtain ⟨v6, σ6, H6, S6, r6, q6⟩ := hsp
            exact gone_ok (S6.unsuite ok) hN hi hln fun s7 J7 => ⟨_, _, _, J7, r6, q6⟩
          | next | brk | cont =>
            obtain ⟨σ6, H6, S6, q6⟩ := hsp
            exact gone_ok (S6.unsuite ok) hN hi hln fun s7 J7 => ⟨_, _, J7, q6⟩
  · cases f with
    | next =>
      obtain ⟨σ', H', J', q⟩ := hsp
      exact wpAny_execs_nil ⟨σ', H', J'.ofTry ok, q⟩
    | ret u =>
      obtain ⟨v, σ', H', J', r, q⟩ := hsp
      exact ⟨v, σ', H', J'.ofTry ok, r, q⟩
    | brk | cont =>
      obtain ⟨σ', H', J', q⟩ := hsp
      exact ⟨σ', H', J'.ofTry ok, q⟩
end
end L2
namespace DL
open PySem L2 PySem.Spec PyProof.Rows
/-! ### try: body except C as n: suite except C2: suite2 -/
section
variable {X : Cx} {us us' : US} {sa sb : MS} {pos : Pos}
section
variable {exm exm2 : Value → Option Bool} {k k2 : Exc → Sl → Ce → RS} {sl : Sl} {ce : Ce} {x : Exc}
end
end
end DL
namespace DL
open PySem L2 PySem.Spec PyProof.Rows
/-! ### dict(pairs), a new dict in the cells -/
section
variable {X : Cx}
noncomputable def oDictNM : B1 := fun ts ce => match ts with
  | [.d (.lst ds)] => R.opt (pairsD ds) fun kds => .ok (.cel ce.length) (ce ++ [.dic ((mergeA [] kds).map fun p => (p.1, T.d p.2))])
  | _ => .bad
theorem oDictNM_lst (ds : List D) (ce : Ce) : oDictNM [.d (.lst ds)] ce = R.opt (pairsD ds) fun kds => .ok (.cel ce.length) (ce ++ [.dic ((mergeA [] kds).map fun p => (p.1, T.d p.2))]) := rfl
theorem cm_dictN (hc : X.calm = true) : CaM X (.type "dict") oDictNM := by
  refine ⟨⟨_, call_dictP hc, fun H ce G m Qd Qv ts vs Rl r h k => ?_⟩⟩
  replace h : (oDictNM ts ce).wp Qd fun _ _ => False := h
  unfold oDictNM at h
  split at h
  · next ds =>
    obtain ⟨kds, q, h2⟩ := R.wp_opt h
    obtain ⟨v, rfl, rv⟩ := RepTL.one' r
    obtain ⟨a, vs, rfl, hs, rl⟩ := rv
    obtain ⟨ps, kvs, e1, e2, e3⟩ := pairsD_ok Rl.gh rl q
    subst e1
    refine ⟨a, ps, kvs, rfl, Rl.gh.rdL hs, e2, fun p hp => ?_⟩
    obtain ⟨R2, s2⟩ := Rl.cell (o := .dK (mergeK [] kvs)) (c := .dic ((mergeA [] kds).map fun p => (p.1, T.d p.2))) hp ⟨_, upd_same, (toTKk (repK_merge e3)).mono (List.prefix_append _ _) (Gg.refl _)⟩
    exact k (.cel ce.length) _ _ _ _ _ R2 s2 ⟨p, by rw [← Rl.len]; exact snoc_last, rfl⟩ h2
  · exact h.elim
end
end DL


namespace DL
open PySem L2 PySem.Spec PyProof.Rows
/-! ### d.clear(), d a dict in the cells -/
section
variable {X : Cx} {a : Expr} {ma : M} {apos cpos : Pos}
end
end DL

namespace L2
open PySem PySem.Spec PyProof.Rows
/-! ### sets of texts that can be walked -/
def txt (v : Value) : Str := match v with
  | .str x _ => x
  | _ => ""
def GoodS (w : World) (e : Int × Value) : Prop := ∃ x tk, e.2 = Value.str x tk ∧ e.1 = hashStr w x
/-- the set of texts at a: S its members, n their number -/
def SetS (w : World) (h : Heap) (a : Addr) (S : Str → Bool) (n : Nat) : Prop :=
  ∃ o es ep t, h.get? a = some o ∧ o.ExactSet ∧ o.data = .set es ep t ∧ (∀ e ∈ es.toList, GoodS w e) ∧ (es.toList.map fun e => txt e.2).Nodup ∧ (∀ k, S k = true ↔ k ∈ es.toList.map fun e => txt e.2) ∧
    es.size < scanBound ∧ t.fits es.size = true ∧ es.size = n ∧ Ris t.place.toList ∧ (w.params.followText "set-order" = true ∨ t.led = true)
section
variable {P : Program} {w : World} {h h' : Heap} {a : Addr} {S : Str → Bool} {n : Nat}
theorem SetS.at (R : SetS w h a S n) (k : ∀ o, h.get? a = some o → h'.get? a = some o) : SetS w h' a S n := by
  obtain ⟨o, es, ep, t, ho, r⟩ := R
  exact ⟨o, es, ep, t, k o ho, r⟩
theorem SetS.congr {S' : Str → Bool} (R : SetS w h a S n) (e : ∀ k, S' k = S k) : SetS w h a S' n := by
  have q : S' = S := funext e
  rw [q]
  exact R
end
section
variable {P : Program} {w : World} {A : Around} {E : Value → Shared → Prop} {s : Shared} {a : Addr} {S : Str → Bool} {n : Nat}
end
end L2

namespace DL
open PySem L2 PySem.Spec PyProof.Rows
/-! ### sorted(set(l)), the list of texts -/
section
variable {X : Cx} {e : Expr} {p0 p pos pos2 : Pos}
end
end DL


namespace DL
open PySem L2 PySem.Spec PyProof.Rows PySem.W
/-! ### x < y of data -/
section
variable {X : Cx}
end
end DL

/-! A lambda with one parameter, handed to a def as its last argument; the def calls it where it likes. -/
namespace DL
open PySem PySem.Spec PyProof.Rows L2
/-! ### the lambda is made; the table tells its code object -/
section
variable {X : Cx} {pins : List (Addr × Obj)} {σ : L2.St} {H : Hp} {s : Shared}
theorem among_here {pos : Pos} {c : Value} : ∀ (l : List Value), TriplesOk l → codeAmong pos l = none → codeAmong pos (l ++ [rawInt pos.line, rawInt pos.col, c]) = some c := fun l h hn => by
  fun_induction TriplesOk l with
  | case1 => simp [rawInt, codeAmong]
  | case2 a t b u x rest ih =>
    simp only [List.cons_append, codeAmong] at hn ⊢
    split at hn
    · cases hn
    · next q =>
      rw [if_neg q]
      exact ih h hn
  | case3 l h1 h2 => exact h.elim
/-- as Made; the table tells the code object of the place -/
def MadeAt (pos : Pos) (H : Hp) (P c' : Addr) (q : Str) (ps : Array Value) (H1 : Hp) : Prop :=
  Made H P c' q ps H1 ∧ ∃ ps1 : Array Value, H1 P = some (.tbl ps1) ∧ TriplesOk ps1.toList ∧ codeAmong pos ps1.toList = some (.ref c')
end
/-! ### the lambda's body -/
/-- one parameter p; else captured names and globals -/
structure LamSP (p : Str) (sc scope : Scope) : Prop where
  kind : scope.kind = .function
  co : scope.isCoroutine = false
  gen : scope.isGenerator = false
  par : scope.names.lookup p = some .local
  own : ∀ y ∈ scope.names, y.2 = .local → y.1 = p
  cel : ∀ y ∈ scope.names, y.2 ≠ .cell
  free : ∀ y ∈ scope.names, y.2 = .free → sc.names.lookup y.1 = some .cell ∨ sc.names.lookup y.1 = some .free
def lamSPB (p : Str) (sc scope : Scope) : Bool :=
  decide (scope.kind = .function) && !scope.isCoroutine && !scope.isGenerator && decide (scope.names.lookup p = some .local) && scope.names.all fun y => (!decide (y.2 = .local) || decide (y.1 = p)) && !decide (y.2 = .cell) && (!decide (y.2 = .free) || decide (sc.names.lookup y.1 = some .cell) || decide (sc.names.lookup y.1 = some .free))
theorem lamSP_by {p : Str} {sc scope : Scope} (h : lamSPB p sc scope = true) : LamSP p sc scope := by
  unfold lamSPB at h
  simp only [Bool.and_eq_true, Bool.or_eq_true, Bool.not_eq_true', decide_eq_true_eq, decide_eq_false_iff_not, List.all_eq_true] at h
  obtain ⟨⟨⟨⟨h1, h2⟩, h3⟩, h5⟩, h4⟩ := h
  refine ⟨h1, h2, h3, h5, fun y hy e => ?_, fun y hy => (h4 y hy).1.2, fun y hy e => ?_⟩
  · rcases (h4 y hy).1.1 with z | z
    · exact absurd e z
    · exact z
  · rcases (h4 y hy).2 with (z | z) | z
    · exact absurd e z
    · exact .inl z
    · exact .inr z
theorem LamSP.has {p : Str} {X : Cx} {scope : Scope} (L : LamSP p X.env.scope scope) (ok : X.Ok) : ∀ y ∈ scope.names, y.2 = .free → ∃ c, X.env.cells.lookup y.1 = some c := fun y hy e => by
  rcases L.free y hy e with k | k
  · exact ok.has _ (.inl k)
  · exact ok.has _ (.inr k)
/-- the context of its body: the maker's names and the parameter behind them -/
def lamCxP (p : Str) (X : Cx) (A : Around) (outer : List Env) (s : Shared) (H : Hp) (E : XK) (scope : Scope) (f c' : Addr) : Cx :=
  { LamX.lamCx X A outer s H E scope f c' with N := X.N ++ [p] }
section
variable {X : Cx} {pins : List (Addr × Obj)} {σ : L2.St} {H HZ : Hp} {s s1 : Shared}
theorem lam_startP {p : Str} {A : Around} {outer : List Env} {E : XK} {scope : Scope} {f c' : Addr} {h₁ : Heap} {tk : Nat} {v : V} {u : Value} (hp : p ∉ X.N) (I : Inv X pins σ H s) (L : LamSP p X.env.scope scope) (e0 : Env0 X.prog X.w X.K X.mg X.base A outer s1 HZ) (hd : A.handled = none)
    (un : Un (frs X.stack) [] H HZ s.heap s1.heap) (hns : h₁.Ns s1.heap.objs.size fun y => ([(p, u)] : List (Str × Value)).reverse.lookup y) (kp : ∀ b o, s1.heap.get? b = some o → h₁.get? b = some o) (rv : RelV v u) :
    Inv (lamCxP p X A outer s1 HZ E scope f c') [] (σ ++ [some v]) HZ { s1 with heap := h₁, toks := tk } := by
  have hfree := L.has I.ok
  have cm : ∀ {y c}, (cloFrom X.env.cells scope.names []).lookup y = some c → X.env.cells.lookup y = some c := fun {y c} e => by
    rcases cloFrom_mem (PySem.mem_of_lookup e) with hm | ⟨h1, h2⟩
    · cases hm
    · obtain ⟨c1, hc⟩ := hfree _ h1 rfl
      have hc : X.env.cells.lookup y = some c1 := hc
      have e2 : c = c1 := by
        rw [h2, hc] <;> rfl
      rw [e2]
      exact hc
  have look : ∀ {y}, scope.names.lookup y = some .free → ∃ c, (cloFrom X.env.cells scope.names []).lookup y = some c := fun {y} hl => by
    have hy : (y, NameKind.free) ∈ scope.names := PySem.mem_of_lookup hl
    exact mem_lookup (cloFrom_has (cells := X.env.cells) (acc := []) hy)
  have cellK : ∀ {c : Addr} {v : Option Value}, H c = none → s.heap.IsCell c v → h₁.IsCell c v := fun {c v} n ⟨o, ho, hd⟩ => by
    obtain ⟨sl, q⟩ := un.any ho n (by simp)
    exact ⟨_, kp _ _ q, hd⟩
  have noA : ∀ b : Addr, b ∉ (lamCxP p X A outer s1 HZ E scope f c').ex := fun b z => absurd (show b ∈ ([] : List Addr) from z) (by simp)
  refine ⟨⟨e0.mod, L.kind, rfl, rfl, Nat.le_refl _, fun y z c e1 e2 => I.ok.inj y z c (cm e1) (cm e2), fun y hy => ?_, fun y c z _ => ?_, fun _ => hd, Around.frames_deeper e0.frames, .inr ⟨rfl, rfl⟩, fun b z => absurd z (noA b), e0.bs, e0.bsz, fun b _ _ => noA b,
      fun b z => absurd z (noA b), e0.funs, e0.frf⟩,
    rfl, e0.bare, Un.kept kp, ⟨_, hns, fun i y v' e1 e2 e3 => ?_⟩, fun y c e => ?_, e0.hok.fresh (Nat.le_refl _), fun y c e => ?_, fun q hq => absurd (show q ∈ ([] : List (Addr × Obj)) ++ [] from hq) (by simp), e0.hok.kept kp, ?_⟩
  · have hy : scope.names.lookup y = some .cell ∨ scope.names.lookup y = some .free := hy
    rcases hy with hy | hy
    · exact absurd rfl (L.cel _ (PySem.mem_of_lookup hy))
    · exact look hy
  · have z : false = true := z
    cases z
  · have e3 : Vis scope y := e3
    have e1' : (X.N ++ [p])[i]? = some y := e1
    clear e1
    have hlen : σ.length = X.N.length := I.len
    by_cases hi : i < X.N.length
    · rw [List.getElem?_append_left hi] at e1'
      rw [List.getElem?_append_left (by rw [hlen]; exact hi)] at e2
      rcases e3 with k | k | k
      · have hy := L.own _ (PySem.mem_of_lookup k) rfl
        have hy : y = p := hy
        subst hy
        exact absurd (List.mem_of_getElem? (show X.N[i]? = some y from e1')) hp
      · exact absurd rfl (L.cel _ (PySem.mem_of_lookup k))
      · obtain ⟨m, hn, hl⟩ := I.loc
        have hvis : Vis X.env.scope y := (L.free _ (PySem.mem_of_lookup k) rfl).elim (fun k => .inr (.inl k)) (fun k => .inr (.inr k))
        obtain ⟨w', r, q⟩ := hl i y v' e1' e2 hvis
        obtain ⟨c2, h2⟩ := look k
        refine ⟨w', r, .inr ⟨.inr k, c2, h2, ?_⟩⟩
        have c1 := cm h2
        rcases q with ⟨k', _⟩ | ⟨_, c3, e', z⟩
        · have k' : X.env.scope.names.lookup y = some .local := k'
          rcases L.free _ (PySem.mem_of_lookup k) rfl with k2 | k2 <;> rw [show X.env.scope.names.lookup y = _ from k2] at k' <;> cases k'
        · rw [c1] at e'
          cases e'
          exact cellK (I.freeC y _ c1) z
    · have hi' : i = X.N.length := by
        have := (List.getElem?_eq_some_iff.mp e1').1
        simp at this
        omega
      subst hi'
      rw [List.getElem?_append_right (Nat.le_refl _)] at e1'
      rw [List.getElem?_append_right (by rw [hlen]; exact Nat.le_refl _), hlen] at e2
      simp only [Nat.sub_self, List.getElem?_cons_zero, Option.some.injEq] at e1' e2
      subst e1' e2
      exact ⟨u, rv, .inl ⟨L.par, by simp [List.lookup]⟩⟩
  · obtain ⟨w', z⟩ := I.cell y c (cm e)
    exact ⟨w', cellK (I.freeC y c (cm e)) z⟩
  · obtain ⟨v', o, ho, hd⟩ := I.cell y c (cm e)
    exact un.free c o ho (I.freeC y c (cm e)) (by simp)
  · show (σ ++ [some v]).length = (X.N ++ [p]).length
    rw [List.length_append, List.length_append, I.len]
    rfl
end
/-! ### what is handed in, called -/
section
variable {X : Cx} {pins : List (Addr × Obj)} {σ : L2.St} {H : Hp} {s : Shared}
end
/-! ### the def that gets it -/
section
variable {P : Program} {w : World} {K : PySem.W.Frag} {mg : Str → Option Value} {base : Heap}
end
/-! ### x(e1, e2, e3, e4, lambda p: body) -/
section
variable {X : Cx}
end
end DL

namespace DL
open PySem PySem.Spec PyProof.Rows L2
/-! ### xs.count(x) of texts and of ints -/
section
variable {X : Cx}
end
section
variable {X : Cx}
end
/-! ### laws with two tables, none their own -/
end DL

namespace DL
open PySem PySem.Spec PyProof.Rows L2
/-! ### tuples of trees and cells -/
def elT : D ⊕ Nat → T
  | .inl d => .d d
  | .inr k => .cel k
theorem elT_l (x : D) : elT (.inl x) = .d x := rfl
theorem elT_r (k : Nat) : elT (.inr k) = .cel k := rfl
section
variable {K : PySem.W.Frag} {m : List Addr} {G : Hp}
theorem RepE.tl : ∀ {es : List (D ⊕ Nat)} {vs : List V}, RepE K m G es vs → RepTL K m G (es.map elT) vs
  | [], vs, h => h
  | .inl d :: es, vs, ⟨v, r, e, h, hr⟩ => ⟨v, r, e, h, RepE.tl hr⟩
  | .inr k :: es, vs, ⟨a, r, e, h, hr⟩ => ⟨.ref a, r, e, ⟨a, h, rfl⟩, RepE.tl hr⟩
theorem RepE.length {es : List (D ⊕ Nat)} {vs : List V} (h : RepE K m G es vs) : vs.length = es.length := by
  have := (RepE.tl h).length
  rwa [List.length_map] at this
end
section
variable {X : Cx} {es : List Expr} {pos : Pos}
end
end DL

namespace DL
open PySem L2 PySem.Spec PyProof.Rows PySem.W
/-! ### x <= y of data -/
section
variable {X : Cx}
end
/-! ### len(set(l)), l a list of texts -/
section
variable {X : Cx} {e : Expr} {p0 p pos pos2 : Pos}
end
end DL

namespace DL
open PySem L2
/-! ### xs.index(y), texts and None -/
section
variable {K : PySem.W.Frag} {m : List Addr} {G : Hp}
end
section
variable {X : Cx}
end
end DL

/-! Lambdas in a list, handed one after another to a def by a comprehension. -/
namespace DL
open PySem PySem.Spec PyProof.Rows L2
/-! ### the lambda is made; it is new -/
section
variable {X : Cx} {pins : List (Addr × Obj)} {σ : L2.St} {H : Hp} {s : Shared}
/-! ### a lambda that lies in a list -/
end
/-! ### each handed to the def -/
section
variable {X : Cx}
/-- a name read: nothing changes -/
theorem name_at {pins : List (Addr × Obj)} {σ : L2.St} {H : Hp} {s : Shared} {i : Nat} {x : Str} {a : Addr} {pos : Pos} {Q : Value → Shared → Prop} (I : Inv X pins σ H s) (hN : X.N[i]? = some x) (hv : Vis X.env.scope x) (hd : (x == ("__debug__" : Str)) = false) (hcd : (x == ("__classdict__" : Str)) = false)
    (hσ : σ[i]? = some (some (.ref a))) (k : ∀ s', Inv X pins σ H s' → Q (.ref a) s') : wpAny (model X.prog X.w) X.A (eval (.Name x pos) X.env) Q X.xe s := by
  refine thn ((pe_var (pos := pos) (i := i) hN hv hd hcd).run pins s σ H (fun v H1 => v = .ref a ∧ H1 = H) I ⟨.ref a, hσ, rfl, rfl⟩) fun u s1 ⟨v, H1, I1, r1, e1, e2⟩ => ?_
  subst e1 e2
  obtain rfl : u = Value.ref a := r1
  exact k s1 I1
end
end DL

/-! A def that puts lambdas into a list, one after another, and hands each to a def at its end. -/
namespace DL
open PySem PySem.Spec PyProof.Rows L2
section
variable {X : Cx} {pins : List (Addr × Obj)} {σ : L2.St} {H : Hp} {s : Shared} {sl : Sl} {ce : Ce} {G : Hp} {m : List Addr}
end
/-! ### the statements -/
section
variable {X : Cx}
end
end DL

/-! Lambdas, plain or with one parameter that has a default; what is known of one that lies somewhere. -/
namespace DL
open PySem PySem.Spec PyProof.Rows L2
/-- the body's slots: the maker's, and the parameter with its default 0 -/
noncomputable def mDfl (mb : M) : M := fun sl ce => mb (sl ++ [some (.d (.int 0))]) ce
theorem mDfl_ap (mb : M) (sl : Sl) (ce : Ce) : mDfl mb sl ce = mb (sl ++ [some (.d (.int 0))]) ce := rfl
theorem rel_snoc {K : PySem.W.Frag} {w : World} {σ : L2.St} {H : Hp} {sl : Sl} {ce : Ce} {G : Hp} {m : List Addr} {t : T} {v : V} (R : Rel K w σ H sl ce G m) (r : RepT K m G t v) : Rel K w (σ ++ [some v]) H (sl ++ [some t]) ce G m :=
  { R.toRelS with
    sln := by rw [List.length_append, List.length_append, R.sln]; rfl
    sls := fun i d e => by
      by_cases hi : i < sl.length
      · rw [List.getElem?_append_left hi] at e
        obtain ⟨v', e1, e2⟩ := R.sls i d e
        exact ⟨v', by rw [List.getElem?_append_left (by rw [R.sln]; exact hi)]; exact e1, e2⟩
      · rw [List.getElem?_append_right (by omega)] at e
        have hl : i - sl.length = 0 := by
          have := (List.getElem?_eq_some_iff.mp e).1
          simp at this
          omega
        rw [hl] at e
        cases e
        refine ⟨v, ?_, r⟩
        rw [List.getElem?_append_right (by rw [R.sln]; omega), R.sln, hl]
        rfl }
/-! ### what a lambda does, wherever it is called from -/
def LamAct (X : Cx) (pins : List (Addr × Obj)) (q : Str) (kb : Nat) (f c' : Addr) (mb : M) : Prop :=
  ∀ {σ : L2.St} {H : Hp} {s : Shared}, Inv X pins σ H s → ∀ (Eg : XK) (Ng : List Str) (qg : Str) (sg : Scope) (g : Addr) (cdg : Value) (a : Str) (pn : List (Addr × Obj)) (xe : Value → Shared → Prop) (W : WX) (E : XK) (p1 p2 : Pos),
    Takes ((cxOf (L2.CX X.prog X.w) X.prog X.w X.K X.mg X.base Ng qg sg g cdg X.A X.stack s H Eg).tr pn xe) W → (∀ cls d σ' H', E cls d H' → W cls d σ' H') → Room (kb + 1) (X.A.deeper (envOfC qg sg s.heap.objs.size g cdg)) → Ng[0]? = some a → Vis sg a → (a == ("__debug__" : Str)) = false → (a == ("__classdict__" : Str)) = false →
    PE ((cxOf (L2.CX X.prog X.w) X.prog X.w X.K X.mg X.base Ng qg sg g cdg X.A X.stack s H Eg).tr pn xe) (.Call (.Name a p1) [] [] p2) (fun σZ HZ Q => σZ[0]? = some (some (.ref f)) ∧ HZ c' = some (LamX.CodeO c' q) ∧ canE X.K X.w (wV mb) (fun cls d _ H => E cls d H) σ HZ Q)
structure LamOk (X : Cx) (pins : List (Addr × Obj)) (q : Str) (G : Hp) (kb : Nat) (f : Addr) (mb : M) : Prop where
  ex : ∃ c' : Addr, G c' = some (LamX.CodeO c' q) ∧ LamAct X pins q kb f c' mb
section
variable {X : Cx} {pins : List (Addr × Obj)} {σ : L2.St} {H : Hp} {s : Shared}
theorem lamAct_dfl {params : Arguments} {body : Expr} {scope : Scope} {f c' t0 : Addr} {pm doc ctv u0 : Value} {tk0 : Tok} {p : Str} {kb : Nat} {mb : M} (hu0 : u0 = .int 0 tk0) (hin : (f, PySem.W.kdv_obj "<lambda>" (X.env.qual ++ "<lambda>") params (.expr body) scope (cloFrom X.env.cells scope.names []) (.ref t0) doc pm c' ctv) ∈ X.pn ++ pins) (hin0 : (t0, PySem.W.kdv_tup [u0]) ∈ X.pn ++ pins)
    (L : LamSP p X.env.scope scope) (hpn : p ∉ X.N)
    (hbind : ∀ (s : Shared) (q : Str) (cl : List (Str × Addr)) (t0 : Addr) (doc pm cv ctv u : Value), s.heap.get? t0 = some (PySem.W.kdv_tup [u]) → BindsTo s (PySem.W.kdv_fn "<lambda>" q params (.expr body) scope cl (.ref t0) doc pm cv ctv) ⟨[], []⟩ [(p, u)])
    (hb : ∀ (A : Around) (outer : List Env) (s : Shared) (H : Hp) (E : XK) (f c' : Addr), Room kb (A.deeper (LamX.lamEnv X scope s.heap.objs.size f c')) → EM (lamCxP p X A outer s H E scope f c') body mb) : LamAct X pins (X.env.qual ++ "<lambda>") kb f c' (mDfl mb) := by
  intro σ H s J Eg Ng qg sg g cdg a pn xe W E p1 p2 tk hW hr hN hv hd hcd
  obtain ⟨hfs, hfn, hfl, hff, _⟩ := J.pin _ hin
  obtain ⟨hts, htn, htl, htf, _⟩ := J.pin _ hin0
  have hfr : f ∉ frs X.stack := fun z => (List.mem_cons.mp (J.stkSub _ z)).elim hfl hff
  have htr : t0 ∉ frs X.stack := fun z => (List.mem_cons.mp (J.stkSub _ z)).elim htl htf
  refine ⟨fun pinsZ sZ σZ HZ Q IZ h => ?_⟩
  obtain ⟨hs, hc, ht⟩ := h
  refine wpAny_Call_Name_kw (name_at IZ hN hv hd hcd hs fun s1 I1 => ?_)
  have of1 := I1.base.keep f _ hfs hfn hfr (fun z => nomatch (show f ∈ ([] : List Addr) from z))
  have ot1 := I1.base.keep t0 _ hts htn htr (fun z => nomatch (show t0 ∈ ([] : List Addr) from z))
  refine PySem.W.callWith_F0 ⟨_, _, _, _, of1⟩ ?_
  have un : Un (frs X.stack) [] H HZ s.heap s1.heap := I1.base
  obtain ⟨⟨oc, vs, t, hoc, hdc, hvc⟩, _, _⟩ := I1.hok c' _ hc
  have rc : codeAny (model X.prog X.w) (X.A.deeper (envOfC qg sg s.heap.objs.size g cdg)) (.call (.ref f) ⟨[], []⟩) (CR (L2.CX X.prog X.w) (envOfC qg sg s.heap.objs.size g cdg :: X.stack) X.prog X.w HZ s1 Q E) s1 := by
    refine PySem.W.kla_callFunE hr.depth of1 rfl L.co L.gen rfl ⟨c', oc, vs, t, rfl, hoc, hdc, hvc⟩ ?_
    refine hbind s1 _ _ t0 _ _ _ _ u0 ot1 _ _ _ _ ?_
    refine wpAny_newFunctionEnv L.cel (fun y hy => ?_) (fun h₁ hns hsb => ⟨I1.nolimit.fresh _ hsb, ?_⟩) L.kind
    · rw [List.mem_singleton.mp hy]
      exact L.par
    show codeAny _ _ (.expr body (LamX.lamEnv X scope s1.heap.objs.size f c')) _ _
    have kp : ∀ b o, s1.heap.get? b = some o → h₁.get? b = some o := fun b o e => hsb.extBut b o (Nat.ne_of_lt (Heap.lt_size e)) (Heap.get?_push_of_some _ e)
    have I2 : Inv (lamCxP p X (X.A.deeper (envOfC qg sg s.heap.objs.size g cdg)) (envOfC qg sg s.heap.objs.size g cdg :: X.stack) s1 HZ E scope f c') [] (σ ++ [some (.int 0)]) HZ { s1 with heap := h₁, toks := s1.toks + ([(p, u0)] : List (Str × Value)).length } :=
      lam_startP hpn J L I1.env0 hr.hd un hns kp (by rw [hu0]; exact ⟨_, rfl⟩)
    obtain ⟨sl, ce, G, m, Qd, Ed, Rl, w, hh, kk⟩ := ht
    refine PySem.W.kla_codeExpr (wpAny_mono (((hb _ _ s1 HZ E f c' (hr.deeper _)).de.can (W := fun cls d _ H => E cls d H) (takes_of rfl rfl rfl rfl)).run [] _ _ HZ Q I2 ⟨(sl ++ [some (T.d (D.int 0))] : Sl), ce, G, m, Qd, fun x _ ce' => Ed x sl ce', rel_snoc (K := X.K) (w := X.w) (t := T.d (D.int 0)) (v := V.int 0) Rl rfl, ?_, hh, ?_⟩) (fun v s' hq => ?_) fun e s' hq => hq)
    · exact fun cls dd σ' H' x sl' ce' G' m' R' s' rx hx => w cls dd σ H' x sl ce' G' m' (Rl.step s' R'.toRelS) s' rx hx
    · exact fun d' ce' G' m' v' H' R' s' r' q' => kk d' ce' G' m' v' H' (Rl.step s' R'.toRelS) s' r' q'
    · obtain ⟨w', H', J', rv', q'⟩ := hq
      exact ⟨w', H', J'.os, J'.bare, J'.base, J'.hok, rv', q'⟩
  have hx : Passes (L2.CX X.prog X.w) ((cxOf (L2.CX X.prog X.w) X.prog X.w X.K X.mg X.base Ng qg sg g cdg X.A X.stack s H Eg).tr pn xe) E := passes_call tk hW
  refine wpAny_call (codeAny_mono rc fun r s' hq => ?_)
  cases r with
  | error e => exact hx pinsZ σZ HZ s1 e s' I1 hq
  | ok fl =>
    cases fl with
    | ret u => exact I1.after hq
    | next => exact False.elim hq
    | brk => exact False.elim hq
    | cont => exact False.elim hq
/-! ### an expression that makes a lambda -/
structure LamMk (X : Cx) (j : Nat) (P : Addr) (q : Str) (kb : Nat) (e : Expr) (mb : M) : Prop where
  run : ∀ {pins : List (Addr × Obj)} {σ : L2.St} {H : Hp} {s : Shared} {sl : Sl} {ce : Ce} {G : Hp} {m : List Addr} {E Q : Value → Shared → Prop}, Inv X pins σ H s → Rel X.K X.w σ H sl ce G m → ce[j]? = some (.tab P q) →
    (∀ (f : Addr) (pins' : List (Addr × Obj)) (H1 : Hp) (s' : Shared) (G1 : Hp), (∀ p ∈ pins, p ∈ pins') → Inv X pins' σ H1 s' → Rel X.K X.w σ H1 sl ce G1 m → Stp H m G H1 m G1 → LamOk X pins' q G1 kb f mb → Q (.ref f) s') →
    wpAny (model X.prog X.w) X.A (eval e X.env) Q E s
/-- the end of the making -/
theorem lam_tail {c P : Addr} {ps : Array Value} {dV : Value} {params : Arguments} {body : Expr} {scope : Scope} {pos : Pos} {ln : Nat} {E Q : Value → Shared → Prop} (I : Inv X pins σ H s) (B : LamX.TabB X.base X.mg c P) (hcode : X.env.code = .ref c)
    (hP : H P = some (.tbl ps)) (ht : TriplesOk ps.toList) (ha : ∀ (pos : Pos) (cv : Value), codeAmong pos ps.toList = some cv → ∃ c, cv = .ref c ∧ H c = some (LamX.CodeO c (X.env.qual ++ "<lambda>")))
    (hfree : ∀ y ∈ scope.names, y.2 = .free → ∃ c, X.env.cells.lookup y.1 = some c)
    (h : ∀ (f c' : Addr) (pm doc ctv : Value) (H1 : Hp) (s' : Shared), Inv X pins σ H1 s' → MadeAt pos H P c' (X.env.qual ++ "<lambda>") ps H1 →
      s'.heap.get? f = some (PySem.W.kdv_obj "<lambda>" (X.env.qual ++ "<lambda>") params (.expr body) scope (cloFrom X.env.cells scope.names []) dV doc pm c' ctv) → H1 f = none → s.heap.objs.size ≤ f → H1 c' = some (LamX.CodeO c' (X.env.qual ++ "<lambda>")) → Q (.ref f) s') :
    wpAny (model X.prog X.w) X.A (makeTail "<lambda>" (X.env.qual ++ "<lambda>") params (.expr body) scope X.env dV .none none pos ln) Q E s := by
  have hPs : s.heap.get? P = some { cls := .none, data := .fields ps } := I.hok P _ hP
  cases hc : codeAmong pos ps.toList with
  | some cv =>
    obtain ⟨c', rfl, hco⟩ := ha pos cv hc
    refine PySem.W.kdv_makeTailHit (mg := X.mg) (c := c) (P := P) (ps := ps) (closure_ok hfree) I.ok.glob (I.mod.glob.keeps I.bk) hcode (B.code.keeps I.bk) hPs ht hc (B.bm.keeps I.bk) fun ctv doc h' tk hx hsz => ?_
    exact h _ c' _ doc ctv H _ (I.kept fun b o e => Heap.get?_push_of_some _ (hx b o e)) ⟨.inl rfl, ps, hP, ht, hc⟩ (Heap.get?_push_size _ rfl) (I.hok.fresh hsz) hsz hco
  | none =>
    refine PySem.W.kdv_makeTail (mg := X.mg) (c := c) (P := P) (ps := ps) (closure_ok hfree) I.ok.glob (I.mod.glob.keeps I.bk) hcode (B.code.keeps I.bk) hPs ht hc B.gP (B.bm.keeps I.bk) fun c' ctv doc h' tk hx hge hlt hrec htb => ?_
    obtain ⟨_, oc, vs, t, e2, hoc, hd, hv⟩ := hrec
    cases e2
    have hsz : s.heap.objs.size ≤ h'.objs.size := by omega
    have hc0 : H c' = none := I.hok.fresh hge
    have hnP : h'.objs.size ≠ P := Nat.ne_of_gt (Nat.lt_of_lt_of_le (Heap.lt_size hPs) hsz)
    have hnc : h'.objs.size ≠ c' := Nat.ne_of_gt hlt
    have hPc : P ≠ c' := fun z => by rw [z, hc0] at hP; cases hP
    have hl : (ps ++ #[rawInt pos.line, rawInt pos.col, Value.ref c']).toList = ps.toList ++ [rawInt pos.line, rawInt pos.col, .ref c'] := by simp
    have J := LamX.inv_table (t' := tk) (more := #[rawInt pos.line, rawInt pos.col, .ref c']) (h' := h'.push (PySem.W.kdv_obj "<lambda>" (X.env.qual ++ "<lambda>") params (.expr body) scope (cloFrom X.env.cells scope.names []) dV doc ((X.mg "__name__").getD .none) c' ctv)) I hP
      (fun b o hb e => Heap.get?_push_of_some _ (hx b o hb e)) (Heap.get?_push_of_some _ htb) hge ⟨oc, vs, t, Heap.get?_push_of_some _ hoc, hd, hv⟩
    have hT : TriplesOk (ps ++ #[rawInt pos.line, rawInt pos.col, Value.ref c']).toList := by
      rw [hl]
      exact PySem.TriplesOk_snoc _ _ _ _ ht
    refine h _ c' _ doc ctv _ _ J ⟨.inr ⟨_, hc0, rfl, hT, fun p cv e => ?_⟩, _, by rw [upd_ne hPc, upd_same], hT, by rw [hl]; exact among_here _ ht hc⟩ (Heap.get?_push_size _ rfl) (by rw [upd_ne hnc, upd_ne hnP]; exact I.hok.fresh hsz) hsz upd_same
    rw [hl] at e
    exact LamX.among_app _ ht e
/-- the code object, frozen -/
theorem made_code {q : Str} {P c' : Addr} {j : Nat} {ps : Array Value} {pos : Pos} {H1 G1 : Hp} {ce : Ce} {m : List Addr} (R1 : RelS X.K X.w H1 ce G1 m) (hj : ce[j]? = some (.tab P q)) (md : MadeAt pos H P c' q ps H1) : G1 c' = some (LamX.CodeO c' q) := by
  obtain ⟨ps1, hP1, ht1, ha1, _⟩ := R1.made hj
  obtain ⟨_, ps2, hP2, ht2, hc2⟩ := md
  rw [hP1] at hP2
  have e : ps1 = ps2 := by
    have z := Option.some.inj hP2
    injection z
  subst e
  obtain ⟨c, e1, e2⟩ := ha1 _ _ hc2
  cases e1
  exact e2
theorem lamMk_dfl {p q : Str} {c P : Addr} {j kb : Nat} {mb : M} {params : Arguments} {body : Expr} {scope : Scope} {pos cpos : Pos} {jj : Nat} (TB : LamX.TabB X.base X.mg c P) (hcode : X.env.code = .ref c)
    (hb : ∀ (A : Around) (outer : List Env) (s : Shared) (H : Hp) (E : XK) (f c' : Addr), Room kb (A.deeper (LamX.lamEnv X scope s.heap.objs.size f c')) → EM (lamCxP p X A outer s H E scope f c') body mb)
    (hdf : params.defaults = [.Constant (.int 0) jj cpos] := by rfl) (hk0 : params.kw_defaults = [] := by rfl) (hl : lamSPB p X.env.scope scope = true := by rfl) (hpn : X.N.contains p = false := by rfl)
    (hbind : ∀ (s : Shared) (q : Str) (cl : List (Str × Addr)) (t0 : Addr) (doc pm cv ctv u : Value), s.heap.get? t0 = some (PySem.W.kdv_tup [u]) → BindsTo s (PySem.W.kdv_fn "<lambda>" q params (.expr body) scope cl (.ref t0) doc pm cv ctv) ⟨[], []⟩ [(p, u)] := by intro _ _ _ _ _ _ _ _ _ h; exact BindsTo.of_defaults rfl h rfl rfl rfl)
    (hq : X.env.qual ++ "<lambda>" = q := by rfl) : LamMk X j P q kb (.Lambda params body scope pos) (mDfl mb) := by
  subst hq
  refine ⟨?_⟩
  intro pins σ H s sl ce G m E Q I Rl hj k
  obtain ⟨ps, hP, ht, ha, mk⟩ := Rl.toRelS.made hj
  have L := lamSP_by hl
  have hpn' : p ∉ X.N := fun z => by
    have := List.contains_iff_mem.mpr z
    rw [hpn] at this
    cases this
  have ha' : ∀ (pos : Pos) (cv : Value), codeAmong pos ps.toList = some cv → ∃ c, cv = .ref c ∧ H c = some (LamX.CodeO c (X.env.qual ++ "<lambda>")) := fun pos cv z => by
    obtain ⟨c, e1, e2⟩ := ha pos cv z
    refine ⟨c, e1, ?_⟩
    rcases Rl.gh _ _ e2 with y | ⟨⟨_, y⟩, _⟩
    · exact y
    · exact nomatch (show HO.ext _ = HO.dK _ from y)
  refine PySem.W.kdv_lam (by rw [hdf]; rfl) hk0 ?_
  rw [hdf]
  refine PySem.W.kdv_all1 (wpAny_Constant_int (PySem.W.kdv_all0 ?_))
  have I0 : Inv X pins σ H { s with toks := s.toks + 1 } := I.tok _
  rw [makeFunction_eq]
  simp only [List.zip_nil_right, List.filterMap_nil, List.isEmpty_nil, List.isEmpty_cons, Bool.false_eq_true, if_true, if_false, pure_bind]
  refine wpAny_bind (wpAny_newTextTuple ?_)
  generalize ht0 : ({ s with toks := s.toks + 1 } : Shared).heap.objs.size = t0
  have I1 : Inv X pins σ H { s with toks := s.toks + 1, heap := s.heap.push (PySem.W.kdv_tup [.int 0 s.toks]) } := I0.kept (t' := s.toks + 1) fun b o e => Heap.get?_push_of_some _ e
  have hg0 : (s.heap.push (PySem.W.kdv_tup [.int 0 s.toks])).get? t0 = some (PySem.W.kdv_tup [.int 0 s.toks]) := by
    rw [← ht0]
    exact Heap.get?_push_size _ rfl
  have hsz0 : s.heap.objs.size ≤ t0 := by rw [← ht0]; exact Nat.le_refl _
  have I2 : Inv X ((t0, PySem.W.kdv_tup [.int 0 s.toks]) :: pins) σ H { s with toks := s.toks + 1, heap := s.heap.push (PySem.W.kdv_tup [.int 0 s.toks]) } := I1.pins_of fun x hx => (List.mem_cons.mp hx).elim (fun e => by
    subst e
    exact ⟨hg0, I.hok.fresh hsz0, Nat.ne_of_gt (Nat.lt_of_lt_of_le I.lt hsz0), I.nofs hsz0, fun v z => nomatch z⟩) fun z => I1.pin x (List.mem_append_right _ z)
  refine lam_tail I2 TB hcode hP ht ha' (L.has I.ok) fun f c' pm doc ctv H1 s' I3 md hf hfn hsz hco => ?_
  obtain ⟨G1, R1, s1⟩ := mk c' H1 md.1 hco
  have hG := made_code R1 hj md
  have hsz' : s.heap.objs.size ≤ f := Nat.le_trans (by show s.heap.objs.size ≤ (s.heap.push _).objs.size; rw [Heap.size_push]; omega) hsz
  have I4 : Inv X ((f, PySem.W.kdv_obj "<lambda>" (X.env.qual ++ "<lambda>") params (.expr body) scope (cloFrom X.env.cells scope.names []) (.ref t0) doc pm c' ctv) :: (t0, PySem.W.kdv_tup [.int 0 s.toks]) :: pins) σ H1 s' := I3.pins_of fun x hx => (List.mem_cons.mp hx).elim (fun e => by
    subst e
    exact ⟨hf, hfn, Nat.ne_of_gt (Nat.lt_of_lt_of_le I.lt hsz'), I.nofs hsz', fun v z => nomatch z⟩) fun z => I3.pin x (List.mem_append_right _ z)
  exact k f _ H1 s' G1 (fun x hx => List.mem_cons_of_mem _ (List.mem_cons_of_mem _ hx)) I4 (Rl.step s1 R1) s1 ⟨c', hG, lamAct_dfl rfl (List.mem_append_right _ List.mem_cons_self) (List.mem_append_right _ (List.mem_cons_of_mem _ List.mem_cons_self)) L hpn' hbind hb⟩
end
/-! ### handed at once to a def -/
section
variable {X : Cx}
theorem em_lamcall2 {x q : Str} {g P : Addr} {j k kb : Nat} {F : (Ce → R T) → Ce → R T} {mb : M} {e : Expr} {p pos : Pos} (hL : LamFn X.prog X.w X.K X.mg X.base k g F) (hr : Room k X.A) (hr2 : Room (kb + 2) X.A) (hm : X.mg x = some (.ref g)) (hk : PySem.W.keepIn X.K (.ref g) = true)
    (hmk : LamMk X j P q kb e mb) (hs : starEach [e] X.env = (false, eval e X.env) :: starEach [] X.env := by rfl) (hg : Gl X x := by rfl) (hdb : (x == ("__debug__" : Str)) = false := by decide) : EM X (.Call (.Name x p) [e] [] pos) (mLam j P q F mb) := by
  refine ⟨⟨fun W => canE X.K X.w (wV (mLam j P q F mb)) W, fun W tk => ⟨fun pins s σ H Q I h => ?_⟩, fun W σ H sl ce G m Qd Ed Qv R w h k => ⟨sl, ce, G, m, Qd, Ed, R, w, h, k⟩⟩⟩
  obtain ⟨sl, ce, G, m, Qd, Ed, R, w, h, kk⟩ := h
  obtain ⟨hj, hF⟩ := mLam_wp h
  obtain ⟨a, Ng, qg, sg, cdg, hN0, hva, hd1, hd2, run⟩ := hL
  refine wpAny_Call_Name_kw (ld_glob I hg hm ?_ hdb)
  refine PySem.W.callWith_K (h₀ := X.base) I.ok.mod.kin hk ?_ hs (by rfl)
  rw [hs]
  show wpAny _ _ (spliced ((false, eval e X.env) :: backTo pos (starEach [] X.env))) _ _ s
  refine Calls.spliced_cons (hmk.run I R hj fun f pins' H1 s' G1 hsub I1 R1 s1 li => ?_)
  refine Calls.spliced_nil ⟨I1.kIn, ?_⟩
  obtain ⟨c', hG, act⟩ := li.ex
  have hco : H1 c' = some (LamX.CodeO c' q) := by
    rcases R1.gh _ _ hG with y | ⟨⟨_, y⟩, _⟩
    · exact y
    · exact nomatch (show HO.ext _ = HO.dK _ from y)
  have rc : codeAny (model X.prog X.w) X.A (.call (.ref g) ⟨[.ref f], []⟩) (CR (L2.CX X.prog X.w) X.stack X.prog X.w H1 s' Q (WE W σ)) s' :=
    run X.A X.stack s' H1 f c' q Q (WE W σ) (fun Ech HZ Q' => canE X.K X.w (wV mb) (fun cls d _ H => Ech cls d H) σ HZ Q') (fun ce' => mb sl ce') ce G1 m Qd (fun x ce' => Ed x sl ce') hr I1.env0 R1.toRelS hco
      (fun W' pn xe Ech p1 p2 tk' hW => act I1 (WE W σ) Ng qg sg g cdg a pn xe W' Ech p1 p2 tk' hW (hr2.deeper _) hN0 hva hd1 hd2)
      (fun Ech Q' Qw Ew hw hk he => ⟨sl, ce, G1, m, Qw, fun x _ ce' => Ew x ce', R1, fun cls dd σ' H' x sl' ce' G' m' R' s' rx h => he x ce' G' m' cls dd H' R'.toRelS s' rx h, hw, fun d ce' G' m' v H' R' s' r q => hk d ce' G' m' v H' R'.toRelS s' r q⟩)
      hF (fun d ce' G' m' v H' R' s2 r q => kk d ce' G' m' v H' (R1.step s2 R') (s1.trans s2) r q)
      (fun x ce' G' m' cls dd H' R' s2 rx h => w cls dd σ H' x sl ce' G' m' (R1.step s2 R') (s1.trans s2) rx h)
  refine wpAny_call (codeAny_mono rc fun r s2 hq => ?_)
  have fin : ∀ {u s2}, EP X pins' σ Q u s2 → EP X pins σ Q u s2 := fun {u s2} ⟨v, H', I', r, q⟩ => ⟨v, H', I'.pins_of fun p hp => I'.pin p (List.mem_append_right _ (hsub p hp)), r, q⟩
  cases r with
  | error e => exact passAt tk σ pins' H1 s' e s2 I1 hq
  | ok fl =>
    cases fl with
    | ret u => exact fin (I1.after hq)
    | next => exact False.elim hq
    | brk => exact False.elim hq
    | cont => exact False.elim hq
end
end DL

/-! try: return a() except C1 as n1: .. except C2: .., the whole body of a def that gets a. -/
namespace DL
open PySem PySem.Spec PyProof.Rows L2
/-- a clause: whose errors it takes, the slot of its name, its suite -/
abbrev ClM := (Value → Option Bool) × Option Nat × (Addr → Value → Option Addr → MS)
def setO (oi : Option Nat) (a : Addr) (d : Option Addr) (x : Exc) (sl : Sl) : Sl := match oi with
  | none => sl
  | some i => sl.set i (some (.d (excD a d x)))
def RS.unsetO (oi : Option Nat) (r : RS) : RS := match oi with
  | none => r.noEx
  | some i => r.unset i
noncomputable def goL (x : Exc) (sl : Sl) (ce : Ce) : List ClM → RS
  | [] => .ex x sl ce
  | c :: r => match c.1 x.cls with
    | some true => RS.any x fun a d => RS.unsetO c.2.1 (c.2.2 a x.cls d (setO c.2.1 a d x sl) ce)
    | some false => goL x sl ce r
    | none => .bad
noncomputable def fFail (n : Nat) (l : List ClM) (work : Ce → R T) : Ce → R T := fun ce => match work ce with
  | .ok t ce1 => retR ce t ce1
  | .ex x ce1 => (goL x (List.replicate n none) ce1 l).out ce
  | .bad => .bad
theorem fFail_ok {n : Nat} {l : List ClM} {work : Ce → R T} {ce ce1 : Ce} {t : T} (h : work ce = .ok t ce1) : fFail n l work ce = retR ce t ce1 := by
  unfold fFail
  rw [h]
theorem fFail_ex {n : Nat} {l : List ClM} {work : Ce → R T} {ce ce1 : Ce} {x : Exc} (h : work ce = .ex x ce1) : fFail n l work ce = (goL x (List.replicate n none) ce1 l).out ce := by
  unfold fFail
  rw [h]
theorem goL_yes {x : Exc} {sl : Sl} {ce : Ce} {exm : Value → Option Bool} {oi : Option Nat} {hd : Addr → Value → Option Addr → MS} {r : List ClM} (h : exm x.cls = some true) : goL x sl ce ((exm, oi, hd) :: r) = RS.any x fun a d => RS.unsetO oi (hd a x.cls d (setO oi a d x sl) ce) := by
  simp only [goL, h]
theorem goL_no {x : Exc} {sl : Sl} {ce : Ce} {exm : Value → Option Bool} {oi : Option Nat} {hd : Addr → Value → Option Addr → MS} {r : List ClM} (h : exm x.cls = some false) : goL x sl ce ((exm, oi, hd) :: r) = goL x sl ce r := by
  simp only [goL, h]
inductive ClsM (X : Cx) : List ExceptHandler → List ClM → Prop
  | nil : ClsM X [] []
  | cons {x : Str} {c : Value} {oi : Option Nat} {on : Option Str} {exm : Value → Option Bool} {hd : Addr → Value → Option Addr → MS} {b₀ : Stmt} {suite : List Stmt} {np pos' : Pos} {hds : List ExceptHandler} {l : List ClM} (hc : Names X x c) (hx : ∀ cls b, exm cls = some b → PySem.W.exmOne X.K cls c = some b)
      (ho : (oi = none ∧ on = none) ∨ ∃ i n, oi = some i ∧ on = some n ∧ X.N[i]? = some n ∧ X.env.kindOf n = some .local)
      (hsu : ∀ (a : Addr) (oe : Obj) (cls : Value) (d : Option Addr) (pn : List (Addr × Obj)), Zc cls d oe → (∃ vs, oe.data = .fields vs) → SsM (X.suite a ((a, oe) :: pn)) (b₀ :: suite) (hd a cls d)) (r : ClsM X hds l) :
      ClsM X (.ExceptHandler (some (.Name x np)) on (b₀ :: suite) pos' :: hds) ((exm, oi, hd) :: l)
theorem RS.noEx_wp {r : RS} {N : DEnds} (h : r.noEx.wp N) : r.wp { N with ex := E0D } := by
  cases r with
  | nx _ _ => exact h
  | rt _ _ => exact h
  | ex _ _ _ => exact h.elim
  | bk _ _ => exact h
  | ct _ _ => exact h
  | bad => exact h
theorem clsM_run {X : Cx} {K : PySem.W.Frag} {w : World} (eK : X.K = K) (ew : X.w = w) {hds : List ExceptHandler} {l : List ClM} (h : ClsM X hds l) : ∃ lz : List ClZ, ClsOk X hds lz ∧
    ∀ {H : Hp} {m : List Addr} {G : Hp} {N0 : DEnds} {D0 : Ends} {W0 : WX} {x : Exc} {ce' : Ce} {G' : Hp} {m' : List Addr} {cls : Value} {dd : Option Addr} {σ' : L2.St} {H' : Hp}, Cv K w H m G N0 D0 → (∀ sl', N0.ex x sl' ce' → W0 cls dd σ' H') → RelS K w H' ce' G' m' → Stp H m G H' m' G' → RepX K G' cls dd x →
      (goL x (List.replicate X.N.length none) ce' l).wp N0 → wCls K W0 D0 lz cls dd σ' H' := by
  subst eK ew
  induction h with
  | nil => exact ⟨[], .nil, fun cv hw R s rx hg => hw _ hg⟩
  | @cons xn c oi on exm hd b₀ suite np pos' hds l hc hx ho hsu r ih =>
    obtain ⟨lz, ok, run⟩ := ih
    refine ⟨(c, oi, fun a cls d D σ H => σ.length = X.N.length → canS X.K X.w (wS (hd a cls d)) WF D σ H) :: lz, .cons hc ho (fun a oe cls d pn hz hf => ⟨fun pins s' σZ HZ D I h => ((hsu a oe cls d pn hz hf).dss.can takesF).run pins s' σZ HZ D I (h I.len)⟩) ok, ?_⟩
    intro H m G N0 D0 W0 x ce' G' m' cls dd σ' H' cv hw R s rx hg
    have ec : x.cls = cls := rx.1
    cases e : exm x.cls with
    | none =>
      simp only [goL, e] at hg
      exact hg.elim
    | some b =>
      refine ⟨b, hx cls b (by rw [← ec]; exact e), fun hb a hna hlen => ?_, fun hb => ?_⟩
      · subst hb
        rw [goL_yes e] at hg
        have hn : dd = none → x.fs = [] := fun q => by
          have := rx.2
          rw [q] at this
          exact this
        have hl : σ'.length = X.N.length := by
          cases oi with
          | none => exact hlen
          | some i => simpa [clzS] using hlen
        have h3 := RS.wp_any hg a dd hn
        rw [ec] at h3
        cases oi with
        | none =>
          have h4 := RS.noEx_wp (show ((hd a cls dd (List.replicate X.N.length none) ce').noEx).wp N0 from h3)
          exact ⟨_, ce', G', m', _, rel_none R hl, wishF, h4, ⟨fun σ4 H4 sl4 ce4 G4 m4 R4 s4 h4 => cv.nx σ4 H4 sl4 ce4 G4 m4 R4 (s.trans s4) h4, fun t v H4 ce4 G4 m4 R4 s4 r4 h4 => cv.rt t v H4 ce4 G4 m4 R4 (s.trans s4) r4 h4,
            fun σ4 H4 sl4 ce4 G4 m4 R4 s4 h4 => cv.bk σ4 H4 sl4 ce4 G4 m4 R4 (s.trans s4) h4, fun σ4 H4 sl4 ce4 G4 m4 R4 s4 h4 => cv.ct σ4 H4 sl4 ce4 G4 m4 R4 (s.trans s4) h4⟩⟩
        | some i =>
          have h4 := unset_wp (show ((hd a cls dd ((List.replicate X.N.length none).set i (some (.d (excD a dd x)))) ce').unset i).wp N0 from h3)
          exact ⟨_, ce', G', m', _, (rel_none R hl).set i (t := .d (excD a dd x)) (v := .ref a) (excD_rep rx), wishF, h4, ⟨fun σ4 H4 sl4 ce4 G4 m4 R4 s4 h4 => cv.nx _ H4 _ ce4 G4 m4 (R4.unset i) (s.trans s4) h4, fun t v H4 ce4 G4 m4 R4 s4 r4 h4 => cv.rt t v H4 ce4 G4 m4 R4 (s.trans s4) r4 h4,
            fun σ4 H4 sl4 ce4 G4 m4 R4 s4 h4 => cv.bk _ H4 _ ce4 G4 m4 (R4.unset i) (s.trans s4) h4, fun σ4 H4 sl4 ce4 G4 m4 R4 s4 h4 => cv.ct _ H4 _ ce4 G4 m4 (R4.unset i) (s.trans s4) h4⟩⟩
      · subst hb
        rw [goL_no e] at hg
        exact run cv hw R s rx hg
structure LamC (X : Cx) (sts : List Stmt) (a : Str) (l : List ClM) : Prop where
  ex : ∃ (p1 p2 p3 pos : Pos) (h₀ : ExceptHandler) (hds : List ExceptHandler), sts = [.Try [.Return (some (.Call (.Name a p1) [] [] p2)) p3] (h₀ :: hds) [] [] pos] ∧ ClsM X (h₀ :: hds) l
theorem lamC_try {X : Cx} {a : Str} {l : List ClM} {p1 p2 p3 pos : Pos} {h₀ : ExceptHandler} {hds : List ExceptHandler} (h : ClsM X (h₀ :: hds) l) : LamC X [.Try [.Return (some (.Call (.Name a p1) [] [] p2)) p3] (h₀ :: hds) [] [] pos] a l := ⟨⟨p1, p2, p3, pos, h₀, hds, rfl, h⟩⟩
section
variable {P : Program} {w : World} {K : PySem.W.Frag} {mg : Str → Option Value} {base : Heap}
theorem lamFn_fail {x qual a : Str} {st : Stmt} {f : Addr} {fd : FuncData} {N : List Str} {k : Nat} {l : List ClM} (Fn : Fun K x qual st f fd) (S : FnScope N [a] (defScope st)) (hbn : Binds K fd [a] [])
    (hb : ∀ (cdv : Value) (A : Around) (outer : List Env) (s : Shared) (H : Hp) (E : XK), Room k (A.deeper (PyProof.Rows.envOfC qual (defScope st) s.heap.objs.size f cdv)) →
      PassesOwn (model P w) (cxOf (L2.CX P w) P w K mg base N qual (defScope st) f cdv A outer s H E).A (cxOf (L2.CX P w) P w K mg base N qual (defScope st) f cdv A outer s H E).env (cxOf (L2.CX P w) P w K mg base N qual (defScope st) f cdv A outer s H E).xe →
      LamC (cxOf (L2.CX P w) P w K mg base N qual (defScope st) f cdv A outer s H E) (defBody st) a l)
    (hN0 : N[0]? = some a := by rfl) (hva : Vis (defScope st) a := by first | exact Or.inl rfl | exact Or.inr (Or.inl rfl) | exact Or.inr (Or.inr rfl)) (hd1 : (a == ("__debug__" : Str)) = false := by decide) (hd2 : (a == ("__classdict__" : Str)) = false := by decide) :
    LamFn P w K mg base (k + 1) f (fFail N.length l) := by
  obtain ⟨oc, od, kV, doc, pm, an, cdv, ct, osl, rfl, lk, hcd⟩ := Fn.ex
  refine ⟨a, N, qual, defScope st, cdv, hN0, hva, hd1, hd2, fun A outer s H f' c' q Q E tl work ce G m Qd Ed hr e0 Rl hc' act sem hF kq ke => ?_⟩
  have KI : K.In s.heap := e0.mod.kin.keeps fun b o e => (e0.bs b o e).1
  refine LamX.run_ofS (CX := L2.CX P w) (N := N) (ps := [a]) (us := [.ref f']) (vs := [.ref f']) lk hcd S hr e0 (hbn s [.ref f'] KI rfl) (.cons rfl .nil) rfl fun hr' => ?_
  obtain ⟨p1, p2, p3, pos, h₀, hds, ebd, hcl⟩ := (hb cdv A outer s H E hr' (passes_of rfl)).ex
  rw [ebd]
  obtain ⟨lz, ok, crun⟩ := clsM_run (K := K) (w := w) rfl rfl hcl
  have tk0 : Takes (cxOf (L2.CX P w) P w K mg base N qual (defScope st) f cdv A outer s H E) (fun cls d _ H => E cls d H) := takes_of rfl rfl rfl rfl
  have slen : (L2.start N [V.ref f']).length = N.length := by
    have h0 : 0 < N.length := by
      cases N with
      | nil => cases hN0
      | cons _ _ => simp
    simp [L2.start]
    omega
  let N0 : DEnds := { nx := fun _ ce' => (retR ce (.d .non) ce').wp Qd Ed, rt := fun t ce' => (retR ce t ce').wp Qd Ed, ex := fun x _ ce' => (retX ce x ce').wp Qd Ed }
  let D0 : Ends := { nx := fun _ H' => Q .non H', rt := Q }
  let W0 : WX := fun cls d _ H => E cls d H
  have hE0 : ∀ x ce' G' m' cls dd H', RelS K w H' ce' G' m' → Stp H m G H' m' G' → RepX K G' cls dd x → (retX ce x ce').wp Qd Ed → E cls dd H' := fun x ce' G' m' cls dd H' R' s' rx hx => by
    obtain ⟨ce0, e1, hE⟩ := R.wp_opt hx
    obtain ⟨R2, s2, hr2⟩ := ret_ok Rl R' s' e1
    exact ke x ce0 _ m cls dd H' R2 s2 (rx.mono Gall.gg) hE
  have hQ0 : ∀ t v H' ce' G' m', RelS K w H' ce' G' m' → Stp H m G H' m' G' → RepT K m' G' t v → (retR ce t ce').wp Qd Ed → Q v H' := fun t v H' ce' G' m' R' s' rt hx => by
    obtain ⟨ce0, e1, hx⟩ := R.wp_opt hx
    obtain ⟨t', e2, hQ⟩ := R.wp_opt hx
    obtain ⟨R2, s2, hr2⟩ := ret_ok Rl R' s' e1
    exact kq t' ce0 _ m v H' R2 s2 (hr2 t v t' rt e2) hQ
  have hCv : Cv K w H m G N0 D0 := by
    refine ⟨?_, ?_, ?_, ?_⟩
    · exact fun σ' H' sl' ce' G' m' R' s' hx => hQ0 (.d .non) .non H' ce' G' m' R'.toRelS s' rfl hx
    · exact fun t v H' ce' G' m' R' s' rt hx => hQ0 t v H' ce' G' m' R' s' rt hx
    · exact fun _ _ _ _ _ _ _ _ z => z.elim
    · exact fun _ _ _ _ _ _ _ _ z => z.elim
  have h2 : (work ce).wp (fun t ce' => (retR ce t ce').wp Qd Ed) (fun x ce' => (goL x (List.replicate N.length none) ce' l).wp N0) := by
    unfold fFail at hF
    cases e : work ce with
    | ok t ce' =>
      rw [e] at hF
      exact hF
    | ex y ce' =>
      rw [e] at hF
      exact out_wp hF
    | bad =>
      rw [e] at hF
      exact hF.elim
  refine ⟨_, pss_one (ps_cls (X := cxOf (L2.CX P w) P w K mg base N qual (defScope st) f cdv A outer s H E)
    (tb := fun (W' : WX) (D : Ends) σZ HZ => ∃ Ech : XK, (∀ cls d σ' H', Ech cls d H' → W' cls d σ' H') ∧ σZ[0]? = some (some (.ref f')) ∧ HZ c' = some (LamX.CodeO c' q) ∧ tl Ech HZ D.rt)
    rfl rfl S.nd tk0 (fun W' pn xe tk po => ?_) ok), ?_⟩
  · refine ⟨fun pins s' σZ HZ D I h => ?_⟩
    obtain ⟨Ech, hW, e1, e2, e3⟩ := h
    exact (pss_one (ps_ret (act W' pn xe Ech p1 p2 tk hW))).run pins s' σZ HZ D I ⟨e1, e2, e3⟩
  · refine ⟨fun cls dd H' => ∃ x ce' G' m', RelS K w H' ce' G' m' ∧ Stp H m G H' m' G' ∧ RepX K G' cls dd x ∧ (goL x (List.replicate N.length none) ce' l).wp N0, ?_, rfl, hc', sem _ _ _ _ h2 (fun d ce' G' m' v H' R' s' r hq => hQ0 d v H' ce' G' m' R' s' r hq) (fun x ce' G' m' cls dd H' R' s' rx hq => ⟨x, ce', G', m', R', s', rx, hq⟩)⟩
    rintro cls dd σ' H' ⟨y, ce', G', m', R', s', rx, hy⟩
    exact crun hCv (fun sl' hx => hE0 y ce' G' m' cls dd H' R' s' rx hx) R' s' rx hy
end
end DL

/-! Lambdas in a list in the middle of a def. -/
namespace DL
open PySem PySem.Spec PyProof.Rows L2
section
variable {X : Cx}
end
/-! ### the list grows -/
/-! ### several lambdas in a display -/
section
variable {X : Cx}
theorem gout {H H' : Hp} {m m' : List Addr} {G G' : Hp} {L : Addr} {o : HO} (st : Stp H m G H' m' G') (h1 : H L = some o) (h2 : L ∉ m) (h3 : G L = none) : L ∉ m' ∧ G' L = none := by
  refine ⟨fun q => (st.new L q).elim h2 fun z => by (rw [h1] at z; cases z), ?_⟩
  cases e : G' L with
  | none => rfl
  | some u =>
    rcases st.gnew L u e with z | z | z
    · rw [h3] at z; cases z
    · rw [h1] at z; cases z
    · exact absurd z h2
/-! ### each handed to the def, the answers compared -/
end
end DL

/-! d != {} whatever the dict holds. -/
namespace DL
open PySem PySem.Spec PyProof.Rows L2
section
variable {X : Cx}
end
end DL

namespace DL
open PySem PySem.Spec PyProof.Rows L2
/-! y = [.. for ..] while a list of lambdas grows -/
section
variable {X : Cx}
end
end DL

/-! try: body except C: suite else: more -/
namespace L2
open PySem PySem.Spec PyProof.Rows
section
variable {X : Cx} {body : List Stmt} {h₀ : ExceptHandler} {hds : List ExceptHandler} {l : List ClZ} {pos : Pos} {tb : WX → TS} {Wout : WX}
end
end L2
namespace DL
open PySem L2 PySem.Spec PyProof.Rows
section
variable {X : Cx} {us us' ue : US} {sa sb se : MS} {pos : Pos}
section
variable {exm : Value → Option Bool} {k : Exc → Sl → Ce → RS} {e : MS} {sl : Sl} {ce : Ce} {x : Exc}
end
end
end DL

namespace DL
open PySem L2 PySem.Spec PyProof.Rows
/-! ### o[i], p[j] = d, e: two items of dict cells, d and e data -/
def putDO (q iv : T) (d : D) (ce : Ce) : Option Ce := match q with
  | .cel k => (keyT iv).bind fun kk => ((ce[k]?).bind dicC).bind fun kvs => if kvs.length < 16777216 then some (ce.set k (.dic (putA kvs kk (.d d)))) else none
  | _ => none
theorem putDO_cel (k : Nat) (iv : T) (d : D) (ce : Ce) : putDO (.cel k) iv d ce = (keyT iv).bind fun kk => ((ce[k]?).bind dicC).bind fun kvs => if kvs.length < 16777216 then some (ce.set k (.dic (putA kvs kk (.d d)))) else none := rfl
theorem putDO_eq {q iv : T} {d : D} {ce ce' : Ce} (h : putDO q iv d ce = some ce') : ∃ k kk kvs, q = .cel k ∧ keyT iv = some kk ∧ ce[k]? = some (.dic kvs) ∧ kvs.length < 16777216 ∧ ce' = ce.set k (.dic (putA kvs kk (.d d))) := by
  unfold putDO at h
  split at h
  · next k =>
    obtain ⟨kk, e1, e2⟩ := opt_bind h
    obtain ⟨kvs, e3, e4⟩ := opt_bind e2
    obtain ⟨c, e5, e6⟩ := opt_bind e3
    have := dicC_some e6
    subst this
    split at e4
    · next hl =>
      cases e4
      exact ⟨k, kk, kvs, rfl, e1, e5, hl, rfl⟩
    · cases e4
  · cases h
noncomputable def sParD (o i o' i' : M) (u : MA) : MS := fun sl ce => (mTup u sl ce).st sl fun x ce1 => RS.opt (tup2 x) fun p => (o sl ce1).st sl fun q ce2 => (i sl ce2).st sl fun iv ce3 => RS.opt (putDO q iv p.1 ce3) fun ce4 => (o' sl ce4).st sl fun q' ce5 => (i' sl ce5).st sl fun iv' ce6 => RS.opt (putDO q' iv' p.2 ce6) fun ce7 => .nx sl ce7
theorem sParD_ap (o i o' i' : M) (u : MA) (sl : Sl) (ce : Ce) : sParD o i o' i' u sl ce = (mTup u sl ce).st sl fun x ce1 => RS.opt (tup2 x) fun p => (o sl ce1).st sl fun q ce2 => (i sl ce2).st sl fun iv ce3 => RS.opt (putDO q iv p.1 ce3) fun ce4 => (o' sl ce4).st sl fun q' ce5 => (i' sl ce5).st sl fun iv' ce6 => RS.opt (putDO q' iv' p.2 ce6) fun ce7 => .nx sl ce7 := rfl
section
variable {X : Cx} {a b a' b' : Expr} {es : List Expr} {mo mi mo' mi' : M} {mu : MA} {q1 q2 pt pt2 pos : Pos} {kt k2}
theorem sm_parD (ho : EM X a mo) (hi : EM X b mi) (ho' : EM X a' mo') (hi' : EM X b' mi') (he : AM X es mu) (hu : X.A.units + 1 < cLine) (hc : X.calm = true := by rfl)
    (hs : swapsWithSole [.Tuple [.Subscript a b q1, .Subscript a' b' q2] kt pt] (.Tuple es k2 pt2) pos.line X.env = pure false := by rfl)
    (hw : swappedStores [.Tuple [.Subscript a b q1, .Subscript a' b' q2] kt pt] (.Tuple es k2 pt2) X.env = pure none := by rfl)
    (h1 : (assignEach [.Tuple [.Subscript a b q1, .Subscript a' b' q2] kt pt] X.env).map (·.2) = [assign (.Tuple [.Subscript a b q1, .Subscript a' b' q2] kt pt) X.env] := by rfl)
    (hn : (assignEach [.Subscript a b q1, .Subscript a' b' q2] X.env).length = 2 := by rfl) (hst : (assignEach [.Subscript a b q1, .Subscript a' b' q2] X.env).findIdx? (·.1) = none := by rfl)
    (hg1 : (assignEach [.Subscript a b q1, .Subscript a' b' q2] X.env).map (·.2) = assign (.Subscript a b q1) X.env :: (assignEach [.Subscript a' b' q2] X.env).map (·.2) := by rfl)
    (hg2 : (assignEach [.Subscript a' b' q2] X.env).map (·.2) = assign (.Subscript a' b' q2) X.env :: (assignEach [] X.env).map (·.2) := by rfl)
    (ha1 : ∀ v, assign (.Subscript a b q1) X.env v = (do
      let ov ← holding [v] (eval a X.env)
      let iv ← holding [v, ov] (eval b X.env)
      standAt q1
      holding [v, ov, iv] (setItem ov iv v)
      release [v, ov, iv] []) := by intro _; rfl)
    (ha2 : ∀ v, assign (.Subscript a' b' q2) X.env v = (do
      let ov ← holding [v] (eval a' X.env)
      let iv ← holding [v, ov] (eval b' X.env)
      standAt q2
      holding [v, ov, iv] (setItem ov iv v)
      release [v, ov, iv] []) := by intro _; rfl) :
    SM X (.Assign [.Tuple [.Subscript a b q1, .Subscript a' b' q2] kt pt] (.Tuple es k2 pt2) pos) (sParD mo mi mo' mi' mu) := by
  obtain ⟨t, p, s⟩ := (em_tup (X := X) (x1 := k2) (pos := pt2) he).de.ex
  obtain ⟨t1, p1, s1⟩ := ho.de.ex
  obtain ⟨u1, r1, v1⟩ := hi.de.ex
  obtain ⟨t2, p2, s2⟩ := ho'.de.ex
  obtain ⟨u2, r2, v2⟩ := hi'.de.ex
  refine ⟨⟨_, fun W tk => ps_asg (p W tk) (pg_tup (n := 2) hc (pgs_cons (pg_sub (p1 W tk) (r1 W tk) (set_dict hu) ha1) (pgs_cons (pg_sub (p2 W tk) (r2 W tk) (set_dict hu) ha2) pgs_nil hg2) hg1) hn hst) hs hw h1, fun W σ H sl ce G m N D Rl w h cv => ?_⟩⟩
  unfold wS sParD at h
  rw [R.wp_st] at h
  refine s W σ H sl ce G m _ N.ex _ Rl w h fun x ce1 G1 m1 v H1 R1 sp1 rx hx => ?_
  obtain ⟨pr, e1, hx1⟩ := RS.wp_opt hx
  obtain rfl := tup2_eq e1
  obtain ⟨ad, vs, rfl, hq, rl⟩ := rx
  obtain ⟨w1, r', rfl, rv1, rr⟩ := rl
  obtain ⟨w2, r'', rfl, rv2, rr2⟩ := rr
  have rr2 : r'' = [] := rr2
  subst rr2
  refine ⟨ad, [w1, w2], rfl, R1.gh.rdT hq, rfl, w1, [w2], rfl, ?_⟩
  rw [R.wp_st] at hx1
  refine s1 W σ H1 sl ce1 G1 m1 _ N.ex _ R1 (w.step sp1) hx1 fun qo ce2 G2 m2 ov H2 R2 sp2 rq hx2 => ?_
  rw [R.wp_st] at hx2
  refine v1 W σ H2 sl ce2 G2 m2 _ N.ex _ R2 (w.step (sp1.trans sp2)) hx2 fun iv ce3 G3 m3 ivv H3 R3 sp3 ri hx3 => ?_
  obtain ⟨ce4, e2, hx4⟩ := RS.wp_opt hx3
  obtain ⟨k, kk, kvs, rfl, ek, hk, hl, rfl⟩ := putDO_eq e2
  obtain ⟨ak, hm, rfl⟩ := rq.mono sp3.pre sp3.gg
  obtain ⟨ws, hH, rk⟩ := R3.cel k ak _ hm hk
  have rt : RepT X.K m3 G3 (.d pr.1) w1 := (show RepT X.K m1 G1 (.d pr.1) w1 from rv1).mono (sp2.trans sp3).pre (sp2.trans sp3).gg
  obtain ⟨R4, s4⟩ := R3.toRelS.write (o := .dK (putK ws kk w1)) (c := .dic (putA kvs kk (.d pr.1))) hm (by rw [hk]; exact fun z => nomatch z) ⟨_, upd_same, tk_put rt rk⟩
  refine ⟨ak, _, rfl, .inl ⟨ws, kk, hH, keyT_ok ri ek, by rw [rk.length, sizeLine_eq]; exact hl, rfl⟩, ?_⟩
  have sp4 := ((sp1.trans sp2).trans sp3).trans s4
  refine ⟨w2, [], rfl, ?_⟩
  rw [R.wp_st] at hx4
  refine s2 W σ _ sl _ _ _ _ N.ex _ (R3.step s4 R4) (w.step sp4) hx4 fun qo' ce5 G5 m5 ov5 H5 R5 sp5 rq5 hx5 => ?_
  rw [R.wp_st] at hx5
  refine v2 W σ H5 sl ce5 G5 m5 _ N.ex _ R5 (w.step (sp4.trans sp5)) hx5 fun iv' ce6 G6 m6 ivv6 H6 R6 sp6 ri6 hx6 => ?_
  obtain ⟨ce7, e3, hx7⟩ := RS.wp_opt hx6
  obtain ⟨k6, kk6, kvs6, rfl, ek6, hk6, hl6, rfl⟩ := putDO_eq e3
  obtain ⟨ak6, hm6, rfl⟩ := rq5.mono sp6.pre sp6.gg
  obtain ⟨ws6, hH6, rk6⟩ := R6.cel k6 ak6 _ hm6 hk6
  have sp36 := (s4.trans sp5).trans sp6
  have rt6 : RepT X.K m6 G6 (.d pr.2) w2 := (show RepT X.K m1 G1 (.d pr.2) w2 from rv2).mono ((sp2.trans sp3).trans sp36).pre ((sp2.trans sp3).trans sp36).gg
  obtain ⟨R7, s7⟩ := R6.toRelS.write (o := .dK (putK ws6 kk6 w2)) (c := .dic (putA kvs6 kk6 (.d pr.2))) hm6 (by rw [hk6]; exact fun z => nomatch z) ⟨_, upd_same, tk_put rt6 rk6⟩
  refine ⟨ak6, _, rfl, .inl ⟨ws6, kk6, hH6, keyT_ok ri6 ek6, by rw [rk6.length, sizeLine_eq]; exact hl6, rfl⟩, ?_⟩
  exact ⟨rfl, cv.nx σ _ sl _ _ _ (R6.step s7 R7) (((sp4.trans sp5).trans sp6).trans s7) hx7⟩
end
end DL

namespace DL
open PySem L2
/-! ### C(x, d) that raises, d a dict cell that is read only: seen as data there -/
/-- dicts that were locked are so no longer -/
inductive Unl (H0 : Hp) : Hp → Hp → Prop where
  | refl (H : Hp) : Unl H0 H H
  | step {H H1 : Hp} (h : Unl H0 H H1) (a : Addr) (od : Obj) (u : HO) (e : H1 a = some (.frz od u)) (n : ∀ o' u', H0 a ≠ some (.frz o' u')) : Unl H0 H (upd H1 a u)
theorem Unl.none {H0 H H1 : Hp} (h : Unl H0 H H1) {a : Addr} (e : H a = .none) : H1 a = .none := by
  induction h with
  | refl => exact e
  | step _ b od u eb n ih =>
    rw [upd_ne (fun z => by rw [z, eb] at ih; cases ih)]
    exact ih
theorem Unl.inv {X : Cx} {pins : List (Addr × Obj)} {σ : St} {H H1 : Hp} {s : Shared} (h : Unl X.H_0 H H1) (I : Inv X pins σ H s) : Inv X pins σ H1 s := by
  induction h with
  | refl => exact I
  | step _ b od u eb n ih => exact ih.unlock eb n
theorem unl_list (H0 H1 H' : Hp) (n0 : ∀ a kvs, H1 a = some (.dK kvs) → ∀ o' u', H0 a ≠ some (.frz o' u')) : ∀ (m : List Addr), (∀ a ∈ m, ∃ o, H1 a = some o ∧ Kp H' a o) →
    ∃ H'', Unl H0 H' H'' ∧ (∀ a ∈ m, H'' a = H1 a) ∧ ∀ a, a ∉ m → H'' a = H' a
  | [], _ => ⟨H', .refl _, fun a h => absurd h (List.not_mem_nil), fun a _ => rfl⟩
  | b :: m, h => by
    obtain ⟨H2, u, h1, h2⟩ := unl_list H0 H1 H' n0 m fun a ha => h a (List.mem_cons_of_mem _ ha)
    by_cases hb : b ∈ m
    · refine ⟨H2, u, fun a ha => ?_, fun a ha => h2 a fun z => ha (List.mem_cons_of_mem _ z)⟩
      rcases List.mem_cons.mp ha with rfl | ha
      · exact h1 _ hb
      · exact h1 _ ha
    · obtain ⟨o, e1, k⟩ := h b (List.mem_cons_self ..)
      rcases k with k | ⟨kvs, od, rfl, k⟩
      · refine ⟨H2, u, fun a ha => ?_, fun a ha => h2 a fun z => ha (List.mem_cons_of_mem _ z)⟩
        rcases List.mem_cons.mp ha with rfl | ha
        · rw [h2 _ hb, k, e1]
        · exact h1 _ ha
      · refine ⟨upd H2 b (.dK kvs), u.step b od _ (by rw [h2 _ hb]; exact k) (n0 b kvs e1), fun a ha => ?_, fun a ha => ?_⟩
        · by_cases hab : a = b
          · subst hab; rw [upd_same, e1]
          · rw [upd_ne hab]
            exact h1 _ ((List.mem_cons.mp ha).resolve_left hab)
        · rw [upd_ne (fun z : a = b => ha (by rw [z]; exact List.mem_cons_self ..))]
          exact h2 a fun z => ha (List.mem_cons_of_mem _ z)
def WUnl (H0 : Hp) (W : WX) : WX := fun cls dd σ H' => ∃ H'', Unl H0 H' H'' ∧ W cls dd σ H''
theorem takes_unl {X : Cx} {W : WX} (tk : Takes X W) : Takes X (WUnl X.H_0 W) := fun u s' ⟨a, B, sI, pins, σ, H, cls, d, e, I, nb, up, sky, na, os, ag, H'', un, w⟩ =>
  tk u s' ⟨a, B, sI, pins, σ, H'', cls, d, e, un.inv I, nb, up, sky, un.none na, os, ag, w⟩
/-- the arguments x, d -/
def twoV (ce : Ce) : List T → Option (D × List (Key × D))
  | [.d x, .cel k] => ((ce[k]?).bind dicC).bind fun kvs => (unK kvs).map fun ds => (x, ds)
  | _ => none
theorem twoV_eq {ce : Ce} {ts : List T} {q : D × List (Key × D)} (h : twoV ce ts = some q) : ∃ k kvs, ts = [.d q.1, .cel k] ∧ ce[k]? = some (.dic kvs) ∧ unK kvs = some q.2 := by
  unfold twoV at h
  split at h
  · next x k =>
    obtain ⟨kvs, e1, e2⟩ := opt_bind h
    obtain ⟨c, e3, e4⟩ := opt_bind e1
    cases e5 : unK kvs with
    | none => rw [e5] at e2; cases e2
    | some ds =>
      rw [e5] at e2
      cases e2
      have := dicC_some e4
      subst this
      exact ⟨k, kvs, rfl, e3, e5⟩
  · cases h
theorem twoV_cel (ce : Ce) (x : D) (k : Nat) : twoV ce [.d x, .cel k] = ((ce[k]?).bind dicC).bind fun kvs => (unK kvs).map fun ds => (x, ds) := rfl
/-- a number or a text -/
def flV : D → Bool
  | .int _ => true
  | .str _ => true
  | _ => false
@[simp] theorem flV_int (i : Int) : flV (.int i) = true := rfl
@[simp] theorem flV_str (x : Str) : flV (.str x) = true := rfl
noncomputable def R.exV (ce : Ce) (r : R T) : R T := match r with
  | .ex x _ => R.chk (x.fs.all (fun p => flV p.2) = true) (.ex x ce)
  | _ => .bad
@[simp] theorem R.exV_ex (ce : Ce) (x : Exc) (ce2 : Ce) : R.exV ce (.ex x ce2) = R.chk (x.fs.all (fun p => flV p.2) = true) (.ex x ce) := rfl
noncomputable def mkV (C : Addr) (F : Fn) (ts : List T) (ce : Ce) : R T := R.opt (twoV ce ts) fun q => R.exV ce (F [.cel 0, .d q.1, .d (.dic q.2)] [.ins C []])
noncomputable def mMakeV (C : Addr) (F : Fn) (u : MA) : M := fun sl ce => (u sl ce).bind fun ts ce1 => mkV C F ts ce1
theorem mMakeV_ap (C : Addr) (F : Fn) (u : MA) (sl : Sl) (ce : Ce) : mMakeV C F u sl ce = (u sl ce).bind fun ts ce1 => mkV C F ts ce1 := rfl
def tMakeV (K : PySem.W.Frag) (wd : World) (H0 : Hp) (C : Addr) (φ : Phi) (W : WX) (t : TA) : TE := fun σ H Q => t σ H fun vs H1 => (∀ a kvs, H1 a = some (.dK kvs) → ∀ o' u', H0 a ≠ some (.frz o' u')) →
  ∀ x dx, H1 x = none → H1 dx = none → dx ≠ x → spD K wd φ (.ref x :: vs) (upd (upd H1 dx (.own x)) x (.ins C dx [])) (fun v H2 => v = .non ∧ Q (.ref x) H2) (WE (WUnl H0 W) σ)
theorem flat_rep {K : PySem.W.Frag} {G G' : Hp} : ∀ {fs : List (Str × D)} {ws : List (Str × V)}, fs.all (fun p => flV p.2) = true → RepF K G fs ws → RepF K G' fs ws
  | [], _, _, h => h
  | (k, d) :: fs, _, ha, ⟨v, r, e, h, hr⟩ => by
    rw [List.all_cons, Bool.and_eq_true] at ha
    refine ⟨v, r, e, ?_, flat_rep ha.2 hr⟩
    cases d <;> first | exact h | exact absurd ha.1 (fun z => nomatch z)
theorem semMakeV {K : PySem.W.Frag} {wd : World} {H0 : Hp} {ta : WX → TA} {C : Addr} {F : Fn} {mu : MA} (sa : SemA K wd ta (wV mu)) : SemE K wd (fun W => tMakeV K wd H0 C (phi F) W (ta W)) (wV (mMakeV C F mu)) := by
  intro W σ H sl ce G m Qd Ed Qv Rl w h k
  have h' : wV mu sl ce (fun ts ce1 => (mkV C F ts ce1).wp Qd fun x ce' => Ed x sl ce') Ed := by
    unfold wV mMakeV at h
    rw [R.wp_bind] at h
    exact h
  refine sa W σ H sl ce G m _ Ed _ Rl w h' fun ts ce1 G1 m1 vs H1 R1 s1 r1 h1 => ?_
  intro n0 x dx hx hdx ne
  unfold mkV at h1
  obtain ⟨q, e1, h2⟩ := R.wp_opt h1
  obtain ⟨kc, kvs, rfl, e3, e4⟩ := twoV_eq e1
  obtain ⟨v0, v1, rfl, rv0, rv1⟩ := RepTL.two' r1
  obtain ⟨d, hd, rfl⟩ := rv1
  obtain ⟨ws, hH, rk⟩ := R1.cel kc d _ hd e3
  have gd : G1 d = none := R1.out kc d hd (by rw [e3]; exact fun z => nomatch z)
  have dm : d ∈ m1 := List.mem_of_getElem? hd
  have gv : Gg G1 (upd G1 d (.dK ws)) := Gg.new gd
  have xd : x ≠ d := fun z => by rw [z, hH] at hx; cases hx
  have dxd : dx ≠ d := fun z => by rw [z, hH] at hdx; cases hdx
  -- what stands is kept by the new instance
  have kv : ∀ a o, H1 a = some o → upd (upd H1 dx (.own x)) x (.ins C dx []) a = some o := fun a o e => by
    rw [upd_ne (fun z => by rw [z, hx] at e; cases e), upd_ne (fun z => by rw [z, hdx] at e; cases e)]
    exact e
  have Rv : RelS K wd (upd (upd H1 dx (.own x)) x (.ins C dx [])) [.ins C []] (upd G1 d (.dK ws)) [x] := by
    refine ⟨fun a u e => ?_, List.nodup_cons.mpr ⟨List.not_mem_nil, List.nodup_nil⟩, rfl, fun i a e _ => ?_, fun i a c e ec => ?_⟩
    · by_cases had : a = d
      · subst had
        rw [upd_same] at e
        cases e
        exact .inl (kv _ _ hH)
      · rw [upd_ne had] at e
        rcases R1.gh a u e with z | ⟨mu, o, z⟩
        · exact .inl (kv _ _ z)
        · exact .inr ⟨mu, o, kv _ _ z⟩
    · have : a = x := by
        cases i with
        | zero => simpa using e.symm
        | succ j => simp at e
      subst this
      rw [upd_ne xd]
      exact R1.gh.fresh hx
    · cases i with
      | zero =>
        have e' : a = x := by simpa using e.symm
        subst e'
        simp only [List.getElem?_cons_zero, Option.some.injEq] at ec
        subst ec
        exact ⟨dx, [], upd_same, rfl⟩
      | succ j => simp at e
  have ra : RepTL K [x] (upd G1 d (.dK ws)) [.cel 0, .d q.1, .d (.dic q.2)] [.ref x, v0, .ref d] :=
    ⟨_, _, rfl, ⟨x, rfl, rfl⟩, _, _, rfl, Rep.mono gv _ _ rv0, _, _, rfl, ⟨d, ws, rfl, upd_same, RepK.mono gv _ _ (unK_ok rk e4)⟩, rfl⟩
  refine ⟨[.ins C []], upd G1 d (.dK ws), [x], _, fun _ _ => False, fun y _ => y.fs.all (fun p => flV p.2) = true ∧ Ed y sl ce1, Rv, ra, ?_, fun d ce' G' m' v H' R' s' r' q' => q'.elim, fun y ce' G' m' cls dd H' R' s' r' q' => ?_⟩
  · unfold phi
    cases e : F [.cel 0, .d q.1, .d (.dic q.2)] [.ins C []] with
    | ok v ce2 => rw [e] at h2; exact h2.elim
    | ex y ce2 =>
      rw [e] at h2
      exact R.wp_chk (Q := Qd) (E := fun x ce' => Ed x sl ce') h2
    | bad => rw [e] at h2; exact h2.elim
  · obtain ⟨hf, hE⟩ := q'
    have nx : ∀ a o, H1 a = some o → a ∉ [x] := fun a o e z => by
      rw [List.mem_singleton] at z
      rw [z, hx] at e
      cases e
    obtain ⟨H'', un, u1, u2⟩ := unl_list H0 H1 H' n0 m1 fun a ha => by
      cases e : H1 a with
      | none => exact absurd e (R1.toRelS.mem ha)
      | some o => exact ⟨o, rfl, s'.keep a o (kv a o e) (nx a o e)⟩
    refine ⟨H'', un, ?_⟩
    -- the ghost heap behind it
    obtain ⟨G2, g2, g3, rx⟩ : ∃ G2 : Hp, Gg G1 G2 ∧ (∀ a u, G2 a = some u → G1 a = some u ∨ (H1 a = none ∧ H' a = some u)) ∧ RepX K G2 cls dd y := by
      obtain ⟨ec, rr⟩ := r'
      cases dd with
      | none => exact ⟨G1, Gg.refl _, fun a u e => .inl e, ec, rr⟩
      | some p =>
        obtain ⟨zs, ep, rz⟩ := rr
        have hp : H' p = some (.xd zs) := by
          rcases R'.gh p _ ep with z | ⟨⟨_, z⟩, _⟩
          · exact z
          · cases z
        by_cases hg : G1 p = none
        · have hn : H1 p = none := by
            rcases s'.gnew p _ ep with z | z | z
            · by_cases hpd : p = d
              · subst hpd; rw [upd_same] at z; cases z
              · rw [upd_ne hpd, hg] at z; cases z
            · cases e : H1 p with
              | none => rfl
              | some o => rw [kv p o e] at z; cases z
            · rw [List.mem_singleton] at z
              rw [z]; exact hx
          refine ⟨upd G1 p (.xd zs), Gg.new hg, fun a u e => ?_, ec, zs, upd_same, flat_rep hf rz⟩
          by_cases hap : a = p
          · subst hap
            rw [upd_same] at e
            cases e
            exact .inr ⟨hn, hp⟩
          · rw [upd_ne hap] at e
            exact .inl e
        · have : G1 p = some (.xd zs) := by
            cases e : G1 p with
            | none => exact absurd e hg
            | some u =>
              have z := s'.gg p u (gv p u e)
              rw [ep] at z
              rw [z]
          exact ⟨G1, Gg.refl _, fun a u e => .inl e, ec, zs, this, flat_rep hf rz⟩
    have hk : ∀ a u, G1 a = some u → H'' a = some u ∨ ((∃ kvs, u = .dK kvs) ∧ ∃ o, H'' a = some (.frz o u)) := fun a u e => by
      by_cases ha : a ∈ m1
      · rw [u1 a ha]; exact R1.gh a u e
      · rw [u2 a ha]
        rcases R1.gh a u e with z | ⟨mu, o, z⟩
        · rcases s'.keep a u (kv a u z) (nx a u z) with z2 | ⟨kvs, od, rfl, z2⟩
          · exact .inl z2
          · exact .inr ⟨⟨kvs, rfl⟩, od, z2⟩
        · exact .inr ⟨mu, o, s'.kg a o u (by rw [gv a u e]; exact fun z => nomatch z) (kv _ _ z)⟩
    have nm : ∀ a, H1 a = none → a ∉ m1 := fun a e z => R1.toRelS.mem z e
    have R2 : RelS K wd H'' ce1 G2 m1 := by
      refine ⟨fun a u e => ?_, R1.nd, R1.len, fun i a e ec => ?_, fun i a c e ec => ?_⟩
      · rcases g3 a u e with z | ⟨z1, z2⟩
        · exact hk a u z
        · exact .inl (by rw [u2 a (nm a z1)]; exact z2)
      · cases z : G2 a with
        | none => rfl
        | some u =>
          rcases g3 a u z with z1 | ⟨z1, _⟩
          · rw [R1.out i a e ec] at z1; cases z1
          · exact absurd (List.mem_of_getElem? e) (nm a z1)
      · exact (R1.cel i a c e ec).mono (List.prefix_refl _) g2 fun o z => by rw [u1 a (List.mem_of_getElem? e)]; exact z
    have s2 : Stp H1 m1 G1 H'' m1 G2 := by
      refine ⟨fun a o e n => ?_, List.prefix_refl _, fun a h => .inl h, g2, fun a h => ?_, fun a u e => ?_, fun a o u hg e => ?_⟩
      · have := s'.keep a o (kv a o e) (nx a o e)
        unfold Kp at this ⊢
        rw [u2 a n]
        exact this
      · by_cases ha : a ∈ m1
        · rw [u1 a ha]; exact h
        · rw [u2 a ha]
          refine s'.stay a ?_
          cases e : H1 a with
          | none => exact absurd e h
          | some o => rw [kv a o e]; exact fun z => nomatch z
      · rcases g3 a u e with z | ⟨z, _⟩
        · exact .inl z
        · exact .inr (.inl z)
      · by_cases ha : a ∈ m1
        · rw [u1 a ha]; exact e
        · rw [u2 a ha]
          refine s'.kg a o u ?_ (kv _ _ e)
          cases z : G1 a with
          | none => exact absurd z hg
          | some u' => rw [gv a u' z]; exact fun q => nomatch q
    exact w cls dd σ H'' y sl ce1 G2 m1 (R1.step s2 R2) (s1.trans s2) rx hE
section
variable {X : Cx} {e a b c : Expr} {es : List Expr} {pos p p2 apos : Pos} {C f g : Addr} {k : Nat} {F : Fn} {mu : MA}
theorem em_makeV {x : Str} (Mk' : Mk X.K C f) (FX : FnX X.prog X.w X.K X.mg X.base k f (phi F)) (hr : Room (k + 1) X.A) (hm : X.mg x = some (.ref C)) (ha : AM X (e :: es) mu) (hg : Gl X x := by rfl)
    (hdb : (x == ("__debug__" : Str)) = false := by decide) (he : starEach (e :: es) X.env = (false, eval e X.env) :: starEach es X.env := by rfl) (hpl : (backTo pos (starEach es X.env)).any (·.1) = false := by rfl) : EM X (.Call (.Name x p) (e :: es) [] pos) (mMakeV C F mu) := by
  obtain ⟨ta, pa, sa⟩ := ha.da.ex
  refine ⟨⟨fun W => tMakeV X.K X.w X.H_0 C (phi F) W (ta W), fun W tk => ⟨fun pins s σ H Q I h => ?_⟩, semMakeV sa⟩⟩
  refine wpAny_Call_Name_kw (ld_glob I hg hm ?_ hdb)
  refine PySem.W.callWith_K (h₀ := X.base) I.ok.mod.kin Mk'.kp (thn ((pa W tk).run pos pins s σ H _ I h) fun us s1 ⟨vs, H1, I1, r, q⟩ => ⟨I1.kIn, ?_⟩) he hpl
  exact run_makeX Mk' FX hr (passAt (takes_unl tk) σ) I1 r (q fun a kvs h => I1.nofrz h trivial)
end
end DL

/-! The hook with a written list of addresses: the kernel need not gather them. -/
namespace DL
open PySem PySem.Spec PyProof.Rows L2 He PySem.W PySem.Calls HandSHeadRun
def obsML (as : List Addr) (t : Tab) (g : Addr → Option Obj) : AlM := obsM t (frG g as)
def hookL (as : List Addr) (t : Tab) : PySem.W.Hook where
  α := AlM
  obs := fun s => obsML as t s.heap.get?
  val := fun _ => valM t
  says := fun _ h => ∃ K : PySem.W.Frag, K.In h ∧ SaysM t K
  of := fun _ _ e => ⟨_, frG_in, e⟩
  keeps := fun _ _ _ ⟨K, hK, c⟩ k => ⟨K, PySem.W.Frag.In.keeps hK k, c⟩
theorem obsML_eq {as : List Addr} {t : Tab} {g : Addr → Option Obj} {s : Shared} (h : ∀ a, g a = s.heap.get? a) : obsML as t g = (hookL as t).obs s := by
  have e : g = s.heap.get? := funext h
  rw [e] <;> rfl
/-- two runs of the top as one -/
theorem run_cat {σ α β γ : Type} {o : Option σ} {f : σ → α} {g : σ → β} {h : σ → γ} {a : α} {b : β} {c : γ} (h1 : o.map (fun s => (f s, g s)) = some (a, b)) (h2 : o.map h = some c) : o.map (fun s => (f s, g s, h s)) = some (a, b, c) := by
  cases o with
  | none => cases h1
  | some s =>
    have h1 := Option.some.inj h1
    have h2 := Option.some.inj h2
    have e1 : f s = a := congrArg (·.1) h1
    have e2 : g s = b := congrArg (·.2) h1
    have e3 : h s = c := h2
    show some (f s, g s, h s) = _
    rw [e1, e2, e3]
/-- the two halves of the run's equation -/
def RunA (r : OpenRow) (q : Program) (M : Nat) (loose : List PySem.Str) (w : World) : Prop :=
  ∀ os : OsState, (endF (stepQ (denQ tabQ) r.prog w) M r.prog w os).map (fun s => (looksF r.prog (boot_heap w.params) s.abs, seenQ q loose (importedModules r.prog.main.body) (fun s => xlAt q [] s && recOk r.toRowW.records s) s.abs)) = some (true, openGood q loose)
def RunB (r : OpenRow) (H : Hook) (ob : SharedT → H.α) (M : Nat) (w : World) : Prop :=
  ∀ os : OsState, (endF (stepQ (denQ tabQ) r.prog w) M r.prog w os).map (fun s => ob s) = some (H.val w)
theorem run_of {r : OpenRow} {q : Program} {H : Hook} {ob : SharedT → H.α} {M : Nat} {loose : List PySem.Str} {w : World} (a : RunA r q M loose w) (b : RunB r H ob M w) : RunEq r q H ob M loose w := fun os => run_cat (a os) (b os)
end DL


namespace LD
end LD
namespace K02
open PySem PySem.Spec PyProof.Rows L2 He DL LD
def top (i : Nat) : Stmt := PySem.Challenge.pw_lostdesk_k02_notes.main.body.getD i (.Pass ⟨0, 0, 0, 0⟩)
abbrev P : Program := PySem.Challenge.pw_lostdesk_k02_notes
def tab : DL.Tab where
  file := P.main.file
  fa := [.glo "_law_alike",
    .glo "_law_fail",
    .glo "_law_features",
    .glo "_law_mix",
    .glo "_law_next",
    .glo "_law_note",
    .glo "_law_same",
    .glo "_law_sets",
    .glo "_law_some",
    .glo "_law_wrong",
    .glo "common",
    .glo "is_feature",
    .glo "is_rising",
    .glo "is_word",
    .glo "law",
    .glo "Catalog",
    .cls "Catalog",
    .mkr "Catalog",
    .noat "Catalog" "parts",
    .meth "Catalog" "__contains__",
    .meth "Catalog" "__eq__",
    .glo "Note",
    .cls "Note",
    .mkr "Note",
    .noat "Note" "own_catalog",
    .noat "Note" "sets",
    .meth "Note" "__eq__",
    .meth "Note" "__getitem__",
    .meth "Note" "both",
    .meth "Note" "narrowed",
    .str "LETTERS" "abcdefghijklmnopqrstuvwxyz",
    .int "MAX_FEATURES" 6,
    .int "MAX_LETTERS" 8,
    .int "MAX_VALUES" 8,
    .free "all",
    .free "bool",
    .free "dict",
    .free "enumerate",
    .free "int",
    .free "isinstance",
    .free "len",
    .free "list",
    .free "max",
    .free "range",
    .free "sorted",
    .free "str",
    .free "tuple",
    .free "zip",
    .glo "Conflict",
    .noat "Conflict" "feature",
    .glo "InvalidCatalog",
    .noat "InvalidCatalog" "index",
    .glo "InvalidNote",
    .noat "InvalidNote" "feature",
    .glo "UnknownFeature",
    .exc "UnknownFeature",
    .exm "Conflict" "Conflict" true,
    .exm "UnknownFeature" "Conflict" false,
    .exm "Conflict" "InvalidNote" false,
    .exm "InvalidNote" "InvalidNote" true,
    .exm "UnknownFeature" "InvalidNote" false,
    .exm "UnknownFeature" "UnknownFeature" true]
  fb := [.ne "Catalog",
    .obj "Catalog",
    .fnIn "Catalog" "__contains__",
    .fnIn "Catalog" "__eq__",
    .ne "Note",
    .obj "Note",
    .fnIn "Note" "__eq__",
    .fnIn "Note" "__getitem__",
    .fnIn "Note" "both",
    .fnIn "Note" "narrowed",
    .xf "Conflict",
    .xf "InvalidCatalog",
    .xf "InvalidNote",
    .tab "_law_wrong",
    .tab "law",
    .any (difT "law" "_law_wrong"),
    .dif "Conflict" "UnknownFeature",
    .dif "InvalidNote" "Conflict",
    .dif "InvalidNote" "UnknownFeature",
    .isi [],
    .isi ["Catalog"],
    .isi ["Note"]]
  fn := [mkD "_law_alike" (top 21),
    mkD "_law_fail" (top 26),
    mkD "_law_features" (top 22),
    mkD "_law_mix" (top 19),
    mkD "_law_next" (top 20),
    mkD "_law_note" (top 25),
    mkD "_law_same" (top 27),
    mkD "_law_sets" (top 24),
    mkD "_law_some" (top 23),
    mkD "_law_wrong" (top 28),
    mkD "common" (top 17),
    mkD "is_feature" (top 13),
    mkD "is_rising" (top 12),
    mkD "is_word" (top 11),
    mkD "law" (top 29),
    mkM "Catalog" "__contains__" "Catalog.__contains__" (inClass (top 14) 4),
    mkM "Catalog" "__eq__" "Catalog.__eq__" (inClass (top 14) 7),
    mkM "Catalog" "__init__" "Catalog.__init__" (inClass (top 14) 0),
    mkM "Note" "__eq__" "Note.__eq__" (inClass (top 16) 7),
    mkM "Note" "__getitem__" "Note.__getitem__" (inClass (top 16) 3),
    mkM "Note" "__init__" "Note.__init__" (inClass (top 16) 0),
    mkM "Note" "both" "Note.both" (inClass (top 16) 5),
    mkM "Note" "narrowed" "Note.narrowed" (inClass (top 16) 6)]
  xs := [mkX "Conflict" "Conflict.__init__" (inClass (top 5) 0) ["feature"],
    mkX "InvalidCatalog" "InvalidCatalog.__init__" (inClass (top 2) 0) ["index"],
    mkX "InvalidNote" "InvalidNote.__init__" (inClass (top 4) 0) ["feature"]]
  gs := [mkG "Catalog" "features" "Catalog.features" (inClass (top 14) 1),
    mkG "Catalog" "names" "Catalog.names" (inClass (top 14) 2),
    mkG "Note" "catalog" "Note.catalog" (inClass (top 16) 1),
    mkG "Note" "description_count" "Note.description_count" (inClass (top 16) 2)]
structure Wo (K : PySem.W.Frag) (mg : Str → Option Value) (base : Heap) : Prop where
  c : SaysM tab K
  X : K.In base
  G : base.Ns mainGlobals mg
section
variable {K : PySem.W.Frag} {mg : Str → Option Value} {base : Heap}
theorem Wo.d__law_alike (W : Wo K mg base) : ∃ fd, FunD K "_law_alike" "_law_alike" (defArgs (top 21)) (defBody (top 21)) (defScope (top 21)) [] [] (ga K "_law_alike") fd := W.c.def_ 0 (d := mkD "_law_alike" (top 21)) rfl
theorem Wo.k__law_alike (W : Wo K mg base) : PySem.W.keepIn K (.ref (ga K "_law_alike")) = true := by
  obtain ⟨fd, F⟩ := W.d__law_alike
  exact F.kp
theorem Wo.g__law_alike (W : Wo K mg base) : mg "_law_alike" = some (.ref (ga K "_law_alike")) := He.glo_ok W.X W.G (W.c.fact 0 rfl)
theorem Wo.d__law_fail (W : Wo K mg base) : ∃ fd, FunD K "_law_fail" "_law_fail" (defArgs (top 26)) (defBody (top 26)) (defScope (top 26)) [] [] (ga K "_law_fail") fd := W.c.def_ 1 (d := mkD "_law_fail" (top 26)) rfl
theorem Wo.k__law_fail (W : Wo K mg base) : PySem.W.keepIn K (.ref (ga K "_law_fail")) = true := by
  obtain ⟨fd, F⟩ := W.d__law_fail
  exact F.kp
theorem Wo.g__law_fail (W : Wo K mg base) : mg "_law_fail" = some (.ref (ga K "_law_fail")) := He.glo_ok W.X W.G (W.c.fact 1 rfl)
theorem Wo.d__law_features (W : Wo K mg base) : ∃ fd, FunD K "_law_features" "_law_features" (defArgs (top 22)) (defBody (top 22)) (defScope (top 22)) [] [] (ga K "_law_features") fd := W.c.def_ 2 (d := mkD "_law_features" (top 22)) rfl
theorem Wo.k__law_features (W : Wo K mg base) : PySem.W.keepIn K (.ref (ga K "_law_features")) = true := by
  obtain ⟨fd, F⟩ := W.d__law_features
  exact F.kp
theorem Wo.g__law_features (W : Wo K mg base) : mg "_law_features" = some (.ref (ga K "_law_features")) := He.glo_ok W.X W.G (W.c.fact 2 rfl)
theorem Wo.d__law_mix (W : Wo K mg base) : ∃ fd, FunD K "_law_mix" "_law_mix" (defArgs (top 19)) (defBody (top 19)) (defScope (top 19)) [] [] (ga K "_law_mix") fd := W.c.def_ 3 (d := mkD "_law_mix" (top 19)) rfl
theorem Wo.k__law_mix (W : Wo K mg base) : PySem.W.keepIn K (.ref (ga K "_law_mix")) = true := by
  obtain ⟨fd, F⟩ := W.d__law_mix
  exact F.kp
theorem Wo.g__law_mix (W : Wo K mg base) : mg "_law_mix" = some (.ref (ga K "_law_mix")) := He.glo_ok W.X W.G (W.c.fact 3 rfl)
theorem Wo.d__law_next (W : Wo K mg base) : ∃ fd, FunD K "_law_next" "_law_next" (defArgs (top 20)) (defBody (top 20)) (defScope (top 20)) [] [] (ga K "_law_next") fd := W.c.def_ 4 (d := mkD "_law_next" (top 20)) rfl
theorem Wo.k__law_next (W : Wo K mg base) : PySem.W.keepIn K (.ref (ga K "_law_next")) = true := by
  obtain ⟨fd, F⟩ := W.d__law_next
  exact F.kp
theorem Wo.g__law_next (W : Wo K mg base) : mg "_law_next" = some (.ref (ga K "_law_next")) := He.glo_ok W.X W.G (W.c.fact 4 rfl)
theorem Wo.d__law_note (W : Wo K mg base) : ∃ fd, FunD K "_law_note" "_law_note" (defArgs (top 25)) (defBody (top 25)) (defScope (top 25)) [] [] (ga K "_law_note") fd := W.c.def_ 5 (d := mkD "_law_note" (top 25)) rfl
theorem Wo.k__law_note (W : Wo K mg base) : PySem.W.keepIn K (.ref (ga K "_law_note")) = true := by
  obtain ⟨fd, F⟩ := W.d__law_note
  exact F.kp
theorem Wo.g__law_note (W : Wo K mg base) : mg "_law_note" = some (.ref (ga K "_law_note")) := He.glo_ok W.X W.G (W.c.fact 5 rfl)
theorem Wo.d__law_same (W : Wo K mg base) : ∃ fd, FunD K "_law_same" "_law_same" (defArgs (top 27)) (defBody (top 27)) (defScope (top 27)) [] [] (ga K "_law_same") fd := W.c.def_ 6 (d := mkD "_law_same" (top 27)) rfl
theorem Wo.k__law_same (W : Wo K mg base) : PySem.W.keepIn K (.ref (ga K "_law_same")) = true := by
  obtain ⟨fd, F⟩ := W.d__law_same
  exact F.kp
theorem Wo.g__law_same (W : Wo K mg base) : mg "_law_same" = some (.ref (ga K "_law_same")) := He.glo_ok W.X W.G (W.c.fact 6 rfl)
theorem Wo.d__law_sets (W : Wo K mg base) : ∃ fd, FunD K "_law_sets" "_law_sets" (defArgs (top 24)) (defBody (top 24)) (defScope (top 24)) [] [] (ga K "_law_sets") fd := W.c.def_ 7 (d := mkD "_law_sets" (top 24)) rfl
theorem Wo.k__law_sets (W : Wo K mg base) : PySem.W.keepIn K (.ref (ga K "_law_sets")) = true := by
  obtain ⟨fd, F⟩ := W.d__law_sets
  exact F.kp
theorem Wo.g__law_sets (W : Wo K mg base) : mg "_law_sets" = some (.ref (ga K "_law_sets")) := He.glo_ok W.X W.G (W.c.fact 7 rfl)
theorem Wo.d__law_some (W : Wo K mg base) : ∃ fd, FunD K "_law_some" "_law_some" (defArgs (top 23)) (defBody (top 23)) (defScope (top 23)) [] [] (ga K "_law_some") fd := W.c.def_ 8 (d := mkD "_law_some" (top 23)) rfl
theorem Wo.k__law_some (W : Wo K mg base) : PySem.W.keepIn K (.ref (ga K "_law_some")) = true := by
  obtain ⟨fd, F⟩ := W.d__law_some
  exact F.kp
theorem Wo.g__law_some (W : Wo K mg base) : mg "_law_some" = some (.ref (ga K "_law_some")) := He.glo_ok W.X W.G (W.c.fact 8 rfl)
theorem Wo.d__law_wrong (W : Wo K mg base) : ∃ fd, FunD K "_law_wrong" "_law_wrong" (defArgs (top 28)) (defBody (top 28)) (defScope (top 28)) [] [] (ga K "_law_wrong") fd := W.c.def_ 9 (d := mkD "_law_wrong" (top 28)) rfl
theorem Wo.k__law_wrong (W : Wo K mg base) : PySem.W.keepIn K (.ref (ga K "_law_wrong")) = true := by
  obtain ⟨fd, F⟩ := W.d__law_wrong
  exact F.kp
theorem Wo.g__law_wrong (W : Wo K mg base) : mg "_law_wrong" = some (.ref (ga K "_law_wrong")) := He.glo_ok W.X W.G (W.c.fact 9 rfl)
theorem Wo.d_common (W : Wo K mg base) : ∃ fd, FunD K "common" "common" (defArgs (top 17)) (defBody (top 17)) (defScope (top 17)) [] [] (ga K "common") fd := W.c.def_ 10 (d := mkD "common" (top 17)) rfl
theorem Wo.k_common (W : Wo K mg base) : PySem.W.keepIn K (.ref (ga K "common")) = true := by
  obtain ⟨fd, F⟩ := W.d_common
  exact F.kp
theorem Wo.g_common (W : Wo K mg base) : mg "common" = some (.ref (ga K "common")) := He.glo_ok W.X W.G (W.c.fact 10 rfl)
theorem Wo.d_is_feature (W : Wo K mg base) : ∃ fd, FunD K "is_feature" "is_feature" (defArgs (top 13)) (defBody (top 13)) (defScope (top 13)) [] [] (ga K "is_feature") fd := W.c.def_ 11 (d := mkD "is_feature" (top 13)) rfl
theorem Wo.k_is_feature (W : Wo K mg base) : PySem.W.keepIn K (.ref (ga K "is_feature")) = true := by
  obtain ⟨fd, F⟩ := W.d_is_feature
  exact F.kp
theorem Wo.g_is_feature (W : Wo K mg base) : mg "is_feature" = some (.ref (ga K "is_feature")) := He.glo_ok W.X W.G (W.c.fact 11 rfl)
theorem Wo.d_is_rising (W : Wo K mg base) : ∃ fd, FunD K "is_rising" "is_rising" (defArgs (top 12)) (defBody (top 12)) (defScope (top 12)) [] [] (ga K "is_rising") fd := W.c.def_ 12 (d := mkD "is_rising" (top 12)) rfl
theorem Wo.k_is_rising (W : Wo K mg base) : PySem.W.keepIn K (.ref (ga K "is_rising")) = true := by
  obtain ⟨fd, F⟩ := W.d_is_rising
  exact F.kp
theorem Wo.g_is_rising (W : Wo K mg base) : mg "is_rising" = some (.ref (ga K "is_rising")) := He.glo_ok W.X W.G (W.c.fact 12 rfl)
theorem Wo.d_is_word (W : Wo K mg base) : ∃ fd, FunD K "is_word" "is_word" (defArgs (top 11)) (defBody (top 11)) (defScope (top 11)) [] [] (ga K "is_word") fd := W.c.def_ 13 (d := mkD "is_word" (top 11)) rfl
theorem Wo.k_is_word (W : Wo K mg base) : PySem.W.keepIn K (.ref (ga K "is_word")) = true := by
  obtain ⟨fd, F⟩ := W.d_is_word
  exact F.kp
theorem Wo.g_is_word (W : Wo K mg base) : mg "is_word" = some (.ref (ga K "is_word")) := He.glo_ok W.X W.G (W.c.fact 13 rfl)
theorem Wo.d_law (W : Wo K mg base) : ∃ fd, FunD K "law" "law" (defArgs (top 29)) (defBody (top 29)) (defScope (top 29)) [] [] (ga K "law") fd := W.c.def_ 14 (d := mkD "law" (top 29)) rfl
theorem Wo.k_law (W : Wo K mg base) : PySem.W.keepIn K (.ref (ga K "law")) = true := by
  obtain ⟨fd, F⟩ := W.d_law
  exact F.kp
theorem Wo.g_law (W : Wo K mg base) : mg "law" = some (.ref (ga K "law")) := He.glo_ok W.X W.G (W.c.fact 14 rfl)
theorem Wo.g_Catalog (W : Wo K mg base) : mg "Catalog" = some (.ref (ga K "Catalog")) := He.glo_ok W.X W.G (W.c.fact 15 rfl)
theorem Wo.c_Catalog (W : Wo K mg base) : Cls K (ga K "Catalog") := He.cls_ok (W.c.fact 16 rfl)
theorem Wo.m_Catalog (W : Wo K mg base) : Mk K (ga K "Catalog") (ma K (ga K "Catalog") "__init__") := He.mkr_ok (W.c.fact 17 rfl)
theorem Wo.x_Catalog_parts (W : Wo K mg base) : NoAttr K (ga K "Catalog") "parts" := He.noat_ok (W.c.fact 18 rfl)
theorem Wo.ne_Catalog (W : Wo K mg base) : PySem.W.findIn K (.ref (ga K "Catalog")) "__ne__" = some (some (.builtin "object.__ne__")) := eqO_ok (W.c.fact2 0 (f := .ne "Catalog") rfl)
theorem Wo.ob_Catalog (W : Wo K mg base) : PySem.W.mroIn K (ga K "Catalog") (.type "object") = some true := of_decide_eq_true (W.c.fact2 1 (f := .obj "Catalog") rfl)
theorem Wo.d_Catalog___contains__ (W : Wo K mg base) : ∃ fd, FunD K "__contains__" "Catalog.__contains__" (defArgs (inClass (top 14) 4)) (defBody (inClass (top 14) 4)) (defScope (inClass (top 14) 4)) [] [] (ma K (ga K "Catalog") "__contains__") fd := W.c.def_ 15 (d := mkM "Catalog" "__contains__" "Catalog.__contains__" (inClass (top 14) 4)) rfl
theorem Wo.q_Catalog___contains__ (W : Wo K mg base) : Meth K (ga K "Catalog") "__contains__" (ma K (ga K "Catalog") "__contains__") := He.meth_ok (W.c.fact 19 rfl)
theorem Wo.a_Catalog___contains__ (W : Wo K mg base) : PySem.W.findIn K (.ref (ga K "Catalog")) "__contains__" = some (some (.ref (ma K (ga K "Catalog") "__contains__"))) := W.q_Catalog___contains__.at_
theorem Wo.b_Catalog___contains__ (W : Wo K mg base) : PySem.W.isFn K (.ref (ma K (ga K "Catalog") "__contains__")) = true := W.q_Catalog___contains__.fn
theorem Wo.n_Catalog___contains__ (W : Wo K mg base) : PySem.W.fnIn K (ma K (ga K "Catalog") "__contains__") = true := (W.c.fact2 2 (f := .fnIn "Catalog" "__contains__") rfl)
theorem Wo.d_Catalog___eq__ (W : Wo K mg base) : ∃ fd, FunD K "__eq__" "Catalog.__eq__" (defArgs (inClass (top 14) 7)) (defBody (inClass (top 14) 7)) (defScope (inClass (top 14) 7)) [] [] (ma K (ga K "Catalog") "__eq__") fd := W.c.def_ 16 (d := mkM "Catalog" "__eq__" "Catalog.__eq__" (inClass (top 14) 7)) rfl
theorem Wo.q_Catalog___eq__ (W : Wo K mg base) : Meth K (ga K "Catalog") "__eq__" (ma K (ga K "Catalog") "__eq__") := He.meth_ok (W.c.fact 20 rfl)
theorem Wo.a_Catalog___eq__ (W : Wo K mg base) : PySem.W.findIn K (.ref (ga K "Catalog")) "__eq__" = some (some (.ref (ma K (ga K "Catalog") "__eq__"))) := W.q_Catalog___eq__.at_
theorem Wo.b_Catalog___eq__ (W : Wo K mg base) : PySem.W.isFn K (.ref (ma K (ga K "Catalog") "__eq__")) = true := W.q_Catalog___eq__.fn
theorem Wo.n_Catalog___eq__ (W : Wo K mg base) : PySem.W.fnIn K (ma K (ga K "Catalog") "__eq__") = true := (W.c.fact2 3 (f := .fnIn "Catalog" "__eq__") rfl)
theorem Wo.d_Catalog___init__ (W : Wo K mg base) : ∃ fd, FunD K "__init__" "Catalog.__init__" (defArgs (inClass (top 14) 0)) (defBody (inClass (top 14) 0)) (defScope (inClass (top 14) 0)) [] [] (ma K (ga K "Catalog") "__init__") fd := W.c.def_ 17 (d := mkM "Catalog" "__init__" "Catalog.__init__" (inClass (top 14) 0)) rfl
theorem Wo.p_Catalog_features (W : Wo K mg base) : PropOf K (ga K "Catalog") "features" (pgA K "Catalog" "features").1 (pgA K "Catalog" "features").2 := (W.c.ge 0 (d := mkG "Catalog" "features" "Catalog.features" (inClass (top 14) 1)) rfl).1
theorem Wo.d_Catalog_features (W : Wo K mg base) : ∃ fd, FunD K "features" "Catalog.features" (defArgs (inClass (top 14) 1)) (defBody (inClass (top 14) 1)) (defScope (inClass (top 14) 1)) [] [] (pgA K "Catalog" "features").2 fd := (W.c.ge 0 (d := mkG "Catalog" "features" "Catalog.features" (inClass (top 14) 1)) rfl).2
theorem Wo.p_Catalog_names (W : Wo K mg base) : PropOf K (ga K "Catalog") "names" (pgA K "Catalog" "names").1 (pgA K "Catalog" "names").2 := (W.c.ge 1 (d := mkG "Catalog" "names" "Catalog.names" (inClass (top 14) 2)) rfl).1
theorem Wo.d_Catalog_names (W : Wo K mg base) : ∃ fd, FunD K "names" "Catalog.names" (defArgs (inClass (top 14) 2)) (defBody (inClass (top 14) 2)) (defScope (inClass (top 14) 2)) [] [] (pgA K "Catalog" "names").2 fd := (W.c.ge 1 (d := mkG "Catalog" "names" "Catalog.names" (inClass (top 14) 2)) rfl).2
theorem Wo.g_Note (W : Wo K mg base) : mg "Note" = some (.ref (ga K "Note")) := He.glo_ok W.X W.G (W.c.fact 21 rfl)
theorem Wo.c_Note (W : Wo K mg base) : Cls K (ga K "Note") := He.cls_ok (W.c.fact 22 rfl)
theorem Wo.m_Note (W : Wo K mg base) : Mk K (ga K "Note") (ma K (ga K "Note") "__init__") := He.mkr_ok (W.c.fact 23 rfl)
theorem Wo.x_Note_own_catalog (W : Wo K mg base) : NoAttr K (ga K "Note") "own_catalog" := He.noat_ok (W.c.fact 24 rfl)
theorem Wo.x_Note_sets (W : Wo K mg base) : NoAttr K (ga K "Note") "sets" := He.noat_ok (W.c.fact 25 rfl)
theorem Wo.ne_Note (W : Wo K mg base) : PySem.W.findIn K (.ref (ga K "Note")) "__ne__" = some (some (.builtin "object.__ne__")) := eqO_ok (W.c.fact2 4 (f := .ne "Note") rfl)
theorem Wo.ob_Note (W : Wo K mg base) : PySem.W.mroIn K (ga K "Note") (.type "object") = some true := of_decide_eq_true (W.c.fact2 5 (f := .obj "Note") rfl)
theorem Wo.d_Note___eq__ (W : Wo K mg base) : ∃ fd, FunD K "__eq__" "Note.__eq__" (defArgs (inClass (top 16) 7)) (defBody (inClass (top 16) 7)) (defScope (inClass (top 16) 7)) [] [] (ma K (ga K "Note") "__eq__") fd := W.c.def_ 18 (d := mkM "Note" "__eq__" "Note.__eq__" (inClass (top 16) 7)) rfl
theorem Wo.q_Note___eq__ (W : Wo K mg base) : Meth K (ga K "Note") "__eq__" (ma K (ga K "Note") "__eq__") := He.meth_ok (W.c.fact 26 rfl)
theorem Wo.a_Note___eq__ (W : Wo K mg base) : PySem.W.findIn K (.ref (ga K "Note")) "__eq__" = some (some (.ref (ma K (ga K "Note") "__eq__"))) := W.q_Note___eq__.at_
theorem Wo.b_Note___eq__ (W : Wo K mg base) : PySem.W.isFn K (.ref (ma K (ga K "Note") "__eq__")) = true := W.q_Note___eq__.fn
theorem Wo.n_Note___eq__ (W : Wo K mg base) : PySem.W.fnIn K (ma K (ga K "Note") "__eq__") = true := (W.c.fact2 6 (f := .fnIn "Note" "__eq__") rfl)
theorem Wo.d_Note___getitem__ (W : Wo K mg base) : ∃ fd, FunD K "__getitem__" "Note.__getitem__" (defArgs (inClass (top 16) 3)) (defBody (inClass (top 16) 3)) (defScope (inClass (top 16) 3)) [] [] (ma K (ga K "Note") "__getitem__") fd := W.c.def_ 19 (d := mkM "Note" "__getitem__" "Note.__getitem__" (inClass (top 16) 3)) rfl
theorem Wo.q_Note___getitem__ (W : Wo K mg base) : Meth K (ga K "Note") "__getitem__" (ma K (ga K "Note") "__getitem__") := He.meth_ok (W.c.fact 27 rfl)
theorem Wo.a_Note___getitem__ (W : Wo K mg base) : PySem.W.findIn K (.ref (ga K "Note")) "__getitem__" = some (some (.ref (ma K (ga K "Note") "__getitem__"))) := W.q_Note___getitem__.at_
theorem Wo.b_Note___getitem__ (W : Wo K mg base) : PySem.W.isFn K (.ref (ma K (ga K "Note") "__getitem__")) = true := W.q_Note___getitem__.fn
theorem Wo.n_Note___getitem__ (W : Wo K mg base) : PySem.W.fnIn K (ma K (ga K "Note") "__getitem__") = true := (W.c.fact2 7 (f := .fnIn "Note" "__getitem__") rfl)
theorem Wo.d_Note___init__ (W : Wo K mg base) : ∃ fd, FunD K "__init__" "Note.__init__" (defArgs (inClass (top 16) 0)) (defBody (inClass (top 16) 0)) (defScope (inClass (top 16) 0)) [] [] (ma K (ga K "Note") "__init__") fd := W.c.def_ 20 (d := mkM "Note" "__init__" "Note.__init__" (inClass (top 16) 0)) rfl
theorem Wo.d_Note_both (W : Wo K mg base) : ∃ fd, FunD K "both" "Note.both" (defArgs (inClass (top 16) 5)) (defBody (inClass (top 16) 5)) (defScope (inClass (top 16) 5)) [] [] (ma K (ga K "Note") "both") fd := W.c.def_ 21 (d := mkM "Note" "both" "Note.both" (inClass (top 16) 5)) rfl
theorem Wo.q_Note_both (W : Wo K mg base) : Meth K (ga K "Note") "both" (ma K (ga K "Note") "both") := He.meth_ok (W.c.fact 28 rfl)
theorem Wo.a_Note_both (W : Wo K mg base) : PySem.W.findIn K (.ref (ga K "Note")) "both" = some (some (.ref (ma K (ga K "Note") "both"))) := W.q_Note_both.at_
theorem Wo.b_Note_both (W : Wo K mg base) : PySem.W.isFn K (.ref (ma K (ga K "Note") "both")) = true := W.q_Note_both.fn
theorem Wo.n_Note_both (W : Wo K mg base) : PySem.W.fnIn K (ma K (ga K "Note") "both") = true := (W.c.fact2 8 (f := .fnIn "Note" "both") rfl)
theorem Wo.p_Note_catalog (W : Wo K mg base) : PropOf K (ga K "Note") "catalog" (pgA K "Note" "catalog").1 (pgA K "Note" "catalog").2 := (W.c.ge 2 (d := mkG "Note" "catalog" "Note.catalog" (inClass (top 16) 1)) rfl).1
theorem Wo.d_Note_catalog (W : Wo K mg base) : ∃ fd, FunD K "catalog" "Note.catalog" (defArgs (inClass (top 16) 1)) (defBody (inClass (top 16) 1)) (defScope (inClass (top 16) 1)) [] [] (pgA K "Note" "catalog").2 fd := (W.c.ge 2 (d := mkG "Note" "catalog" "Note.catalog" (inClass (top 16) 1)) rfl).2
theorem Wo.p_Note_description_count (W : Wo K mg base) : PropOf K (ga K "Note") "description_count" (pgA K "Note" "description_count").1 (pgA K "Note" "description_count").2 := (W.c.ge 3 (d := mkG "Note" "description_count" "Note.description_count" (inClass (top 16) 2)) rfl).1
theorem Wo.d_Note_description_count (W : Wo K mg base) : ∃ fd, FunD K "description_count" "Note.description_count" (defArgs (inClass (top 16) 2)) (defBody (inClass (top 16) 2)) (defScope (inClass (top 16) 2)) [] [] (pgA K "Note" "description_count").2 fd := (W.c.ge 3 (d := mkG "Note" "description_count" "Note.description_count" (inClass (top 16) 2)) rfl).2
theorem Wo.d_Note_narrowed (W : Wo K mg base) : ∃ fd, FunD K "narrowed" "Note.narrowed" (defArgs (inClass (top 16) 6)) (defBody (inClass (top 16) 6)) (defScope (inClass (top 16) 6)) [] [] (ma K (ga K "Note") "narrowed") fd := W.c.def_ 22 (d := mkM "Note" "narrowed" "Note.narrowed" (inClass (top 16) 6)) rfl
theorem Wo.q_Note_narrowed (W : Wo K mg base) : Meth K (ga K "Note") "narrowed" (ma K (ga K "Note") "narrowed") := He.meth_ok (W.c.fact 29 rfl)
theorem Wo.a_Note_narrowed (W : Wo K mg base) : PySem.W.findIn K (.ref (ga K "Note")) "narrowed" = some (some (.ref (ma K (ga K "Note") "narrowed"))) := W.q_Note_narrowed.at_
theorem Wo.b_Note_narrowed (W : Wo K mg base) : PySem.W.isFn K (.ref (ma K (ga K "Note") "narrowed")) = true := W.q_Note_narrowed.fn
theorem Wo.n_Note_narrowed (W : Wo K mg base) : PySem.W.fnIn K (ma K (ga K "Note") "narrowed") = true := (W.c.fact2 9 (f := .fnIn "Note" "narrowed") rfl)
theorem Wo.s_LETTERS (W : Wo K mg base) : ∃ t, mg "LETTERS" = some (.str "abcdefghijklmnopqrstuvwxyz" t) := He.str_ok W.X W.G (W.c.fact 30 rfl)
theorem Wo.i_MAX_FEATURES (W : Wo K mg base) : ∃ t, mg "MAX_FEATURES" = some (.int 6 t) := He.int_ok W.X W.G (W.c.fact 31 rfl)
theorem Wo.i_MAX_LETTERS (W : Wo K mg base) : ∃ t, mg "MAX_LETTERS" = some (.int 8 t) := He.int_ok W.X W.G (W.c.fact 32 rfl)
theorem Wo.i_MAX_VALUES (W : Wo K mg base) : ∃ t, mg "MAX_VALUES" = some (.int 8 t) := He.int_ok W.X W.G (W.c.fact 33 rfl)
theorem Wo.f_all (W : Wo K mg base) : mg "all" = none := He.free_ok W.X W.G (W.c.fact 34 rfl)
theorem Wo.f_bool (W : Wo K mg base) : mg "bool" = none := He.free_ok W.X W.G (W.c.fact 35 rfl)
theorem Wo.f_dict (W : Wo K mg base) : mg "dict" = none := He.free_ok W.X W.G (W.c.fact 36 rfl)
theorem Wo.f_enumerate (W : Wo K mg base) : mg "enumerate" = none := He.free_ok W.X W.G (W.c.fact 37 rfl)
theorem Wo.f_int (W : Wo K mg base) : mg "int" = none := He.free_ok W.X W.G (W.c.fact 38 rfl)
theorem Wo.f_isinstance (W : Wo K mg base) : mg "isinstance" = none := He.free_ok W.X W.G (W.c.fact 39 rfl)
theorem Wo.f_len (W : Wo K mg base) : mg "len" = none := He.free_ok W.X W.G (W.c.fact 40 rfl)
theorem Wo.f_list (W : Wo K mg base) : mg "list" = none := He.free_ok W.X W.G (W.c.fact 41 rfl)
theorem Wo.f_max (W : Wo K mg base) : mg "max" = none := He.free_ok W.X W.G (W.c.fact 42 rfl)
theorem Wo.f_range (W : Wo K mg base) : mg "range" = none := He.free_ok W.X W.G (W.c.fact 43 rfl)
theorem Wo.f_sorted (W : Wo K mg base) : mg "sorted" = none := He.free_ok W.X W.G (W.c.fact 44 rfl)
theorem Wo.f_str (W : Wo K mg base) : mg "str" = none := He.free_ok W.X W.G (W.c.fact 45 rfl)
theorem Wo.f_tuple (W : Wo K mg base) : mg "tuple" = none := He.free_ok W.X W.G (W.c.fact 46 rfl)
theorem Wo.f_zip (W : Wo K mg base) : mg "zip" = none := He.free_ok W.X W.G (W.c.fact 47 rfl)
theorem Wo.g_Conflict (W : Wo K mg base) : mg "Conflict" = some (.ref (ga K "Conflict")) := He.glo_ok W.X W.G (W.c.fact 48 rfl)
theorem tx_Conflict : XTx (mkX "Conflict" "Conflict.__init__" (inClass (top 5) 0) ["feature"]) := ⟨⟨_, rfl, rfl⟩, rfl, rfl, rfl, by decide +kernel, rfl, rfl, rfl⟩
theorem Wo.mk_Conflict {w : World} (W : Wo K mg base) : XMk P w K mg (ga K "Conflict") ["feature"] := xmk1 (d := mkX "Conflict" "Conflict.__init__" (inClass (top 5) 0) ["feature"]) tx_Conflict W.X W.G (W.c.xc 0 rfl).1 (by kernel_rfl) (W.c.xc 0 rfl).2 rfl rfl (by rfl) rfl (by decide) (by decide) (fun _ _ _ _ _ _ _ _ _ => BindsTo.of_eq (by first | rfl | with_unfolding_all rfl))
theorem Wo.z_Conflict (W : Wo K mg base) : XfC K (ga K "Conflict") := xfB_ok (W.c.fact2 10 (f := .xf "Conflict") rfl)
theorem Wo.y_Conflict_feature (W : Wo K mg base) : PySem.W.findIn K (.ref (ga K "Conflict")) "feature" = some none := He.noat_ok (W.c.fact 49 rfl)
theorem Wo.g_InvalidCatalog (W : Wo K mg base) : mg "InvalidCatalog" = some (.ref (ga K "InvalidCatalog")) := He.glo_ok W.X W.G (W.c.fact 50 rfl)
theorem tx_InvalidCatalog : XTx (mkX "InvalidCatalog" "InvalidCatalog.__init__" (inClass (top 2) 0) ["index"]) := ⟨⟨_, rfl, rfl⟩, rfl, rfl, rfl, by decide +kernel, rfl, rfl, rfl⟩
theorem Wo.mk_InvalidCatalog {w : World} (W : Wo K mg base) : XMk P w K mg (ga K "InvalidCatalog") ["index"] := xmk1 (d := mkX "InvalidCatalog" "InvalidCatalog.__init__" (inClass (top 2) 0) ["index"]) tx_InvalidCatalog W.X W.G (W.c.xc 1 rfl).1 (by kernel_rfl) (W.c.xc 1 rfl).2 rfl rfl (by rfl) rfl (by decide) (by decide) (fun _ _ _ _ _ _ _ _ _ => BindsTo.of_eq (by first | rfl | with_unfolding_all rfl))
theorem Wo.z_InvalidCatalog (W : Wo K mg base) : XfC K (ga K "InvalidCatalog") := xfB_ok (W.c.fact2 11 (f := .xf "InvalidCatalog") rfl)
theorem Wo.y_InvalidCatalog_index (W : Wo K mg base) : PySem.W.findIn K (.ref (ga K "InvalidCatalog")) "index" = some none := He.noat_ok (W.c.fact 51 rfl)
theorem Wo.g_InvalidNote (W : Wo K mg base) : mg "InvalidNote" = some (.ref (ga K "InvalidNote")) := He.glo_ok W.X W.G (W.c.fact 52 rfl)
theorem tx_InvalidNote : XTx (mkX "InvalidNote" "InvalidNote.__init__" (inClass (top 4) 0) ["feature"]) := ⟨⟨_, rfl, rfl⟩, rfl, rfl, rfl, by decide +kernel, rfl, rfl, rfl⟩
theorem Wo.mk_InvalidNote {w : World} (W : Wo K mg base) : XMk P w K mg (ga K "InvalidNote") ["feature"] := xmk1 (d := mkX "InvalidNote" "InvalidNote.__init__" (inClass (top 4) 0) ["feature"]) tx_InvalidNote W.X W.G (W.c.xc 2 rfl).1 (by kernel_rfl) (W.c.xc 2 rfl).2 rfl rfl (by rfl) rfl (by decide) (by decide) (fun _ _ _ _ _ _ _ _ _ => BindsTo.of_eq (by first | rfl | with_unfolding_all rfl))
theorem Wo.z_InvalidNote (W : Wo K mg base) : XfC K (ga K "InvalidNote") := xfB_ok (W.c.fact2 12 (f := .xf "InvalidNote") rfl)
theorem Wo.y_InvalidNote_feature (W : Wo K mg base) : PySem.W.findIn K (.ref (ga K "InvalidNote")) "feature" = some none := He.noat_ok (W.c.fact 53 rfl)
theorem Wo.g_UnknownFeature (W : Wo K mg base) : mg "UnknownFeature" = some (.ref (ga K "UnknownFeature")) := He.glo_ok W.X W.G (W.c.fact 54 rfl)
theorem Wo.E_UnknownFeature (W : Wo K mg base) : PySem.W.excIn K (ga K "UnknownFeature") veBase "ValueError.__new__" = true ∧ PySem.W.keepIn K (.ref (ga K "UnknownFeature")) = true ∧ PySem.W.subIn K (.ref (ga K "UnknownFeature")) (.type "BaseException") = some true ∧ PySem.W.typeIn K (.ref (ga K "UnknownFeature")) = some (.type "type") := He.exc_ok (W.c.fact 55 rfl)
theorem Wo.e_UnknownFeature (W : Wo K mg base) : PySem.W.excIn K (ga K "UnknownFeature") veBase "ValueError.__new__" = true := W.E_UnknownFeature.1
theorem Wo.k_UnknownFeature (W : Wo K mg base) : PySem.W.keepIn K (.ref (ga K "UnknownFeature")) = true := W.E_UnknownFeature.2.1
theorem Wo.ym_Conflict_Conflict (W : Wo K mg base) : PySem.W.exmOne K (.ref (ga K "Conflict")) (.ref (ga K "Conflict")) = some true := He.exm_ok (W.c.fact 56 rfl)
theorem Wo.ym_Conflict_UnknownFeature (W : Wo K mg base) : PySem.W.exmOne K (.ref (ga K "UnknownFeature")) (.ref (ga K "Conflict")) = some false := He.exm_ok (W.c.fact 57 rfl)
theorem Wo.ym_InvalidNote_Conflict (W : Wo K mg base) : PySem.W.exmOne K (.ref (ga K "Conflict")) (.ref (ga K "InvalidNote")) = some false := He.exm_ok (W.c.fact 58 rfl)
theorem Wo.ym_InvalidNote_InvalidNote (W : Wo K mg base) : PySem.W.exmOne K (.ref (ga K "InvalidNote")) (.ref (ga K "InvalidNote")) = some true := He.exm_ok (W.c.fact 59 rfl)
theorem Wo.ym_InvalidNote_UnknownFeature (W : Wo K mg base) : PySem.W.exmOne K (.ref (ga K "UnknownFeature")) (.ref (ga K "InvalidNote")) = some false := He.exm_ok (W.c.fact 60 rfl)
theorem Wo.ym_UnknownFeature_UnknownFeature (W : Wo K mg base) : PySem.W.exmOne K (.ref (ga K "UnknownFeature")) (.ref (ga K "UnknownFeature")) = some true := He.exm_ok (W.c.fact 61 rfl)
theorem Wo.t__law_wrong (W : Wo K mg base) : tabB K "_law_wrong" = true := W.c.fact2 13 (f := .tab "_law_wrong") rfl
theorem Wo.t_law (W : Wo K mg base) : tabB K "law" = true := W.c.fact2 14 (f := .tab "law") rfl
theorem Wo.dift_law__law_wrong (W : Wo K mg base) : (tabA K "law").2 ≠ (tabA K "_law_wrong").2 := of_decide_eq_true (W.c.fact2 15 (f := .any (difT "law" "_law_wrong")) rfl)
theorem Wo.dif_Conflict_UnknownFeature (W : Wo K mg base) : ga K "Conflict" ≠ ga K "UnknownFeature" := of_decide_eq_true (W.c.fact2 16 (f := .dif "Conflict" "UnknownFeature") rfl)
theorem Wo.dif_InvalidNote_Conflict (W : Wo K mg base) : ga K "InvalidNote" ≠ ga K "Conflict" := of_decide_eq_true (W.c.fact2 17 (f := .dif "InvalidNote" "Conflict") rfl)
theorem Wo.dif_InvalidNote_UnknownFeature (W : Wo K mg base) : ga K "InvalidNote" ≠ ga K "UnknownFeature" := of_decide_eq_true (W.c.fact2 18 (f := .dif "InvalidNote" "UnknownFeature") rfl)
theorem Wo.isi0_ (W : Wo K mg base) : isiB K (([] : List Str).map (ga K)) = true := (W.c.fact2 19 (f := .isi []) rfl)
theorem Wo.isi0_Catalog (W : Wo K mg base) : isiB K ((["Catalog"] : List Str).map (ga K)) = true := (W.c.fact2 20 (f := .isi ["Catalog"]) rfl)
theorem Wo.isi0_Note (W : Wo K mg base) : isiB K ((["Note"] : List Str).map (ga K)) = true := (W.c.fact2 21 (f := .isi ["Note"]) rfl)
theorem Wo.isi_ (W : Wo K mg base) : IsiOk K [] := isiB_ok (fun C hC => absurd hC (by simp)) W.isi0_
theorem Wo.isi_Catalog (W : Wo K mg base) : IsiOk K [ga K "Catalog"] := isiB_ok (fun C hC => by
  simp only [List.mem_cons, List.not_mem_nil, or_false] at hC
  rcases hC with rfl
  exact W.c_Catalog) W.isi0_Catalog
theorem Wo.isi_Note (W : Wo K mg base) : IsiOk K [ga K "Note"] := isiB_ok (fun C hC => by
  simp only [List.mem_cons, List.not_mem_nil, or_false] at hC
  rcases hC with rfl
  exact W.c_Note) W.isi0_Note
end
abbrev Rw : PySem.W.OpenRow := PySem.W.OpenLaw.row PySem.Challenge.rw_lostdesk_k02_notes
def ads : List Addr := [3, 6, 4, 24, 46, 58, 79, 100, 107, 112, 117, 181, 251, 260, 267, 274, 279, 286, 291, 296, 301, 308, 313, 318, 323, 0, 23, 45, 57, 78, 99, 106, 111, 116, 180, 250, 259, 266, 273, 278, 285, 290, 295, 300, 307, 312, 317, 322, 22, 25, 43, 44, 56, 76, 77, 97, 98, 103, 105, 108, 110, 113, 115, 129, 137, 143, 150, 157, 164, 171, 178, 179, 182, 183, 197, 205, 213, 220, 227, 234, 241, 248, 249, 252, 253, 256, 258, 261, 263, 264, 265, 268, 270, 271, 272, 275, 277, 280, 282, 283, 284, 287, 289, 292, 294, 297, 299, 302, 304, 305, 306, 309, 311, 314, 316, 319, 321, 42, 31, 75, 64, 96, 85, 128, 136, 142, 149, 156, 163, 170, 177, 196, 204, 212, 219, 226, 233, 240, 247, 37, 39, 40, 41, 70, 72, 73, 74, 91, 93, 94, 95, 125, 127, 135, 141, 144, 146, 147, 148, 151, 153, 154, 155, 158, 160, 161, 162, 165, 167, 168, 169, 172, 174, 175, 176, 193, 195, 203, 211, 214, 216, 217, 218, 221, 223, 224, 225, 228, 230, 231, 232, 235, 237, 238, 239, 242, 244, 245, 246, 2]
abbrev hk : PySem.W.Hook := hookL ads tab
def ob (s : PySem.W.SharedT) : AlM := obsML ads tab (HandSHeadRun.getT s)
theorem ob_eq (s : PySem.W.SharedT) : ob s = hk.obs s.abs := obsML_eq (HandSHeadRun.getT_eq s)
def loose : List Str := [("__name__" : Str), ("DeskError" : Str), ("InvalidCatalog" : Str), ("UnknownFeature" : Str), ("InvalidNote" : Str), ("Conflict" : Str), ("LETTERS" : Str), ("MAX_LETTERS" : Str), ("MAX_FEATURES" : Str), ("MAX_VALUES" : Str), ("is_word" : Str), ("is_rising" : Str), ("is_feature" : Str), ("Catalog" : Str), ("Note" : Str), ("common" : Str), ("_law_mix" : Str), ("_law_next" : Str), ("_law_alike" : Str), ("_law_features" : Str), ("_law_some" : Str), ("_law_sets" : Str), ("_law_note" : Str), ("_law_fail" : Str), ("_law_same" : Str)]
theorem run_a (w : World) : RunA Rw (PySem.W.view Rw.prog [28, 29]) 20000 loose w := by
  intro os
  kernel_rfl
theorem run_b (w : World) : RunB Rw hk ob 20000 w := by
  intro os
  kernel_rfl
theorem run (w : World) : HandSHeadRun.RunEq Rw (PySem.W.view Rw.prog [28, 29]) hk ob 20000 loose w := run_of (run_a w) (run_b w)
end K02


namespace LD
open PySem L2 He DL
noncomputable def B__law_mix (K : PySem.W.Frag) : MS :=
    (sSeq (sSet 2 (mVar 1))
    (sSeq (sFor (mIt itL (mVar 0)) (gName 3) (sSet 2 (mOp oModM (mCB oInt1M (mCons (mOp oAddM (mOp oAddM (mOp oMulM (mVar 2) (mC (.int 48271))) (mOp oModM (mCB oInt1M (mCons (mVar 3) mNil)) (mC (.int 2147483629)))) (mC (.int 1))) mNil)) (mC (.int 2147483647)))))
    (sRet (mLstC (mCons (mVar 2) (mCons (mCB oListCM (mCons (mVar 0) mNil)) (mCons (mC (.int 0)) mNil)))))))
noncomputable def F__law_mix (K : PySem.W.Frag) : Fn := mDefK (nn 4) 2 (B__law_mix K)
theorem F__law_mix_eq (K : PySem.W.Frag) (x0 x1 : T) (ce : Ce) : F__law_mix K [x0, x1] ce = (B__law_mix K [some x0, some x1, none, none] ce).outK := rfl
noncomputable def B__law_next (K : PySem.W.Frag) : MS :=
    (sSeq (sSet 2 (mOp oIxM (mOp oAddM (mOp oIxM (mVar 0) (mC (.int 1))) (mLst (mCons (mC (.int 0)) mNil))) (mOp oModM (mCB oInt1M (mCons (mOp oIxM (mVar 0) (mC (.int 2))) mNil)) (mCB oMax2M (mCons (mC (.int 1)) (mCons (mCB oLenM (mCons (mOp oIxM (mVar 0) (mC (.int 1))) mNil)) mNil))))))
    (sSeq (sIf (mTB (mOp oGeM (mVar 2) (mOp oPowM (mC (.int 10)) (mC (.int 18))))) (sSeq (sStI (mOp oIxM (mVar 0) (mC (.int 1))) (mOp oModM (mCB oInt1M (mCons (mOp oIxM (mVar 0) (mC (.int 2))) mNil)) (mCB oLenM (mCons (mOp oIxM (mVar 0) (mC (.int 1))) mNil))) (mOp oFdivM (mVar 2) (mVar 1)))
    (sRet (mOp oModM (mCB oInt1M (mCons (mVar 2) mNil)) (mVar 1)))) sNext)
    (sSeq (sStI (mVar 0) (mC (.int 0)) (mOp oModM (mCB oInt1M (mCons (mOp oAddM (mOp oAddM (mOp oMulM (mOp oIxM (mVar 0) (mC (.int 0))) (mC (.int 48271))) (mOp oMulM (mVar 2) (mC (.int 69621)))) (mC (.int 11))) mNil)) (mC (.int 2147483647))))
    (sSeq (sStI (mVar 0) (mC (.int 2)) (mOp oAddM (mOp oIxM (mVar 0) (mC (.int 2))) (mC (.int 1))))
    (sRet (mOp oModM (mCB oInt1M (mCons (mOp oFdivM (mOp oIxM (mVar 0) (mC (.int 0))) (mC (.int 7))) mNil)) (mVar 1)))))))
noncomputable def F__law_next (K : PySem.W.Frag) : Fn := mDef (nn 3) 2 (B__law_next K)
theorem F__law_next_eq (K : PySem.W.Frag) (x0 x1 : T) (ce : Ce) : F__law_next K [x0, x1] ce = (B__law_next K [some x0, some x1, none] ce).out ce := rfl
noncomputable def B__law_features (K : PySem.W.Frag) : MS :=
    (sSeq (sSet 2 (mLstC mNil))
    (sSeq (sFor (mRange1 (mCons (mOp oAddM (mC (.int 1)) (mCall (F__law_next K) (mCons (mVar 0) (mCons (mVar 1) mNil)))) mNil)) (gName 3) (sSeq (sSet 4 (mLstC (mCons (mC (.str "blue")) (mCons (mC (.str "gray")) (mCons (mC (.str "pink")) (mCons (mC (.str "red")) (mCons (mC (.str "tan")) mNil)))))))
    (sSeq (sWhile (fun _ _ => 6) (mTB (mOp oGtM (mCB oLenM (mCons (mVar 4) mNil)) (mOp oAddM (mC (.int 2)) (mCall (F__law_next K) (mCons (mVar 0) (mCons (mC (.int 3)) mNil)))))) (sDrop (mBM bPop (mVar 4) (mCons (mCall (F__law_next K) (mCons (mVar 0) (mCons (mCB oLenM (mCons (mVar 4) mNil)) mNil))) mNil))))
    (sDrop (mBM bApp (mVar 2) (mCons (mTup (mCons (mOp oIxM (mLst (mCons (mC (.str "hue")) (mCons (mC (.str "size")) (mCons (mC (.str "age")) (mCons (mC (.str "kind")) (mCons (mC (.str "lid")) (mCons (mC (.str "bag")) mNil))))))) (mVar 3)) (mCons (mCB oTupleM (mCons (mVar 4) mNil)) mNil))) mNil))))))
    (sRet (mCB oTupleM (mCons (mVar 2) mNil)))))
noncomputable def F__law_features (K : PySem.W.Frag) : Fn := mDef (nn 5) 2 (B__law_features K)
theorem F__law_features_eq (K : PySem.W.Frag) (x0 x1 : T) (ce : Ce) : F__law_features K [x0, x1] ce = (B__law_features K [some x0, some x1, none, none, none] ce).out ce := rfl
noncomputable def B__law_some (K : PySem.W.Frag) : MS :=
    (sSeq (sIf (mTB (mOp (oEqM false) (mCall (F__law_next K) (mCons (mVar 0) (mCons (mC (.int 3)) mNil))) (mC (.int 0)))) (sRet (mVar 1)) sNext)
    (sSeq (sSet 2 (mLc (mIt itT (mVar 1)) (gName 3) (mTB (mOp (oEqM false) (mCall (F__law_next K) (mCons (mVar 0) (mCons (mC (.int 2)) mNil))) (mC (.int 0)))) (mVar 3) [3]))
    (sRet (mIfE (mTB (mOp (oEqM true) (mVar 2) (mLst mNil))) (mCB oTupleM (mCons (mVar 2) mNil)) (mTup (mCons (mOp oIxM (mVar 1) (mCall (F__law_next K) (mCons (mVar 0) (mCons (mCB oLenM (mCons (mVar 1) mNil)) mNil)))) mNil))))))
noncomputable def F__law_some (K : PySem.W.Frag) : Fn := mDef (nn 4) 2 (B__law_some K)
theorem F__law_some_eq (K : PySem.W.Frag) (x0 x1 : T) (ce : Ce) : F__law_some K [x0, x1] ce = (B__law_some K [some x0, some x1, none, none] ce).out ce := rfl
noncomputable def B__law_sets (K : PySem.W.Frag) : MS :=
    (sRet (mCB oDictM (mCons (mLc (mIt itT (mVar 1)) (gTup 2 (gCons (gName 2) (gCons (gName 3) gNil))) mYes (mTup (mCons (mVar 2) (mCons (mCall (F__law_some K) (mCons (mVar 0) (mCons (mVar 3) mNil))) mNil))) [2, 3]) mNil)))
noncomputable def F__law_sets (K : PySem.W.Frag) : Fn := mDef (nn 4) 2 (B__law_sets K)
theorem F__law_sets_eq (K : PySem.W.Frag) (x0 x1 : T) (ce : Ce) : F__law_sets K [x0, x1] ce = (B__law_sets K [some x0, some x1, none, none] ce).out ce := rfl
noncomputable def B_is_word (K : PySem.W.Frag) : MS :=
    (sRet (mAndV (mChain oLeM oLeM (mC (.int 1)) (mCB oLenM (mCons (mVar 0) mNil)) (mC (.int 8))) (mOp (oEqM false) (mLc (mIt itS (mVar 0)) (gName 1) (mTB (mOp (oInM true) (mVar 1) (mC (.str "abcdefghijklmnopqrstuvwxyz")))) (mVar 1) [1]) (mLst mNil))))
noncomputable def F_is_word (K : PySem.W.Frag) : Fn := mDef (nn 2) 1 (B_is_word K)
theorem F_is_word_eq (K : PySem.W.Frag) (x0 : T) (ce : Ce) : F_is_word K [x0] ce = (B_is_word K [some x0, none] ce).out ce := rfl
noncomputable def B_is_rising (K : PySem.W.Frag) : MS :=
    (sRet (mCB oAllM (mCons (mLc (mZip (mCons (mVar 0) (mCons (mSlice (mVar 0) (mPart (mC (.int 1))) mNoP) mNil))) (gTup 2 (gCons (gName 1) (gCons (gName 2) gNil))) mYes (mOp oLtM (mVar 1) (mVar 2)) [1, 2]) mNil)))
noncomputable def F_is_rising (K : PySem.W.Frag) : Fn := mDef (nn 3) 1 (B_is_rising K)
theorem F_is_rising_eq (K : PySem.W.Frag) (x0 : T) (ce : Ce) : F_is_rising K [x0] ce = (B_is_rising K [some x0, none, none] ce).out ce := rfl
noncomputable def B_is_feature (K : PySem.W.Frag) : MS :=
    (sSeq (sAsg (mVar 0) (gTup 2 (gCons (gName 1) (gCons (gName 2) gNil))))
    (sSeq (sIf (mOrT (mNotT (mTru (mCall (F_is_word K) (mCons (mVar 1) mNil)))) (mNotT (mTB (mChain oLeM oLeM (mC (.int 2)) (mCB oLenM (mCons (mVar 2) mNil)) (mC (.int 8)))))) (sRet (mC (.bl false))) sNext)
    (sRet (mAndV (mCB oAllM (mCons (mLc (mIt itT (mVar 2)) (gName 3) mYes (mCall (F_is_word K) (mCons (mVar 3) mNil)) [3]) mNil)) (mCall (F_is_rising K) (mCons (mVar 2) mNil))))))
noncomputable def F_is_feature (K : PySem.W.Frag) : Fn := mDef (nn 4) 1 (B_is_feature K)
theorem F_is_feature_eq (K : PySem.W.Frag) (x0 : T) (ce : Ce) : F_is_feature K [x0] ce = (B_is_feature K [some x0, none, none, none] ce).out ce := rfl
noncomputable def B_Catalog___init__ (K : PySem.W.Frag) : MS :=
    (sSeq (sFor (mEnum (mCons (mVar 1) mNil)) (gTup 2 (gCons (gName 2) (gCons (gName 3) gNil))) (sSeq (sSet 4 (mOp (oInM false) (mOp oIxM (mVar 3) (mC (.int 0))) (mLc (mIt itT (mSlice (mVar 1) mNoP (mPart (mVar 2)))) (gName 5) mYes (mOp oIxM (mVar 5) (mC (.int 0))) [5])))
    (sIf (mOrT (mTB (mOp (oEqM false) (mVar 2) (mC (.int 6)))) (mOrT (mTru (mVar 4)) (mNotT (mTru (mCall (F_is_feature K) (mCons (mVar 3) mNil)))))) (sRaise (mXkw (ga K "InvalidCatalog") ["index"] (mCons (mVar 2) mNil))) sNext)))
    (sSeq (sIf (mTB (mOp (oEqM false) (mCB oLenM (mCons (mVar 1) mNil)) (mC (.int 0)))) (sRaise (mXkw (ga K "InvalidCatalog") ["index"] (mCons (mC (.int 0)) mNil))) sNext)
    (sStF (ga K "Catalog") "parts" (mVar 0) (mVar 1))))
noncomputable def F_Catalog___init__ (K : PySem.W.Frag) : Fn := mDefK (nn 6) 2 (B_Catalog___init__ K)
theorem F_Catalog___init___eq (K : PySem.W.Frag) (x0 x1 : T) (ce : Ce) : F_Catalog___init__ K [x0, x1] ce = (B_Catalog___init__ K [some x0, some x1, none, none, none, none] ce).outK := rfl
noncomputable def B_Catalog_names (K : PySem.W.Frag) : MS :=
    (sRet (mCB oTupleM (mCons (mLc (mIt itT (mFld (ga K "Catalog") "parts" (mVar 0))) (gTup 2 (gCons (gName 1) (gCons (gName 2) gNil))) mYes (mVar 1) [1, 2]) mNil)))
noncomputable def F_Catalog_names (K : PySem.W.Frag) : Fn := mDef (nn 3) 1 (B_Catalog_names K)
theorem F_Catalog_names_eq (K : PySem.W.Frag) (x0 : T) (ce : Ce) : F_Catalog_names K [x0] ce = (B_Catalog_names K [some x0, none, none] ce).out ce := rfl
noncomputable def B_Catalog___contains__ (K : PySem.W.Frag) : MS :=
    (sRet (mOp (oInM false) (mVar 1) (mProp (ga K "Catalog") (F_Catalog_names K) (mVar 0))))
noncomputable def F_Catalog___contains__ (K : PySem.W.Frag) : Fn := mDef (nn 2) 2 (B_Catalog___contains__ K)
theorem F_Catalog___contains___eq (K : PySem.W.Frag) (x0 x1 : T) (ce : Ce) : F_Catalog___contains__ K [x0, x1] ce = (B_Catalog___contains__ K [some x0, some x1] ce).out ce := rfl
noncomputable def B_Catalog_features (K : PySem.W.Frag) : MS :=
    (sRet (mFld (ga K "Catalog") "parts" (mVar 0)))
noncomputable def F_Catalog_features (K : PySem.W.Frag) : Fn := mDef (nn 1) 1 (B_Catalog_features K)
theorem F_Catalog_features_eq (K : PySem.W.Frag) (x0 : T) (ce : Ce) : F_Catalog_features K [x0] ce = (B_Catalog_features K [some x0] ce).out ce := rfl
noncomputable def B_Note___init__ (K : PySem.W.Frag) : MS :=
    (sSeq (sSet 3 (mCB oSortSM (mCons (mLc (mIt itDK (mVar 2)) (gName 4) (mTB (mOp (oInOM (ga K "Catalog") (F_Catalog___contains__ K) true) (mVar 4) (mVar 1))) (mVar 4) [4]) mNil)))
    (sSeq (sIf (mTB (mOp (oEqM true) (mVar 3) (mLst mNil))) (sRaise (mXkw (ga K "InvalidNote") ["feature"] (mCons (mOp oIxM (mVar 3) (mC (.int 0))) mNil))) sNext)
    (sSeq (sStF (ga K "Note") "own_catalog" (mVar 0) (mVar 1))
    (sSeq (sStF (ga K "Note") "sets" (mVar 0) mDNew)
    (sFor (mIt itT (mProp (ga K "Catalog") (F_Catalog_features K) (mVar 1))) (gTup 2 (gCons (gName 4) (gCons (gName 5) gNil))) (sSeq (sSet 6 (mDGet2 (mVar 2) (mVar 4) (mVar 5)))
    (sSeq (sIf (mOrT (mTB (mOp (oEqM false) (mCB oLenM (mCons (mVar 6) mNil)) (mC (.int 0)))) (mOrT (mNotT (mTru (mCall (F_is_rising K) (mCons (mVar 6) mNil)))) (mTB (mOp (oEqM true) (mLc (mIt itT (mVar 6)) (gName 7) (mTB (mOp (oInM true) (mVar 7) (mVar 5))) (mVar 7) [7]) (mLst mNil))))) (sRaise (mXkw (ga K "InvalidNote") ["feature"] (mCons (mVar 4) mNil))) sNext)
    (sDPut (mFld (ga K "Note") "sets" (mVar 0)) (mVar 4) (mVar 6)))))))))
noncomputable def F_Note___init__ (K : PySem.W.Frag) : Fn := mDefK (nn 8) 3 (B_Note___init__ K)
theorem F_Note___init___eq (K : PySem.W.Frag) (x0 x1 x2 : T) (ce : Ce) : F_Note___init__ K [x0, x1, x2] ce = (B_Note___init__ K [some x0, some x1, some x2, none, none, none, none, none] ce).outK := rfl
noncomputable def B__law_note (K : PySem.W.Frag) : MS :=
    (sRet (mMake (ga K "Note") (F_Note___init__ K) (mCons (mVar 0) (mCons (mCB oDictM (mCons (mLc (mIt itT (mVar 1)) (gTup 2 (gCons (gName 3) (gCons (gName 4) gNil))) (mTB (mOp (oEqM true) (mOp oDGetM (mVar 2) (mVar 3)) (mVar 4))) (mTup (mCons (mVar 3) (mCons (mOp oDGetM (mVar 2) (mVar 3)) mNil))) [3, 4]) mNil)) mNil))))
noncomputable def F__law_note (K : PySem.W.Frag) : Fn := mDef (nn 5) 3 (B__law_note K)
theorem F__law_note_eq (K : PySem.W.Frag) (x0 x1 x2 : T) (ce : Ce) : F__law_note K [x0, x1, x2] ce = (B__law_note K [some x0, some x1, some x2, none, none] ce).out ce := rfl
noncomputable def B_Note_catalog (K : PySem.W.Frag) : MS :=
    (sRet (mFld (ga K "Note") "own_catalog" (mVar 0)))
noncomputable def F_Note_catalog (K : PySem.W.Frag) : Fn := mDef (nn 1) 1 (B_Note_catalog K)
theorem F_Note_catalog_eq (K : PySem.W.Frag) (x0 : T) (ce : Ce) : F_Note_catalog K [x0] ce = (B_Note_catalog K [some x0] ce).out ce := rfl
noncomputable def B_Catalog___eq__ (K : PySem.W.Frag) : MS :=
    (sRet (mAndV (mCB (oIsiM [ga K "Catalog"]) (mCons (mVar 1) (mCons (mC (.raw (.ref (ga K "Catalog")))) mNil))) (mOp (oEqM false) (mFld (ga K "Catalog") "parts" (mVar 0)) (mProp (ga K "Catalog") (F_Catalog_features K) (mVar 1)))))
noncomputable def F_Catalog___eq__ (K : PySem.W.Frag) : Fn := mDef (nn 2) 2 (B_Catalog___eq__ K)
theorem F_Catalog___eq___eq (K : PySem.W.Frag) (x0 x1 : T) (ce : Ce) : F_Catalog___eq__ K [x0, x1] ce = (B_Catalog___eq__ K [some x0, some x1] ce).out ce := rfl
noncomputable def B_Note___getitem__ (K : PySem.W.Frag) : MS :=
    (sSeq (sIf (mTB (mOp (oDInM true) (mVar 1) (mFld (ga K "Note") "sets" (mVar 0)))) (sRaise (mXown (ga K "UnknownFeature"))) sNext)
    (sRet (mOp oDGetM (mFld (ga K "Note") "sets" (mVar 0)) (mVar 1))))
noncomputable def F_Note___getitem__ (K : PySem.W.Frag) : Fn := mDef (nn 2) 2 (B_Note___getitem__ K)
theorem F_Note___getitem___eq (K : PySem.W.Frag) (x0 x1 : T) (ce : Ce) : F_Note___getitem__ K [x0, x1] ce = (B_Note___getitem__ K [some x0, some x1] ce).out ce := rfl
noncomputable def B_common (K : PySem.W.Frag) : MS :=
    (sRet (mCB oTupleM (mCons (mLc (mIt itT (mGetO (ga K "Note") (F_Note___getitem__ K) (mVar 0) (mVar 2))) (gName 3) (mTB (mOp (oInM false) (mVar 3) (mGetO (ga K "Note") (F_Note___getitem__ K) (mVar 1) (mVar 2)))) (mVar 3) [3]) mNil)))
noncomputable def F_common (K : PySem.W.Frag) : Fn := mDef (nn 4) 3 (B_common K)
theorem F_common_eq (K : PySem.W.Frag) (x0 x1 x2 : T) (ce : Ce) : F_common K [x0, x1, x2] ce = (B_common K [some x0, some x1, some x2, none] ce).out ce := rfl
noncomputable def B__law_alike (K : PySem.W.Frag) (F_ : Fn) : MS :=
    (sSeq (sIf (mTru (mCB (oIsiM []) (mCons (mVar 1) (mCons (mC (.raw (.ty "dict"))) mNil)))) (sRet (mAndV (mCB (oIsiM []) (mCons (mVar 0) (mCons (mC (.raw (.ty "dict"))) mNil))) (mAndV mNever (mOp (oEqM false) (mVar 0) (mVar 1))))) sNext)
    (sSeq (sIf (mTru (mCB (oIsiM []) (mCons (mVar 1) (mCons (mTup (mCons (mC (.raw (.ty "tuple"))) (mCons (mC (.raw (.ty "list"))) mNil))) mNil)))) (sSeq (sIf (mOrT (mNotT (mTru (mCB (oIsiM []) (mCons (mVar 0) (mCons (mTup (mCons (mC (.raw (.ty "tuple"))) (mCons (mC (.raw (.ty "list"))) mNil))) mNil))))) (mTB (mOp (oEqM true) (mCB (oIsiM []) (mCons (mVar 0) (mCons (mC (.raw (.ty "list"))) mNil))) (mCB (oIsiM []) (mCons (mVar 1) (mCons (mC (.raw (.ty "list"))) mNil)))))) (sRet (mC (.bl false))) sNext)
    (sSeq (sIf (mTB (mOp (oEqM true) (mCB oLenM (mCons (mVar 0) mNil)) (mCB oLenM (mCons (mVar 1) mNil)))) (sRet (mC (.bl false))) sNext)
    (sRet (mOp (oEqM false) (mLc (mRange1 (mCons (mCB oLenM (mCons (mVar 1) mNil)) mNil)) (gName 2) (mNotT (mTru (mCall F_ (mCons (mOp oIxM (mVar 0) (mVar 2)) (mCons (mOp oIxM (mVar 1) (mVar 2)) mNil))))) (mVar 2) [2]) (mLst mNil))))) sNext)
    (sSeq (sIf (mOrT (mTB (mOp (oIsNM false) (mVar 1) (mC .non))) (mTru (mCB (oIsiM []) (mCons (mVar 1) (mCons (mC (.raw (.ty "str"))) mNil))))) (sRet (mAndV (mOp (oEqM false) (mVar 0) (mVar 1)) (mOp (oEqM false) (mCB (oIsiM []) (mCons (mVar 0) (mCons (mC (.raw (.ty "str"))) mNil))) (mCB (oIsiM []) (mCons (mVar 1) (mCons (mC (.raw (.ty "str"))) mNil)))))) sNext)
    (sRet (mAndV (mCB (oIsiM []) (mCons (mVar 0) (mCons (mC (.raw (.ty "int"))) mNil))) (mAndV (mOp (oEqM false) (mCB (oIsiM []) (mCons (mVar 0) (mCons (mC (.raw (.ty "bool"))) mNil))) (mCB (oIsiM []) (mCons (mVar 1) (mCons (mC (.raw (.ty "bool"))) mNil)))) (mOp (oEqM false) (mVar 0) (mVar 1))))))))
noncomputable def F__law_alike (K : PySem.W.Frag) : Nat → Fn
  | 0 => fun _ _ => .bad
  | n + 1 => mDef (nn 3) 2 (B__law_alike K (F__law_alike K n))
theorem F__law_alike_eq (K : PySem.W.Frag) (n : Nat) (x0 x1 : T) (ce : Ce) : F__law_alike K (n + 1) [x0, x1] ce = (B__law_alike K (F__law_alike K n) [some x0, some x1, none] ce).out ce := rfl

open PySem L2 He DL

open PySem L2 He DL

open PySem L2 He DL

open PySem L2 He DL

open PySem L2 He DL

open PySem L2 He DL

open PySem L2 He DL

open PySem L2 He DL
noncomputable def B_Note_narrowed (K : PySem.W.Frag) : MS :=
    (sSeq (sIf (mTB (mOp (oInM true) (mVar 2) (mGetO (ga K "Note") (F_Note___getitem__ K) (mVar 0) (mVar 1)))) (sRaise (mXkw (ga K "Conflict") ["feature"] (mCons (mVar 1) mNil))) sNext)
    (sRet (mMake (ga K "Note") (F_Note___init__ K) (mCons (mFld (ga K "Note") "own_catalog" (mVar 0)) (mCons (mOp oUnionM (mFld (ga K "Note") "sets" (mVar 0)) (mFrz (mDictC (mPCons (mVar 1) (mTup (mCons (mVar 2) mNil)) mPNil)))) mNil)))))
noncomputable def F_Note_narrowed (K : PySem.W.Frag) : Fn := mDef (nn 3) 3 (B_Note_narrowed K)
theorem F_Note_narrowed_eq (K : PySem.W.Frag) (x0 x1 x2 : T) (ce : Ce) : F_Note_narrowed K [x0, x1, x2] ce = (B_Note_narrowed K [some x0, some x1, some x2] ce).out ce := rfl

open PySem L2 He DL

open PySem L2 He DL

open PySem L2 He DL

open PySem L2 He DL
noncomputable def B_Note___eq__ (K : PySem.W.Frag) : MS :=
    (sRet (mAndV (mCB (oIsiM [ga K "Note"]) (mCons (mVar 1) (mCons (mC (.raw (.ref (ga K "Note")))) mNil))) (mAndV (mOp (oEqOM (ga K "Catalog") (F_Catalog___eq__ K) false) (mFld (ga K "Note") "own_catalog" (mVar 0)) (mProp (ga K "Note") (F_Note_catalog K) (mVar 1))) (mOp (oDeqM false) (mFld (ga K "Note") "sets" (mVar 0)) (mFld (ga K "Note") "sets" (mVar 1))))))
noncomputable def F_Note___eq__ (K : PySem.W.Frag) : Fn := mDef (nn 2) 2 (B_Note___eq__ K)
theorem F_Note___eq___eq (K : PySem.W.Frag) (x0 x1 : T) (ce : Ce) : F_Note___eq__ K [x0, x1] ce = (B_Note___eq__ K [some x0, some x1] ce).out ce := rfl

open PySem L2 He DL

open PySem L2 He DL

open PySem L2 He DL
noncomputable def B_Note_description_count (K : PySem.W.Frag) : MS :=
    (sSeq (sSet 1 (mC (.int 1)))
    (sSeq (sFor (mIt itDV (mFld (ga K "Note") "sets" (mVar 0))) (gName 2) (sAugMul 1 (mCB oLenM (mCons (mVar 2) mNil))))
    (sRet (mVar 1))))
noncomputable def F_Note_description_count (K : PySem.W.Frag) : Fn := mDef (nn 3) 1 (B_Note_description_count K)
theorem F_Note_description_count_eq (K : PySem.W.Frag) (x0 : T) (ce : Ce) : F_Note_description_count K [x0] ce = (B_Note_description_count K [some x0, none, none] ce).out ce := rfl

open PySem L2 He DL

open PySem L2 He DL

open PySem L2 He DL

open PySem L2 He DL

open PySem L2 He DL

open PySem L2 He DL

open PySem L2 He DL

open PySem L2 He DL

open PySem L2 He DL

open PySem L2 He DL

open PySem L2 He DL

open PySem L2 He DL

open PySem L2 He DL

open PySem L2 He DL

open PySem L2 He DL

open PySem L2 He DL

open PySem L2 He DL

open PySem L2 He DL

open PySem L2 He DL

open PySem L2 He DL

open PySem L2 He DL

open PySem L2 He DL

open PySem L2 He DL

open PySem L2 He DL
noncomputable def B__law_same (K : PySem.W.Frag) : MS :=
    (sSeq (sIf (mNotT (mTru (mCB (oIsiM []) (mCons (mVar 2) (mCons (mC (.raw (.ty "dict"))) mNil))))) (sRet (mCall (F__law_alike K 8) (mCons (mVar 0) (mCons (mVar 2) mNil)))) sNext)
    (sSeq (sIf (mNotT (mTru (mCB (oIsiM [ga K "Note"]) (mCons (mVar 0) (mCons (mC (.raw (.ref (ga K "Note")))) mNil))))) (sRet (mC (.bl false))) sNext)
    (sSeq (sIf (mTB (mOp (oEqM true) (mLc (mIt itT (mVar 1)) (gTup 2 (gCons (gName 3) (gCons (gName 4) gNil))) (mTB (mOp (oEqM true) (mGetO (ga K "Note") (F_Note___getitem__ K) (mVar 0) (mVar 3)) (mOp oDGetM (mVar 2) (mVar 3)))) (mVar 3) [3, 4]) (mLst mNil))) (sRet (mC (.bl false))) sNext)
    (sSeq (sSet 5 (mC (.int 1)))
    (sSeq (sFor (mIt itDK (mVar 2)) (gName 3) (sSet 5 (mOp oMulM (mVar 5) (mCB oLenM (mCons (mOp oDGetM (mVar 2) (mVar 3)) mNil)))))
    (sRet (mCall (F__law_alike K 8) (mCons (mProp (ga K "Note") (F_Note_description_count K) (mVar 0)) (mCons (mVar 5) mNil)))))))))
noncomputable def F__law_same (K : PySem.W.Frag) : Fn := mDef (nn 6) 3 (B__law_same K)
theorem F__law_same_eq (K : PySem.W.Frag) (x0 x1 x2 : T) (ce : Ce) : F__law_same K [x0, x1, x2] ce = (B__law_same K [some x0, some x1, some x2, none, none, none] ce).out ce := rfl
noncomputable def H0__law_fail_v2 (K : PySem.W.Frag) (a : Addr) (cls : Value) (d : Option Addr) : MS :=
    (sRet (mTup (mCons (mC (.str "InvalidNote")) (mCons (mXf a cls d (ga K "InvalidNote") "feature" (mVar 1)) mNil))))
noncomputable def H1__law_fail_v2 (K : PySem.W.Frag) (a : Addr) (cls : Value) (d : Option Addr) : MS :=
    (sRet (mTup (mCons (mC (.str "Conflict")) (mCons (mXf a cls d (ga K "Conflict") "feature" (mVar 1)) mNil))))
noncomputable def H2__law_fail_v2 (K : PySem.W.Frag) (a : Addr) (cls : Value) (d : Option Addr) : MS :=
    (sRet (mC (.str "UnknownFeature")))
noncomputable def F__law_fail_v2 (K : PySem.W.Frag) : (Ce → R T) → Ce → R T := fFail 2 [((exmL [(ga K "InvalidNote", true), (ga K "Conflict", false), (ga K "UnknownFeature", false)]), some 1, H0__law_fail_v2 K), ((exmL [(ga K "Conflict", true), (ga K "UnknownFeature", false)]), some 1, H1__law_fail_v2 K), ((exmL [(ga K "UnknownFeature", true)]), none, H2__law_fail_v2 K)]
noncomputable def B_Note_both (K : PySem.W.Frag) : MS :=
    (sSeq (sSet 2 mDNew)
    (sSeq (sFor (mIt itT (mProp (ga K "Catalog") (F_Catalog_names K) (mFld (ga K "Note") "own_catalog" (mVar 0)))) (gName 3) (sSeq (sDPut (mVar 2) (mVar 3) (mCall (F_common K) (mCons (mVar 0) (mCons (mVar 1) (mCons (mVar 3) mNil)))))
    (sIf (mTB (mOp (oEqM false) (mOp oDGetM (mVar 2) (mVar 3)) (mTup mNil))) (sRaise (mXkw (ga K "Conflict") ["feature"] (mCons (mVar 3) mNil))) sNext)))
    (sRet (mMake (ga K "Note") (F_Note___init__ K) (mCons (mFld (ga K "Note") "own_catalog" (mVar 0)) (mCons (mTake (mVar 2)) mNil))))))
noncomputable def F_Note_both (K : PySem.W.Frag) : Fn := mDef (nn 4) 2 (B_Note_both K)
theorem F_Note_both_eq (K : PySem.W.Frag) (x0 x1 : T) (ce : Ce) : F_Note_both K [x0, x1] ce = (B_Note_both K [some x0, some x1, none, none] ce).out ce := rfl
noncomputable def B__law_wrong (K : PySem.W.Frag) : MS :=
    (sSeq (sAsg (mOp oIxM (mVar 2) (mCall (F__law_next K) (mCons (mVar 0) (mCons (mCB oLenM (mCons (mVar 2) mNil)) mNil)))) (gTup 2 (gCons (gName 4) (gCons (gName 5) gNil))))
    (sSeq (sSet 6 (mOp oIxM (mLst (mCons (mTup mNil) (mCons (mOp oAddM (mVar 5) (mTup (mCons (mC (.str "zzz")) mNil))) (mCons (mTup (mCons (mOp oIxM (mVar 5) (mC (.int 1))) (mCons (mOp oIxM (mVar 5) (mC (.int 0))) mNil))) (mCons (mTup (mCons (mOp oIxM (mVar 5) (mC (.int 0))) (mCons (mOp oIxM (mVar 5) (mC (.int 0))) mNil))) (mCons (mTup (mCons (mC (.str "aaa")) mNil)) mNil)))))) (mCall (F__law_next K) (mCons (mVar 0) (mCons (mC (.int 5)) mNil)))))
    (sSeq (sSet 7 (mCB oDictNM (mCons (mLc (mIt itDK (mVar 3)) (gName 8) mYes (mTup (mCons (mVar 8) (mCons (mIfE (mTB (mOp (oEqM true) (mVar 8) (mVar 4))) (mOp oDGetM (mVar 3) (mVar 8)) (mVar 6)) mNil))) [8]) mNil)))
    (sSeq (sIf (mNotT (mTru (mCall (F__law_alike K 8) (mCons (mLam 1 (tabA K "_law_wrong").2 (lamN "_law_wrong") (F__law_fail_v2 K) (mMakeV (ga K "Note") (F_Note___init__ K) (mCons (mVar 1) (mCons (mVar 7) mNil)))) (mCons (mTup (mCons (mC (.str "InvalidNote")) (mCons (mVar 4) mNil))) mNil))))) (sRet (mC (.bl false))) sNext)
    (sSeq (sParD (mVar 7) (mC (.str "zzz")) (mVar 7) (mC (.str "zza")) (mCons (mVar 5) (mCons (mVar 5) mNil)))
    (sRet (mCall (F__law_alike K 8) (mCons (mLam 1 (tabA K "_law_wrong").2 (lamN "_law_wrong") (F__law_fail_v2 K) (mMakeV (ga K "Note") (F_Note___init__ K) (mCons (mVar 1) (mCons (mVar 7) mNil)))) (mCons (mTup (mCons (mC (.str "InvalidNote")) (mCons (mC (.str "zza")) mNil))) mNil)))))))))
noncomputable def F__law_wrong (K : PySem.W.Frag) : Fn := mDef (nn 9) 4 (B__law_wrong K)
theorem F__law_wrong_eq (K : PySem.W.Frag) (x0 x1 x2 x3 : T) (ce : Ce) : F__law_wrong K [x0, x1, x2, x3] ce = (B__law_wrong K [some x0, some x1, some x2, some x3, none, none, none, none, none] ce).out ce := rfl
noncomputable def B_law_k02 (K : PySem.W.Frag) : MS :=
    (sSeq (sSet 1 (mCall (F__law_mix K) (mCons (mVar 0) (mCons (mC (.int 2)) mNil))))
    (sSeq (sFor (mRange1 (mCons (mC (.int 4)) mNil)) (gName 2) (sSeq (sSet 3 (mCall (F__law_features K) (mCons (mVar 1) (mCons (mC (.int 4)) mNil))))
    (sSeq (sAsg (mTup (mCons (mMake (ga K "Catalog") (F_Catalog___init__ K) (mCons (mVar 3) mNil)) (mCons (mCall (F__law_sets K) (mCons (mVar 1) (mCons (mVar 3) mNil))) (mCons (mCall (F__law_sets K) (mCons (mVar 1) (mCons (mVar 3) mNil))) mNil)))) (gTup 3 (gCons (gName 4) (gCons (gName 5) (gCons (gName 6) gNil)))))
    (sSeq (sAsg (mTup (mCons (mCall (F__law_note K) (mCons (mVar 4) (mCons (mVar 3) (mCons (mVar 5) mNil)))) (mCons (mMake (ga K "Note") (F_Note___init__ K) (mCons (mVar 4) (mCons (mVar 6) mNil))) mNil))) (gTup 2 (gCons (gName 7) (gCons (gName 8) gNil))))
    (sSeq (sIf (mOrT (mNotT (mTru (mCall (F__law_same K) (mCons (mVar 7) (mCons (mVar 3) (mCons (mVar 5) mNil)))))) (mOrT (mNotT (mTru (mCall (F__law_same K) (mCons (mVar 8) (mCons (mVar 3) (mCons (mVar 6) mNil)))))) (mTB (mOp (oEqOM (ga K "Catalog") (F_Catalog___eq__ K) true) (mProp (ga K "Note") (F_Note_catalog K) (mVar 7)) (mVar 4))))) (sRet (mC (.bl false))) sNext)
    (sSeq (sIf (mOrT (mTB (mOp (oEqM true) (mOp (oEqOM (ga K "Note") (F_Note___eq__ K) false) (mVar 7) (mVar 8)) (mOp (oDeqM false) (mVar 5) (mVar 6)))) (mTB (mOp (oEqOM (ga K "Note") (F_Note___eq__ K) true) (mVar 7) (mMake (ga K "Note") (F_Note___init__ K) (mCons (mVar 4) (mCons (mVar 5) mNil)))))) (sRet (mC (.bl false))) sNext)
    (sSeq (sSet 9 (mCB oDictM (mCons (mLc (mIt itT (mVar 3)) (gTup 2 (gCons (gName 11) (gCons (gName 12) gNil))) mYes (mTup (mCons (mVar 11) (mCons (mCB oTupleM (mCons (mLc (mIt itT (mOp oDGetM (mVar 5) (mVar 11))) (gName 10) (mTB (mOp (oInM false) (mVar 10) (mOp oDGetM (mVar 6) (mVar 11)))) (mVar 10) [10]) mNil)) mNil))) [11, 12]) mNil)))
    (sSeq (sSet 13 (mLc (mIt itT (mVar 3)) (gTup 2 (gCons (gName 11) (gCons (gName 12) gNil))) (mTB (mOp (oEqM false) (mOp oDGetM (mVar 9) (mVar 11)) (mTup mNil))) (mVar 11) [11, 12]))
    (sSeq (sSet 14 (mIfE (mTB (mOp (oEqM true) (mVar 13) (mLst mNil))) (mTup (mCons (mC (.str "Conflict")) (mCons (mOp oIxM (mVar 13) (mC (.int 0))) mNil))) (mVar 9)))
    (sSeq (sIf (mNotT (mTru (mCall (F__law_same K) (mCons (mLam 0 (tabA K "law").2 lamQ (F__law_fail_v2 K) (mMeth (ga K "Note") "both" (F_Note_both K) (mVar 7) (mCons (mVar 8) mNil))) (mCons (mVar 3) (mCons (mVar 14) mNil)))))) (sRet (mC (.bl false))) sNext)
    (sSeq (sAsg (mOp oIxM (mVar 3) (mCall (F__law_next K) (mCons (mVar 1) (mCons (mCB oLenM (mCons (mVar 3) mNil)) mNil)))) (gTup 2 (gCons (gName 11) (gCons (gName 12) gNil))))
    (sSeq (sSet 10 (mOp oIxM (mOp oAddM (mVar 12) (mTup (mCons (mC (.str "nosuch")) mNil))) (mCall (F__law_next K) (mCons (mVar 1) (mCons (mOp oAddM (mCB oLenM (mCons (mVar 12) mNil)) (mC (.int 1))) mNil)))))
    (sSeq (sSet 14 (mTup (mCons (mC (.str "Conflict")) (mCons (mVar 11) mNil))))
    (sSeq (sIf (mTB (mOp (oInM false) (mVar 10) (mOp oDGetM (mVar 5) (mVar 11)))) (sSet 14 (mCB oDictM (mCons (mLc (mIt itDK (mVar 5)) (gName 15) mYes (mTup (mCons (mVar 15) (mCons (mIfE (mTB (mOp (oEqM true) (mVar 15) (mVar 11))) (mOp oDGetM (mVar 5) (mVar 15)) (mTup (mCons (mVar 10) mNil))) mNil))) [15]) mNil))) sNext)
    (sSeq (sIf (mNotT (mTru (mCall (F__law_same K) (mCons (mLam 0 (tabA K "law").2 lamQ (F__law_fail_v2 K) (mMeth (ga K "Note") "narrowed" (F_Note_narrowed K) (mVar 7) (mCons (mVar 11) (mCons (mVar 10) mNil)))) (mCons (mVar 3) (mCons (mVar 14) mNil)))))) (sRet (mC (.bl false))) sNext)
    (sSeq (sSet 16 (mLst (mCons (mLam 0 (tabA K "law").2 lamQ (F__law_fail_v2 K) (mMeth (ga K "Note") "narrowed" (F_Note_narrowed K) (mVar 7) (mCons (mC (.str "zzz")) (mCons (mVar 10) mNil)))) (mCons (mLam 0 (tabA K "law").2 lamQ (F__law_fail_v2 K) (mDfl (mGetO (ga K "Note") (F_Note___getitem__ K) (mVar 7) (mC (.str "zzz"))))) mNil))))
    (sSeq (sIf (mNotT (mTru (mCall (F__law_alike K 8) (mCons (mVar 16) (mCons (mFrz (mOp oRepCM (mLstC (mCons (mC (.str "UnknownFeature")) mNil)) (mC (.int 2)))) mNil))))) (sRet (mC (.bl false))) sNext)
    (sIf (mNotT (mTru (mCall (F__law_wrong K) (mCons (mVar 1) (mCons (mVar 4) (mCons (mVar 3) (mCons (mVar 5) mNil))))))) (sRet (mC (.bl false))) sNext))))))))))))))))))
    (sRet (mC (.bl true)))))
noncomputable def F_law_k02 (K : PySem.W.Frag) : Fn := mDef (nn 17) 1 (B_law_k02 K)
theorem F_law_k02_eq (K : PySem.W.Frag) (x0 : T) (ce : Ce) : F_law_k02 K [x0] ce = (B_law_k02 K [some x0, none, none, none, none, none, none, none, none, none, none, none, none, none, none, none, none] ce).out ce := rfl
open PySem L2 He DL
variable {K : PySem.W.Frag}
/-! ### plain lemmas -/
theorem signs_eq (z : Str) : signs z = z.cps.toList.map fun c => T.d (.str ⟨#[c]⟩) := rfl
theorem mapLen {α β : Type} (f : α → β) (l : List α) : (l.map f).length = l.length := List.length_map f
theorem cpsLen (z : Str) : z.cps.toList.length = z.length := rfl
theorem okD_str (n : Nat) (x : Str) : okD n (.str x) = okS x := by cases n <;> rfl
theorem okD_tup (n : Nat) (xs : List D) : okD (n + 1) (.tup xs) = xs.all (okD n) := rfl
theorem okD_lst (n : Nat) (xs : List D) : okD (n + 1) (.lst xs) = xs.all (okD n) := rfl
theorem okD_strs {n : Nat} {xs : List Str} (h : ∀ x ∈ xs, okS x = true) : (xs.map D.str).all (okD n) = true := by
  rw [List.all_eq_true]
  intro d hd
  obtain ⟨x, hx, rfl⟩ := List.mem_map.mp hd
  rw [okD_str]; exact h x hx
theorem okD_L {n : Nat} {xs : List D} (h : xs.all (okD n) = true) : ∃ n, OkL n xs := ⟨n, okL_of fun d hd => okD_ok n d (List.all_eq_true.mp h d hd)⟩
/-- a list against the empty one -/
theorem eq_lnil {neg : Bool} {xs : List D} {ce : Ce} (h : xs.all (okD 15) = true) : oEqM neg (.d (.lst xs)) (.d (.lst [])) ce = .ok (.d (.bl (neg != xs.isEmpty))) ce := by
  rw [oEqM_lst]
  simp only [vD_d, R.opt_some]
  rw [R.chk_of ⟨h, rfl⟩, eqD_lst (okD_L h) ⟨0, okL_nil⟩, eqDs_nil (okD_L h)]
theorem strsD_map' (xs : List Str) : strsD ((xs.map D.str).map T.d) = some xs := by
  rw [List.map_map]; exact strsD_map xs
theorem blsD_map' {α : Type} (l : List α) (p : α → Bool) : blsD (l.map fun a => .bl (p a)) = some (l.map p) := by
  have := blsD_map (l.map p)
  rwa [List.map_map] at this
theorem all_id {α : Type} (l : List α) (p : α → Bool) : (l.map p).all id = l.all p := by simp [List.all_map]
/-! ### loops -/
/-- the run goes on, and so it is then -/
def RS.Nx (P : Sl → Ce → Prop) [Hold P] (r : RS) : Prop := match r with
  | .nx sl ce => P sl ce
  | _ => False
/-- simp stays out -/
inductive Box (p : Prop) [Hold p] : Prop where
  | mk (h : p)
theorem Box.get {p : Prop} (h : Box p) : p := match h with | ⟨h⟩ => h
theorem RS.Nx_nx (P : Sl → Ce → Prop) (sl : Sl) (ce : Ce) : RS.Nx P (.nx sl ce) = Box (P sl ce) := propext ⟨fun h => ⟨h⟩, fun h => h.get⟩
theorem RS.Nx_get {P : Sl → Ce → Prop} {r : RS} (h : RS.Nx P r) : ∃ sl ce, r = .nx sl ce ∧ P sl ce := by
  cases r with
  | nx sl ce => exact ⟨sl, ce, rfl, h⟩
  | bk _ _ => exact h.elim
  | ct _ _ => exact h.elim
  | rt _ _ => exact h.elim
  | ex _ _ _ => exact h.elim
  | bad => exact h.elim
theorem forL_pre {α : Type} {g : GT} {b : MS} (G : α → T) (I : List α → Sl → Ce → Prop) (l : List α) (hi : ∀ pre a post sl ce, l = pre ++ a :: post → I pre sl ce → RS.Nx (I (pre ++ [a])) (RS.opt (g (G a) sl) fun sl1 => b sl1 ce)) :
    ∀ (post pre : List α) (sl : Sl) (ce : Ce), l = pre ++ post → I pre sl ce → ∃ sl' ce', forL g b (post.map G) sl ce = .nx sl' ce' ∧ I l sl' ce'
  | [], pre, sl, ce, e, h => ⟨sl, ce, rfl, by rw [e, List.append_nil]; exact h⟩
  | a :: r, pre, sl, ce, e, h => by
    obtain ⟨sl1, ce1, e1, h1⟩ := RS.Nx_get (hi pre a r sl ce e h)
    obtain ⟨sl2, ce2, e2, h2⟩ := forL_pre G I l hi r (pre ++ [a]) sl1 ce1 (by rw [e]; simp) h1
    refine ⟨sl2, ce2, ?_, h2⟩
    rw [List.map_cons, forL_cons, ← e2]
    cases q : g (G a) sl with
    | none => rw [q] at e1; cases e1
    | some s1 =>
      rw [q] at e1
      simp only [RS.opt_some] at e1 ⊢
      rw [e1]; rfl
theorem forL_use {α : Type} {g : GT} {b : MS} {items : List T} {sl : Sl} {ce : Ce} {r : RS} (hr : forL g b items sl ce = r) (G : α → T) (l : List α) (I : List α → Sl → Ce → Prop) (hit : items = l.map G) (h0 : I [] sl ce)
    (hi : ∀ pre a post sl ce, l = pre ++ a :: post → I pre sl ce → RS.Nx (I (pre ++ [a])) (RS.opt (g (G a) sl) fun sl1 => b sl1 ce)) : ∃ sl' ce', r = .nx sl' ce' ∧ I l sl' ce' := by
  subst hit
  obtain ⟨sl', ce', e, h⟩ := forL_pre G I l hi l [] sl ce rfl h0
  exact ⟨sl', ce', by rw [← hr, e], h⟩
theorem forL_inv {α : Type} {g : GT} {b : MS} (G : α → T) (I : Sl → Ce → Prop) (l : List α) (sl : Sl) (ce : Ce) (h0 : I sl ce) (hi : ∀ a ∈ l, ∀ sl ce, I sl ce → RS.Nx I (RS.opt (g (G a) sl) fun sl1 => b sl1 ce)) : ∃ sl' ce', forL g b (l.map G) sl ce = .nx sl' ce' ∧ I sl' ce' :=
  forL_pre G (fun _ => I) l (fun pre a post sl ce e h => hi a (by rw [e]; simp) sl ce h) l [] sl ce rfl h0
/-! ### words -/
def lett : Str := "abcdefghijklmnopqrstuvwxyz"
def isWord (t : Str) : Bool := decide (1 ≤ (t.length : Int)) && (decide ((t.length : Int) ≤ 8) && t.cps.toList.all fun c => decide (c ∈ lett.cps.toList))
local macro_rules | `(tactic| simp_arith [0, $ls,*] $[$l]?) => `(tactic| simp -dsimp -implicitDefEqProofs (disch := first | omega | assumption | decide) only [word_snoc, $ls,*] $[$l]?)
local macro_rules | `(tactic| simp_arith [0] $[$l]?) => `(tactic| simp -dsimp -implicitDefEqProofs (disch := first | omega | assumption | decide) only [word_snoc] $[$l]?)
local macro_rules | `(tactic| simp_arith [1, $ls,*] $[$l]?) => `(tactic| simp_arith [0, $ls,*, DL.R.bind_ok, DL.R.bind_ex, DL.R.noEx_ok, DL.R.opt_some, DL.R.cnd_true, DL.R.cnd_false, DL.R.onB_bl, DL.R.onI_int, DL.sg_zero, DL.sg_succ, DL.oAddM_int, DL.oAddM_str, DL.oAddM_tup, DL.oAddM_lst, DL.oAddM_celL, DL.oAddM_celR, DL.oLtM_int, DL.oLtM_str, DL.oEqM_int, DL.oEqM_str, DL.oEqM_bl, DL.oEqM_tup, DL.oEqM_lst, DL.oEqM_cel, DL.oEqM_non, DL.oInM_sign, DL.oInM_tup, DL.oInM_lst, DL.oInM_cel, DL.oIxM_tup, DL.oIxM_lst, DL.oIxM_str, DL.oIxM_cel, DL.oSlM_tup, DL.oSlM_lst, DL.oSlM_str, DL.R.on1_one, DL.oMax2M_two, DL.oAllM_one, DL.oIsiM_two, DL.retL_nil, DL.retL_self, DL.retL_same, DL.keepL_d, DL.retT_d, DL.frzD_d, DL.frzL_d, DL.frzK_d, DL.R.onN_non, DL.R.made_ok, DL.oDictM_lst, DL.gNil_nil, DL.gCons_cons, DL.gTup_tup, DL.itL_lst, DL.itT_tup, DL.itS_str, DL.itDK_dic, DL.itDV_dic, DL.zipT_tup, DL.zipT_lst, DL.enumT_tup, DL.R.onD_d, DL.compM_nil, DL.compM_cons, DL.R.st_ok, DL.R.st_ex, DL.RS.seq_nx, DL.RS.seq_rt, DL.RS.seq_ex, DL.RS.loop_nx, DL.RS.cnd_true, DL.RS.cnd_false, DL.RS.opt_some, DL.RS.onC_cel, DL.RS.onI_int, DL.insC_ins, DL.lstC_lst, DL.dicC_dic, DL.insOf_cel, DL.seqL_celE, DL.seqB_celE, DL.dicOf_celE, DL.R.onC_cel, DL.bApp_one, DL.bPop_one, DL.forL_nil, DL.forL_cons, DL.RS.out_rt, DL.RS.out_ex, DL.RS.outK_nx, DL.RS.outK_rt, DL.RS.outK_ex, DL.takeC_lst, DL.takeC_dic, DL.R.take_cel, DL.oSortSM_lst, ↓DL.mVar_ap, ↓DL.mC_ap, ↓DL.mNever_ap, ↓DL.mNil_ap, ↓DL.mCons_ap, ↓DL.mTup_ap, ↓DL.mLst_ap, ↓DL.mLstC_ap, ↓DL.mOp_ap, ↓DL.mChain_ap, ↓DL.mTru_ap, ↓DL.mTB_ap, ↓DL.mNotT_ap, ↓DL.mOrT_ap, ↓DL.mIfE_ap, ↓DL.mAndV_ap, ↓DL.mYes_ap, ↓DL.mNoP_ap, ↓DL.mPart_ap, ↓DL.mCB_ap, ↓DL.oLenM_ap, ↓DL.oInt1M_ap, ↓DL.oTupleM_ap, ↓DL.oListCM_ap, ↓DL.mCall_ap, ↓DL.mMake_ap, ↓DL.mFld_ap, ↓DL.mProp_ap, ↓DL.mMeth_ap, ↓DL.oInOM_ap, ↓DL.mGetO_ap, ↓DL.oEqOM_ap, ↓DL.mDNew_ap, ↓DL.oDGetM_ap, ↓DL.oDInM_ap, ↓DL.mDGet2_ap, ↓DL.mRange1_ap, ↓DL.mZip_ap, ↓DL.mEnum_ap, ↓DL.mLc_ap, ↓DL.sNext_ap, ↓DL.sSeq_ap, ↓DL.sDrop_ap, ↓DL.sRet_ap, ↓DL.sIf_ap, ↓DL.sAsg_ap, ↓DL.sSet_ap, ↓DL.sStF_ap, ↓DL.sStI_ap, ↓DL.sDPut_ap, ↓DL.sFor_ap, ↓DL.sWhile_ap, ↓DL.sRaise_ap] $[$l]?)
local macro_rules | `(tactic| simp_arith [1] $[$l]?) => `(tactic| simp_arith [0, DL.R.bind_ok, DL.R.bind_ex, DL.R.noEx_ok, DL.R.opt_some, DL.R.cnd_true, DL.R.cnd_false, DL.R.onB_bl, DL.R.onI_int, DL.sg_zero, DL.sg_succ, DL.oAddM_int, DL.oAddM_str, DL.oAddM_tup, DL.oAddM_lst, DL.oAddM_celL, DL.oAddM_celR, DL.oLtM_int, DL.oLtM_str, DL.oEqM_int, DL.oEqM_str, DL.oEqM_bl, DL.oEqM_tup, DL.oEqM_lst, DL.oEqM_cel, DL.oEqM_non, DL.oInM_sign, DL.oInM_tup, DL.oInM_lst, DL.oInM_cel, DL.oIxM_tup, DL.oIxM_lst, DL.oIxM_str, DL.oIxM_cel, DL.oSlM_tup, DL.oSlM_lst, DL.oSlM_str, DL.R.on1_one, DL.oMax2M_two, DL.oAllM_one, DL.oIsiM_two, DL.retL_nil, DL.retL_self, DL.retL_same, DL.keepL_d, DL.retT_d, DL.frzD_d, DL.frzL_d, DL.frzK_d, DL.R.onN_non, DL.R.made_ok, DL.oDictM_lst, DL.gNil_nil, DL.gCons_cons, DL.gTup_tup, DL.itL_lst, DL.itT_tup, DL.itS_str, DL.itDK_dic, DL.itDV_dic, DL.zipT_tup, DL.zipT_lst, DL.enumT_tup, DL.R.onD_d, DL.compM_nil, DL.compM_cons, DL.R.st_ok, DL.R.st_ex, DL.RS.seq_nx, DL.RS.seq_rt, DL.RS.seq_ex, DL.RS.loop_nx, DL.RS.cnd_true, DL.RS.cnd_false, DL.RS.opt_some, DL.RS.onC_cel, DL.RS.onI_int, DL.insC_ins, DL.lstC_lst, DL.dicC_dic, DL.insOf_cel, DL.seqL_celE, DL.seqB_celE, DL.dicOf_celE, DL.R.onC_cel, DL.bApp_one, DL.bPop_one, DL.forL_nil, DL.forL_cons, DL.RS.out_rt, DL.RS.out_ex, DL.RS.outK_nx, DL.RS.outK_rt, DL.RS.outK_ex, DL.takeC_lst, DL.takeC_dic, DL.R.take_cel, DL.oSortSM_lst, ↓DL.mVar_ap, ↓DL.mC_ap, ↓DL.mNever_ap, ↓DL.mNil_ap, ↓DL.mCons_ap, ↓DL.mTup_ap, ↓DL.mLst_ap, ↓DL.mLstC_ap, ↓DL.mOp_ap, ↓DL.mChain_ap, ↓DL.mTru_ap, ↓DL.mTB_ap, ↓DL.mNotT_ap, ↓DL.mOrT_ap, ↓DL.mIfE_ap, ↓DL.mAndV_ap, ↓DL.mYes_ap, ↓DL.mNoP_ap, ↓DL.mPart_ap, ↓DL.mCB_ap, ↓DL.oLenM_ap, ↓DL.oInt1M_ap, ↓DL.oTupleM_ap, ↓DL.oListCM_ap, ↓DL.mCall_ap, ↓DL.mMake_ap, ↓DL.mFld_ap, ↓DL.mProp_ap, ↓DL.mMeth_ap, ↓DL.oInOM_ap, ↓DL.mGetO_ap, ↓DL.oEqOM_ap, ↓DL.mDNew_ap, ↓DL.oDGetM_ap, ↓DL.oDInM_ap, ↓DL.mDGet2_ap, ↓DL.mRange1_ap, ↓DL.mZip_ap, ↓DL.mEnum_ap, ↓DL.mLc_ap, ↓DL.sNext_ap, ↓DL.sSeq_ap, ↓DL.sDrop_ap, ↓DL.sRet_ap, ↓DL.sIf_ap, ↓DL.sAsg_ap, ↓DL.sSet_ap, ↓DL.sStF_ap, ↓DL.sStI_ap, ↓DL.sDPut_ap, ↓DL.sFor_ap, ↓DL.sWhile_ap, ↓DL.sRaise_ap] $[$l]?)
local macro_rules | `(tactic| simp_arith [2, $ls,*] $[$l]?) => `(tactic| simp_arith [1, $ls,*, ↓DL.mXown_ap, ↓DL.mXkw_ap, ↓DL.mFrz_ap, ↓DL.mTake_ap, ↓DL.oRepCM_ap, ↓DL.mSlice_ap, ↓DL.mIt_ap, ↓DL.mBM_ap, ↓DL.sPar_ap, DL.gName_ap, ↓DL.itemM_ap, DL.oLeM_ap, DL.oGtM_ap, DL.oGeM_ap, DL.oMulM_ap, DL.oFdivM_ap, DL.oModM_ap, DL.oPowM_ap, ↓DL.onSq_ap, ↓DL.ins_ap, DL.retR_same, DL.retR_self, DL.retX_same, DL.retX_self, DL.unT_nil, DL.unT_cons, DL.lenOk_iff, DL.ins_D, DL.seqB_tup, DL.seqB_lst, DL.seqL_lst, DL.dicOf_dic, DL.cnt_tup, DL.cnt_lst, DL.cnt_dic, DL.cnt_str, DL.cntC_lst, DL.cntC_dic, DL.cnt_cel, DL.tru_bl, DL.key_str, DL.key_int, DL.keyD_str, DL.vD_d, DL.vD_cel, DL.atI0, DL.atI1, DL.atI2, DL.atI3, DL.ix0, DL.ix1, DL.ix2, DL.ga_len, DL.ga_add, DL.gs_len, DL.gs_add, DL.opt_nonempty_isEmpty, DL.fb_id, DL.w_set0, DL.w_set1, DL.w_omap, DL.w_obind, DL.w_len1, DL.w_len0, DL.w_ite, DL.w_app, DL.w_app1, DL.w_app0, DL.w_nt, DL.w_nf, DL.w_get0, DL.w_get1, DL.w_wipe0, DL.w_wipe1, DL.w_chk, DL.w_chkS, DL.w_if, DL.w_unT, DL.w_dec, DL.w_decF, DL.w_ifF, DL.w_tand, DL.w_andt, DL.w_lt1, DL.putD_nil, DL.putD_cons, DL.retR_new0, DL.retR_newN, DL.frzD_nN, DL.frzC_ins, DL.frzC_lst, DL.frzC_dic, DL.frzK_nil, DL.frzK_cons, DL.frzL_nil, DL.frzL_cons, DL.oUnionM_ap, ↓DL.mPNil_ap, ↓DL.mPCons_ap, ↓DL.mDictC_ap, DL.oDeqM_ap, ↓DL.sAugMul_ap, DL.mLam_tab, DL.keepC_tab, DL.tup2_tup, DL.mLam_tabN, DL.keepC_tabN, DL.oDictNM_lst, DL.elT_l, DL.elT_r, ↓DL.mDfl_ap, DL.putDO_cel, ↓DL.sParD_ap, DL.twoV_cel, DL.flV_int, DL.flV_str, DL.R.exV_ex, ↓DL.mMakeV_ap, LD.signs_eq, LD.mapLen, LD.cpsLen, ↓LD.eq_lnil, LD.strsD_map', LD.blsD_map', LD.all_id, LD.RS.Nx_nx] $[$l]?)
local macro_rules | `(tactic| simp_arith [2] $[$l]?) => `(tactic| simp_arith [1, ↓DL.mXown_ap, ↓DL.mXkw_ap, ↓DL.mFrz_ap, ↓DL.mTake_ap, ↓DL.oRepCM_ap, ↓DL.mSlice_ap, ↓DL.mIt_ap, ↓DL.mBM_ap, ↓DL.sPar_ap, DL.gName_ap, ↓DL.itemM_ap, DL.oLeM_ap, DL.oGtM_ap, DL.oGeM_ap, DL.oMulM_ap, DL.oFdivM_ap, DL.oModM_ap, DL.oPowM_ap, ↓DL.onSq_ap, ↓DL.ins_ap, DL.retR_same, DL.retR_self, DL.retX_same, DL.retX_self, DL.unT_nil, DL.unT_cons, DL.lenOk_iff, DL.ins_D, DL.seqB_tup, DL.seqB_lst, DL.seqL_lst, DL.dicOf_dic, DL.cnt_tup, DL.cnt_lst, DL.cnt_dic, DL.cnt_str, DL.cntC_lst, DL.cntC_dic, DL.cnt_cel, DL.tru_bl, DL.key_str, DL.key_int, DL.keyD_str, DL.vD_d, DL.vD_cel, DL.atI0, DL.atI1, DL.atI2, DL.atI3, DL.ix0, DL.ix1, DL.ix2, DL.ga_len, DL.ga_add, DL.gs_len, DL.gs_add, DL.opt_nonempty_isEmpty, DL.fb_id, DL.w_set0, DL.w_set1, DL.w_omap, DL.w_obind, DL.w_len1, DL.w_len0, DL.w_ite, DL.w_app, DL.w_app1, DL.w_app0, DL.w_nt, DL.w_nf, DL.w_get0, DL.w_get1, DL.w_wipe0, DL.w_wipe1, DL.w_chk, DL.w_chkS, DL.w_if, DL.w_unT, DL.w_dec, DL.w_decF, DL.w_ifF, DL.w_tand, DL.w_andt, DL.w_lt1, DL.putD_nil, DL.putD_cons, DL.retR_new0, DL.retR_newN, DL.frzD_nN, DL.frzC_ins, DL.frzC_lst, DL.frzC_dic, DL.frzK_nil, DL.frzK_cons, DL.frzL_nil, DL.frzL_cons, DL.oUnionM_ap, ↓DL.mPNil_ap, ↓DL.mPCons_ap, ↓DL.mDictC_ap, DL.oDeqM_ap, ↓DL.sAugMul_ap, DL.mLam_tab, DL.keepC_tab, DL.tup2_tup, DL.mLam_tabN, DL.keepC_tabN, DL.oDictNM_lst, DL.elT_l, DL.elT_r, ↓DL.mDfl_ap, DL.putDO_cel, ↓DL.sParD_ap, DL.twoV_cel, DL.flV_int, DL.flV_str, DL.R.exV_ex, ↓DL.mMakeV_ap, LD.signs_eq, LD.mapLen, LD.cpsLen, ↓LD.eq_lnil, LD.strsD_map', LD.blsD_map', LD.all_id, LD.RS.Nx_nx] $[$l]?)
theorem S_is_word {t : Str} {ce : Ce} (hl : t.length ≤ 1000) (hok : okS t = true) : F_is_word K [.d (.str t)] ce = .ok (.d (.bl (isWord t))) ce := by
  rw [F_is_word_eq]
  unfold B_is_word
  by_cases h1 : (1 : Int) ≤ t.length
  · by_cases h2 : (t.length : Int) ≤ 8
    · have hk : ((t.cps.toList.filter fun c => !decide (c ∈ lett.cps.toList)).map fun c => D.str ⟨#[c]⟩).all (okD 15) = true := by
        rw [List.all_eq_true]
        intro d hd
        obtain ⟨c, hc, rfl⟩ := List.mem_map.mp hd
        rw [okD_str]
        exact one_ok (okS_mem hok c ((List.mem_filter.mp hc).1))
      simp_arith [2]
      rw [compM_filter (fun c => T.d (.str ⟨#[c]⟩)) (fun c => !decide (c ∈ lett.cps.toList)) (fun c => D.str ⟨#[c]⟩) ce t.cps.toList (fun c hc => by
        simp_arith [2]
        show R.cnd (!decide (c ∈ lett.cps.toList)) _ _ = _
        cases decide (c ∈ lett.cps.toList) <;> rfl)]
      simp_arith [2]
      congr 3
      unfold isWord
      rw [decide_eq_true h1, decide_eq_true h2]
      rw [Bool.eq_iff_iff]
      simp [List.isEmpty_iff, List.filter_eq_nil_iff, List.all_eq]
    · simp_arith [2]
      congr 3
      unfold isWord
      rw [decide_eq_true h1, decide_eq_false h2]
      rfl
  · simp_arith [2]
    congr 3
    unfold isWord
    rw [decide_eq_false h1]
    rfl
theorem zipLen (xs ys : List D) : (zipD xs ys).length = min xs.length ys.length := by simp [zipD]
theorem cutLen (xs : List D) (k : Nat) : (DL.cutD xs (some (k : Int)) none).length = xs.length - k := by rw [cut_from]; simp
def rising (ws : List Str) : Bool := (ws.zip (ws.drop 1)).all fun p => ltS p.1 p.2
theorem zip_rising (ws : List Str) : zipD (ws.map D.str) (DL.cutD (ws.map D.str) (some 1) none) = (ws.zip (ws.drop 1)).map fun p => T.d (.tup [.str p.1, .str p.2]) := by
  have e1 : DL.cutD (ws.map D.str) (some 1) none = (ws.drop 1).map D.str := by rw [show (1 : Int) = ((1 : Nat) : Int) from rfl, cut_from, List.map_drop]
  rw [e1]; unfold zipD; rw [List.zip_map, List.map_map]; rfl
local macro_rules | `(tactic| simp_arith [3, $ls,*] $[$l]?) => `(tactic| simp_arith [2, $ls,*, LD.S_is_word, LD.zipLen, LD.cutLen] $[$l]?)
local macro_rules | `(tactic| simp_arith [3] $[$l]?) => `(tactic| simp_arith [2, LD.S_is_word, LD.zipLen, LD.cutLen] $[$l]?)
theorem S_is_rising {ws : List Str} {ce : Ce} (hl : ws.length ≤ 1000) : F_is_rising K [.d (.tup (ws.map .str))] ce = .ok (.d (.bl (rising ws))) ce := by
  rw [F_is_rising_eq]
  unfold B_is_rising
  have hz : (ws.zip (ws.drop 1)).length ≤ 1000 := by simp only [List.length_zip]; omega
  simp_arith [3, zip_rising]
  rw [compM_all (fun p : Str × Str => T.d (.tup [.str p.1, .str p.2])) (fun p => .bl (ltS p.1 p.2)) ce _ (fun p hp => by simp_arith [3])]
  simp_arith [3]
  rfl
abbrev Feat := Str × List Str
def featD (f : Feat) : D := .tup [.str f.1, .tup (f.2.map .str)]
structure okF (f : Feat) : Prop where
  n1 : f.1.length ≤ 1000
  n2 : okS f.1 = true
  l : f.2.length ≤ 1000
  w : ∀ x ∈ f.2, x.length ≤ 1000 ∧ okS x = true
def isFeat (f : Feat) : Bool := isWord f.1 && (decide (2 ≤ (f.2.length : Int)) && decide ((f.2.length : Int) ≤ 8)) && (f.2.all isWord && rising f.2)
local macro_rules | `(tactic| simp_arith [4, $ls,*] $[$l]?) => `(tactic| simp_arith [3, $ls,*, LD.S_is_rising] $[$l]?)
local macro_rules | `(tactic| simp_arith [4] $[$l]?) => `(tactic| simp_arith [3, LD.S_is_rising] $[$l]?)
theorem S_is_feature {f : Feat} {ce : Ce} (h : okF f) : F_is_feature K [.d (featD f)] ce = .ok (.d (.bl (isFeat f))) ce := by
  rw [F_is_feature_eq]
  unfold B_is_feature featD isFeat
  obtain ⟨h1, h2, h3, h4⟩ := h
  cases hw : isWord f.1 with
  | false => simp_arith [4, hw]; rfl
  | true =>
    by_cases q1 : (2 : Int) ≤ f.2.length
    · by_cases q2 : (f.2.length : Int) ≤ 8
      · simp_arith [4, hw]
        rw [List.map_map, compM_all (T.d ∘ D.str) (fun x => .bl (isWord x)) ce f.2 (fun x hx => by
          have := (h4 x hx).1
          have := (h4 x hx).2
          simp_arith [4, Function.comp])]
        cases ha : f.2.all isWord with
        | false => simp_arith [4, ha]; rfl
        | true => simp_arith [4, ha]; rfl
      · simp_arith [4, hw]; rfl
    · simp_arith [4, hw]; rfl
/-! ### catalogs -/
def featsD (fs : List Feat) : D := .tup (fs.map featD)
abbrev cC (K : PySem.W.Frag) : Addr := ga K "Catalog"
def catD (K : PySem.W.Frag) (fs : List Feat) : D := .ins (cC K) [("parts", featsD fs)]
theorem ins_cat (ce : Ce) (fs : List Feat) : insOf ce (.d (catD K fs)) = some (ga K "Catalog", [(("parts" : Str), T.d (featsD fs))]) := rfl
theorem it_feats (fs : List Feat) : itT (.d (featsD fs)) = some ((fs.map featD).map T.d) := rfl
theorem strD_nil' : strD [] = some [] := rfl
theorem srt_nil' : srt [] = [] := by simp [srt]
theorem emp_nil {α : Type} : ([] : List α).isEmpty = true := rfl
theorem emp_cons {α : Type} (a : α) (r : List α) : (a :: r).isEmpty = false := rfl
theorem all_nil' {α : Type} (p : α → Bool) : ([] : List α).all p = true := rfl
theorem look_parts (d : T) : List.lookup ("parts" : Str) [("parts", d)] = some d := rfl
local macro_rules | `(tactic| simp_arith [5, $ls,*] $[$l]?) => `(tactic| simp_arith [4, $ls,*, LD.S_is_feature, LD.ins_cat, LD.it_feats, LD.strD_nil', LD.srt_nil', LD.emp_nil, LD.emp_cons, LD.all_nil', LD.look_parts] $[$l]?)
local macro_rules | `(tactic| simp_arith [5] $[$l]?) => `(tactic| simp_arith [4, LD.S_is_feature, LD.ins_cat, LD.it_feats, LD.strD_nil', LD.srt_nil', LD.emp_nil, LD.emp_cons, LD.all_nil', LD.look_parts] $[$l]?)
theorem S_features {fs : List Feat} {ce : Ce} : F_Catalog_features K [.d (catD K fs)] ce = .ok (.d (featsD fs)) ce := by
  rw [F_Catalog_features_eq]
  unfold B_Catalog_features catD
  simp_arith [5]
local macro_rules | `(tactic| simp_arith [6, $ls,*] $[$l]?) => `(tactic| simp_arith [5, $ls,*, LD.S_features] $[$l]?)
local macro_rules | `(tactic| simp_arith [6] $[$l]?) => `(tactic| simp_arith [5, LD.S_features] $[$l]?)
theorem S_names {fs : List Feat} {ce : Ce} (h : fs.length ≤ 1000) : F_Catalog_names K [.d (catD K fs)] ce = .ok (.d (.tup ((fs.map (·.1)).map .str))) ce := by
  rw [F_Catalog_names_eq]
  unfold B_Catalog_names catD featsD
  simp_arith [6]
  rw [List.map_map, compM_all (T.d ∘ featD) (fun f => .str f.1) ce fs (fun f hf => by simp_arith [6, Function.comp, featD])]
  simp_arith [6]
  simp
local macro_rules | `(tactic| simp_arith [7, $ls,*] $[$l]?) => `(tactic| simp_arith [6, $ls,*, LD.S_names] $[$l]?)
local macro_rules | `(tactic| simp_arith [7] $[$l]?) => `(tactic| simp_arith [6, LD.S_names] $[$l]?)
theorem S_contains {fs : List Feat} {n : Str} {ce : Ce} (h : fs.length ≤ 1000) : F_Catalog___contains__ K [.d (catD K fs), .d (.str n)] ce = .ok (.d (.bl (decide (n ∈ fs.map (·.1))))) ce := by
  rw [F_Catalog___contains___eq]
  unfold B_Catalog___contains__
  simp_arith [7]
def badAt (fs : List Feat) (i : Nat) : Bool := decide ((i : Int) = 6) || (decide ((fs.getD i ("", [])).1 ∈ (fs.take i).map (·.1)) || !isFeat (fs.getD i ("", [])))
/-- features that a catalog can have -/
structure CatOk (fs : List Feat) : Prop where
  ne : fs ≠ []
  ok : ∀ f ∈ fs, okF f
  l : fs.length ≤ 6
  good : ∀ i, i < fs.length → badAt fs i = false
local macro_rules | `(tactic| simp_arith [8, $ls,*] $[$l]?) => `(tactic| simp_arith [7, $ls,*, LD.S_contains] $[$l]?)
local macro_rules | `(tactic| simp_arith [8] $[$l]?) => `(tactic| simp_arith [7, LD.S_contains] $[$l]?)
theorem mk_cat {fs : List Feat} {ce : Ce} (h : CatOk fs) : mkR (ga K "Catalog") (F_Catalog___init__ K) [.d (featsD fs)] ce = .ok (.d (catD K fs)) ce := by
  obtain ⟨ne, ok, hl, good⟩ := h
  rw [mkR_ap, F_Catalog___init___eq]
  unfold B_Catalog___init__
  have hen : enumD (fs.map featD) = (List.range fs.length).map fun (i : Nat) => T.d (.tup [.int (i : Int), (fs.map featD).getD i .non]) := by unfold enumD; rw [List.length_map]
  obtain ⟨sl', ce', e, x, y, z, rfl, rfl⟩ := forL_inv (g := gTup 2 (gCons (gName 2) (gCons (gName 3) gNil))) (b := (sSeq (sSet 4 (mOp (oInM false) (mOp oIxM (mVar 3) (mC (.int 0))) (mLc (mIt itT (mSlice (mVar 1) mNoP (mPart (mVar 2)))) (gName 5) mYes (mOp oIxM (mVar 5) (mC (.int 0))) [5])))
    (sIf (mOrT (mTB (mOp (oEqM false) (mVar 2) (mC (.int 6)))) (mOrT (mTru (mVar 4)) (mNotT (mTru (mCall (F_is_feature K) (mCons (mVar 3) mNil)))))) (sRaise (mXkw (ga K "InvalidCatalog") ["index"] (mCons (mVar 2) mNil))) sNext))) (fun (i : Nat) => T.d (.tup [.int (i : Int), (fs.map featD).getD i .non])) (fun sl c => ∃ x y z, sl = [some (.cel ce.length), some (.d (.tup (fs.map featD))), x, y, z, none] ∧ c = ce ++ [.ins (ga K "Catalog") []]) (List.range fs.length) [some (.cel ce.length), some (.d (.tup (fs.map featD))), none, none, none, none] (ce ++ [.ins (ga K "Catalog") []]) ⟨none, none, none, rfl, rfl⟩ (by
      rintro i hi sl c ⟨x, y, z, rfl, rfl⟩
      have hi' : i < fs.length := List.mem_range.mp hi
      obtain ⟨f, hf⟩ : ∃ f, fs[i]? = some f := ⟨_, List.getElem?_eq_getElem hi'⟩
      have e1 : (fs.map featD).getD i .non = featD f := by simp [List.getD, hf]
      have e2 : fs.getD i ("", []) = f := by simp [List.getD, hf]
      have hof := ok f (List.mem_of_getElem? hf)
      have hb := good i hi'
      unfold badAt at hb
      rw [e2] at hb
      simp only [Bool.or_eq_false_iff, decide_eq_false_iff_not, Bool.not_eq_false'] at hb
      obtain ⟨h6, hk, hfe⟩ := hb
      have hfd : ∀ ce, F_is_feature K [.d (.tup [.str f.1, .tup (f.2.map .str)])] ce = .ok (.d (.bl true)) ce := fun ce => by rw [← hfe]; exact S_is_feature hof
      have hcut : DL.cutD (fs.map featD) none (some (i : Int)) = (fs.take i).map featD := by rw [cut_to, List.map_take]
      have hln : (fs.take i).length ≤ 6 := by simp; omega
      rw [e1]
      unfold featD
      simp_arith [8]
      rw [show (fun f : Feat => D.tup [.str f.1, .tup (f.2.map .str)]) = featD from rfl, hcut]
      simp_arith [8]
      rw [List.map_map, compM_all (T.d ∘ featD) (fun f => .str f.1) _ (fs.take i) (fun f hf => by simp_arith [8, Function.comp, featD])]
      simp_arith [8]
      have hs : strsD (((fs.take i).map fun f => D.str f.1).map T.d) = some ((fs.take i).map (·.1)) := by
        have := strsD_map' ((fs.take i).map (·.1))
        rw [List.map_map, List.map_map] at this
        rw [List.map_map]
        exact this
      simp_arith [8, hs, hfd, decide_eq_false hk, decide_eq_false h6]
      exact ⟨_, _, _, rfl, rfl⟩)
  have h0 : ¬ ((fs.length : Int) = 0) := by cases fs with | nil => exact absurd rfl ne | cons a r => simp; omega
  unfold featsD
  simp_arith [8, hen, e]
  rfl
theorem feats_ok {fs : List Feat} (h : ∀ f ∈ fs, okF f) {n : Nat} : okD (n + 3) (featsD fs) = true := by
  unfold featsD
  rw [okD_tup, List.all_eq_true]
  intro d hd
  obtain ⟨f, hf, rfl⟩ := List.mem_map.mp hd
  unfold featD
  rw [okD_tup]
  have := okD_strs (n := n) (xs := f.2) (fun x hx => ((h f hf).w x hx).2)
  simp only [List.all_cons, List.all_nil, okD_str, okD_tup, this, (h f hf).n2, Bool.and_true]
theorem S_cat_eq {fs gs : List Feat} {ce : Ce} (h1 : ∀ f ∈ fs, okF f) (h2 : ∀ f ∈ gs, okF f) : F_Catalog___eq__ K [.d (catD K fs), .d (catD K gs)] ce = .ok (.d (.bl (eqD (featsD fs) (featsD gs)))) ce := by
  rw [F_Catalog___eq___eq]
  unfold B_Catalog___eq__
  have ei : isiD [ga K "Catalog"] ce (.d (catD K gs)) (.raw (.ref (ga K "Catalog"))) = some true := by simp [isiD, catD, tagOf, okT, clsOf, okA, isiT]
  have k1 := feats_ok h1 (n := 13)
  have k2 := feats_ok h2 (n := 13)
  simp_arith [8, ei]
  unfold featsD at *
  simp_arith [8]
  rw [R.chk_of ⟨k1, k2⟩]
  simp_arith [8]
open PySem L2 He DL
/-! ### the source of draws -/
structure Dr where
  cs : List Int
  st : Int
  i : Int
abbrev Hc (cs : List Int) : Cell := .lst ((cs.map D.int).map T.d)
abbrev Hh (st i : Int) : Cell := .lst [.d (.int st), .cel 0, .d (.int i)]
def hd (s : Dr) (rest : Ce) : Ce := Hc s.cs :: Hh s.st s.i :: rest
structure DrOk (s : Dr) : Prop where
  i : 0 ≤ s.i
  l : s.cs.length ≤ 900
theorem hd_app (s : Dr) (a b : Ce) : hd s a ++ b = hd s (a ++ b) := rfl
theorem hd_len (s : Dr) (a : Ce) : (hd s a).length = a.length + 2 := rfl
theorem hd_get (s : Dr) (a : Ce) (n : Nat) : (hd s a)[n + 2]? = a[n]? := rfl
theorem hd_set (s : Dr) (a : Ce) (n : Nat) (c : Cell) : (hd s a).set (n + 2) c = hd s (a.set n c) := rfl
theorem hd_get0 (s : Dr) (a : Ce) : (hd s a)[0]? = some (Hc s.cs) := rfl
theorem hd_get1 (s : Dr) (a : Ce) : (hd s a)[1]? = some (Hh s.st s.i) := rfl
theorem hd_set0 (s : Dr) (a : Ce) (cs : List Int) : (hd s a).set 0 (.lst ((cs.map D.int).map T.d)) = hd ⟨cs, s.st, s.i⟩ a := rfl
theorem hd_set1 (s : Dr) (a : Ce) (st i : Int) : (hd s a).set 1 (.lst [.d (.int st), .cel 0, .d (.int i)]) = hd ⟨s.cs, st, i⟩ a := rfl
theorem ints_set (cs : List Int) (j : Nat) (v : Int) : ((cs.map D.int).map T.d).set j (.d (.int v)) = ((cs.set j v).map D.int).map T.d := by rw [List.map_set, List.map_set]
/-! ### whole numbers -/
theorem w_cmul {α : Type} {i j : Int} {r : R α} (h1 : -18446744073709551616 < j) (h2 : j < 18446744073709551616) : R.chk (CMul i j) r = r := R.chk_of (.inr ⟨by omega, by omega⟩)
theorem w_cdiv {α : Type} {i j : Int} {r : R α} (h1 : 0 < j) (h2 : j < 1073741824) : R.chk (CDiv i j) r = r := R.chk_of ⟨h1, h2⟩
theorem w_cpow {α : Type} {r : R α} : R.chk (CPow 10 18) r = r := R.chk_of ⟨by decide, by decide, by decide⟩
theorem pow1018 : (10 : Int) ^ Int.toNat 18 = 1000000000000000000 := by decide
open PySem L2 He DL
/-! ### what the laws draw: features -/
def five : List Str := ["blue", "gray", "pink", "red", "tan"]
def six : List Str := ["hue", "size", "age", "kind", "lid", "bag"]
def nm (k : Nat) : Str := six.getD k ""
def GoodF (k : Nat) (f : Feat) : Prop := f.1 = nm k ∧ List.Sublist f.2 five ∧ 2 ≤ f.2.length
def GoodFs (fs : List Feat) : Prop := ∀ k f, fs[k]? = some f → GoodF k f
theorem GoodFs.nil : GoodFs [] := fun k f h => by simp at h
theorem GoodFs.snoc {fs : List Feat} {f : Feat} (h : GoodFs fs) (hf : GoodF fs.length f) : GoodFs (fs ++ [f]) := fun k g hg => by
  by_cases hk : k < fs.length
  · rw [List.getElem?_append_left hk] at hg
    exact h k g hg
  · by_cases hk2 : k = fs.length
    · subst hk2
      simp at hg
      subst hg
      exact hf
    · rw [List.getElem?_eq_none (by simp; omega)] at hg
      cases hg
theorem name_at {k : Nat} (h : k < 6) : atI [D.str "hue", .str "size", .str "age", .str "kind", .str "lid", .str "bag"] (k : Int) = some (.str (nm k)) := by
  rw [DL.atI_nat (by simpa using h)]
  match k, h with
  | 0, _ => rfl
  | 1, _ => rfl
  | 2, _ => rfl
  | 3, _ => rfl
  | 4, _ => rfl
  | 5, _ => rfl
abbrev Hw (ws : List Str) : Cell := .lst ((ws.map D.str).map T.d)
theorem hw_len (ws : List Str) : ((ws.map D.str).map T.d).length = ws.length := by simp
open PySem L2 He DL
/-! ### dicts with texts as keys -/
section
variable {α : Type} (enc : α → D)
def encK (l : List (Str × α)) : List (Key × D) := l.map fun p => (.inr p.1, enc p.2)
def encT (l : List (Str × α)) : List (Key × T) := l.map fun p => (.inr p.1, T.d (enc p.2))
def look (l : List (Str × α)) (n : Str) : Option α := (l.find? fun p => decide (p.1 = n)).map (·.2)
def putL (l : List (Str × α)) (n : Str) (a : α) : List (Str × α) := if (l.any fun p => decide (p.1 = n)) = true then l.map (fun p => if p.1 = n then (p.1, a) else p) else l ++ [(n, a)]
theorem encK_T (l : List (Str × α)) : ((encK enc l).map fun p => (p.1, T.d p.2)) = encT enc l := by simp [encK, encT]
theorem encK_keys (l : List (Str × α)) : ((encK enc l).map fun p => T.d (keyD p.1)) = l.map fun p => T.d (.str p.1) := by simp [encK, keyD]
theorem encK_vals (l : List (Str × α)) : ((encK enc l).map fun p => T.d p.2) = l.map fun p => T.d (enc p.2) := by simp [encK]
theorem encK_items (l : List (Str × α)) : ((encK enc l).map fun p => T.d (.tup [keyD p.1, p.2])) = l.map fun p => T.d (.tup [.str p.1, enc p.2]) := by simp [encK, keyD]
theorem encT_keys (l : List (Str × α)) : ((encT enc l).map fun p => keyD p.1) = (l.map (·.1)).map D.str := by simp [encT, keyD]
theorem encK_len (l : List (Str × α)) : (encK enc l).length = l.length := by simp [encK]
theorem encT_len (l : List (Str × α)) : (encT enc l).length = l.length := by simp [encT]
theorem frzK_enc {ce : Ce} {n f : Nat} (l : List (Str × α)) : frzK (frzD ce n f) (encT enc l) = some (encK enc l) := by
  have := frzK_d (ce := ce) (n := n) (f := f) (encK enc l)
  rwa [encK_T] at this
theorem unK_enc (l : List (Str × α)) : unK (encT enc l) = some (encK enc l) := by
  have := unK_map (encK enc l)
  rwa [encK_T] at this
theorem valA_enc (l : List (Str × α)) (n : Str) : valA (encT enc l) (.inr n) = (look l n).map fun a => T.d (enc a) := by
  induction l with
  | nil => rfl
  | cons p r ih =>
    simp only [valA, encT, look, List.map_cons, List.find?_cons] at ih ⊢
    by_cases h : p.1 = n
    · simp [h]
    · have h' : ¬ ((Sum.inr p.1 : Key) = Sum.inr n) := fun z => h (Sum.inr.inj z)
      simp only [h, h', decide_false, Bool.false_eq_true] at ih ⊢
      exact ih
theorem putA_enc (l : List (Str × α)) (n : Str) (a : α) : putA (encT enc l) (.inr n) (T.d (enc a)) = encT enc (putL l n a) := by
  have e1 : ((encT enc l).any fun kv => decide (kv.1 = Sum.inr n)) = l.any fun p => decide (p.1 = n) := by
    simp only [encT, List.any_map]
    congr 1
    funext p
    simp [Function.comp]
  unfold putA putL
  rw [e1]
  by_cases h : (l.any fun p => decide (p.1 = n)) = true
  · rw [if_pos h, if_pos h]
    simp only [encT, List.map_map]
    congr 1
    funext p
    by_cases q : p.1 = n <;> simp [Function.comp, q]
  · rw [if_neg h, if_neg h]
    simp [encT]
end
theorem putL_new {α : Type} {l : List (Str × α)} {n : Str} {a : α} (h : n ∉ l.map (·.1)) : putL l n a = l ++ [(n, a)] := by
  unfold putL
  rw [if_neg]
  simp only [List.any_eq_true, decide_eq_true_eq, not_exists, not_and]
  intro p hp e
  exact h (List.mem_map.mpr ⟨p, hp, e⟩)
theorem look_mem {α : Type} {l : List (Str × α)} {n : Str} {a : α} (h : look l n = some a) : (n, a) ∈ l := by
  unfold look at h
  cases q : l.find? fun p => decide (p.1 = n) with
  | none => rw [q] at h; cases h
  | some p =>
    rw [q] at h
    cases h
    have h1 := List.mem_of_find?_eq_some q
    have h2 := List.find?_some q
    simp at h2
    subst h2
    exact h1
theorem look_some {α : Type} {l : List (Str × α)} {n : Str} (h : n ∈ l.map (·.1)) : ∃ a, look l n = some a := by
  unfold look
  cases q : l.find? fun p => decide (p.1 = n) with
  | none =>
    obtain ⟨p, hp, e⟩ := List.mem_map.mp h
    have := List.find?_eq_none.mp q p hp
    simp at this
    exact absurd e this
  | some p => exact ⟨p.2, rfl⟩
theorem look_of {α : Type} {l : List (Str × α)} (hn : (l.map (·.1)).Nodup) {n : Str} {a : α} (h : (n, a) ∈ l) : look l n = some a := by
  induction l with
  | nil => simp at h
  | cons p r ih =>
    simp only [List.map_cons, List.nodup_cons] at hn
    unfold look
    rcases List.mem_cons.mp h with rfl | h
    · simp
    · have : p.1 ≠ n := fun e => hn.1 (e ▸ List.mem_map.mpr ⟨(n, a), h, rfl⟩)
      rw [List.find?_cons_of_neg (by simp [this])]
      exact ih hn.2 h
/-! ### notes -/
abbrev Sets := List (Str × List Str)
def tupS (ws : List Str) : D := .tup (ws.map .str)
def noteSets (fs : List Feat) (told : Sets) : Sets := fs.map fun f => (f.1, (look told f.1).getD f.2)
def noteD (K : PySem.W.Frag) (fs : List Feat) (s : Sets) : D := .ins (ga K "Note") [("own_catalog", catD K fs), ("sets", .dic (encK tupS s))]
theorem ins_note (ce : Ce) (fs : List Feat) (s : Sets) : insOf ce (.d (noteD K fs s)) = some (ga K "Note", [(("own_catalog" : Str), T.d (catD K fs)), (("sets" : Str), T.d (.dic (encK tupS s)))]) := rfl
theorem look_cat (a b : T) : List.lookup ("own_catalog" : Str) [("own_catalog", a), ("sets", b)] = some a := rfl
theorem look_sets (a b : T) : List.lookup ("sets" : Str) [("own_catalog", a), ("sets", b)] = some b := rfl
structure NoteOk (fs : List Feat) (told : Sets) : Prop where
  keys : ∀ p ∈ told, p.1 ∈ fs.map (·.1)
  len : told.length ≤ 60
  good : ∀ f ∈ fs, (look told f.1).getD f.2 ≠ [] ∧ rising ((look told f.1).getD f.2) = true ∧ ((look told f.1).getD f.2).length ≤ 1000 ∧ ∀ w ∈ (look told f.1).getD f.2, w ∈ f.2
local macro_rules | `(tactic| simp_arith [9, $ls,*] $[$l]?) => `(tactic| simp_arith [8, $ls,*, LD.S_cat_eq, LD.hd_app, LD.hd_len, LD.hd_get, LD.hd_set, LD.hd_get0, LD.hd_get1, LD.hd_set0, LD.hd_set1, LD.ints_set, LD.w_cmul, LD.w_cdiv, LD.w_cpow, LD.pow1018, LD.hw_len, LD.encK_T, LD.encK_keys, LD.encK_vals, LD.encK_items, LD.encT_keys, LD.encK_len, LD.encT_len, LD.frzK_enc, LD.unK_enc, LD.ins_note, LD.look_cat, LD.look_sets] $[$l]?)
local macro_rules | `(tactic| simp_arith [9] $[$l]?) => `(tactic| simp_arith [8, LD.S_cat_eq, LD.hd_app, LD.hd_len, LD.hd_get, LD.hd_set, LD.hd_get0, LD.hd_get1, LD.hd_set0, LD.hd_set1, LD.ints_set, LD.w_cmul, LD.w_cdiv, LD.w_cpow, LD.pow1018, LD.hw_len, LD.encK_T, LD.encK_keys, LD.encK_vals, LD.encK_items, LD.encT_keys, LD.encK_len, LD.encT_len, LD.frzK_enc, LD.unK_enc, LD.ins_note, LD.look_cat, LD.look_sets] $[$l]?)
theorem mk_note {fs : List Feat} {told : Sets} {ce : Ce} (hfs : fs.length ≤ 1000) (hnd : (fs.map (·.1)).Nodup) (hok : ∀ f ∈ fs, okF f) (h : NoteOk fs told) : mkR (ga K "Note") (F_Note___init__ K) [.d (catD K fs), .d (.dic (encK tupS told))] ce = .ok (.d (noteD K fs (noteSets fs told))) ce := by
  obtain ⟨hk, hlen, hg⟩ := h
  rw [mkR_ap, F_Note___init___eq]
  unfold B_Note___init__
  have hnil : told.filter (fun p => !decide (p.1 ∈ fs.map (·.1))) = [] := by
    rw [List.filter_eq_nil_iff]
    intro p hp
    simp only [Bool.not_eq_true', decide_eq_false_iff_not, Decidable.not_not]
    simpa using hk p hp
  simp_arith [9]
  rw [compM_filter (fun p : Str × List Str => T.d (.str p.1)) (fun p => !decide (p.1 ∈ fs.map (·.1))) (fun p => D.str p.1) _ told (fun p hp => by
    simp_arith [9]
    cases decide (p.1 ∈ fs.map (·.1)) <;> rfl), hnil]
  simp_arith [9]
  generalize hr : forL _ _ _ _ _ = r
  obtain ⟨sl', ce', rfl, x, y, z, rfl, rfl⟩ := forL_use hr (T.d ∘ featD) fs (fun pre sl c => ∃ x y z, sl = [some (.cel ce.length), some (.d (catD K fs)), some (.d (.dic (encK tupS told))), some (.d (.lst [])), x, y, z, none] ∧ c = ce ++ [.ins (ga K "Note") [("own_catalog", .d (catD K fs)), ("sets", .cel (ce.length + 1))], .dic (encT tupS (noteSets pre told))]) (by rw [List.map_map]) ⟨none, none, none, rfl, rfl⟩ (by
    rintro pre f post sl c hpp ⟨x, y, z, rfl, rfl⟩
    have hf : f ∈ fs := by rw [hpp]; simp
    obtain ⟨g1, g2, g3, g4⟩ := hg f hf
    have hv := valA_enc tupS told f.1
    have hnew : f.1 ∉ (noteSets pre told).map (·.1) := by
      have e : (noteSets pre told).map (·.1) = pre.map (·.1) := by simp [noteSets]
      rw [e]
      rw [hpp, List.map_append, List.map_cons, List.nodup_append] at hnd
      exact fun h => hnd.2.2 _ h _ List.mem_cons_self rfl
    have hput := putA_enc tupS (noteSets pre told) f.1 ((look told f.1).getD f.2)
    rw [putL_new hnew] at hput
    have hgd : ((look told f.1).map fun a => T.d (tupS a)).getD (T.d (.tup (f.2.map .str))) = T.d (.tup (((look told f.1).getD f.2).map .str)) := by cases look told f.1 <;> rfl
    generalize hws : (look told f.1).getD f.2 = ws at *
    have h0 : ¬ ((ws.length : Int) = 0) := by cases ws with | nil => exact absurd rfl g1 | cons a r => simp; omega
    have hn2 : ws.filter (fun w => !decide (w ∈ f.2)) = [] := by
      rw [List.filter_eq_nil_iff]
      intro w hw
      simp [g4 w hw]
    have hset : noteSets (pre ++ [f]) told = noteSets pre told ++ [(f.1, ws)] := by simp [noteSets, hws]
    simp_arith [9, Function.comp, featD, hv, hgd, g2]
    rw [show (ws.map D.str).map T.d = ws.map (fun w => T.d (.str w)) by simp, compM_filter (fun w : Str => T.d (.str w)) (fun w => !decide (w ∈ f.2)) (fun w => D.str w) _ ws (fun w hw => by
      simp_arith [9]
      cases decide (w ∈ f.2) <;> rfl), hn2]
    have hnl : (noteSets pre told).length < 16777216 := by have : pre.length ≤ fs.length := by rw [hpp]; simp
                                                           simp only [noteSets, List.length_map]; omega
    simp_arith [9]
    exact ⟨_, _, _, rfl, by rw [hset, ← hput]; rfl⟩)
  simp_arith [9]
  rfl
open PySem L2 He DL
/-! ### what the laws draw: some words, sets -/
theorem pairs_enc {α : Type} (enc : α → D) : ∀ l : List (Str × α), pairsD (l.map fun p => D.tup [.str p.1, enc p.2]) = some (encK enc l)
  | [] => rfl
  | p :: r => by
    have ih := pairs_enc enc r
    rw [List.map_cons, pairsD, ih]
    rfl
theorem mergeA_enc {α : Type} (enc : α → D) : ∀ (r l : List (Str × α)), ((l ++ r).map (·.1)).Nodup → mergeA (encK enc l) (encK enc r) = encK enc (l ++ r)
  | [], l, _ => by simp [mergeA, encK]
  | p :: r, l, h => by
    have hp : putA (encK enc l) (.inr p.1) (enc p.2) = encK enc (l ++ [p]) := by
      unfold putA
      rw [if_neg]
      · simp [encK]
      · rw [List.map_append, List.nodup_append] at h
        simp only [encK, List.any_map, List.any_eq_true, not_exists, not_and, Function.comp]
        intro q hq e
        have e' : q.1 = p.1 := Sum.inr.inj (of_decide_eq_true e)
        exact h.2.2 q.1 (List.mem_map.mpr ⟨q, hq, rfl⟩) p.1 (by simp) e'
    have ih := mergeA_enc enc r (l ++ [p]) (by simpa using h)
    have e : mergeA (encK enc l) (encK enc (p :: r)) = mergeA (putA (encK enc l) (.inr p.1) (enc p.2)) (encK enc r) := rfl
    rw [e, hp, ih]
    simp
theorem merge_nil {α : Type} (enc : α → D) (r : List (Str × α)) (h : (r.map (·.1)).Nodup) : mergeA [] (encK enc r) = encK enc r := mergeA_enc enc r [] h
/-- what _law_sets gives: for each feature some of its words -/
def SetsOf (fs : List Feat) (st : Sets) : Prop := st.map (·.1) = fs.map (·.1) ∧ ∀ f ∈ fs, ∃ us, look st f.1 = some us ∧ us ≠ [] ∧ List.Sublist us f.2
open PySem L2 He DL
/-! ### the laws' notes -/
theorem eqDs_strs : ∀ (a b : List Str), (∀ w ∈ a, okS w = true) → (∀ w ∈ b, okS w = true) → eqDs (a.map D.str) (b.map D.str) = decide (a = b)
  | [], [], _, _ => rfl
  | a, [], ha, _ => by
    rw [List.map_nil, eqDs_nil (okD_L (n := 1) (okD_strs ha))]
    cases a <;> simp
  | [], y :: b, _, hb => by
    have hL := okD_L (n := 1) (okD_strs hb)
    obtain ⟨n, ps, e, _⟩ := hL
    unfold eqDs
    rw [e]
    rw [List.map_cons] at e
    unfold pyDs at e
    split at e
    · cases e; rfl
    · cases e
  | x :: a, y :: b, ha, hb => by
    have ih := eqDs_strs a b (fun w hw => ha w (List.mem_cons_of_mem _ hw)) (fun w hw => hb w (List.mem_cons_of_mem _ hw))
    rw [List.map_cons, List.map_cons, eqDs_cons ⟨0, ok_str (ha x List.mem_cons_self)⟩ ⟨0, ok_str (hb y List.mem_cons_self)⟩ (okD_L (n := 1) (okD_strs fun w hw => ha w (List.mem_cons_of_mem _ hw))) (okD_L (n := 1) (okD_strs fun w hw => hb w (List.mem_cons_of_mem _ hw))), ih, eqD_str]
    simp
theorem eqD_tups {a b : List Str} (ha : ∀ w ∈ a, okS w = true) (hb : ∀ w ∈ b, okS w = true) : eqD (.tup (a.map .str)) (.tup (b.map .str)) = decide (a = b) := by
  rw [eqD_tup (okD_L (n := 1) (okD_strs ha)) (okD_L (n := 1) (okD_strs hb)), eqDs_strs a b ha hb]
abbrev Pw (ws : List Str) : Prop := ws.Pairwise fun a b => ltS a b = true
theorem rising_pw : ∀ {a : List Str}, Pw a → rising a = true
  | [], _ => rfl
  | [_], _ => rfl
  | x :: y :: r, h => by
    obtain ⟨h1, h2⟩ := List.pairwise_cons.mp h
    have ih := rising_pw h2
    unfold rising at ih ⊢
    simp only [List.drop_succ_cons, List.drop_zero, List.zip_cons_cons, List.all_cons] at ih ⊢
    rw [h1 y List.mem_cons_self, Bool.true_and]
    exact ih
theorem nodup_inj {α : Type} : ∀ {l : List (Str × α)}, (l.map (·.1)).Nodup → ∀ {p q : Str × α}, p ∈ l → q ∈ l → p.1 = q.1 → p = q
  | a :: l, h, p, q, hp, hq, e => by
    simp only [List.map_cons, List.nodup_cons] at h
    rcases List.mem_cons.mp hp with rfl | hp' <;> rcases List.mem_cons.mp hq with rfl | hq'
    · rfl
    · exact absurd (List.mem_map.mpr ⟨q, hq', e.symm⟩) h.1
    · exact absurd (List.mem_map.mpr ⟨p, hp', e⟩) h.1
    · exact nodup_inj h.2 hp' hq' e
def told (fs : List Feat) (st : Sets) : Sets := (fs.filter fun f => !decide ((look st f.1).getD [] = f.2)).map fun f => (f.1, (look st f.1).getD [])
theorem S_note {fs : List Feat} {st : Sets} {ce : Ce} (hfs : fs.length ≤ 60) (hnd : (fs.map (·.1)).Nodup) (hok : ∀ f ∈ fs, okF f) (hr : ∀ f ∈ fs, Pw f.2) (h : SetsOf fs st) : F__law_note K [.d (catD K fs), .d (featsD fs), .d (.dic (encK tupS st))] ce = .ok (.d (noteD K fs st)) ce := by
  have hus : ∀ f ∈ fs, ∃ us, look st f.1 = some us ∧ us ≠ [] ∧ List.Sublist us f.2 := h.2
  have htn : ((told fs st).map (·.1)).Nodup := by
    have e : (told fs st).map (·.1) = (fs.filter fun f => !decide ((look st f.1).getD [] = f.2)).map (·.1) := by simp [told]
    rw [e]
    exact hnd.sublist ((List.filter_sublist).map _)
  have hlk : ∀ f ∈ fs, (look (told fs st) f.1).getD f.2 = (look st f.1).getD [] := by
    intro f hf
    obtain ⟨us, e, h1, h2⟩ := hus f hf
    by_cases q : (look st f.1).getD [] = f.2
    · have : look (told fs st) f.1 = none := by
        cases w : look (told fs st) f.1 with
        | none => rfl
        | some a =>
          obtain ⟨g, hg, eg⟩ := List.mem_map.mp (look_mem w)
          obtain ⟨hg1, hg2⟩ := List.mem_filter.mp hg
          have : g = f := by
            have e1 : g.1 = f.1 := (Prod.mk.inj eg).1
            exact nodup_inj hnd hg1 hf e1
          subst this
          simp [q] at hg2
      rw [this, q]
      rfl
    · rw [look_of htn (a := (look st f.1).getD []) (List.mem_map.mpr ⟨f, List.mem_filter.mpr ⟨hf, by simp [q]⟩, rfl⟩)]
      rfl
  have hN : NoteOk fs (told fs st) := by
    refine ⟨?_, ?_, ?_⟩
    · intro p hp
      obtain ⟨f, hf, rfl⟩ := List.mem_map.mp hp
      exact List.mem_map.mpr ⟨f, (List.mem_filter.mp hf).1, rfl⟩
    · unfold told
      rw [List.length_map]
      exact Nat.le_trans (List.length_filter_le _ _) hfs
    · intro f hf
      rw [hlk f hf]
      obtain ⟨us, e, h1, h2⟩ := hus f hf
      rw [e]
      exact ⟨h1, rising_pw ((hr f hf).sublist h2), Nat.le_trans h2.length_le (hok f hf).l, fun w hw => h2.subset hw⟩
  have hst : noteSets fs (told fs st) = st := by
    have e1 : noteSets fs (told fs st) = (fs.map (·.1)).map fun n => (n, (look st n).getD []) := by
      unfold noteSets
      rw [List.map_map]
      exact List.map_congr_left fun f hf => by rw [hlk f hf]; rfl
    rw [e1, ← h.1, List.map_map]
    have hsn : (st.map (·.1)).Nodup := by rw [h.1]; exact hnd
    have e2 : st.map ((fun n => (n, (look st n).getD [])) ∘ (·.1)) = st.map id := List.map_congr_left fun p hp => by
      have := look_of hsn (n := p.1) (a := p.2) hp
      simp [Function.comp, this]
    rw [e2, List.map_id]
  have hmk := mk_note (K := K) (ce := ce) (Nat.le_trans hfs (by decide)) hnd hok hN
  rw [hst] at hmk
  rw [F__law_note_eq]
  unfold B__law_note
  simp_arith [9, featsD]
  rw [show (fs.map featD).map T.d = fs.map (fun f => T.d (featD f)) by simp]
  rw [compM_filter (fun f : Feat => T.d (featD f)) (fun f => !decide ((look st f.1).getD [] = f.2)) (fun f => D.tup [.str f.1, tupS ((look st f.1).getD [])]) _ fs (fun f hf => by
    obtain ⟨us, e, h1, h2⟩ := hus f hf
    have hv := valA_enc tupS st f.1
    rw [e] at hv
    have o1 : okD 16 (.tup (us.map D.str)) = true := by rw [okD_tup]; exact okD_strs fun x hx => ((hok f hf).w x (h2.subset hx)).2
    have o2 : okD 16 (.tup (f.2.map D.str)) = true := by rw [okD_tup]; exact okD_strs fun x hx => ((hok f hf).w x hx).2
    have hq := eqD_tups (a := us) (b := f.2) (fun x hx => ((hok f hf).w x (h2.subset hx)).2) (fun x hx => ((hok f hf).w x hx).2)
    by_cases q : us = f.2
    · simp_arith [9, featD, hv, tupS, o1, o2, hq, e]
      simp [q]
    · simp_arith [9, featD, hv, tupS, o1, o2, hq, e, q]
      simp [q])]
  have hp := pairs_enc tupS (told fs st)
  have hm := merge_nil tupS (told fs st) htn
  unfold told at hp
  rw [List.map_map] at hp
  simp only [Function.comp_def] at hp
  rw [show ((fs.filter fun f => !decide ((look st f.1).getD [] = f.2)).map fun f => (f.1, (look st f.1).getD [])) = told fs st from rfl] at hp
  simp_arith [9, hp, hm, hmk]
open PySem L2 He DL
/-! ### things, claims, offices -/
theorem isi_int_int (ce : Ce) (v : Int) : isiD [] ce (.d (.int v)) (.raw (.ty "int")) = some true := rfl
theorem isi_int_bool (ce : Ce) (v : Int) : isiD [] ce (.d (.int v)) (.raw (.ty "bool")) = some false := rfl
theorem t_and (b : Bool) : (true && b) = b := Bool.true_and b
theorem f_and (b : Bool) : (false && b) = false := Bool.false_and b
theorem t_not : (!true) = false := rfl
theorem f_not : (!false) = true := rfl
open PySem L2 He DL
def ordL {α : Type} (l : List (Str × α)) : List (Str × α) := (srt (l.map (·.1))).filterMap fun n => (look l n).map fun a => (n, a)
open PySem L2 He DL
theorem lk_hit {β : Type} (k : Str) (v : β) (r : List (Str × β)) : List.lookup k ((k, v) :: r) = some v := by simp [List.lookup]
theorem lk_miss {β : Type} {k k' : Str} (v : β) (r : List (Str × β)) (h : (k == k') = false) : List.lookup k ((k', v) :: r) = List.lookup k r := by simp [List.lookup, h]
abbrev Thg := Sets × Int
abbrev Clm := Sets × Int × Int × Int
local macro_rules | `(tactic| simp_arith [10, $ls,*] $[$l]?) => `(tactic| simp_arith [9, $ls,*, LD.isi_int_int, LD.isi_int_bool, LD.t_and, LD.f_and, LD.t_not, LD.f_not, LD.lk_hit, LD.lk_miss] $[$l]?)
local macro_rules | `(tactic| simp_arith [10] $[$l]?) => `(tactic| simp_arith [9, LD.isi_int_int, LD.isi_int_bool, LD.t_and, LD.f_and, LD.t_not, LD.f_not, LD.lk_hit, LD.lk_miss] $[$l]?)
theorem S_Note_catalog {fs : List Feat} {s : Sets} {ce : Ce} : F_Note_catalog K [.d (noteD K fs s)] ce = .ok (.d (catD K fs)) ce := by
  rw [F_Note_catalog_eq]; unfold B_Note_catalog; simp_arith [10]
theorem ordL_mem {α : Type} {l : List (Str × α)} {p : Str × α} (h : p ∈ ordL l) : p ∈ l := by
  obtain ⟨n, hn, e⟩ := List.mem_filterMap.mp h
  obtain ⟨a, ha, rfl⟩ := Option.map_eq_some_iff.mp e
  exact look_mem ha
theorem ordL_len {α : Type} (l : List (Str × α)) : (ordL l).length ≤ l.length := by
  have h1 := List.length_filterMap_le (fun n => (look l n).map fun a => (n, a)) (srt (l.map (·.1)))
  have h2 : (srt (l.map (·.1))).length = l.length := by rw [(srt_perm _).length_eq, List.length_map]
  unfold ordL
  omega
structure NamesOk {α : Type} (l : List (Str × α)) : Prop where
  len : l.length ≤ 8
  nd : (l.map (·.1)).Nodup
  word : ∀ p ∈ l, isWord p.1 = true ∧ p.1.length ≤ 1000 ∧ okS p.1 = true
open PySem L2 He DL
/-! ### the drawn office -/
theorem GoodFs.names {fs : List Feat} (h : GoodFs fs) (hl : fs.length ≤ 6) : fs.map (·.1) = six.take fs.length := by
  apply List.ext_getElem?
  intro k
  by_cases hk : k < fs.length
  · have e : fs[k]? = some fs[k] := List.getElem?_eq_getElem hk
    have hk6 : k < six.length := by show k < 6; omega
    rw [List.getElem?_map, e, List.getElem?_take_of_lt hk, List.getElem?_eq_getElem hk6]
    have := (h k _ e).1
    rw [Option.map_some, this]
    simp [nm, List.getD, List.getElem?_eq_getElem hk6]
  · rw [List.getElem?_eq_none (by simpa using Nat.le_of_not_lt hk), List.getElem?_eq_none]
    rw [List.length_take]
    omega
theorem GoodFs.nodup {fs : List Feat} (h : GoodFs fs) (hl : fs.length ≤ 6) : (fs.map (·.1)).Nodup := by
  rw [h.names hl]
  exact (show six.Nodup by decide).sublist (List.take_sublist ..)
theorem GoodFs.mem {fs : List Feat} (h : GoodFs fs) {f : Feat} (hf : f ∈ fs) : ∃ k, k < fs.length ∧ GoodF k f := by
  obtain ⟨k, hk, e⟩ := List.mem_iff_getElem.mp hf
  exact ⟨k, hk, h k f (by rw [List.getElem?_eq_getElem hk, e])⟩
theorem GoodF.okw {k : Nat} {f : Feat} (h : GoodF k f) : ∀ w ∈ f.2, okS w = true := fun w hw => by
  have : ∀ w ∈ five, okS w = true := by decide +kernel
  exact this w (h.2.1.subset hw)
theorem GoodF.pw {k : Nat} {f : Feat} (h : GoodF k f) : Pw f.2 := (show Pw five by unfold Pw; decide).sublist h.2.1
theorem GoodF.ne {k : Nat} {f : Feat} (h : GoodF k f) : f.2 ≠ [] := fun e => by have := h.2.2; rw [e] at this; simp at this
theorem GoodF.len {k : Nat} {f : Feat} (h : GoodF k f) : f.2.length ≤ 5 := h.2.1.length_le
theorem GoodFs.ok {fs : List Feat} (h : GoodFs fs) (hl : fs.length ≤ 6) : ∀ f ∈ fs, okF f := fun f hf => by
  obtain ⟨k, hk, g⟩ := h.mem hf
  have hn : f.1 ∈ six := by
    have : f.1 ∈ fs.map (·.1) := List.mem_map.mpr ⟨f, hf, rfl⟩
    rw [h.names hl] at this
    exact List.mem_of_mem_take this
  have h1 : ∀ w ∈ six, w.length ≤ 1000 ∧ okS w = true := by decide +kernel
  have h2 : ∀ w ∈ five, w.length ≤ 1000 ∧ okS w = true := by decide +kernel
  exact ⟨(h1 _ hn).1, (h1 _ hn).2, Nat.le_trans g.len (by decide), fun w hw => h2 w (g.2.1.subset hw)⟩
theorem nodup_split {α : Type} {l pre post : List α} {m : α} (h : l.Nodup) (e : l = pre ++ m :: post) : m ∉ pre := by
  rw [e, List.nodup_append] at h
  exact fun q => h.2.2 m q m List.mem_cons_self rfl
def thN : List Str := ["bag", "cap", "key", "mug", "pen", "urn"]
def clN : List Str := ["ann", "bob", "cy", "dot", "eve", "fay"]
structure DrawnOk (fs : List Feat) (ths : List (Str × Thg)) (cls : List (Str × Clm)) : Prop where
  good : GoodFs fs
  f1 : 1 ≤ fs.length
  f3 : fs.length ≤ 3
  tn : (ths.map (·.1)) <+: thN
  cn : (cls.map (·.1)) <+: clN
  ts : ∀ p ∈ ths, SetsOf fs p.2.1 ∧ 2 ≤ p.2.2 ∧ p.2.2 ≤ 10
  cs : ∀ p ∈ cls, SetsOf fs p.2.1 ∧ 0 ≤ p.2.2.1 ∧ p.2.2.1 ≤ 8 ∧ 0 ≤ p.2.2.2.1 ∧ p.2.2.2.1 ≤ 2 ∧ 1 ≤ p.2.2.2.2 ∧ p.2.2.2.2 ≤ 9
open PySem L2 He DL
/-! ### the source of draws behind two tables -/
abbrev tabWr (K : PySem.W.Frag) : Cell := tabN K "_law_wrong"
abbrev HhX5 (st i : Int) : Cell := .lst [.d (.int st), .cel 2, .d (.int i)]
def hdX5 (K : PySem.W.Frag) (s : Dr) (rest : Ce) : Ce := tabL K :: tabWr K :: Hc s.cs :: HhX5 s.st s.i :: rest
theorem hd_appX5 (s : Dr) (a b : Ce) : hdX5 K s a ++ b = hdX5 K s (a ++ b) := rfl
theorem hd_lenX5 (s : Dr) (a : Ce) : (hdX5 K s a).length = a.length + 4 := rfl
theorem hd_getX5 (s : Dr) (a : Ce) (n : Nat) : (hdX5 K s a)[n + 4]? = a[n]? := rfl
theorem hd_setX5 (s : Dr) (a : Ce) (n : Nat) (c : Cell) : (hdX5 K s a).set (n + 4) c = hdX5 K s (a.set n c) := rfl
theorem hd_get0X5 (s : Dr) (a : Ce) : (hdX5 K s a)[2]? = some (Hc s.cs) := rfl
theorem hd_get1X5 (s : Dr) (a : Ce) : (hdX5 K s a)[3]? = some (HhX5 s.st s.i) := rfl
theorem hd_set0X5 (s : Dr) (a : Ce) (cs : List Int) : (hdX5 K s a).set 2 (.lst ((cs.map D.int).map T.d)) = hdX5 K ⟨cs, s.st, s.i⟩ a := rfl
theorem hd_set1X5 (s : Dr) (a : Ce) (st i : Int) : (hdX5 K s a).set 3 (.lst [.d (.int st), .cel 2, .d (.int i)]) = hdX5 K ⟨s.cs, st, i⟩ a := rfl
theorem keep_hdX5 (ce : Ce) (n : Nat) (s : Dr) (hn : 2 < n) : keepC (retT ce n) (Hc s.cs) = some (Hc s.cs) ∧ keepC (retT ce n) (HhX5 s.st s.i) = some (HhX5 s.st s.i) := by
  refine ⟨?_, ?_⟩
  · simp only [keepC, keepL_d, Option.map_some]
  · simp only [keepC, keepL, retT, hn, if_true, Option.map_some]
theorem retL_hdX5 (ce' : Ce) (n : Nat) (hn : 2 < n) (s s' : Dr) (a l : Ce) : retL (retT ce' n) (hdX5 K s a) (hdX5 K s' (a ++ l)) = some (hdX5 K s' a) := by
  unfold hdX5
  rw [retL_cons (keepC_tab K _), retL_cons (keepC_tabN K _ _), retL_cons (keep_hdX5 _ _ _ hn).1, retL_cons (keep_hdX5 _ _ _ hn).2, retL_self]
  rfl
theorem retR_hdX5 (s s' : Dr) (a l : Ce) (d : D) : retR (hdX5 K s a) (.d d) (hdX5 K s' (a ++ l)) = .ok (.d d) (hdX5 K s' a) := by
  rw [retR, retL_hdX5 _ _ (by rw [hd_lenX5]; omega)]
  rfl
theorem retR_hd0X5 (s s' : Dr) (a : Ce) (d : D) : retR (hdX5 K s a) (.d d) (hdX5 K s' a) = .ok (.d d) (hdX5 K s' a) := by
  have := retR_hdX5 (K := K) s s' a [] d
  rwa [List.append_nil] at this
theorem retX_hdX5 (s s' : Dr) (a l : Ce) (x : Exc) : retX (hdX5 K s a) x (hdX5 K s' (a ++ l)) = .ex x (hdX5 K s' a) := by
  rw [retX, retL_hdX5 _ _ (by rw [hd_lenX5]; omega)]
  rfl
theorem retX_hd0X5 (s s' : Dr) (a : Ce) (x : Exc) : retX (hdX5 K s a) x (hdX5 K s' a) = .ex x (hdX5 K s' a) := by
  have := retX_hdX5 (K := K) s s' a [] x
  rwa [List.append_nil] at this
theorem frzD_hdX5 {s : Dr} {a l : Ce} {i f : Nat} : frzD (hdX5 K s (a ++ l)) (a.length + 4) (f + 1) (.cel (a.length + i + 4)) = (l[i]?).bind (frzC' (frzD (hdX5 K s (a ++ l)) (a.length + 4) f)) := by
  simp only [frzD]
  rw [if_neg (by omega), hd_getX5, ga_add]
  cases l[i]? <;> rfl
theorem frzD_hd0X5 (s : Dr) (a : Ce) (c : Cell) (l : Ce) (f : Nat) : frzD (hdX5 K s (a ++ c :: l)) (a.length + 4) (f + 1) (.cel (a.length + 4)) = frzC' (frzD (hdX5 K s (a ++ c :: l)) (a.length + 4) f) c := frzD_hdX5 (i := 0)
theorem frzD_hd1X5 (s : Dr) (a : Ce) (c c1 : Cell) (l : Ce) (f : Nat) : frzD (hdX5 K s (a ++ c :: c1 :: l)) (a.length + 4) (f + 1) (.cel (a.length + 5)) = frzC' (frzD (hdX5 K s (a ++ c :: c1 :: l)) (a.length + 4) f) c1 := frzD_hdX5 (i := 1)
theorem frzD_hd2X5 (s : Dr) (a : Ce) (c c1 c2 : Cell) (l : Ce) (f : Nat) : frzD (hdX5 K s (a ++ c :: c1 :: c2 :: l)) (a.length + 4) (f + 1) (.cel (a.length + 6)) = frzC' (frzD (hdX5 K s (a ++ c :: c1 :: c2 :: l)) (a.length + 4) f) c2 := frzD_hdX5 (i := 2)
theorem retR_hdNX5 {s s' : Dr} {a l : Ce} {i : Nat} : retR (hdX5 K s a) (.cel (a.length + i + 4)) (hdX5 K s' (a ++ l)) = R.opt ((l[i]?).bind (frzC' (frzD (hdX5 K s' (a ++ l)) (a.length + 4) 7))) fun d => .ok (.d d) (hdX5 K s' a) := by
  have e : retT (hdX5 K s' (a ++ l)) (a.length + 4) (.cel (a.length + i + 4)) = ((l[i]?).bind (frzC' (frzD (hdX5 K s' (a ++ l)) (a.length + 4) 7))).map T.d := by
    simp only [retT]
    rw [if_neg (by omega), frzD_hdX5]
  rw [retR, retL_hdX5 _ _ (by rw [hd_lenX5]; omega), R.opt_some]
  show R.opt (retT (hdX5 K s' (a ++ l)) (a.length + 4) (.cel (a.length + i + 4))) _ = _
  rw [e]
  cases (l[i]?).bind (frzC' (frzD (hdX5 K s' (a ++ l)) (a.length + 4) 7)) <;> rfl
theorem retR_hd1X5 (s s' : Dr) (a : Ce) (c : Cell) (l : Ce) : retR (hdX5 K s a) (.cel (a.length + 4)) (hdX5 K s' (a ++ c :: l)) = R.opt (frzC' (frzD (hdX5 K s' (a ++ c :: l)) (a.length + 4) 7) c) fun d => .ok (.d d) (hdX5 K s' a) := retR_hdNX5 (i := 0)
local macro_rules | `(tactic| simp_arith [11, $ls,*] $[$l]?) => `(tactic| simp_arith [10, $ls,*, LD.S_Note_catalog, LD.hd_appX5, LD.hd_lenX5, LD.hd_getX5, LD.hd_setX5, LD.hd_get0X5, LD.hd_get1X5, LD.hd_set0X5, LD.hd_set1X5, LD.retR_hdX5, LD.retR_hd0X5, LD.retX_hdX5, LD.retX_hd0X5, LD.frzD_hd0X5, LD.frzD_hd1X5, LD.frzD_hd2X5, LD.retR_hd1X5] $[$l]?)
local macro_rules | `(tactic| simp_arith [11] $[$l]?) => `(tactic| simp_arith [10, LD.S_Note_catalog, LD.hd_appX5, LD.hd_lenX5, LD.hd_getX5, LD.hd_setX5, LD.hd_get0X5, LD.hd_get1X5, LD.hd_set0X5, LD.hd_set1X5, LD.retR_hdX5, LD.retR_hd0X5, LD.retX_hdX5, LD.retX_hd0X5, LD.frzD_hd0X5, LD.frzD_hd1X5, LD.frzD_hd2X5, LD.retR_hd1X5] $[$l]?)
theorem S_mixX5 {ns : List Int} {sd : Int} (hl : ns.length ≤ 900) : ∃ s : Dr, DrOk s ∧ s.cs = ns ∧ F__law_mix K [.d (.lst (ns.map .int)), .d (.int sd)] [tabL K, tabWr K] = .ok (.cel 3) (hdX5 K s []) := by
  rw [F__law_mix_eq]
  unfold B__law_mix
  obtain ⟨sl', ce', e, st, x, rfl, rfl⟩ := forL_inv (g := gName 3) (b := (sSet 2 (mOp oModM (mCB oInt1M (mCons (mOp oAddM (mOp oAddM (mOp oMulM (mVar 2) (mC (.int 48271))) (mOp oModM (mCB oInt1M (mCons (mVar 3) mNil)) (mC (.int 2147483629)))) (mC (.int 1))) mNil)) (mC (.int 2147483647)))))
    (fun n : Int => T.d (.int n)) (fun sl c => ∃ (st : Int) (x : Option T), sl = [some (.d (.lst (ns.map .int))), some (.d (.int sd)), some (.d (.int st)), x] ∧ c = [tabL K, tabWr K]) ns [some (.d (.lst (ns.map .int))), some (.d (.int sd)), some (.d (.int sd)), none] [tabL K, tabWr K] ⟨_, _, rfl, rfl⟩ (by
      rintro n hn sl c ⟨st, x, rfl, rfl⟩
      simp_arith [11]
      exact ⟨_, _, rfl, rfl⟩)
  refine ⟨⟨ns, st, 0⟩, ⟨Int.le_refl _, hl⟩, rfl, ?_⟩
  simp_arith [11]
  rw [List.map_map, show (T.d ∘ D.int) = (fun n : Int => T.d (.int n)) from rfl, e]
  simp_arith [11]
  unfold hdX5 Hc
  simp
theorem S_nextX5 {s : Dr} {lim : Int} {rest : Ce} (h : DrOk s) (h1 : 0 < lim) (h2 : lim < 1073741824) : ∃ (n : Int) (s' : Dr), 0 ≤ n ∧ n < lim ∧ DrOk s' ∧ F__law_next K [.cel 3, .d (.int lim)] (hdX5 K s rest) = .ok (.d (.int n)) (hdX5 K s' rest) := by
  obtain ⟨cs, st, i⟩ := s
  obtain ⟨hi, hlen⟩ := h
  have hi : 0 ≤ i := hi
  have hlen : cs.length ≤ 900 := hlen
  have hm : ∀ m : Int, m = (if ((cs.length : Int)) > 1 then (cs.length : Int) else 1) → 0 < m ∧ ∃ c, atI (cs.map D.int ++ [.int 0]) (i % m) = some (.int c) ∧ (cs = [] → c = 0) := by
    intro m hm
    have hp : 0 < m := by rw [hm]; split <;> omega
    refine ⟨hp, ?_⟩
    have h0 : 0 ≤ i % m := Int.emod_nonneg _ (by omega)
    have h1 : i % m < m := Int.emod_lt_of_pos _ hp
    have h2 : (i % m).toNat < (cs ++ [0]).length := by
      have hm' : m ≤ (cs.length : Int) + 1 := by rw [hm]; split <;> omega
      simp only [List.length_append, List.length_cons, List.length_nil]
      omega
    have e : cs.map D.int ++ [.int 0] = (cs ++ [0]).map D.int := by simp
    refine ⟨(cs ++ [0])[(i % m).toNat], ?_, fun z => ?_⟩
    · rw [e]
      exact DL.atI_get h0 (by rw [List.getElem?_map, List.getElem?_eq_getElem h2]; rfl)
    · subst z
      have : (i % m).toNat = 0 := by
        simp only [List.nil_append, List.length_cons, List.length_nil] at h2
        omega
      simp [this]
  obtain ⟨hp, c, hc, hc0⟩ := hm _ rfl
  rw [F__law_next_eq]
  unfold B__law_next
  by_cases hb : (1000000000000000000 : Int) ≤ c
  · have hcs : cs ≠ [] := fun z => by rw [hc0 z] at hb; simp at hb
    have hpos : 0 < cs.length := List.length_pos_iff.mpr hcs
    have hp0 : (0 : Int) < cs.length := by omega
    have h0 : 0 ≤ i % (cs.length : Int) := Int.emod_nonneg _ (by omega)
    have h1' : i % (cs.length : Int) < cs.length := Int.emod_lt_of_pos _ (by omega)
    have hix : ixN cs.length (i % (cs.length : Int)) = some (i % (cs.length : Int)).toNat := by unfold ixN; rw [if_pos h0, if_pos h1']
    refine ⟨c % lim, ⟨cs.set (i % (cs.length : Int)).toNat (c / lim), st, i⟩, Int.emod_nonneg _ (by omega), Int.emod_lt_of_pos _ h1, ⟨hi, by simp; exact hlen⟩, ?_⟩
    simp_arith [11, hc, hix]
  · refine ⟨(st * 48271 + c * 69621 + 11) % 2147483647 / 7 % lim, ⟨cs, (st * 48271 + c * 69621 + 11) % 2147483647, i + 1⟩, Int.emod_nonneg _ (by omega), Int.emod_lt_of_pos _ h1, ⟨by show 0 ≤ i + 1; omega, hlen⟩, ?_⟩
    simp_arith [11, hc]
theorem feat_whileX5 {A : Ce} {s0 s1 s2 s3 : Option T} (h0 : s0 = some (.cel 3)) : ∀ (n : Nat) (s : Dr) (ws : List Str), DrOk s → 2 ≤ ws.length → ws.length ≤ n + 1 → List.Sublist ws five →
    ∃ (s' : Dr) (ws' : List Str), DrOk s' ∧ 2 ≤ ws'.length ∧ List.Sublist ws' five ∧
      whileL (mTB (mOp oGtM (mCB oLenM (mCons (mVar 4) mNil)) (mOp oAddM (mC (.int 2)) (mCall (F__law_next K) (mCons (mVar 0) (mCons (mC (.int 3)) mNil)))))) (sDrop (mBM bPop (mVar 4) (mCons (mCall (F__law_next K) (mCons (mVar 0) (mCons (mCB oLenM (mCons (mVar 4) mNil)) mNil))) mNil))) n
        [s0, s1, s2, s3, some (.cel (A.length + 4))] (hdX5 K s (A ++ [Hw ws])) = .nx [s0, s1, s2, s3, some (.cel (A.length + 4))] (hdX5 K s' (A ++ [Hw ws']))
  | 0, s, ws, _, h2, hn, _ => by omega
  | n + 1, s, ws, hs, h2, hn, hsub => by
    subst h0
    have h5 : ws.length ≤ 5 := hsub.length_le
    obtain ⟨d, sa, hd1, hd2, hsa, e1⟩ := S_nextX5 (K := K) (lim := 3) (rest := A ++ [Hw ws]) hs (by decide) (by decide)
    by_cases hb : 2 + d < (ws.length : Int)
    · obtain ⟨e, sb, he1, he2, hsb, e2⟩ := S_nextX5 (K := K) (lim := (ws.length : Int)) (rest := A ++ [Hw ws]) hsa (by omega) (by omega)
      have hj : e.toNat < ws.length := by omega
      have hix : ixN ws.length e = some e.toNat := by unfold ixN; rw [if_pos he1, if_pos (by omega)]
      have hg : ((ws.map D.str).map T.d)[e.toNat]? = some (.d (.str ws[e.toNat])) := by simp [hj]
      have her : ((ws.map D.str).map T.d).eraseIdx e.toNat = ((ws.eraseIdx e.toNat).map D.str).map T.d := by rw [DL.eraseIdx_map, DL.eraseIdx_map]
      have hl : (ws.eraseIdx e.toNat).length = ws.length - 1 := List.length_eraseIdx_of_lt hj
      obtain ⟨s', ws', a1, a2, a3, a4⟩ := feat_whileX5 (A := A) (s1 := s1) (s2 := s2) (s3 := s3) rfl n sb (ws.eraseIdx e.toNat) hsb (by omega) (by omega) ((List.eraseIdx_sublist ..).trans hsub)
      refine ⟨s', ws', a1, a2, a3, ?_⟩
      rw [← a4]
      simp_arith [11, whileL_succ, e1, e2, hix, hg, her]
    · refine ⟨sa, ws, hsa, h2, hsub, ?_⟩
      simp_arith [11, whileL_succ, e1]
theorem S_featsX5 {s : Dr} {most : Nat} {rest : Ce} (h : DrOk s) (h1 : 1 ≤ most) (h6 : most ≤ 6) : ∃ (fs : List Feat) (s' : Dr), GoodFs fs ∧ 1 ≤ fs.length ∧ fs.length ≤ most ∧ DrOk s' ∧ F__law_features K [.cel 3, .d (.int most)] (hdX5 K s rest) = .ok (.d (featsD fs)) (hdX5 K s' rest) := by
  rw [F__law_features_eq]
  unfold B__law_features
  obtain ⟨n, s1, hn1, hn2, hs1, e1⟩ := S_nextX5 (K := K) (lim := (most : Int)) (rest := rest ++ [.lst []]) h (by omega) (by omega)
  obtain ⟨sl', ce', e, s2, fs, junk, x, y, hs2, rfl, hfl, hgood, rfl⟩ := forL_pre (g := gName 3) (b := (sSeq (sSet 4 (mLstC (mCons (mC (.str "blue")) (mCons (mC (.str "gray")) (mCons (mC (.str "pink")) (mCons (mC (.str "red")) (mCons (mC (.str "tan")) mNil)))))))
    (sSeq (sWhile (fun _ _ => 6) (mTB (mOp oGtM (mCB oLenM (mCons (mVar 4) mNil)) (mOp oAddM (mC (.int 2)) (mCall (F__law_next K) (mCons (mVar 0) (mCons (mC (.int 3)) mNil)))))) (sDrop (mBM bPop (mVar 4) (mCons (mCall (F__law_next K) (mCons (mVar 0) (mCons (mCB oLenM (mCons (mVar 4) mNil)) mNil))) mNil))))
    (sDrop (mBM bApp (mVar 2) (mCons (mTup (mCons (mOp oIxM (mLst (mCons (mC (.str "hue")) (mCons (mC (.str "size")) (mCons (mC (.str "age")) (mCons (mC (.str "kind")) (mCons (mC (.str "lid")) (mCons (mC (.str "bag")) mNil))))))) (mVar 3)) (mCons (mCB oTupleM (mCons (mVar 4) mNil)) mNil))) mNil))))))
    (fun (i : Nat) => T.d (.int (i : Int))) (fun pre sl c => ∃ (s : Dr) (fs : List Feat) (junk : Ce) (x y : Option T), DrOk s ∧ c = hdX5 K s (rest ++ .lst ((fs.map featD).map T.d) :: junk) ∧ fs.length = pre.length ∧ GoodFs fs ∧ sl = [some (.cel 3), some (.d (.int most)), some (.cel (rest.length + 4)), x, y]) (List.range (1 + n).toNat) (by
      rintro pre k post sl c hpp ⟨s, fs, junk, x, y, hs, rfl, hfl, hgood, rfl⟩
      obtain ⟨hpre, hk⟩ := range_split hpp.symm
      have hk6 : k < 6 := by omega
      have hfk : fs.length = k := by rw [hfl, hpre]; simp
      obtain ⟨s', ws, a1, a2, a3, a4⟩ := feat_whileX5 (K := K) (A := rest ++ .lst ((fs.map featD).map T.d) :: junk) (s1 := some (.d (.int most))) (s2 := some (.cel (rest.length + 4))) (s3 := some (.d (.int k))) rfl 6 s five hs (by decide) (by decide) (List.Sublist.refl _)
      simp_arith [11, five, Hw] at a4
      have hat := name_at hk6
      simp_arith [11, a4, hat]
      refine ⟨s', fs ++ [(nm k, ws)], junk ++ [Hw ws], _, _, a1, ?_, by simp [hfl], hgood.snoc ⟨by rw [hfk], a3, a2⟩, rfl⟩
      simp [featD, Hw]) (List.range (1 + n).toNat) [] [some (.cel 3), some (.d (.int most)), some (.cel (rest.length + 4)), none, none] (hdX5 K s1 (rest ++ [.lst []])) rfl ⟨s1, [], [], none, none, hs1, rfl, rfl, GoodFs.nil, rfl⟩
  have hpl : fs.length = (1 + n).toNat := by rw [hfl]; simp
  refine ⟨fs, s2, hgood, by omega, by omega, hs2, ?_⟩
  simp_arith [11, e1, e]
  rfl
theorem compM_drawFX5 {α : Type} {f : T → Ce → R (Option D)} (G : α → T) (enc : α → D) (rest : Ce) : ∀ (l : List α) (s : Dr), DrOk s →
    (∀ a ∈ l, ∀ s, DrOk s → ∃ (b : Bool) (s' : Dr), DrOk s' ∧ f (G a) (hdX5 K s rest) = .ok (if b = true then some (enc a) else none) (hdX5 K s' rest)) →
    ∃ (r : List α) (s' : Dr), DrOk s' ∧ List.Sublist r l ∧ compM f (l.map G) (hdX5 K s rest) = .ok (r.map enc) (hdX5 K s' rest)
  | [], s, hs, _ => ⟨[], s, hs, List.Sublist.refl _, rfl⟩
  | a :: l, s, hs, h => by
    obtain ⟨b, s1, h1, e1⟩ := h a List.mem_cons_self s hs
    obtain ⟨r, s2, h2, hr, e2⟩ := compM_drawFX5 G enc rest l s1 h1 (fun x hx => h x (List.mem_cons_of_mem _ hx))
    cases b with
    | true => exact ⟨a :: r, s2, h2, hr.cons_cons a, by rw [List.map_cons, compM_cons, e1]; simp only [R.bind_ok, e2]; rfl⟩
    | false => exact ⟨r, s2, h2, hr.cons a, by rw [List.map_cons, compM_cons, e1]; simp only [R.bind_ok, e2]; rfl⟩
theorem compM_drawAX5 {α β : Type} {f : T → Ce → R (Option D)} (G : α → T) (enc : α → β → D) (P : α → β → Prop) (rest : Ce) : ∀ (l : List α) (s : Dr), DrOk s →
    (∀ a ∈ l, ∀ s, DrOk s → ∃ (b : β) (s' : Dr), DrOk s' ∧ P a b ∧ f (G a) (hdX5 K s rest) = .ok (some (enc a b)) (hdX5 K s' rest)) →
    ∃ (r : List (α × β)) (s' : Dr), DrOk s' ∧ r.map (·.1) = l ∧ (∀ p ∈ r, P p.1 p.2) ∧ compM f (l.map G) (hdX5 K s rest) = .ok (r.map fun p => enc p.1 p.2) (hdX5 K s' rest)
  | [], s, hs, _ => ⟨[], s, hs, rfl, by simp, rfl⟩
  | a :: l, s, hs, h => by
    obtain ⟨b, s1, h1, hp, e1⟩ := h a List.mem_cons_self s hs
    obtain ⟨r, s2, h2, hr, hq, e2⟩ := compM_drawAX5 G enc P rest l s1 h1 (fun x hx => h x (List.mem_cons_of_mem _ hx))
    refine ⟨(a, b) :: r, s2, h2, by simp [hr], ?_, by rw [List.map_cons, compM_cons, e1]; simp only [R.bind_ok, e2]; rfl⟩
    intro p hp'
    rcases List.mem_cons.mp hp' with rfl | hp'
    · exact hp
    · exact hq p hp'
theorem S_someX5 {ws : List Str} {s : Dr} {rest : Ce} (hs : DrOk s) (hne : ws ≠ []) (hl : ws.length ≤ 5) (hok : ∀ w ∈ ws, okS w = true) : ∃ (us : List Str) (s' : Dr), us ≠ [] ∧ List.Sublist us ws ∧ DrOk s' ∧ F__law_some K [.cel 3, .d (.tup (ws.map .str))] (hdX5 K s rest) = .ok (.d (.tup (us.map .str))) (hdX5 K s' rest) := by
  rw [F__law_some_eq]
  unfold B__law_some
  obtain ⟨d, s1, hd1, hd2, hs1, e1⟩ := S_nextX5 (K := K) (lim := 3) (rest := rest) hs (by decide) (by decide)
  by_cases hd0 : d = 0
  · subst hd0
    exact ⟨ws, s1, hne, List.Sublist.refl _, hs1, by simp_arith [11, e1]⟩
  · have hpos : 0 < ws.length := List.length_pos_iff.mpr hne
    obtain ⟨r, s2, h2, hr, e2⟩ := compM_drawFX5 (K := K) (f := itemM (gName 3) (mTB (mOp (oEqM false) (mCall (F__law_next K) (mCons (mVar 0) (mCons (mC (.int 2)) mNil))) (mC (.int 0)))) (mVar 3) (wipeD [some (.cel 3), some (.d (.tup (ws.map .str))), none, none] [3])) (fun w : Str => T.d (.str w)) D.str rest ws s1 hs1 (by
      intro w hw s hs
      obtain ⟨b, s', h1, h2, hs', e⟩ := S_nextX5 (K := K) (lim := 2) (rest := rest) hs (by decide) (by decide)
      refine ⟨decide (b = 0), s', hs', ?_⟩
      by_cases hb : b = 0
      · subst hb
        simp_arith [11, e]
      · simp_arith [11, e, hb])
    rw [show ws.map (fun w : Str => T.d (.str w)) = (ws.map D.str).map T.d by simp] at e2
    obtain ⟨j, s3, hj1, hj2, hs3, e3⟩ := S_nextX5 (K := K) (lim := (ws.length : Int)) (rest := rest) h2 (by omega) (by omega)
    by_cases hrn : r = []
    · refine ⟨[ws[j.toNat]'(by omega)], s3, by simp, ?_, hs3, ?_⟩
      · rw [List.singleton_sublist]
        exact List.getElem_mem ..
      · subst hrn
        have hat : atI (ws.map D.str) j = some (.str (ws[j.toNat]'(by omega))) := atI_get hj1 (by simp [show j.toNat < ws.length by omega])
        simp_arith [11, e1, e2, e3, hat]
    · refine ⟨r, s2, hrn, hr, h2, ?_⟩
      have ho : okD 16 (D.lst (r.map D.str)) = true := by rw [okD_lst]; exact okD_strs fun x hx => hok x (hr.subset hx)
      have hq : eqD (D.lst (r.map D.str)) (D.lst []) = false := by
        have hL := okD_L (n := 15) (xs := r.map D.str) (okD_strs fun x hx => hok x (hr.subset hx))
        rw [eqD_lst hL ⟨0, okL_nil⟩, eqDs_nil hL]
        cases r with
        | nil => exact absurd rfl hrn
        | cons a r => rfl
      have hrl : r.length ≤ 5 := Nat.le_trans hr.length_le hl
      simp_arith [11, e1, e2, ho, hq]
theorem S_setsX5 {fs : List Feat} {s : Dr} {rest : Ce} (hs : DrOk s) (hn : (fs.map (·.1)).Nodup) (hfl : fs.length ≤ 1000) (hf : ∀ f ∈ fs, f.2 ≠ [] ∧ f.2.length ≤ 5 ∧ ∀ w ∈ f.2, okS w = true) : ∃ (st : Sets) (s' : Dr), SetsOf fs st ∧ DrOk s' ∧ F__law_sets K [.cel 3, .d (featsD fs)] (hdX5 K s rest) = .ok (.d (.dic (encK tupS st))) (hdX5 K s' rest) := by
  rw [F__law_sets_eq]
  unfold B__law_sets
  obtain ⟨r, s2, h2, hr, hP, e⟩ := compM_drawAX5 (K := K) (f := itemM (gTup 2 (gCons (gName 2) (gCons (gName 3) gNil))) mYes (mTup (mCons (mVar 2) (mCons (mCall (F__law_some K) (mCons (mVar 0) (mCons (mVar 3) mNil))) mNil))) (wipeD [some (.cel 3), some (.d (featsD fs)), none, none] [2, 3])) (fun f : Feat => T.d (featD f)) (fun (f : Feat) (us : List Str) => D.tup [.str f.1, tupS us]) (fun f us => us ≠ [] ∧ List.Sublist us f.2) rest fs s hs (by
    intro f hfm s hs
    obtain ⟨a1, a2, a3⟩ := hf f hfm
    obtain ⟨us, s', b1, b2, b3, b4⟩ := S_someX5 (K := K) (rest := rest) hs a1 a2 a3
    refine ⟨us, s', b3, ⟨b1, b2⟩, ?_⟩
    simp_arith [11, featD, b4]
    rfl)
  have hnm : (r.map fun p => (p.1.1, p.2)).map (·.1) = fs.map (·.1) := by rw [← hr]; simp
  refine ⟨r.map fun p => (p.1.1, p.2), s2, ⟨hnm, ?_⟩, h2, ?_⟩
  · intro f hfm
    rw [← hr] at hfm
    obtain ⟨p, hp, rfl⟩ := List.mem_map.mp hfm
    exact ⟨p.2, look_of (by rw [hnm]; exact hn) (List.mem_map.mpr ⟨p, hp, rfl⟩), hP p hp⟩
  · rw [show fs.map (fun f => T.d (featD f)) = (fs.map featD).map T.d by simp] at e
    delta featsD at e
    delta featsD
    have hp := pairs_enc tupS (r.map fun p : Feat × List Str => (p.1.1, p.2))
    have hm := merge_nil tupS (r.map fun p : Feat × List Str => (p.1.1, p.2)) (by rw [hnm]; exact hn)
    rw [List.map_map] at hp
    simp only [Function.comp_def] at hp
    simp_arith [11, e, hp, hm]
theorem retR_hdTX5 (s : Dr) (a : Ce) (d : D) : retR [tabL K, tabWr K] (.d d) (hdX5 K s a) = .ok (.d d) [tabL K, tabWr K] := by
  have e : retL (retT (hdX5 K s a) 2) [tabL K, tabWr K] (hdX5 K s a) = some [tabL K, tabWr K] := by
    unfold hdX5
    rw [retL_cons (keepC_tab K _), retL_cons (keepC_tabN K _ _), retL_nil]
    rfl
  rw [retR, show [tabL K, tabWr K].length = 2 from rfl, e]
  rfl
open PySem L2 He DL
/-! ### _law_office -/
theorem DrawnOk.dj {fs : List Feat} {ths : List (Str × Thg)} {cls : List (Str × Clm)} (h : DrawnOk fs ths cls) : ∀ n ∈ cls.map (·.1), n ∉ ths.map (·.1) := fun n hn ht => by
  have : ∀ n ∈ clN, n ∉ thN := by decide
  exact this n (h.cn.sublist.subset hn) (h.tn.sublist.subset ht)
theorem good_cat {fs : List Feat} (h : GoodFs fs) (h1 : 1 ≤ fs.length) (h6 : fs.length ≤ 6) : CatOk fs := by
  refine ⟨fun e => by rw [e] at h1; simp at h1, h.ok h6, h6, ?_⟩
  intro i hi
  have e : fs.getD i ("", []) = fs[i] := by simp [List.getD, hi]
  have g := h i fs[i] (List.getElem?_eq_getElem hi)
  have hn := h.nodup h6
  have hf : isFeat fs[i] = true := by
    obtain ⟨a, b, c⟩ := g
    have n1 : ∀ k, k < 6 → isWord (nm k) = true := by decide +kernel
    have n2 : ∀ w ∈ five, isWord w = true := by decide +kernel
    have hlen : fs[i].2.length ≤ 5 := b.length_le
    unfold isFeat
    rw [a, n1 i (by omega), rising_pw ((show Pw five by unfold Pw; decide).sublist b), List.all_eq_true.mpr fun w hw => n2 w (b.subset hw)]
    simp
    omega
  unfold badAt
  rw [e, hf]
  have h2 : fs[i].1 ∉ (fs.take i).map (·.1) := by
    apply nodup_split hn (post := (fs.drop (i + 1)).map (·.1))
    have e2 : fs = fs.take i ++ fs[i] :: fs.drop (i + 1) := by rw [List.getElem_cons_drop, List.take_append_drop]
    have e3 := congrArg (List.map (·.1)) e2
    rw [List.map_append, List.map_cons] at e3
    exact e3
  have h3 : ¬ ((i : Int) = 6) := by omega
  rw [decide_eq_false h3, decide_eq_false h2]
  rfl
open PySem L2 He DL
/-! ### what the office answers about a pair -/
theorem w_isSome {α : Type} (a : α) : (some a).isSome = true := rfl
theorem w_isNone {α : Type} : (none : Option α).isSome = false := rfl
local macro_rules | `(tactic| simp_arith [12, $ls,*] $[$l]?) => `(tactic| simp_arith [11, $ls,*, LD.retR_hdTX5, LD.w_isSome, LD.w_isNone] $[$l]?)
local macro_rules | `(tactic| simp_arith [12] $[$l]?) => `(tactic| simp_arith [11, LD.retR_hdTX5, LD.w_isSome, LD.w_isNone] $[$l]?)
theorem S_getitem {fs : List Feat} {st : Sets} {n : Str} {ws : List Str} {ce : Ce} (h : look st n = some ws) : F_Note___getitem__ K [.d (noteD K fs st), .d (.str n)] ce = .ok (.d (tupS ws)) ce := by
  have hv := valA_enc tupS st n
  rw [h] at hv
  rw [F_Note___getitem___eq]; unfold B_Note___getitem__
  simp_arith [12, hv]
def comL (a b : List Str) : List Str := a.filter fun w => decide (w ∈ b)
theorem S_common {fs gs : List Feat} {s1 s2 : Sets} {n : Str} {a b : List Str} {ce : Ce} (h1 : look s1 n = some a) (h2 : look s2 n = some b) (ha : a.length ≤ 1000) (hb : ∀ w ∈ b, okS w = true) : F_common K [.d (noteD K fs s1), .d (noteD K gs s2), .d (.str n)] ce = .ok (.d (tupS (comL a b))) ce := by
  have g1 := fun ce => S_getitem (K := K) (fs := fs) (ce := ce) h1
  have g2 := fun ce => S_getitem (K := K) (fs := gs) (ce := ce) h2
  rw [F_common_eq]; unfold B_common
  simp_arith [12, g1, tupS]
  rw [show (a.map D.str).map T.d = a.map (fun w => T.d (.str w)) by simp, compM_filter (fun w : Str => T.d (.str w)) (fun w => decide (w ∈ b)) (fun w => D.str w) _ a (fun w hw => by
    simp_arith [12, g2, tupS]
    cases decide (w ∈ b) <;> rfl)]
  simp_arith [12]
  rfl
open PySem L2 He DL
def valS (s : Sets) (n : Str) : List Str := (look s n).getD []
/-- the names of the features at which no word is common -/
def apart (ns : List Str) (a b : Sets) : List Str := ns.filter fun n => decide (comL (valS a n) (valS b n) = [])
/-- does the thing fit the claim -/
def fitB (fs : List Feat) (cl : Clm) (th : Thg) : Bool := decide (cl.2.1 ≤ th.2) && decide (((apart (fs.map (·.1)) cl.1 th.1).length : Int) ≤ cl.2.2.1)
open PySem L2 He DL
/-! ### descriptions of a thing, and how many of their words a claim does not name -/
/-- how many of the words are not named -/
def wrong : List Str → List (List Str) → Nat
  | x :: d, c :: cs => (if x ∈ c then 0 else 1) + wrong d cs
  | _, _ => 0
open PySem L2 He DL
/-! ### shared_count -/
theorem rep2 (x : T) : (List.replicate (Int.toNat 2) [x]).flatten = [x, x] := rfl
theorem rep1 (x : T) : (List.replicate (Int.toNat 1) [x]).flatten = [x] := rfl
theorem rep0 (x : T) : (List.replicate (Int.toNat 0) [x]).flatten = [] := rfl
theorem i01 : (0 : Int) + 1 = 1 := rfl
theorem i11 : (1 : Int) + 1 = 2 := rfl
theorem ix31 {α : Type} (a b c : α) : ixN [a, b, c].length 1 = some 1 := rfl
theorem ix32 {α : Type} (a b c : α) : ixN [a, b, c].length 2 = some 2 := rfl
theorem ix21 {α : Type} (a b : α) : ixN [a, b].length 1 = some 1 := rfl
open PySem L2 He DL
open PySem L2 He DL
open PySem L2 He DL
/-! ### the laws' own answers -/
/-! ### alike -/
def alD : Nat → D → Bool
  | _, .non => true
  | _, .bl _ => true
  | _, .int _ => true
  | _, .str s => okS s
  | n + 1, .tup xs => decide (xs.length ≤ 100000) && xs.all (alD n)
  | n + 1, .lst xs => decide (xs.length ≤ 100000) && xs.all (alD n)
  | _, _ => false
theorem isi_non_dict (ce : Ce) : isiD [] ce (.d .non) (.raw (.ty "dict")) = some false := rfl
theorem isi_non_list (ce : Ce) : isiD [] ce (.d .non) (.raw (.ty "list")) = some false := rfl
theorem isi_non_str (ce : Ce) : isiD [] ce (.d .non) (.raw (.ty "str")) = some false := rfl
theorem isi_non_int (ce : Ce) : isiD [] ce (.d .non) (.raw (.ty "int")) = some false := rfl
theorem isi_non_bool (ce : Ce) : isiD [] ce (.d .non) (.raw (.ty "bool")) = some false := rfl
theorem isi_non_tl (ce : Ce) : isiD [] ce (.d .non) (.tup [.raw (.ty "tuple"), .raw (.ty "list")]) = some false := rfl
theorem isi_bl_dict (ce : Ce) (b : Bool) : isiD [] ce (.d (.bl b)) (.raw (.ty "dict")) = some false := rfl
theorem isi_bl_list (ce : Ce) (b : Bool) : isiD [] ce (.d (.bl b)) (.raw (.ty "list")) = some false := rfl
theorem isi_bl_str (ce : Ce) (b : Bool) : isiD [] ce (.d (.bl b)) (.raw (.ty "str")) = some false := rfl
theorem isi_bl_int (ce : Ce) (b : Bool) : isiD [] ce (.d (.bl b)) (.raw (.ty "int")) = some true := rfl
theorem isi_bl_bool (ce : Ce) (b : Bool) : isiD [] ce (.d (.bl b)) (.raw (.ty "bool")) = some true := rfl
theorem isi_bl_tl (ce : Ce) (b : Bool) : isiD [] ce (.d (.bl b)) (.tup [.raw (.ty "tuple"), .raw (.ty "list")]) = some false := rfl
theorem isi_int_dict (ce : Ce) (i : Int) : isiD [] ce (.d (.int i)) (.raw (.ty "dict")) = some false := rfl
theorem isi_int_list (ce : Ce) (i : Int) : isiD [] ce (.d (.int i)) (.raw (.ty "list")) = some false := rfl
theorem isi_int_str (ce : Ce) (i : Int) : isiD [] ce (.d (.int i)) (.raw (.ty "str")) = some false := rfl
theorem isi_int_tl (ce : Ce) (i : Int) : isiD [] ce (.d (.int i)) (.tup [.raw (.ty "tuple"), .raw (.ty "list")]) = some false := rfl
theorem isi_str_dict (ce : Ce) (s : Str) : isiD [] ce (.d (.str s)) (.raw (.ty "dict")) = some false := rfl
theorem isi_str_list (ce : Ce) (s : Str) : isiD [] ce (.d (.str s)) (.raw (.ty "list")) = some false := rfl
theorem isi_str_str (ce : Ce) (s : Str) : isiD [] ce (.d (.str s)) (.raw (.ty "str")) = some true := rfl
theorem isi_str_int (ce : Ce) (s : Str) : isiD [] ce (.d (.str s)) (.raw (.ty "int")) = some false := rfl
theorem isi_str_bool (ce : Ce) (s : Str) : isiD [] ce (.d (.str s)) (.raw (.ty "bool")) = some false := rfl
theorem isi_str_tl (ce : Ce) (s : Str) : isiD [] ce (.d (.str s)) (.tup [.raw (.ty "tuple"), .raw (.ty "list")]) = some false := rfl
theorem isi_tup_dict (ce : Ce) (xs : List D) : isiD [] ce (.d (.tup xs)) (.raw (.ty "dict")) = some false := rfl
theorem isi_tup_list (ce : Ce) (xs : List D) : isiD [] ce (.d (.tup xs)) (.raw (.ty "list")) = some false := rfl
theorem isi_tup_str (ce : Ce) (xs : List D) : isiD [] ce (.d (.tup xs)) (.raw (.ty "str")) = some false := rfl
theorem isi_tup_int (ce : Ce) (xs : List D) : isiD [] ce (.d (.tup xs)) (.raw (.ty "int")) = some false := rfl
theorem isi_tup_bool (ce : Ce) (xs : List D) : isiD [] ce (.d (.tup xs)) (.raw (.ty "bool")) = some false := rfl
theorem isi_tup_tl (ce : Ce) (xs : List D) : isiD [] ce (.d (.tup xs)) (.tup [.raw (.ty "tuple"), .raw (.ty "list")]) = some true := rfl
theorem isi_lst_dict (ce : Ce) (xs : List D) : isiD [] ce (.d (.lst xs)) (.raw (.ty "dict")) = some false := rfl
theorem isi_lst_list (ce : Ce) (xs : List D) : isiD [] ce (.d (.lst xs)) (.raw (.ty "list")) = some true := rfl
theorem isi_lst_str (ce : Ce) (xs : List D) : isiD [] ce (.d (.lst xs)) (.raw (.ty "str")) = some false := rfl
theorem isi_lst_int (ce : Ce) (xs : List D) : isiD [] ce (.d (.lst xs)) (.raw (.ty "int")) = some false := rfl
theorem isi_lst_bool (ce : Ce) (xs : List D) : isiD [] ce (.d (.lst xs)) (.raw (.ty "bool")) = some false := rfl
theorem isi_lst_tl (ce : Ce) (xs : List D) : isiD [] ce (.d (.lst xs)) (.tup [.raw (.ty "tuple"), .raw (.ty "list")]) = some true := rfl
theorem isi_dic_dict (ce : Ce) (xs : List (Key × D)) : isiD [] ce (.d (.dic xs)) (.raw (.ty "dict")) = some true := rfl
theorem isi_dic_list (ce : Ce) (xs : List (Key × D)) : isiD [] ce (.d (.dic xs)) (.raw (.ty "list")) = some false := rfl
theorem isi_dic_str (ce : Ce) (xs : List (Key × D)) : isiD [] ce (.d (.dic xs)) (.raw (.ty "str")) = some false := rfl
theorem isi_dic_int (ce : Ce) (xs : List (Key × D)) : isiD [] ce (.d (.dic xs)) (.raw (.ty "int")) = some false := rfl
theorem isi_dic_bool (ce : Ce) (xs : List (Key × D)) : isiD [] ce (.d (.dic xs)) (.raw (.ty "bool")) = some false := rfl
theorem isi_dic_tl (ce : Ce) (xs : List (Key × D)) : isiD [] ce (.d (.dic xs)) (.tup [.raw (.ty "tuple"), .raw (.ty "list")]) = some false := rfl
theorem isN_non (neg : Bool) (ce : Ce) : oIsNM neg (.d .non) (.d .non) ce = .ok (.d (.bl (!neg))) ce := rfl
theorem isN_cel (neg : Bool) (ce : Ce) (k : Nat) : oIsNM neg (.cel k) (.d .non) ce = .ok (.d (.bl neg)) ce := rfl
theorem isN_bl (neg : Bool) (ce : Ce) (b : Bool) : oIsNM neg (.d (.bl b)) (.d .non) ce = .ok (.d (.bl neg)) ce := rfl
theorem isN_int (neg : Bool) (ce : Ce) (i : Int) : oIsNM neg (.d (.int i)) (.d .non) ce = .ok (.d (.bl neg)) ce := rfl
theorem isN_str (neg : Bool) (ce : Ce) (s : Str) : oIsNM neg (.d (.str s)) (.d .non) ce = .ok (.d (.bl neg)) ce := rfl
theorem isN_tup (neg : Bool) (ce : Ce) (xs : List D) : oIsNM neg (.d (.tup xs)) (.d .non) ce = .ok (.d (.bl neg)) ce := rfl
theorem isN_lst (neg : Bool) (ce : Ce) (xs : List D) : oIsNM neg (.d (.lst xs)) (.d .non) ce = .ok (.d (.bl neg)) ce := rfl
theorem isN_dic (neg : Bool) (ce : Ce) (xs : List (Key × D)) : oIsNM neg (.d (.dic xs)) (.d .non) ce = .ok (.d (.bl neg)) ce := rfl
theorem isN_ins (neg : Bool) (ce : Ce) (C : Addr) (xs : List (Str × D)) : oIsNM neg (.d (.ins C xs)) (.d .non) ce = .ok (.d (.bl neg)) ce := rfl
theorem dec_self {α : Type} [DecidableEq α] (a : α) : decide (a = a) = true := decide_eq_true rfl
theorem rngLen (n : Nat) : (List.range n).length = n := List.length_range
theorem toNatC (n : Nat) : Int.toNat (n : Int) = n := rfl
local macro_rules | `(tactic| simp_arith [13, $ls,*] $[$l]?) => `(tactic| simp_arith [12, $ls,*, LD.rep2, LD.rep1, LD.rep0, LD.i01, LD.i11, LD.ix31, LD.ix32, LD.ix21, LD.isi_non_dict, LD.isi_non_list, LD.isi_non_str, LD.isi_non_int, LD.isi_non_bool, LD.isi_non_tl, LD.isi_bl_dict, LD.isi_bl_list, LD.isi_bl_str, LD.isi_bl_int, LD.isi_bl_bool, LD.isi_bl_tl, LD.isi_int_dict, LD.isi_int_list, LD.isi_int_str, LD.isi_int_tl, LD.isi_str_dict, LD.isi_str_list, LD.isi_str_str, LD.isi_str_int, LD.isi_str_bool, LD.isi_str_tl, LD.isi_tup_dict, LD.isi_tup_list, LD.isi_tup_str, LD.isi_tup_int, LD.isi_tup_bool, LD.isi_tup_tl, LD.isi_lst_dict, LD.isi_lst_list, LD.isi_lst_str, LD.isi_lst_int, LD.isi_lst_bool, LD.isi_lst_tl, LD.isi_dic_dict, LD.isi_dic_list, LD.isi_dic_str, LD.isi_dic_int, LD.isi_dic_bool, LD.isi_dic_tl, LD.isN_non, LD.isN_cel, LD.isN_bl, LD.isN_int, LD.isN_str, LD.isN_tup, LD.isN_lst, LD.isN_dic, LD.isN_ins, LD.dec_self, LD.rngLen, LD.toNatC] $[$l]?)
local macro_rules | `(tactic| simp_arith [13] $[$l]?) => `(tactic| simp_arith [12, LD.rep2, LD.rep1, LD.rep0, LD.i01, LD.i11, LD.ix31, LD.ix32, LD.ix21, LD.isi_non_dict, LD.isi_non_list, LD.isi_non_str, LD.isi_non_int, LD.isi_non_bool, LD.isi_non_tl, LD.isi_bl_dict, LD.isi_bl_list, LD.isi_bl_str, LD.isi_bl_int, LD.isi_bl_bool, LD.isi_bl_tl, LD.isi_int_dict, LD.isi_int_list, LD.isi_int_str, LD.isi_int_tl, LD.isi_str_dict, LD.isi_str_list, LD.isi_str_str, LD.isi_str_int, LD.isi_str_bool, LD.isi_str_tl, LD.isi_tup_dict, LD.isi_tup_list, LD.isi_tup_str, LD.isi_tup_int, LD.isi_tup_bool, LD.isi_tup_tl, LD.isi_lst_dict, LD.isi_lst_list, LD.isi_lst_str, LD.isi_lst_int, LD.isi_lst_bool, LD.isi_lst_tl, LD.isi_dic_dict, LD.isi_dic_list, LD.isi_dic_str, LD.isi_dic_int, LD.isi_dic_bool, LD.isi_dic_tl, LD.isN_non, LD.isN_cel, LD.isN_bl, LD.isN_int, LD.isN_str, LD.isN_tup, LD.isN_lst, LD.isN_dic, LD.isN_ins, LD.dec_self, LD.rngLen, LD.toNatC] $[$l]?)
theorem S_alike : ∀ (n : Nat) (d : D) (ce : Ce), alD n d = true → F__law_alike K (n + 1) [.d d, .d d] ce = .ok (.d (.bl true)) ce
  | n, .non, ce, _ => by
    rw [F__law_alike_eq]; unfold B__law_alike
    have h1 : okD 16 .non = true := rfl
    have h2 : eqD .non .non = true := eqD_refl (okD_ok 16 _ h1)
    simp_arith [13, h1, h2]
  | n, .bl b, ce, _ => by
    rw [F__law_alike_eq]; unfold B__law_alike
    simp_arith [13]
  | n, .int b, ce, _ => by
    rw [F__law_alike_eq]; unfold B__law_alike
    simp_arith [13]
  | n, .str b, ce, _ => by
    rw [F__law_alike_eq]; unfold B__law_alike
    simp_arith [13]
  | n + 1, .tup xs, ce, h => by
    rw [alD, Bool.and_eq_true, decide_eq_true_eq, List.all_eq_true] at h
    obtain ⟨hl, ha⟩ := h
    rw [F__law_alike_eq]; unfold B__law_alike
    simp_arith [13]
    rw [compM_filter (fun i : Nat => T.d (.int i)) (fun _ => false) (fun i => D.int i) _ (List.range xs.length) (fun i hi => by
      have hi' : i < xs.length := by have := List.mem_range.mp hi; omega
      have hat : atI xs (i : Int) = some xs[i] := by rw [DL.atI_nat hi', List.getElem?_eq_getElem hi']
      have ih := fun ce => S_alike n xs[i] ce (ha _ (List.getElem_mem hi'))
      simp_arith [13, hat, ih]), show (List.range xs.length).filter (fun _ => false) = [] by simp]
    simp_arith [13]
  | n + 1, .lst xs, ce, h => by
    rw [alD, Bool.and_eq_true, decide_eq_true_eq, List.all_eq_true] at h
    obtain ⟨hl, ha⟩ := h
    rw [F__law_alike_eq]; unfold B__law_alike
    simp_arith [13]
    rw [compM_filter (fun i : Nat => T.d (.int i)) (fun _ => false) (fun i => D.int i) _ (List.range xs.length) (fun i hi => by
      have hi' : i < xs.length := by have := List.mem_range.mp hi; omega
      have hat : atI xs (i : Int) = some xs[i] := by rw [DL.atI_nat hi', List.getElem?_eq_getElem hi']
      have ih := fun ce => S_alike n xs[i] ce (ha _ (List.getElem_mem hi'))
      simp_arith [13, hat, ih]), show (List.range xs.length).filter (fun _ => false) = [] by simp]
    simp_arith [13]
  | 0, .tup _, _, h => by cases h
  | 0, .lst _, _, h => by cases h
  | n, .dic _, _, h => by cases n <;> cases h
  | n, .ins _ _, _, h => by cases n <;> cases h
  | n, .exc _ _ _ _, _, h => by cases n <;> cases h
  | n, .raw _, _, h => by cases n <;> cases h
open PySem L2 He DL
/-! ### offices in general -/
theorem map_none' {α β : Type} (f : α → β) : Option.map f none = none := rfl
theorem ff_or (b : Bool) : (false || b) = b := Bool.false_or b
theorem tt_or (b : Bool) : (true || b) = true := Bool.true_or b
structure OffOk (fs : List Feat) (ths : List (Str × Thg)) (cls : List (Str × Clm)) : Prop where
  fl : fs.length ≤ 6
  ok : ∀ f ∈ fs, okF f
  tn : NamesOk ths
  cn : NamesOk cls
  tp : (ths.map (·.1)).Pairwise fun a b => leS a b = true
  cp : (cls.map (·.1)).Pairwise fun a b => leS a b = true
  dj : ∀ n ∈ cls.map (·.1), n ∉ ths.map (·.1)
  ts : ∀ p ∈ ths, SetsOf fs p.2.1
  cs : ∀ p ∈ cls, SetsOf fs p.2.1
section
variable {fs : List Feat} {ths : List (Str × Thg)} {cls : List (Str × Clm)} {ce : Ce}
/-- the things that fit a claim -/
def fitL (fs : List Feat) (ths : List (Str × Thg)) (cl : Clm) : List Str := (ths.filter fun p => fitB fs cl p.2).map (·.1)
end
section
variable {fs : List Feat} {ths : List (Str × Thg)} {cls : List (Str × Clm)} {ce : Ce}
end
open PySem L2 He DL
/-! ### Matcher: how many ways, by numbers of pairs -/
def tupI (ns : List Nat) : D := .tup (ns.map fun (n : Nat) => D.int (n : Int))
/-- a, with b one place later added -/
def addSh (a b : List Nat) : List Nat := (List.range a.length).map fun k => a.getD k 0 + if k = 0 then 0 else b.getD (k - 1) 0
theorem addSh_len (a b : List Nat) : (addSh a b).length = a.length := by simp [addSh]
theorem addSh_get (a b : List Nat) {k : Nat} (h : k < a.length) : (addSh a b)[k]? = some (a.getD k 0 + if k = 0 then 0 else b.getD (k - 1) 0) := by
  simp [addSh, h]
def cnt : List (List Str) → List Str → List Nat
  | [], _ => [1]
  | r :: rs, t => (r.filter fun x => !decide (x ∈ t)).foldl (fun acc x => addSh acc (cnt rs (srt (t ++ [x])))) (cnt rs t ++ [0])
theorem fold_len {α : Type} (f : α → List Nat) : ∀ (l : List α) (a : List Nat), (l.foldl (fun acc x => addSh acc (f x)) a).length = a.length
  | [], a => rfl
  | x :: l, a => by rw [List.foldl_cons, fold_len f l, addSh_len]
theorem cnt_len : ∀ (rs : List (List Str)) (t : List Str), (cnt rs t).length = rs.length + 1
  | [], t => rfl
  | r :: rs, t => by rw [cnt, fold_len, List.length_append, cnt_len rs t]; rfl
/-! ### what a def leaves of the cells -/
/-! ### sublists -/
def subs {α : Type} : List α → List (List α)
  | [] => [[]]
  | x :: xs => subs xs ++ (subs xs).map (x :: ·)
theorem subs_len {α : Type} : ∀ l : List α, (subs l).length = 2 ^ l.length
  | [] => rfl
  | x :: xs => by rw [subs, List.length_append, List.length_map, subs_len xs, List.length_cons, Nat.pow_succ]; omega
theorem mem_subs {α : Type} {l m : List α} (h : l.Sublist m) : l ∈ subs m := by
  induction h with
  | slnil => simp [subs]
  | cons a _ ih => rw [subs]; exact List.mem_append_left _ ih
  | cons_cons a _ ih => rw [subs]; exact List.mem_append_right _ (List.mem_map.mpr ⟨_, ih, rfl⟩)
theorem len_of_sub {α : Type} [DecidableEq α] : ∀ {l m : List α}, l.Nodup → (∀ x ∈ l, x ∈ m) → l.length ≤ m.length
  | [], m, _, _ => Nat.zero_le _
  | a :: l, m, hn, hs => by
    rw [List.nodup_cons] at hn
    have ha := hs a List.mem_cons_self
    have ih := len_of_sub (l := l) (m := m.erase a) hn.2 (fun x hx => by
      have ne : x ≠ a := fun e => hn.1 (by rw [← e]; exact hx)
      exact (List.mem_erase_of_ne ne).mpr (hs x (List.mem_cons_of_mem _ hx)))
    rw [List.length_erase_of_mem ha] at ih
    have : 0 < m.length := List.length_pos_of_mem ha
    simp only [List.length_cons]
    omega
open PySem L2 He DL
def lsS (ws : List Str) : D := .lst (ws.map .str)
def mkKey (place : Nat) (taken : List Str) : NK := [.inl (.inl (place : Int)), .inr (taken.map .inr)]
def encN (kvs : List (NK × List Nat)) : List (NK × T) := (kvs.map fun p => (p.1, tupI p.2)).map fun p => (p.1, T.d p.2)
def optD (rows : List (Str × List Str)) : D := .lst (rows.map fun p => .tup [.str p.1, lsS p.2])
abbrev tdN (kvs : List (NK × List Nat)) : Cell := .tdic [false, true] (encN kvs)
def rowsOf (rows : List (Str × List Str)) (place : Nat) : List (List Str) := (rows.drop place).map (·.2)
structure KOk (rows : List (Str × List Str)) (ths : List Str) (kvs : List (NK × List Nat)) : Prop where
  good : ∀ p ∈ kvs, ∃ place taken, p.1 = mkKey place taken ∧ place < rows.length ∧ taken.Sublist ths ∧ p.2 = cnt (rowsOf rows place) taken
  nd : (kvs.map (·.1)).Nodup
structure MSt (K : PySem.W.Frag) (i j : Nat) (rows : List (Str × List Str)) (ths : List Str) (ce : Ce) (kvs : List (NK × List Nat)) : Prop where
  ins : ce[i]? = some (.ins (ga K "Matcher") [("options", .d (optD rows)), ("known", .cel j)])
  td : ce[j]? = some (tdN kvs)
  ok : KOk rows ths kvs
theorem KOk.len {rows : List (Str × List Str)} {ths : List Str} {kvs : List (NK × List Nat)} (h : KOk rows ths kvs) (hr : rows.length ≤ 8) (ht : ths.length ≤ 8) : kvs.length ≤ 2048 := by
  have hs : ∀ k ∈ kvs.map (·.1), k ∈ (List.range 8).flatMap fun p => (subs ths).map (mkKey p) := fun k hk => by
    obtain ⟨p, hp, rfl⟩ := List.mem_map.mp hk
    obtain ⟨place, taken, e, hp1, hp2, _⟩ := h.good p hp
    rw [e]
    exact List.mem_flatMap.mpr ⟨place, List.mem_range.mpr (by omega), List.mem_map.mpr ⟨taken, mem_subs hp2, rfl⟩⟩
  have h1 := len_of_sub h.nd hs
  have h2 : ((List.range 8).flatMap fun p => (subs ths).map (mkKey p)).length = 8 * 2 ^ ths.length := by
    have : ∀ l : List Nat, (l.flatMap fun p => (subs ths).map (mkKey p)).length = l.length * 2 ^ ths.length := by
      intro l
      induction l with
      | nil => simp
      | cons a l ih => rw [List.flatMap_cons, List.length_append, ih, List.length_map, subs_len, List.length_cons, Nat.add_mul]; omega
    rw [this, List.length_range]
  rw [h2, List.length_map] at h1
  have h3 := Nat.pow_le_pow_right (n := 2) (by decide) ht
  omega
open PySem L2 He DL
theorem tupI_len (ns : List Nat) : (ns.map fun (n : Nat) => D.int (n : Int)).length = ns.length := List.length_map _
theorem itL_lsS (ws : List Str) : itL (.d (lsS ws)) = some ((ws.map D.str).map T.d) := rfl
theorem MSt.set {i j : Nat} {rows : List (Str × List Str)} {ths : List Str} {ce : Ce} {kvs kvs' : List (NK × List Nat)} (h : MSt K i j rows ths ce kvs) (hij : i ≠ j) (hk : KOk rows ths kvs') : MSt K i j rows ths (ce.set j (tdN kvs')) kvs' :=
  ⟨by rw [List.getElem?_set_ne (Ne.symm hij)]; exact h.ins, by rw [List.getElem?_set_self (List.getElem?_eq_some_iff.mp h.td).1], hk⟩
open PySem L2 He DL
section
variable {fs : List Feat} {ths : List (Str × Thg)} {cls : List (Str × Clm)} {ce : Ce}
/-- each claim with the things that fit it -/
def optsL (fs : List Feat) (ths : List (Str × Thg)) (cls : List (Str × Clm)) : List (Str × List Str) := cls.map fun p => (p.1, fitL fs ths p.2)
/-- the numbers of ways of an office, by numbers of pairs -/
def ways (fs : List Feat) (ths : List (Str × Thg)) (cls : List (Str × Clm)) : List Nat := cnt (rowsOf (optsL fs ths cls) 0) []
end
open PySem L2 He DL
section
variable {fs : List Feat} {ths : List (Str × Thg)} {cls : List (Str × Clm)} {ce : Ce}
theorem KOk.nil {rows : List (Str × List Str)} {t : List Str} : KOk rows t [] := ⟨(fun p hp => nomatch hp), List.nodup_nil⟩
theorem MSt.new {rows : List (Str × List Str)} {t : List Str} : MSt K ce.length (ce.length + 1) rows t (ce ++ [.ins (ga K "Matcher") [("options", .d (optD rows)), ("known", .cel (ce.length + 1))], tdN []]) [] :=
  ⟨by simp, by simp, KOk.nil⟩
end
open PySem L2 He DL
/-! ### all matches, in plain words -/
def mats : List (Str × List Str) → List Str → List (List (Str × Str))
  | [], _ => [[]]
  | (c, r) :: rs, t => ((r.filter fun x => !decide (x ∈ t)).flatMap fun x => (mats rs (t ++ [x])).map fun m => (c, x) :: m) ++ mats rs t
theorem mats_congr : ∀ (rows : List (Str × List Str)) (t t' : List Str), (∀ x, x ∈ t ↔ x ∈ t') → mats rows t = mats rows t'
  | [], t, t', _ => rfl
  | (c, r) :: rs, t, t', h => by
    have h1 : (r.filter fun x => !decide (x ∈ t)) = r.filter fun x => !decide (x ∈ t') := by
      apply List.filter_congr
      intro x _
      rw [Bool.eq_iff_iff]
      simp [h x]
    have h2 : ∀ x, mats rs (t ++ [x]) = mats rs (t' ++ [x]) := fun x => mats_congr rs _ _ fun y => by simp [h y]
    rw [mats, mats, h1, mats_congr rs t t' h]
    congr 2
    funext x
    rw [h2 x]
theorem mats_le : ∀ (rows : List (Str × List Str)) (t : List Str), ∀ m ∈ mats rows t, m.length ≤ rows.length
  | [], t, m, h => by simp [mats] at h; simp [h]
  | (c, r) :: rs, t, m, h => by
    rw [mats] at h
    rcases List.mem_append.mp h with h | h
    · obtain ⟨x, hx, h⟩ := List.mem_flatMap.mp h
      obtain ⟨m', hm, rfl⟩ := List.mem_map.mp h
      have := mats_le rs _ m' hm
      simp; omega
    · have := mats_le rs t m h
      simp; omega
def nMat (M : List (List (Str × Str))) (k : Nat) : Nat := M.countP fun m => decide (m.length = k)
theorem nMat_zero {M : List (List (Str × Str))} {k : Nat} (h : ∀ m ∈ M, m.length ≠ k) : nMat M k = 0 := by
  unfold nMat
  rw [List.countP_eq_zero]
  intro m hm
  simp [h m hm]
theorem fold_get {α : Type} (f : α → List Nat) (k : Nat) : ∀ (l : List α) (a : List Nat), k < a.length → (l.foldl (fun acc x => addSh acc (f x)) a).getD k 0 = a.getD k 0 + (l.map fun x => if k = 0 then 0 else (f x).getD (k - 1) 0).sum
  | [], a, _ => by simp
  | x :: l, a, h => by
    rw [List.foldl_cons, fold_get f k l (addSh a (f x)) (by rw [addSh_len]; exact h), List.map_cons, List.sum_cons]
    have e : (addSh a (f x)).getD k 0 = a.getD k 0 + if k = 0 then 0 else (f x).getD (k - 1) 0 := by
      rw [List.getD_eq_getElem?_getD, addSh_get a (f x) h]
      rfl
    rw [e]
    omega
theorem countP_flat {α β : Type} (p : β → Bool) (f : α → List β) : ∀ l : List α, (l.flatMap f).countP p = (l.map fun x => (f x).countP p).sum
  | [] => rfl
  | x :: l => by rw [List.flatMap_cons, List.countP_append, countP_flat p f l, List.map_cons, List.sum_cons]
def snds (rows : List (Str × List Str)) : List (List Str) := rows.map (·.2)
theorem snds_cons (c : Str) (r : List Str) (rs : List (Str × List Str)) : snds ((c, r) :: rs) = r :: snds rs := rfl
theorem snds_len (rs : List (Str × List Str)) : (snds rs).length = rs.length := by simp [snds]
theorem cnt_mats : ∀ (rows : List (Str × List Str)) (t : List Str) (k : Nat), (cnt (snds rows) t).getD k 0 = nMat (mats rows t) k
  | [], t, k => by
    cases k with
    | zero => rfl
    | succ k => simp [snds, cnt, mats, nMat]
  | (c, r) :: rs, t, k => by
    by_cases hk : k < rs.length + 2
    · rw [snds_cons, cnt, fold_get _ k _ _ (by rw [List.length_append, cnt_len, snds_len]; simpa using hk)]
      have e1 : (cnt (snds rs) t ++ [0]).getD k 0 = nMat (mats rs t) k := by
        rw [← cnt_mats rs t k]
        by_cases q : k < (cnt (snds rs) t).length
        · rw [List.getD_eq_getElem?_getD, List.getD_eq_getElem?_getD, List.getElem?_append_left q]
        · rw [List.getD_eq_getElem?_getD, List.getD_eq_getElem?_getD, List.getElem?_append_right (by omega), List.getElem?_eq_none (l := cnt (snds rs) t) (by omega)]
          have : k - (cnt (snds rs) t).length = 0 := by rw [cnt_len, snds_len] at *; omega
          rw [this]
          rfl
      have e2 : ∀ x, (if k = 0 then 0 else (cnt (snds rs) (srt (t ++ [x]))).getD (k - 1) 0) = nMat ((mats rs (t ++ [x])).map fun m => (c, x) :: m) k := fun x => by
        unfold nMat
        rw [List.countP_map]
        cases k with
        | zero =>
          rw [if_pos rfl]
          symm
          rw [List.countP_eq_zero]
          intro m _
          simp
        | succ k =>
          rw [if_neg (by omega), Nat.add_sub_cancel, cnt_mats rs _ k, mats_congr rs (srt (t ++ [x])) (t ++ [x]) (fun y => (srt_perm _).mem_iff)]
          unfold nMat
          congr 1
          funext m
          simp [Function.comp]
      rw [e1, show (fun (x : Str) => if k = 0 then 0 else (cnt (snds rs) (srt (t ++ [x]))).getD (k - 1) 0) = fun x => nMat ((mats rs (t ++ [x])).map fun m => (c, x) :: m) k from funext e2]
      rw [mats, nMat, nMat, List.countP_append, countP_flat]
      unfold nMat
      omega
    · have h0 : (cnt (snds ((c, r) :: rs)) t).getD k 0 = 0 := by
        rw [List.getD_eq_getElem?_getD, List.getElem?_eq_none (by rw [cnt_len, snds_len]; simp; omega)]
        rfl
      rw [h0, nMat_zero]
      intro m hm e
      have := mats_le _ _ m hm
      simp at this
      omega
open PySem L2 He DL
abbrev Mt := List (Str × Str)
abbrev Rw := List (Str × List Str)
theorem mats_claims : ∀ (rows : Rw) (t : List Str), ∀ m ∈ mats rows t, (m.map (·.1)).Sublist (rows.map (·.1)) ∧ ∀ p ∈ m, ∃ r, (p.1, r) ∈ rows ∧ p.2 ∈ r
  | [], t, m, hm => by simp [mats] at hm; simp [hm]
  | (c', r) :: rs, t, m, hm => by
    rw [mats] at hm
    rcases List.mem_append.mp hm with h | h
    · obtain ⟨y, hy, h⟩ := List.mem_flatMap.mp h
      obtain ⟨m', hm', rfl⟩ := List.mem_map.mp h
      have ih := mats_claims rs _ m' hm'
      refine ⟨List.Sublist.cons₂ _ ih.1, fun p hp => ?_⟩
      rcases List.mem_cons.mp hp with e | hp
      · exact ⟨r, by rw [e]; simp, by rw [e]; exact (List.mem_filter.mp hy).1⟩
      · obtain ⟨r', h1, h2⟩ := ih.2 p hp
        exact ⟨r', List.mem_cons_of_mem _ h1, h2⟩
    · have ih := mats_claims rs _ m h
      refine ⟨List.Sublist.cons _ ih.1, fun p hp => ?_⟩
      obtain ⟨r', h1, h2⟩ := ih.2 p hp
      exact ⟨r', List.mem_cons_of_mem _ h1, h2⟩
open PySem L2 He DL
section
variable {fs : List Feat} {ths : List (Str × Thg)} {cls : List (Str × Clm)}
theorem ways_mats (k : Nat) : (ways fs ths cls).getD k 0 = nMat (mats (optsL fs ths cls) []) k := cnt_mats _ [] k
theorem optsL_fst : (optsL fs ths cls).map (·.1) = cls.map (·.1) := by
  unfold optsL
  rw [List.map_map]
  rfl
theorem optsL_nd (O : OffOk fs ths cls) : ((optsL fs ths cls).map (·.1)).Nodup ∧ ∀ p ∈ optsL fs ths cls, p.2.Nodup := by
  refine ⟨by rw [optsL_fst]; exact O.cn.nd, fun p hp => ?_⟩
  obtain ⟨q, _, rfl⟩ := List.mem_map.mp hp
  exact O.tn.nd.sublist (List.filter_sublist.map _)
end
open PySem L2 He DL
section
variable {fs : List Feat} {ths : List (Str × Thg)} {cls : List (Str × Clm)} {ce : Ce}
def mcI (K : PySem.W.Frag) (fs : List Feat) (ths : List (Str × Thg)) (cls : List (Str × Clm)) (i : Nat) : Cell := .ins (ga K "Matcher") [("options", .d (optD (optsL fs ths cls))), ("known", .cel (i + 1))]
theorem MSt.at {A B : Ce} {kvs : List (NK × List Nat)} (ok : KOk (optsL fs ths cls) (ths.map (·.1)) kvs) : MSt K A.length (A.length + 1) (optsL fs ths cls) (ths.map (·.1)) (A ++ mcI K fs ths cls A.length :: tdN kvs :: B) kvs :=
  ⟨by simp [mcI], by simp, ok⟩
end
open PySem L2 He DL
section
variable {fs : List Feat} {ths : List (Str × Thg)} {cls : List (Str × Clm)} {ce : Ce}
end
open PySem L2 He DL
section
variable {fs : List Feat} {ths : List (Str × Thg)} {cls : List (Str × Clm)} {ce : Ce}
end
open PySem L2 He DL
section
variable {fs : List Feat} {ths : List (Str × Thg)} {cls : List (Str × Clm)} {ce : Ce}
end
open PySem L2 He DL
open PySem L2 He DL
section
variable {fs : List Feat} {ths : List (Str × Thg)} {cls : List (Str × Clm)} {ce : Ce}
end
open PySem L2 He DL
/-! ### the box of numbers of the laws from k31 on -/
open PySem L2 He DL
open PySem L2 He DL
open PySem L2 He DL
open PySem L2 He DL
/-! ### catalogs, things, claims, offices that are drawn from the box -/
def four : List Feat := [("color", ["blue", "green", "red"]), ("form", ["flat", "long", "round", "square"]), ("size", ["big", "small"]), ("stuff", ["cloth", "iron", "wood"])]
def GoodB (f : Feat) : Prop := ∃ g ∈ four, f.1 = g.1 ∧ f.2 <+: g.2 ∧ 2 ≤ f.2.length
structure CatB (fs : List Feat) : Prop where
  good : ∀ f ∈ fs, GoodB f
  nd : (fs.map (·.1)).Nodup
  l1 : 1 ≤ fs.length
  l4 : fs.length ≤ 4
theorem four_ok : ∀ g ∈ four, isWord g.1 = true ∧ g.1.length ≤ 1000 ∧ okS g.1 = true ∧ g.2.length ≤ 4 ∧ 2 ≤ g.2.length ∧ ∀ w ∈ g.2, isWord w = true ∧ w.length ≤ 1000 ∧ okS w = true := by decide +kernel
theorem four_pw : ∀ g ∈ four, Pw g.2 := by
  unfold Pw
  decide +kernel
theorem GoodB.ok {f : Feat} (h : GoodB f) : okF f := by
  obtain ⟨g, hg, e, hp, h2⟩ := h
  obtain ⟨a, b, c, d, _, k⟩ := four_ok g hg
  exact ⟨by rw [e]; exact b, by rw [e]; exact c, Nat.le_trans hp.length_le (by omega), fun w hw => (k w (hp.sublist.subset hw)).2⟩
theorem GoodB.pw {f : Feat} (h : GoodB f) : f.2 ≠ [] ∧ Pw f.2 := by
  obtain ⟨g, hg, e, hp, h2⟩ := h
  exact ⟨fun z => by rw [z] at h2; simp at h2, (four_pw g hg).sublist hp.sublist⟩
theorem GoodB.feat {f : Feat} (h : GoodB f) : isFeat f = true := by
  have hpw := h.pw.2
  obtain ⟨g, hg, e, hp, h2⟩ := h
  obtain ⟨a, b, c, d, _, k⟩ := four_ok g hg
  have hl := hp.length_le
  unfold isFeat
  rw [e, a, rising_pw hpw, List.all_eq_true.mpr fun w hw => (k w (hp.sublist.subset hw)).1]
  simp
  omega
theorem CatB.ok {fs : List Feat} (h : CatB fs) : ∀ f ∈ fs, okF f := fun f hf => (h.good f hf).ok
theorem CatB.cat {fs : List Feat} (h : CatB fs) : CatOk fs := by
  have l1 := h.l1
  have l4 := h.l4
  refine ⟨fun e => by rw [e] at l1; simp at l1, h.ok, by omega, ?_⟩
  intro i hi
  have e : fs.getD i ("", []) = fs[i] := by simp [List.getD, hi]
  have hf := (h.good fs[i] (List.getElem_mem hi)).feat
  unfold badAt
  rw [e, hf]
  have h2 : fs[i].1 ∉ (fs.take i).map (·.1) := by
    apply nodup_split h.nd (post := (fs.drop (i + 1)).map (·.1))
    have e2 : fs = fs.take i ++ fs[i] :: fs.drop (i + 1) := by rw [List.getElem_cons_drop, List.take_append_drop]
    have e3 := congrArg (List.map (·.1)) e2
    rw [List.map_append, List.map_cons] at e3
    exact e3
  have h3 : ¬ ((i : Int) = 6) := by omega
  rw [decide_eq_false h3, decide_eq_false h2]
  rfl
open PySem L2 He DL
open PySem L2 He DL
/-! ### all greatest matches, claim by claim -/
section
variable {fs : List Feat} {ths : List (Str × Thg)} {cls : List (Str × Clm)} {ce : Ce}
end
open PySem L2 He DL
theorem isi_tup_tuple (ce : Ce) (xs : List D) : isiD [] ce (.d (.tup xs)) (.raw (.ty "tuple")) = some true := rfl
theorem isi_lst_tuple (ce : Ce) (xs : List D) : isiD [] ce (.d (.lst xs)) (.raw (.ty "tuple")) = some false := rfl
theorem isi_dic_tuple (ce : Ce) (xs : List (Key × D)) : isiD [] ce (.d (.dic xs)) (.raw (.ty "tuple")) = some false := rfl
section
variable {fs : List Feat} {ths : List (Str × Thg)} {cls : List (Str × Clm)} {ce : Ce}
end
open PySem L2 He DL
section
variable {fs : List Feat} {ths : List (Str × Thg)} {cls : List (Str × Clm)} {ce : Ce}
end
open PySem L2 He DL
/-! ### lists of texts, in order -/
open PySem L2 He DL
/-! ### all ascending lists of so many items -/
open PySem L2 He DL
/-! ### loops that end early -/
section
variable {fs : List Feat} {ths : List (Str × Thg)} {cls : List (Str × Clm)} {ce : Ce}
/-! ### groups of claims -/
end
open PySem L2 He DL
section
variable {fs : List Feat} {ths : List (Str × Thg)} {cls : List (Str × Clm)} {ce : Ce}
end
open PySem L2 He DL
section
variable {fs : List Feat} {ths : List (Str × Thg)} {cls : List (Str × Clm)} {ce : Ce}
end
open PySem L2 He DL
/-! ### bits -/
/-! ### the greatest size of what follows, and the number of ways -/
def gFree (r : List Nat) (m : Nat) : List Nat := r.filter fun x => !m.testBit x
def gMax (l : List (Nat × Nat)) : Nat := l.foldl (fun a p => max a p.1) 0
def gSum (l : List (Nat × Nat)) : Nat := ((l.filter fun p => decide (p.1 = gMax l)).map (·.2)).sum
def gw : List (List Nat) → Nat → Nat × Nat
  | [], _ => (0, 1)
  | r :: rs, m =>
    let found := gw rs m :: (gFree r m).map fun x => ((gw rs (m ||| 2 ^ x)).1 + 1, (gw rs (m ||| 2 ^ x)).2)
    (gMax found, gSum found)
open PySem L2 He DL
/-! ### a pairing in the cells -/
def gwD (p : Nat × Nat) : D := .tup [.int (p.1 : Int), .int (p.2 : Int)]
def pKey (place m : Nat) : NK := [.inl (.inl (place : Int)), .inl (.inl (m : Int))]
def encP (kvs : List (NK × (Nat × Nat))) : List (NK × T) := (kvs.map fun p => (p.1, gwD p.2)).map fun p => (p.1, T.d p.2)
abbrev tdP (kvs : List (NK × (Nat × Nat))) : Cell := .tdic [false, false] (encP kvs)
def rowsD (rows : List (List Nat)) : D := .lst (rows.map tupI)
structure PK (rows : List (List Nat)) (N : Nat) (kvs : List (NK × (Nat × Nat))) : Prop where
  good : ∀ p ∈ kvs, ∃ place m, p.1 = pKey place m ∧ place < rows.length ∧ m < 2 ^ N ∧ p.2 = gw (rows.drop place) m
  nd : (kvs.map (·.1)).Nodup
structure PSt (K : PySem.W.Frag) (i j : Nat) (cl tl : List Str) (rows : List (List Nat)) (N : Nat) (ce : Ce) (kvs : List (NK × (Nat × Nat))) : Prop where
  ins : ce[i]? = some (.ins (ga K "Pairing") [("claim_labels", .d (lsS cl)), ("thing_labels", .d (lsS tl)), ("fitting", .d (rowsD rows)), ("known", .cel j)])
  td : ce[j]? = some (tdP kvs)
  ok : PK rows N kvs
theorem PK.len {rows : List (List Nat)} {N : Nat} {kvs : List (NK × (Nat × Nat))} (h : PK rows N kvs) (hr : rows.length ≤ 8) (hn : N ≤ 8) : kvs.length ≤ 2048 := by
  have hs : ∀ k ∈ kvs.map (·.1), k ∈ (List.range 8).flatMap fun p => (List.range 256).map (pKey p) := fun k hk => by
    obtain ⟨p, hp, rfl⟩ := List.mem_map.mp hk
    obtain ⟨place, m, e, hp1, hp2, _⟩ := h.good p hp
    rw [e]
    have h3 := Nat.pow_le_pow_right (n := 2) (by decide) hn
    exact List.mem_flatMap.mpr ⟨place, List.mem_range.mpr (by omega), List.mem_map.mpr ⟨m, List.mem_range.mpr (by omega), rfl⟩⟩
  have h1 := len_of_sub h.nd hs
  have h2 : ((List.range 8).flatMap fun p => (List.range 256).map (pKey p)).length = 8 * 256 := by
    have : ∀ l : List Nat, (l.flatMap fun p => (List.range 256).map (pKey p)).length = l.length * 256 := by
      intro l
      induction l with
      | nil => simp
      | cons a l ih => rw [List.flatMap_cons, List.length_append, ih, List.length_map, List.length_range, List.length_cons, Nat.add_mul]; omega
    rw [this, List.length_range]
  rw [h2, List.length_map] at h1
  omega
theorem PSt.set {i j : Nat} {cl tl : List Str} {rows : List (List Nat)} {N : Nat} {ce : Ce} {kvs kvs' : List (NK × (Nat × Nat))} (h : PSt K i j cl tl rows N ce kvs) (hij : i ≠ j) (hk : PK rows N kvs') : PSt K i j cl tl rows N (ce.set j (tdP kvs')) kvs' :=
  ⟨by rw [List.getElem?_set_ne (Ne.symm hij)]; exact h.ins, by rw [List.getElem?_set_self (List.getElem?_eq_some_iff.mp h.td).1], hk⟩
theorem itT_tupI (ns : List Nat) : itT (.d (tupI ns)) = some (ns.map fun (n : Nat) => T.d (.int (n : Int))) := by
  unfold tupI
  rw [itT_tup, List.map_map]
  rfl
open PySem L2 He DL
open PySem L2 He DL
/-! ### matchings -/
/-! ### places of things -/
open PySem L2 He DL
/-! ### tuples of texts in order -/
open PySem L2 He DL
/-! ### sets of claims that can be served at once -/
section
variable {fs : List Feat} {ths : List (Str × Thg)} {cls : List (Str × Clm)}
/-! ### least sets that leave all others served -/
end
open PySem L2 He DL
/-! ### ascending lists of places -/
/-! ### the sets found and the sets due -/
open PySem L2 He DL
theorem PK.nil {rows : List (List Nat)} {N : Nat} : PK rows N [] := ⟨fun p h => (nomatch h), List.nodup_nil⟩
section
variable {fs : List Feat} {ths : List (Str × Thg)} {cls : List (Str × Clm)} {ce : Ce}
end
open PySem L2 He DL
section
variable {fs : List Feat} {ths : List (Str × Thg)} {cls : List (Str × Clm)} {ce : Ce}
end
open PySem L2 He DL
section
variable {fs : List Feat} {ths : List (Str × Thg)} {cls : List (Str × Clm)} {ce : Ce}
end
open PySem L2 He DL
section
variable {fs : List Feat} {ths : List (Str × Thg)} {cls : List (Str × Clm)} {ce : Ce}
end
open PySem L2 He DL
section
variable {fs : List Feat} {ths : List (Str × Thg)} {cls : List (Str × Clm)} {ce : Ce}
end
open PySem L2 He DL
/-! ### the worthiest first: greedily the greatest worth -/
section
variable {fs : List Feat} {ths : List (Str × Thg)} {cls : List (Str × Clm)}
end
open PySem L2 He DL
/-! ### the least of the sets by worth -/
open PySem L2 He DL
/-! ### the least of what a strict order orders -/
section
variable {α : Type}
end
/-! ### the sets of worth -/
section
variable {fs : List Feat} {ths : List (Str × Thg)} {cls : List (Str × Clm)}
end
open PySem L2 He DL
section
variable {α : Type}
/-! ### an entry put into a dict in order -/
theorem putL_map (l : List (Str × α)) (n : Str) (a : α) : (putL l n a).map (·.1) = if n ∈ l.map (·.1) then l.map (·.1) else l.map (·.1) ++ [n] := by
  by_cases h : n ∈ l.map (·.1)
  · rw [if_pos h]
    unfold putL
    have : (l.any fun p => decide (p.1 = n)) = true := by
      obtain ⟨p, hp, e⟩ := List.mem_map.mp h
      exact List.any_eq_true.mpr ⟨p, hp, decide_eq_true e⟩
    rw [if_pos this, List.map_map]
    refine List.map_congr_left fun p _ => ?_
    by_cases q : p.1 = n <;> simp [Function.comp, q]
  · rw [if_neg h, putL_new h]
    simp
theorem putL_mem {l : List (Str × α)} {n : Str} {a : α} {p : Str × α} (h : p ∈ putL l n a) : p = (n, a) ∨ (p ∈ l ∧ p.1 ≠ n) := by
  unfold putL at h
  split at h
  · obtain ⟨q, hq, e⟩ := List.mem_map.mp h
    by_cases w : q.1 = n
    · rw [if_pos w] at e
      exact .inl (by rw [← e, ← w])
    · rw [if_neg w] at e
      subst e
      exact .inr ⟨hq, w⟩
  · next hn =>
    rcases List.mem_append.mp h with h | h
    · refine .inr ⟨h, fun e => hn (List.any_eq_true.mpr ⟨p, h, decide_eq_true e⟩)⟩
    · exact .inl (by simpa using h)
theorem putL_look {l : List (Str × α)} {n m : Str} {a : α} : look (putL l n a) m = if m = n then some a else look l m := by
  have h := valA_enc (fun x : α => D.non) l m
  unfold putL
  by_cases q : (l.any fun p => decide (p.1 = n)) = true
  · rw [if_pos q]
    clear h
    have gen : ∀ l : List (Str × α), (l.any fun p => decide (p.1 = n)) = true ∨ m ≠ n → look (l.map fun p => if p.1 = n then (p.1, a) else p) m = if m = n then some a else look l m := fun l => by
      induction l with
      | nil =>
        rintro (h | h)
        · cases h
        · rw [if_neg h]; rfl
      | cons p r ih =>
        intro h
        unfold look at ih ⊢
        rw [List.map_cons, List.find?_cons, List.find?_cons]
        by_cases w : p.1 = n
        · rw [if_pos w]
          by_cases w2 : p.1 = m
          · have : m = n := by rw [← w2, w]
            simp [w2, this]
          · have hne : m ≠ n := fun e => w2 (by rw [w, e])
            have := ih (.inr hne)
            simpa [w2, hne] using this
        · rw [if_neg w]
          by_cases w2 : p.1 = m
          · have hne : m ≠ n := fun e => w (by rw [w2, e])
            simp [w2, hne]
          · have := ih (h.elim (fun h => by
              rw [List.any_cons, decide_eq_false w, Bool.false_or] at h
              exact .inl h) .inr)
            simpa [w2] using this
    exact gen l (.inl q)
  · rw [if_neg q]
    clear h
    unfold look
    rw [List.find?_append]
    by_cases w : m = n
    · subst w
      have : l.find? (fun p => decide (p.1 = m)) = none := by
        rw [List.find?_eq_none]
        intro p hp e
        exact q (List.any_eq_true.mpr ⟨p, hp, e⟩)
      simp [this]
    · have hne : ¬ n = m := fun e => w e.symm
      simp only [w, if_false]
      cases l.find? (fun p => decide (p.1 = m)) <;> simp [hne]
theorem ordL_map {l : List (Str × α)} : (ordL l).map (·.1) = srt (l.map (·.1)) := by
  unfold ordL
  rw [List.map_filterMap]
  have : ∀ M : List Str, (∀ x ∈ M, x ∈ l.map (·.1)) → M.filterMap (fun x => Option.map (·.1) ((look l x).map fun a => (x, a))) = M := fun M => by
    induction M with
    | nil => intro _; rfl
    | cons x M ih =>
      intro hM
      obtain ⟨a, ha⟩ := look_some (hM x List.mem_cons_self)
      rw [List.filterMap_cons_some (b := x) (by rw [ha]; rfl), ih fun y hy => hM y (List.mem_cons_of_mem _ hy)]
  exact this _ fun x hx => (srt_perm _).mem_iff.mp hx
def insL (l : List (Str × α)) (n : Str) (a : α) : List (Str × α) := ordL (putL l n a)
theorem putL_nd {l : List (Str × α)} (nd : (l.map (·.1)).Nodup) (n : Str) (a : α) : ((putL l n a).map (·.1)).Nodup := by
  rw [putL_map]
  split
  · exact nd
  · next h =>
    rw [List.nodup_append]
    refine ⟨nd, by simp, fun x hx y hy e => ?_⟩
    obtain rfl : y = n := by simpa using hy
    exact h (e ▸ hx)
end
section
variable {fs : List Feat} {ths : List (Str × Thg)} {cls : List (Str × Clm)} {ce : Ce}
theorem srt_sorted (l : List Str) : (srt l).Pairwise fun a b => leS a b = true := srt_pair l
theorem OffOk.insC (O : OffOk fs ths cls) {n : Str} {cl : Clm} (hw : isWord n = true ∧ n.length ≤ 1000 ∧ okS n = true) (hn : n ∉ ths.map (·.1)) (hl : (putL cls n cl).length ≤ 8) (hs : SetsOf fs cl.1) : OffOk fs ths (insL cls n cl) where
  fl := O.fl
  ok := O.ok
  tn := O.tn
  cn := ⟨Nat.le_trans (ordL_len _) hl, by
      unfold insL
      rw [ordL_map]
      exact (srt_perm _).nodup_iff.mpr (putL_nd O.cn.nd n cl), fun p hp => by
      rcases putL_mem (ordL_mem hp) with rfl | ⟨h, _⟩
      · exact hw
      · exact O.cn.word p h⟩
  tp := O.tp
  cp := by
    unfold insL
    rw [ordL_map]
    exact srt_sorted _
  dj := fun m hm => by
    unfold insL at hm
    rw [ordL_map, (srt_perm _).mem_iff, putL_map] at hm
    split at hm
    · exact O.dj m hm
    · rcases List.mem_append.mp hm with h | h
      · exact O.dj m h
      · obtain rfl : m = n := by simpa using h
        exact hn
  ts := O.ts
  cs := fun p hp => by
    rcases putL_mem (ordL_mem hp) with rfl | ⟨h, _⟩
    · exact hs
    · exact O.cs p h
theorem merge_one {α : Type} (enc : α → D) (l : List (Str × α)) (n : Str) (a : α) : unK (mergeA (encT enc l) [((.inr n : Key), T.d (enc a))]) = some (encK enc (putL l n a)) := by
  show unK (putA (encT enc l) (.inr n) (T.d (enc a))) = _
  rw [putA_enc, unK_enc]
end
open PySem L2 He DL
/-! ### numbers with labels in order -/
section
variable {fs : List Feat} {ths : List (Str × Thg)} {cls : List (Str × Clm)} {ce : Ce}
/-! ### the worthiest first -/
end
open PySem L2 He DL
section
variable {fs : List Feat} {ths : List (Str × Thg)} {cls : List (Str × Clm)} {ce : Ce}
end
open PySem L2 He DL
/-! ### what a memo holds -/
section
variable {β : Type}
structure GM (Rl : NK → β → Prop) (kvs : List (NK × β)) : Prop where
  good : ∀ p ∈ kvs, Rl p.1 p.2
  nd : (kvs.map (·.1)).Nodup
def encG (enc : β → D) (kvs : List (NK × β)) : List (NK × T) := (kvs.map fun p => (p.1, enc p.2)).map fun p => (p.1, T.d p.2)
theorem GM.nil {Rl : NK → β → Prop} : GM Rl [] := ⟨(fun _ h => nomatch h), List.nodup_nil⟩
theorem GM.len {Rl : NK → β → Prop} {kvs : List (NK × β)} (h : GM Rl kvs) {L : List NK} (hL : ∀ k b, Rl k b → k ∈ L) : kvs.length ≤ L.length := by
  have h1 := len_of_sub h.nd (m := L) fun k hk => by
    obtain ⟨p, hp, rfl⟩ := List.mem_map.mp hk
    exact hL _ _ (h.good p hp)
  rwa [List.length_map] at h1
end
/-! ### two numbers, the greater first -/
abbrev II := Int × Int
def iiD (p : II) : D := .tup [.int p.1, .int p.2]
def ltII (a b : II) : Bool := decide (a.1 < b.1) || (decide (a.1 = b.1) && decide (a.2 < b.2))
def mx2 (a b : II) : II := if ltII a b = true then b else a
/-! ### the best ways to match, as the program counts them -/
abbrev SR := List (Str × Int)
def bst : List SR → List Str → II
  | [], _ => (0, 0)
  | r :: rs, t => (r.filter fun p => !decide (p.1 ∈ t)).foldl (fun acc p => mx2 acc ((bst rs (srt (t ++ [p.1]))).1 + p.2, (bst rs (srt (t ++ [p.1]))).2 + 1)) (bst rs t)
theorem mats_cons {c : Str} {r : List Str} {rs : Rw} {t : List Str} {m : Mt} : m ∈ mats ((c, r) :: rs) t ↔ m ∈ mats rs t ∨ ∃ x, x ∈ r ∧ x ∉ t ∧ ∃ m', m' ∈ mats rs (t ++ [x]) ∧ m = (c, x) :: m' := by
  rw [mats, List.mem_append, List.mem_flatMap]
  constructor
  · rintro (⟨x, hx, h⟩ | h)
    · obtain ⟨m', hm, rfl⟩ := List.mem_map.mp h
      obtain ⟨h1, h2⟩ := List.mem_filter.mp hx
      exact .inr ⟨x, h1, by simpa using h2, m', hm, rfl⟩
    · exact .inl h
  · rintro (h | ⟨x, h1, h2, m', hm, rfl⟩)
    · exact .inr h
    · exact .inl ⟨x, List.mem_filter.mpr ⟨h1, by simpa using h2⟩, List.mem_map.mpr ⟨m', hm, rfl⟩⟩
open PySem L2 He DL
def srD (p : Str × SR) : D := .tup [.str p.1, .lst (p.2.map fun q => .tup [.str q.1, .int q.2])]
def scD (rows : List (Str × SR)) : D := .lst (rows.map srD)
def srsOf (rows : List (Str × SR)) (place : Nat) : List SR := (rows.drop place).map (·.2)
def SRl (rows : List (Str × SR)) (ths : List Str) (k : NK) (b : II) : Prop := ∃ place taken, k = mkKey place taken ∧ place < rows.length ∧ taken.Sublist ths ∧ b = bst (srsOf rows place) taken
abbrev tdS (kvs : List (NK × II)) : Cell := .tdic [false, true] (encG iiD kvs)
abbrev scI (K : PySem.W.Frag) (rows : List (Str × SR)) (j : Nat) : Cell := .ins (ga K "Scorer") [("options", .d (scD rows)), ("known", .cel j)]
structure SSt (K : PySem.W.Frag) (i j : Nat) (rows : List (Str × SR)) (ths : List Str) (ce : Ce) (kvs : List (NK × II)) : Prop where
  ins : ce[i]? = some (scI K rows j)
  td : ce[j]? = some (tdS kvs)
  ok : GM (SRl rows ths) kvs
theorem SSt.set {i j : Nat} {rows : List (Str × SR)} {ths : List Str} {ce : Ce} {kvs kvs' : List (NK × II)} (h : SSt K i j rows ths ce kvs) (hij : i ≠ j) (hk : GM (SRl rows ths) kvs') : SSt K i j rows ths (ce.set j (tdS kvs')) kvs' :=
  ⟨by rw [List.getElem?_set_ne (Ne.symm hij)]; exact h.ins, by rw [List.getElem?_set_self (List.getElem?_eq_some_iff.mp h.td).1], hk⟩
open PySem L2 He DL
/-! ### scores -/
section
variable {fs : List Feat} {ths : List (Str × Thg)} {cls : List (Str × Clm)} {ce : Ce}
end
open PySem L2 He DL
section
variable {rows : List (Str × SR)} {ths : List Str}
end
open PySem L2 He DL
section
variable {fs : List Feat} {ths : List (Str × Thg)} {cls : List (Str × Clm)} {ce : Ce}
end
open PySem L2 He DL
section
variable {fs : List Feat} {ths : List (Str × Thg)} {cls : List (Str × Clm)} {ce : Ce}
end
open PySem L2 He DL
/-! ### offices that become wider -/
section
variable {fs : List Feat} {ths : List (Str × Thg)} {cls : List (Str × Clm)} {ce : Ce}
/-- a claim that asks for less -/
structure ClW (fs : List Feat) (cl cl' : Clm) : Prop where
  day : cl'.2.1 ≤ cl.2.1
  slips : cl.2.2.1 ≤ cl'.2.2.1
  worth : cl'.2.2.2 = cl.2.2.2
  some : ∀ f ∈ fs, ∀ w ∈ valS cl.1 f.1, w ∈ valS cl'.1 f.1
structure Wd (fs : List Feat) (ths : List (Str × Thg)) (cls : List (Str × Clm)) (ths' : List (Str × Thg)) (cls' : List (Str × Clm)) : Prop where
  th : ∀ x t, look ths x = some t → look ths' x = some t
  names : cls'.map (·.1) = cls.map (·.1)
  cl : ∀ c l, look cls c = some l → ∃ l', look cls' c = some l' ∧ ClW fs l l'
theorem putL_len {α : Type} {l : List (Str × α)} {c : Str} {a : α} (hc : c ∈ l.map (·.1)) : (putL l c a).length = l.length := by
  have := congrArg List.length (putL_map l c a)
  rwa [if_pos hc, List.length_map, List.length_map] at this
end
open PySem L2 He DL
/-! ### what a wider office keeps -/
theorem mats_nodup : ∀ (rows : Rw) (t : List Str), (rows.map (·.1)).Nodup → (∀ p ∈ rows, p.2.Nodup) → (mats rows t).Nodup
  | [], t, _, _ => by simp [mats]
  | (c, r) :: rs, t, hn, hr => by
    rw [List.map_cons, List.nodup_cons] at hn
    have hr' : ∀ p ∈ rs, p.2.Nodup := fun p hp => hr p (List.mem_cons_of_mem _ hp)
    rw [mats, List.nodup_append]
    refine ⟨?_, mats_nodup rs t hn.2 hr', fun a ha b hb e => ?_⟩
    · have hfn : (r.filter fun x => !decide (x ∈ t)).Nodup := (hr (c, r) List.mem_cons_self).sublist List.filter_sublist
      generalize (r.filter fun x => !decide (x ∈ t)) = l at hfn
      induction l with
      | nil => exact List.nodup_nil
      | cons x l ih =>
        rw [List.nodup_cons] at hfn
        rw [List.flatMap_cons, List.nodup_append]
        refine ⟨?_, ih hfn.2, fun a ha b hb e => ?_⟩
        · exact List.Pairwise.map _ (fun m m' hne e => hne (List.cons.inj e).2) (mats_nodup rs _ hn.2 hr')
        · subst e
          obtain ⟨m, _, rfl⟩ := List.mem_map.mp ha
          obtain ⟨y, hy, hb⟩ := List.mem_flatMap.mp hb
          obtain ⟨m', _, e⟩ := List.mem_map.mp hb
          have := (Prod.mk.inj (List.cons.inj e).1).2
          exact hfn.1 (by rw [← this]; exact hy)
    · subst e
      obtain ⟨x, _, ha⟩ := List.mem_flatMap.mp ha
      obtain ⟨m, _, rfl⟩ := List.mem_map.mp ha
      have := (mats_claims rs t _ hb).1.subset (List.mem_map.mpr ⟨(c, x), List.mem_cons_self, rfl⟩)
      exact hn.1 this
inductive RSub : Rw → Rw → Prop where
  | nil : RSub [] []
  | cons {c : Str} {r r' : List Str} {rs rs' : Rw} (h : ∀ x ∈ r, x ∈ r') (t : RSub rs rs') : RSub ((c, r) :: rs) ((c, r') :: rs')
theorem mats_mono {rs rs' : Rw} (h : RSub rs rs') : ∀ (t : List Str) (m : Mt), m ∈ mats rs t → m ∈ mats rs' t := by
  induction h with
  | nil => exact fun _ _ h => h
  | cons hx _ ih =>
    intro t m hm
    rcases mats_cons.mp hm with h | ⟨x, h1, h2, m', h3, e⟩
    · exact mats_cons.mpr (.inl (ih _ _ h))
    · exact mats_cons.mpr (.inr ⟨x, hx x h1, h2, m', ih _ _ h3, e⟩)
section
variable {fs : List Feat} {ths ths' : List (Str × Thg)} {cls cls' : List (Str × Clm)}
theorem apart_sub {l l' : Clm} (h : ClW fs l l') (th : Thg) : ∀ n ∈ apart (fs.map (·.1)) l'.1 th.1, n ∈ apart (fs.map (·.1)) l.1 th.1 := fun n hn => by
  unfold apart at *
  obtain ⟨h1, h2⟩ := List.mem_filter.mp hn
  refine List.mem_filter.mpr ⟨h1, ?_⟩
  obtain ⟨f, hf, rfl⟩ := List.mem_map.mp h1
  have h2 : comL (valS l'.1 f.1) (valS th.1 f.1) = [] := of_decide_eq_true h2
  refine decide_eq_true ?_
  unfold comL at *
  rw [List.filter_eq_nil_iff] at h2 ⊢
  intro w hw
  exact h2 w (h.some f hf w hw)
theorem apart_lenW {l l' : Clm} (hnd : (fs.map (·.1)).Nodup) (h : ClW fs l l') (th : Thg) : (apart (fs.map (·.1)) l'.1 th.1).length ≤ (apart (fs.map (·.1)) l.1 th.1).length := by
  refine len_of_sub ?_ (apart_sub h th)
  unfold apart
  exact hnd.sublist List.filter_sublist
theorem fit_wide {l l' : Clm} (hnd : (fs.map (·.1)).Nodup) (h : ClW fs l l') {th : Thg} (hf : fitB fs l th = true) : fitB fs l' th = true := by
  unfold fitB at *
  rw [Bool.and_eq_true, decide_eq_true_eq, decide_eq_true_eq] at *
  have := apart_lenW hnd h th
  have h1 := h.day
  have h2 := h.slips
  omega
theorem fitL_iff' (nd : (ths.map (·.1)).Nodup) {cl : Clm} {x : Str} : x ∈ fitL fs ths cl ↔ ∃ th, look ths x = some th ∧ fitB fs cl th = true := by
  unfold fitL
  constructor
  · intro h
    obtain ⟨p, hp, rfl⟩ := List.mem_map.mp h
    obtain ⟨h1, h2⟩ := List.mem_filter.mp hp
    exact ⟨p.2, look_of nd h1, h2⟩
  · rintro ⟨th, h1, h2⟩
    exact List.mem_map.mpr ⟨(x, th), List.mem_filter.mpr ⟨look_mem h1, h2⟩, rfl⟩
theorem fitL_wide {l l' : Clm} (hnd : (fs.map (·.1)).Nodup) (n1 : (ths.map (·.1)).Nodup) (n2 : (ths'.map (·.1)).Nodup) (W : ∀ x t, look ths x = some t → look ths' x = some t) (h : ClW fs l l') : ∀ x ∈ fitL fs ths l, x ∈ fitL fs ths' l' := fun x hx => by
  obtain ⟨th, h1, h2⟩ := (fitL_iff' n1).mp hx
  exact (fitL_iff' n2).mpr ⟨th, W x th h1, fit_wide hnd h h2⟩
theorem opts_sub (hnd : (fs.map (·.1)).Nodup) (n1 : (ths.map (·.1)).Nodup) (n2 : (ths'.map (·.1)).Nodup) (W : ∀ x t, look ths x = some t → look ths' x = some t) : ∀ (cls cls' : List (Str × Clm)), (cls.map (·.1)).Nodup → cls'.map (·.1) = cls.map (·.1) → (∀ c l, (c, l) ∈ cls → ∃ l', (c, l') ∈ cls' ∧ ClW fs l l') → RSub (optsL fs ths cls) (optsL fs ths' cls')
  | [], cls', _, e, _ => by
    cases cls' with
    | nil => exact .nil
    | cons a r => cases e
  | (c, l) :: r, [], _, e, _ => by cases e
  | (c, l) :: r, (c', l') :: r', nd, e, h => by
    rw [List.map_cons, List.map_cons] at e
    obtain ⟨e1, e2⟩ := List.cons.inj e
    have e1 : c' = c := e1
    subst e1
    rw [List.map_cons, List.nodup_cons] at nd
    refine .cons ?_ (opts_sub hnd n1 n2 W r r' nd.2 e2 fun d m hm => ?_)
    · obtain ⟨l2, h2, hw⟩ := h c' l List.mem_cons_self
      rcases List.mem_cons.mp h2 with h2 | h2
      · cases h2
        exact fitL_wide hnd n1 n2 W hw
      · exact absurd (by rw [← e2]; exact List.mem_map.mpr ⟨_, h2, rfl⟩) nd.1
    · obtain ⟨l2, h2, hw⟩ := h d m (List.mem_cons_of_mem _ hm)
      rcases List.mem_cons.mp h2 with h2 | h2
      · cases h2
        exact absurd (List.mem_map.mpr ⟨_, hm, rfl⟩) nd.1
      · exact ⟨l2, h2, hw⟩
theorem Wd.opts (hnd : (fs.map (·.1)).Nodup) (O : OffOk fs ths cls) (O' : OffOk fs ths' cls') (W : Wd fs ths cls ths' cls') : RSub (optsL fs ths cls) (optsL fs ths' cls') :=
  opts_sub hnd O.tn.nd O'.tn.nd W.th cls cls' O.cn.nd W.names fun c l h => by
    obtain ⟨l', h1, h2⟩ := W.cl c l (look_of O.cn.nd h)
    exact ⟨l', look_mem h1, h2⟩
theorem Wd.cnt (hnd : (fs.map (·.1)).Nodup) (O : OffOk fs ths cls) (O' : OffOk fs ths' cls') (W : Wd fs ths cls ths' cls') (k : Nat) : (ways fs ths cls).getD k 0 ≤ (ways fs ths' cls').getD k 0 := by
  rw [ways_mats, ways_mats]
  unfold nMat
  rw [List.countP_eq_length_filter, List.countP_eq_length_filter]
  obtain ⟨a1, a2⟩ := optsL_nd O
  refine len_of_sub ((mats_nodup _ _ a1 a2).sublist List.filter_sublist) fun m hm => ?_
  obtain ⟨h1, h2⟩ := List.mem_filter.mp hm
  exact List.mem_filter.mpr ⟨mats_mono (W.opts hnd O O') _ _ h1, h2⟩
end
open PySem L2 He DL
/-! ### the pairing's second number: how many greatest matches there are -/
section
variable {fs : List Feat} {ths : List (Str × Thg)} {cls : List (Str × Clm)}
end
open PySem L2 He DL
/-! ### notes and offices narrowed -/
section
variable {fs : List Feat} {ths : List (Str × Thg)} {cls : List (Str × Clm)} {ce : Ce}
theorem SetsOf.val {st : Sets} (h : SetsOf fs st) {f : Feat} (hf : f ∈ fs) : look st f.1 = some (valS st f.1) ∧ valS st f.1 ≠ [] ∧ List.Sublist (valS st f.1) f.2 := by
  obtain ⟨us, h1, h2, h3⟩ := h.2 f hf
  have e : valS st f.1 = us := by unfold valS; rw [h1]; rfl
  rw [e]
  exact ⟨h1, h2, h3⟩
def nrS (fs : List Feat) (st : Sets) (n v : Str) : Sets := noteSets fs (putL st n [v])
theorem nr_look {st : Sets} (hnd : (fs.map (·.1)).Nodup) (h : SetsOf fs st) {f : Feat} {v : Str} {g : Feat} (hg : g ∈ fs) : (look (putL st f.1 [v]) g.1).getD g.2 = if g.1 = f.1 then [v] else valS st g.1 := by
  rw [putL_look]
  by_cases e : g.1 = f.1
  · rw [if_pos e, if_pos e]
    rfl
  · rw [if_neg e, if_neg e, (h.val hg).1]
    rfl
theorem nr_sets {st : Sets} (hnd : (fs.map (·.1)).Nodup) (h : SetsOf fs st) {f : Feat} (hf : f ∈ fs) {v : Str} (hv : v ∈ valS st f.1) : SetsOf fs (nrS fs st f.1 v) := by
  have e : (nrS fs st f.1 v).map (·.1) = fs.map (·.1) := by
    unfold nrS noteSets
    rw [List.map_map]
    rfl
  refine ⟨e, fun g hg => ?_⟩
  refine ⟨_, look_of (by rw [e]; exact hnd) (List.mem_map.mpr ⟨g, hg, rfl⟩), ?_⟩
  rw [nr_look hnd h hg]
  by_cases q : g.1 = f.1
  · rw [if_pos q]
    have : g = f := nodup_inj hnd hg hf q
    subst this
    exact ⟨by simp, List.singleton_sublist.mpr ((h.val hg).2.2.subset hv)⟩
  · rw [if_neg q]
    exact (h.val hg).2
local macro_rules | `(tactic| simp_arith [14, $ls,*] $[$l]?) => `(tactic| simp_arith [13, $ls,*, LD.map_none', LD.ff_or, LD.tt_or, LD.tupI_len, LD.itL_lsS, LD.isi_tup_tuple, LD.isi_lst_tuple, LD.isi_dic_tuple, LD.itT_tupI] $[$l]?)
local macro_rules | `(tactic| simp_arith [14] $[$l]?) => `(tactic| simp_arith [13, LD.map_none', LD.ff_or, LD.tt_or, LD.tupI_len, LD.itL_lsS, LD.isi_tup_tuple, LD.isi_lst_tuple, LD.isi_dic_tuple, LD.itT_tupI] $[$l]?)
theorem S_narrowed {st : Sets} (hfl : fs.length ≤ 6) (hnd : (fs.map (·.1)).Nodup) (hok : ∀ f ∈ fs, okF f) (hpw : ∀ f ∈ fs, Pw f.2) (h : SetsOf fs st) {f : Feat} (hf : f ∈ fs) {v : Str} (hv : v ∈ valS st f.1) : F_Note_narrowed K [.d (noteD K fs st), .d (.str f.1), .d (.str v)] ce = .ok (.d (noteD K fs (nrS fs st f.1 v))) ce := by
  have hstl : st.length = fs.length := by
    have := congrArg List.length h.1
    rwa [List.length_map, List.length_map] at this
  have hin : f.1 ∈ st.map (·.1) := by rw [h.1]; exact List.mem_map.mpr ⟨f, hf, rfl⟩
  have N : NoteOk fs (putL st f.1 [v]) := ⟨fun p hp => by
      rw [← h.1]
      rcases putL_mem hp with rfl | ⟨hp, _⟩
      · exact hin
      · exact List.mem_map.mpr ⟨p, hp, rfl⟩, by rw [putL_len hin, hstl]; omega, fun g hg => by
      rw [nr_look hnd h hg]
      by_cases q : g.1 = f.1
      · rw [if_pos q]
        have : g = f := nodup_inj hnd hg hf q
        subst this
        have hvf := (h.val hg).2.2.subset hv
        exact ⟨by simp, rising_pw (List.pairwise_singleton _ _), by simp, fun w hw => by
          obtain rfl : w = v := by simpa using hw
          exact hvf⟩
      · rw [if_neg q]
        obtain ⟨_, h2, h3⟩ := h.val hg
        exact ⟨h2, rising_pw ((hpw g hg).sublist h3), Nat.le_trans h3.length_le (hok g hg).l, fun w hw => h3.subset hw⟩⟩
  have mk := fun ce => mk_note (K := K) (ce := ce) (by omega) hnd hok N
  have g := fun ce => S_getitem (K := K) (fs := fs) (ce := ce) (h.val hf).1
  have hu := merge_one tupS st f.1 [v]
  have h1 : mergeA [] [((.inr f.1 : Key), T.d (.tup [.str v]))] = [(.inr f.1, T.d (.tup [.str v]))] := rfl
  have hu : unK (mergeA (encT tupS st) [((.inr f.1 : Key), T.d (.tup [.str v]))]) = some (encK tupS (putL st f.1 [v])) := hu
  rw [F_Note_narrowed_eq]; unfold B_Note_narrowed
  simp_arith [14, g, tupS, hv, h1, frzK, frzD, hu, mk]
  rfl
/-! ### questions -/
end
open PySem L2 He DL
/-! ### the note of two notes -/
section
variable {fs : List Feat} {ce : Ce}
theorem forL_raiseC {α : Type} {g : GT} {b : MS} (G : α → T) (I : List α → Sl → Ce → Prop) (J : Ce → Prop) (x : Exc) (a : α) (post : List α) : ∀ (pre done : List α) (sl : Sl) (ce : Ce), I done sl ce →
    (∀ p c q sl ce, pre = p ++ c :: q → I (done ++ p) sl ce → RS.Nx (I (done ++ p ++ [c])) (RS.opt (g (G c) sl) fun sl1 => b sl1 ce)) →
    (∀ sl ce, I (done ++ pre) sl ce → ∃ sl' ce', (RS.opt (g (G a) sl) fun sl1 => b sl1 ce) = .ex x sl' ce' ∧ J ce') →
    ∃ sl' ce', forL g b ((pre ++ a :: post).map G) sl ce = .ex x sl' ce' ∧ J ce'
  | [], done, sl, ce, h0, _, hb => by
    obtain ⟨sl', ce', e, j⟩ := hb sl ce (by rw [List.append_nil]; exact h0)
    refine ⟨sl', ce', ?_, j⟩
    rw [List.nil_append, List.map_cons, forL_cons]
    cases q2 : g (G a) sl with
    | none => rw [q2] at e; cases e
    | some s1 =>
      rw [q2] at e
      simp only [RS.opt_some] at e ⊢
      rw [e]; rfl
  | c :: pre, done, sl, ce, h0, hs, hb => by
    obtain ⟨sl1, ce1, e1, h1⟩ := RS.Nx_get (hs [] c pre sl ce rfl (by rw [List.append_nil]; exact h0))
    rw [List.append_nil] at h1
    obtain ⟨sl2, ce2, e2, j⟩ := forL_raiseC G I J x a post pre (done ++ [c]) sl1 ce1 h1 (fun p c' q sl ce hp hi => by
      have e : done ++ (c :: p) = done ++ [c] ++ p := by simp
      have := hs (c :: p) c' q sl ce (by rw [hp]; rfl) (by rw [e]; exact hi)
      rw [e] at this
      exact this) (fun sl ce hi => hb sl ce (by
      have e : done ++ (c :: pre) = done ++ [c] ++ pre := by simp
      rw [e]
      exact hi))
    refine ⟨sl2, ce2, ?_, j⟩
    rw [List.cons_append, List.map_cons, forL_cons]
    cases q2 : g (G c) sl with
    | none => rw [q2] at e1; cases e1
    | some s1 =>
      rw [q2] at e1
      simp only [RS.opt_some] at e1 ⊢
      rw [e1]
      exact e2
def bothS (fs : List Feat) (a b : Sets) : Sets := fs.map fun f => (f.1, comL (valS a f.1) (valS b f.1))
theorem bothS_fst (a b : Sets) : (bothS fs a b).map (·.1) = fs.map (·.1) := by
  unfold bothS
  rw [List.map_map]
  rfl
theorem bothS_look (hnd : (fs.map (·.1)).Nodup) (a b : Sets) {f : Feat} (hf : f ∈ fs) : look (bothS fs a b) f.1 = some (comL (valS a f.1) (valS b f.1)) :=
  look_of (by rw [bothS_fst]; exact hnd) (List.mem_map.mpr ⟨f, hf, rfl⟩)
theorem comL_sub {a b : List Str} : List.Sublist (comL a b) a := List.filter_sublist
theorem bothS_sets (hnd : (fs.map (·.1)).Nodup) {a b : Sets} (ha : SetsOf fs a) (hne : ∀ f ∈ fs, comL (valS a f.1) (valS b f.1) ≠ []) : SetsOf fs (bothS fs a b) :=
  ⟨bothS_fst a b, fun f hf => ⟨_, bothS_look hnd a b hf, hne f hf, comL_sub.trans (ha.val hf).2.2⟩⟩
theorem both_note (hnd : (fs.map (·.1)).Nodup) (hok : ∀ f ∈ fs, okF f) (hpw : ∀ f ∈ fs, Pw f.2) (hl : fs.length ≤ 6) {a b : Sets} (ha : SetsOf fs a) (hne : ∀ f ∈ fs, comL (valS a f.1) (valS b f.1) ≠ []) : NoteOk fs (bothS fs a b) where
  keys := fun p hp => by
    rw [← bothS_fst a b]
    exact List.mem_map.mpr ⟨p, hp, rfl⟩
  len := by
    unfold bothS
    rw [List.length_map]
    omega
  good := fun f hf => by
    rw [bothS_look hnd a b hf]
    have hs : List.Sublist (comL (valS a f.1) (valS b f.1)) f.2 := comL_sub.trans (ha.val hf).2.2
    exact ⟨hne f hf, rising_pw ((hpw f hf).sublist hs), Nat.le_trans hs.length_le (hok f hf).l, fun w hw => hs.subset hw⟩
theorem both_same (hnd : (fs.map (·.1)).Nodup) (a b : Sets) : noteSets fs (bothS fs a b) = bothS fs a b := by
  unfold noteSets
  conv => rhs; unfold bothS
  refine List.map_congr_left fun f hf => ?_
  rw [bothS_look hnd a b hf]
  rfl
theorem bothS_snoc (pre : List Feat) (f : Feat) (a b : Sets) : bothS (pre ++ [f]) a b = bothS pre a b ++ [(f.1, comL (valS a f.1) (valS b f.1))] := by
  unfold bothS
  rw [List.map_append]
  rfl
local macro_rules | `(tactic| simp_arith [14, $ls,*] $[$l]?) => `(tactic| simp_arith [13, $ls,*, LD.map_none', LD.ff_or, LD.tt_or, LD.tupI_len, LD.itL_lsS, LD.isi_tup_tuple, LD.isi_lst_tuple, LD.isi_dic_tuple, LD.itT_tupI] $[$l]?)
local macro_rules | `(tactic| simp_arith [14] $[$l]?) => `(tactic| simp_arith [13, LD.map_none', LD.ff_or, LD.tt_or, LD.tupI_len, LD.itL_lsS, LD.isi_tup_tuple, LD.isi_lst_tuple, LD.isi_dic_tuple, LD.itT_tupI] $[$l]?)
/-- the step at a feature -/
theorem both_step (hl : fs.length ≤ 6) (hnd : (fs.map (·.1)).Nodup) (hok : ∀ f ∈ fs, okF f) {a b : Sets} (ha : SetsOf fs a) (hb : SetsOf fs b) {pre : List Feat} {f : Feat} {post : List Feat} (hpp : fs = pre ++ f :: post) (x3 : Option T) :
    (comL (valS a f.1) (valS b f.1) ≠ [] → RS.Nx (fun sl c => ∃ x3, sl = [some (.d (noteD K fs a)), some (.d (noteD K fs b)), some (.cel ce.length), x3] ∧ c = ce ++ [.dic (encT tupS (bothS (pre ++ [f]) a b))])
      (RS.opt (gName 3 (.d (.str f.1)) [some (.d (noteD K fs a)), some (.d (noteD K fs b)), some (.cel ce.length), x3]) fun sl1 => (sSeq (sDPut (mVar 2) (mVar 3) (mCall (F_common K) (mCons (mVar 0) (mCons (mVar 1) (mCons (mVar 3) mNil)))))
        (sIf (mTB (mOp (oEqM false) (mOp oDGetM (mVar 2) (mVar 3)) (mTup mNil))) (sRaise (mXkw (ga K "Conflict") ["feature"] (mCons (mVar 3) mNil))) sNext)) sl1 (ce ++ [.dic (encT tupS (bothS pre a b))]))) ∧
    (comL (valS a f.1) (valS b f.1) = [] → ∃ sl' ce', (RS.opt (gName 3 (.d (.str f.1)) [some (.d (noteD K fs a)), some (.d (noteD K fs b)), some (.cel ce.length), x3]) fun sl1 => (sSeq (sDPut (mVar 2) (mVar 3) (mCall (F_common K) (mCons (mVar 0) (mCons (mVar 1) (mCons (mVar 3) mNil)))))
        (sIf (mTB (mOp (oEqM false) (mOp oDGetM (mVar 2) (mVar 3)) (mTup mNil))) (sRaise (mXkw (ga K "Conflict") ["feature"] (mCons (mVar 3) mNil))) sNext)) sl1 (ce ++ [.dic (encT tupS (bothS pre a b))])) = .ex ⟨.ref (ga K "Conflict"), [("feature", .str f.1)]⟩ sl' ce' ∧ ∃ c, ce' = ce ++ [c]) := by
  have hf : f ∈ fs := by rw [hpp]; simp
  obtain ⟨a1, a2, a3⟩ := ha.val hf
  obtain ⟨b1, b2, b3⟩ := hb.val hf
  have hw := fun x hx => ((hok f hf).w x hx).2
  have g := fun ce => S_common (K := K) (fs := fs) (gs := fs) (ce := ce) a1 b1 (Nat.le_trans a3.length_le (hok f hf).l) (fun w hx => hw w (b3.subset hx))
  have hcm : ∀ w ∈ comL (valS a f.1) (valS b f.1), okS w = true := fun w hx => hw w (a3.subset (comL_sub.subset hx))
  have o1 : okD 16 (.tup ((comL (valS a f.1) (valS b f.1)).map D.str)) = true := by rw [okD_tup]; exact okD_strs hcm
  have hq := eqD_tups (a := comL (valS a f.1) (valS b f.1)) (b := []) hcm (by simp)
  rw [List.map_nil] at hq
  have hnew : f.1 ∉ (bothS pre a b).map (·.1) := by
    rw [bothS_fst]
    exact nodup_split (l := fs.map (·.1)) (pre := pre.map (·.1)) (m := f.1) (post := post.map (·.1)) hnd (by rw [hpp]; simp)
  have hput := putA_enc tupS (bothS pre a b) f.1 (comL (valS a f.1) (valS b f.1))
  rw [putL_new hnew, ← bothS_snoc] at hput
  have hput : putA (encT tupS (bothS pre a b)) (.inr f.1) (T.d (.tup ((comL (valS a f.1) (valS b f.1)).map .str))) = encT tupS (bothS (pre ++ [f]) a b) := hput
  have hndp : ((bothS (pre ++ [f]) a b).map (·.1)).Nodup := by
    rw [bothS_fst]
    refine hnd.sublist ?_
    rw [hpp]
    simp
  have hget := valA_enc tupS (bothS (pre ++ [f]) a b) f.1
  rw [look_of hndp (n := f.1) (a := comL (valS a f.1) (valS b f.1)) (by rw [bothS_snoc]; exact List.mem_append_right _ (List.mem_singleton.mpr rfl))] at hget
  have hget : valA (encT tupS (bothS (pre ++ [f]) a b)) (.inr f.1) = some (T.d (.tup ((comL (valS a f.1) (valS b f.1)).map .str))) := hget
  have hlen : (bothS pre a b).length < 16777216 := by
    unfold bothS
    rw [List.length_map]
    have h1 : pre.length ≤ fs.length := by rw [hpp]; simp
    omega
  constructor
  · intro hne
    rw [decide_eq_false hne] at hq
    simp_arith [14, g, tupS, hput, hget, o1, hq, hlen]
    exact ⟨_, rfl, rfl⟩
  · intro he
    rw [decide_eq_true he] at hq
    simp_arith [14, g, tupS, hput, hget, o1, hq, hlen]
    exact ⟨_, _, rfl, _, rfl⟩
theorem S_both (hl : fs.length ≤ 6) (hnd : (fs.map (·.1)).Nodup) (hok : ∀ f ∈ fs, okF f) (hpw : ∀ f ∈ fs, Pw f.2) {a b : Sets} (ha : SetsOf fs a) (hb : SetsOf fs b) (hne : ∀ f ∈ fs, comL (valS a f.1) (valS b f.1) ≠ []) :
    F_Note_both K [.d (noteD K fs a), .d (noteD K fs b)] ce = .ok (.d (noteD K fs (bothS fs a b))) ce := by
  have mk := fun ce => mk_note (K := K) (ce := ce) (by omega) hnd hok (both_note hnd hok hpw hl ha hne)
  rw [both_same hnd] at mk
  rw [F_Note_both_eq]; unfold B_Note_both
  simp_arith [14]
  generalize hr : forL _ _ _ _ _ = r
  obtain ⟨sl', ce', rfl, x3, rfl, rfl⟩ := forL_use hr (fun f : Feat => T.d (.str f.1)) fs (fun pre sl c => ∃ x3, sl = [some (.d (noteD K fs a)), some (.d (noteD K fs b)), some (.cel ce.length), x3] ∧ c = ce ++ [.dic (encT tupS (bothS pre a b))]) (by simp) ⟨_, rfl, rfl⟩ (by
    rintro pre f post sl c hpp ⟨x3, rfl, rfl⟩
    exact (both_step (K := K) (ce := ce) hl hnd hok ha hb hpp x3).1 (hne f (by rw [hpp]; simp)))
  clear hr
  simp_arith [14, mk]
theorem S_both_no (hl : fs.length ≤ 6) (hnd : (fs.map (·.1)).Nodup) (hok : ∀ f ∈ fs, okF f) {a b : Sets} (ha : SetsOf fs a) (hb : SetsOf fs b) {pre : List Feat} {f : Feat} {post : List Feat} (hpp : fs = pre ++ f :: post) (hp : ∀ g ∈ pre, comL (valS a g.1) (valS b g.1) ≠ []) (hf : comL (valS a f.1) (valS b f.1) = []) :
    F_Note_both K [.d (noteD K fs a), .d (noteD K fs b)] ce = .ex ⟨.ref (ga K "Conflict"), [("feature", .str f.1)]⟩ ce := by
  rw [F_Note_both_eq]; unfold B_Note_both
  simp_arith [14]
  generalize hr : forL _ _ _ _ _ = r
  obtain ⟨sl', ce', e, c, rfl⟩ : ∃ sl' ce', r = .ex ⟨.ref (ga K "Conflict"), [("feature", .str f.1)]⟩ sl' ce' ∧ ∃ c, ce' = ce ++ [c] := by
    have eit : List.map T.d (List.map D.str (List.map (fun x : Feat => x.1) fs)) = (pre ++ f :: post).map (fun f : Feat => T.d (.str f.1)) := by rw [← hpp]; simp
    rw [← hr, eit]
    refine forL_raiseC (fun f : Feat => T.d (.str f.1)) (fun pre sl c => ∃ x3, sl = [some (.d (noteD K fs a)), some (.d (noteD K fs b)), some (.cel ce.length), x3] ∧ c = ce ++ [.dic (encT tupS (bothS pre a b))]) (fun ce' => ∃ c, ce' = ce ++ [c]) _ f post pre [] _ _ ⟨_, rfl, rfl⟩ ?_ ?_
    · rintro p g q sl c hpq ⟨x3, rfl, rfl⟩
      exact (both_step (K := K) (ce := ce) hl hnd hok ha hb (pre := p) (f := g) (post := q ++ f :: post) (by rw [hpp, hpq]; simp) x3).1 (hp g (by rw [hpq]; simp))
    · rintro sl c ⟨x3, rfl, rfl⟩
      exact (both_step (K := K) (ce := ce) hl hnd hok ha hb hpp x3).2 hf
  subst e
  simp_arith [14]
end
open PySem L2 He DL
/-! ### the source of draws behind two tables -/
open PySem L2 He DL
/-! ### k03: entries that cannot be -/
section
variable {n v : D} {ce : Ce}
end
/-! ### what the law tells of them -/
open PySem L2 He DL
/-! ### entries compared -/
section
variable {fs : List Feat} {ths ths' : List (Str × Thg)} {cls cls' : List (Str × Clm)} {ce : Ce}
def neq3 (st st' : Sets) : Bool := eqK (encK tupS st) (encK tupS st')
theorem okV_sets3 (hok : ∀ f ∈ fs, okF f) (hnd : (fs.map (·.1)).Nodup) {st : Sets} (h : SetsOf fs st) : okV (encK tupS st) = true := by
  have nd : (st.map (·.1)).Nodup := by rw [h.1]; exact hnd
  unfold okV
  rw [List.all_eq_true]
  intro p hp
  obtain ⟨q, hq, rfl⟩ := List.mem_map.mp hp
  refine okD_strs (n := 15) fun w hw => ?_
  have hm : q.1 ∈ fs.map (·.1) := by rw [← h.1]; exact List.mem_map.mpr ⟨q, hq, rfl⟩
  obtain ⟨f, hf, e⟩ := List.mem_map.mp hm
  obtain ⟨us, h1, h2, h3⟩ := h.2 f hf
  have e : f.1 = q.1 := e
  rw [e, look_of nd hq] at h1
  cases h1
  exact ((hok f hf).w w (h3.subset hw)).2
local macro_rules | `(tactic| simp_arith [14, $ls,*] $[$l]?) => `(tactic| simp_arith [13, $ls,*, LD.map_none', LD.ff_or, LD.tt_or, LD.tupI_len, LD.itL_lsS, LD.isi_tup_tuple, LD.isi_lst_tuple, LD.isi_dic_tuple, LD.itT_tupI] $[$l]?)
local macro_rules | `(tactic| simp_arith [14] $[$l]?) => `(tactic| simp_arith [13, LD.map_none', LD.ff_or, LD.tt_or, LD.tupI_len, LD.itL_lsS, LD.isi_tup_tuple, LD.isi_lst_tuple, LD.isi_dic_tuple, LD.itT_tupI] $[$l]?)
theorem S_note_eq3 (hok : ∀ f ∈ fs, okF f) (hnd : (fs.map (·.1)).Nodup) {st st' : Sets} (h : SetsOf fs st) (h' : SetsOf fs st') : F_Note___eq__ K [.d (noteD K fs st), .d (noteD K fs st')] ce = .ok (.d (.bl (neq3 st st'))) ce := by
  have ei : ∀ ce, isiD [ga K "Note"] ce (.d (noteD K fs st')) (.raw (.ref (ga K "Note"))) = some true := fun ce => by simp [isiD, noteD, tagOf, okT, clsOf, okA, isiT]
  have hself : eqD (featsD fs) (featsD fs) = true := eqD_refl (okD_ok _ _ (feats_ok hok (n := 0)))
  have hc := fun ce => S_cat_eq (K := K) (ce := ce) hok hok
  have ov := okV_sets3 hok hnd h
  have ov' := okV_sets3 hok hnd h'
  unfold neq3
  rw [F_Note___eq___eq]; unfold B_Note___eq__
  simp_arith [14, ei, hc, hself, ov, ov']
end
/-! ### the law's two catalogs -/
open PySem L2 He DL
/-! ### what the law tells of errors -/
theorem exT1 (a b c : Addr) (x y z : Bool) : exmL [(a, x), (b, y), (c, z)] (.ref a) = some x := by simp [exmL]
theorem exT2 {a b : Addr} (h : a ≠ b) (c : Addr) (x y z : Bool) : exmL [(a, x), (b, y), (c, z)] (.ref b) = some y := by
  have h1 : (b == a) = false := by simpa using Ne.symm h
  simp [exmL, List.lookup, h1]
theorem exT3 {a b c : Addr} (h : a ≠ c) (g : b ≠ c) (x y z : Bool) : exmL [(a, x), (b, y), (c, z)] (.ref c) = some z := by
  have h1 : (c == a) = false := by simpa using Ne.symm h
  have h2 : (c == b) = false := by simpa using Ne.symm g
  simp [exmL, List.lookup, h1, h2]
theorem exP1 (a b : Addr) (x y : Bool) : exmL [(a, x), (b, y)] (.ref a) = some x := by simp [exmL]
theorem exP2 {a b : Addr} (h : a ≠ b) (x y : Bool) : exmL [(a, x), (b, y)] (.ref b) = some y := by
  have h1 : (b == a) = false := by simpa using Ne.symm h
  simp [exmL, List.lookup, h1]
theorem exS1 (a : Addr) (x : Bool) : exmL [(a, x)] (.ref a) = some x := by simp [exmL]
structure Dif3 (K : PySem.W.Frag) : Prop where
  ic : ga K "InvalidNote" ≠ ga K "Conflict"
  iu : ga K "InvalidNote" ≠ ga K "UnknownFeature"
  cu : ga K "Conflict" ≠ ga K "UnknownFeature"
local macro_rules | `(tactic| simp_arith [14, $ls,*] $[$l]?) => `(tactic| simp_arith [13, $ls,*, LD.map_none', LD.ff_or, LD.tt_or, LD.tupI_len, LD.itL_lsS, LD.isi_tup_tuple, LD.isi_lst_tuple, LD.isi_dic_tuple, LD.itT_tupI] $[$l]?)
local macro_rules | `(tactic| simp_arith [14] $[$l]?) => `(tactic| simp_arith [13, LD.map_none', LD.ff_or, LD.tt_or, LD.tupI_len, LD.itL_lsS, LD.isi_tup_tuple, LD.isi_lst_tuple, LD.isi_dic_tuple, LD.itT_tupI] $[$l]?)
theorem HW0 {a dd : Addr} {n : Str} {ce : Ce} : H0__law_fail_v2 K a (.ref (ga K "InvalidNote")) (some dd) [none, some (.d (.exc a dd (.ref (ga K "InvalidNote")) [("feature", .str n)]))] ce = .rt (.d (.tup [.str "InvalidNote", .str n])) ce := by
  have lk : List.lookup ("feature" : Str) [(("feature" : Str), D.str n)] = some (.str n) := by simp [List.lookup]
  unfold H0__law_fail_v2
  simp_arith [14, mXf, lk]
theorem HW1 {a dd : Addr} {n : Str} {ce : Ce} : H1__law_fail_v2 K a (.ref (ga K "Conflict")) (some dd) [none, some (.d (.exc a dd (.ref (ga K "Conflict")) [("feature", .str n)]))] ce = .rt (.d (.tup [.str "Conflict", .str n])) ce := by
  have lk : List.lookup ("feature" : Str) [(("feature" : Str), D.str n)] = some (.str n) := by simp [List.lookup]
  unfold H1__law_fail_v2
  simp_arith [14, mXf, lk]
theorem S_fail_ok2 {work : Ce → R T} {ce ce' : Ce} {t : T} (h : work ce = .ok t ce') : F__law_fail_v2 K work ce = retR ce t ce' := fFail_ok h
theorem S_fail_i {work : Ce → R T} {ce ce' : Ce} {n : Str} (h : work ce = .ex ⟨.ref (ga K "InvalidNote"), [("feature", .str n)]⟩ ce') : F__law_fail_v2 K work ce = retR ce (.d (.tup [.str "InvalidNote", .str n])) ce' := by
  unfold F__law_fail_v2
  rw [fFail_ex h, goL_yes (x := Exc.mk (.ref (ga K "InvalidNote")) [("feature", .str n)]) (exT1 _ _ _ _ _ _)]
  have k : RS.any (Exc.mk (.ref (ga K "InvalidNote")) [("feature", .str n)]) (fun a d => RS.unsetO (some 1) (H0__law_fail_v2 K a (Exc.mk (.ref (ga K "InvalidNote")) [("feature", .str n)]).cls d (setO (some 1) a d (Exc.mk (.ref (ga K "InvalidNote")) [("feature", .str n)]) (List.replicate 2 none)) ce')) = .rt (.d (.tup [.str "InvalidNote", .str n])) ce' := RS.any_eq fun a d hd' => by
    cases d with
    | none => exact nomatch hd' rfl
    | some dd =>
      show RS.unsetO (some 1) (H0__law_fail_v2 K a (.ref (ga K "InvalidNote")) (some dd) [none, some (.d (.exc a dd (.ref (ga K "InvalidNote")) [("feature", .str n)]))] ce') = _
      rw [HW0]
      rfl
  rw [k]
  rfl
theorem S_fail_c (dd3 : Dif3 K) {work : Ce → R T} {ce ce' : Ce} {n : Str} (h : work ce = .ex ⟨.ref (ga K "Conflict"), [("feature", .str n)]⟩ ce') : F__law_fail_v2 K work ce = retR ce (.d (.tup [.str "Conflict", .str n])) ce' := by
  unfold F__law_fail_v2
  rw [fFail_ex h, goL_no (x := Exc.mk (.ref (ga K "Conflict")) [("feature", .str n)]) (exT2 dd3.ic _ _ _ _), goL_yes (x := Exc.mk (.ref (ga K "Conflict")) [("feature", .str n)]) (exP1 _ _ _ _)]
  have k : RS.any (Exc.mk (.ref (ga K "Conflict")) [("feature", .str n)]) (fun a d => RS.unsetO (some 1) (H1__law_fail_v2 K a (Exc.mk (.ref (ga K "Conflict")) [("feature", .str n)]).cls d (setO (some 1) a d (Exc.mk (.ref (ga K "Conflict")) [("feature", .str n)]) (List.replicate 2 none)) ce')) = .rt (.d (.tup [.str "Conflict", .str n])) ce' := RS.any_eq fun a d hd' => by
    cases d with
    | none => exact nomatch hd' rfl
    | some dd =>
      show RS.unsetO (some 1) (H1__law_fail_v2 K a (.ref (ga K "Conflict")) (some dd) [none, some (.d (.exc a dd (.ref (ga K "Conflict")) [("feature", .str n)]))] ce') = _
      rw [HW1]
      rfl
  rw [k]
  rfl
theorem S_fail_u (dd3 : Dif3 K) {work : Ce → R T} {ce ce' : Ce} (h : work ce = .ex ⟨.ref (ga K "UnknownFeature"), []⟩ ce') : F__law_fail_v2 K work ce = retR ce (.d (.str "UnknownFeature")) ce' := by
  unfold F__law_fail_v2
  rw [fFail_ex h, goL_no (x := Exc.mk (.ref (ga K "UnknownFeature")) []) (exT3 dd3.iu dd3.cu _ _ _), goL_no (x := Exc.mk (.ref (ga K "UnknownFeature")) []) (exP2 dd3.cu _ _), goL_yes (x := Exc.mk (.ref (ga K "UnknownFeature")) []) (exS1 _ _)]
  have k : RS.any (Exc.mk (.ref (ga K "UnknownFeature")) []) (fun a d => RS.unsetO none (H2__law_fail_v2 K a (Exc.mk (.ref (ga K "UnknownFeature")) []).cls d (setO none a d (Exc.mk (.ref (ga K "UnknownFeature")) []) (List.replicate 2 none)) ce')) = .rt (.d (.str "UnknownFeature")) ce' := RS.any_eq fun a d hd' => by
    unfold H2__law_fail_v2
    rfl
  rw [k]
  rfl
section
variable {fs : List Feat} {ce : Ce}
theorem S_noteF2 {st : Sets} (hfs : fs.length ≤ 60) (hnd : (fs.map (·.1)).Nodup) (hok : ∀ f ∈ fs, okF f) (hr : ∀ f ∈ fs, Pw f.2) (h : SetsOf fs st) : mkR (ga K "Note") (F_Note___init__ K) [.d (catD K fs), .d (.dic (encK tupS st))] ce = .ok (.d (noteD K fs st)) ce := by
  have hsn : (st.map (·.1)).Nodup := by rw [h.1]; exact hnd
  have hN : NoteOk fs st := by
    refine ⟨fun p hp => by rw [← h.1]; exact List.mem_map.mpr ⟨p, hp, rfl⟩, ?_, fun f hf => ?_⟩
    · have := congrArg List.length h.1
      rw [List.length_map, List.length_map] at this
      omega
    · obtain ⟨us, e, h1, h2⟩ := h.2 f hf
      rw [e]
      exact ⟨h1, rising_pw ((hr f hf).sublist h2), Nat.le_trans h2.length_le (hok f hf).l, fun w hw => h2.subset hw⟩
  have hst : noteSets fs st = st := by
    have e1 : noteSets fs st = (fs.map (·.1)).map fun n => (n, (look st n).getD []) := by
      unfold noteSets
      rw [List.map_map]
      refine List.map_congr_left fun f hf => ?_
      obtain ⟨us, e, _⟩ := h.2 f hf
      show (f.1, (look st f.1).getD f.2) = (f.1, (look st f.1).getD [])
      rw [e]
      rfl
    rw [e1, ← h.1, List.map_map]
    have e2 : st.map ((fun n => (n, (look st n).getD [])) ∘ (·.1)) = st.map id := List.map_congr_left fun p hp => by
      have := look_of hsn (n := p.1) (a := p.2) hp
      simp [Function.comp, this]
    rw [e2, List.map_id]
  have hmk := mk_note (K := K) (ce := ce) (Nat.le_trans hfs (by decide)) hnd hok hN
  rwa [hst] at hmk
theorem S_getitem_no2 {st : Sets} {n : Str} (h : look st n = none) : F_Note___getitem__ K [.d (noteD K fs st), .d (.str n)] ce = .ex ⟨.ref (ga K "UnknownFeature"), []⟩ ce := by
  have v := valA_enc tupS st n
  rw [h] at v
  rw [F_Note___getitem___eq]; unfold B_Note___getitem__
  simp_arith [14, noteD, v]
theorem S_narrowed_no2 {st : Sets} {n v : Str} (h : look st n = none) : F_Note_narrowed K [.d (noteD K fs st), .d (.str n), .d (.str v)] ce = .ex ⟨.ref (ga K "UnknownFeature"), []⟩ ce := by
  have g := fun ce => S_getitem_no2 (K := K) (fs := fs) (ce := ce) h
  rw [F_Note_narrowed_eq]; unfold B_Note_narrowed
  simp_arith [14, g]
theorem S_narrowed_bad2 {st : Sets} {n v : Str} {ws : List Str} (h : look st n = some ws) (hv : v ∉ ws) : F_Note_narrowed K [.d (noteD K fs st), .d (.str n), .d (.str v)] ce = .ex ⟨.ref (ga K "Conflict"), [("feature", .str n)]⟩ ce := by
  have g := fun ce => S_getitem (K := K) (fs := fs) (ce := ce) h
  rw [F_Note_narrowed_eq]; unfold B_Note_narrowed
  simp_arith [14, g, tupS, hv]
  rfl
end
/-! ### notes that cannot be -/
section
variable {fs : List Feat}
theorem eqD_strsN {b : Str} {r : List Str} (h : ∀ w ∈ b :: r, okS w = true) : eqD (.lst ((b :: r).map .str)) (.lst []) = false := by
  rw [show D.lst [] = D.lst (([] : List Str).map .str) from rfl, eqD_lst (okD_L (n := 1) (okD_strs h)) (okD_L (n := 1) (okD_strs (xs := []) (by simp))), eqDs_strs _ _ h (by simp)]
  rfl
def BadW (f : Feat) (ws : List Str) : Prop := ws = [] ∨ rising ws = false ∨ ∃ w ∈ ws, w ∉ f.2
theorem note_bad {told : Sets} (hfs : fs.length ≤ 1000) (hnd : (fs.map (·.1)).Nodup) (hok : ∀ f ∈ fs, okF f) (hk : ∀ p ∈ told, p.1 ∈ fs.map (·.1)) (hlen : told.length ≤ 60) {pre : List Feat} {f : Feat} {post : List Feat} (hpp : fs = pre ++ f :: post)
    (hg : ∀ f ∈ pre, (look told f.1).getD f.2 ≠ [] ∧ rising ((look told f.1).getD f.2) = true ∧ ((look told f.1).getD f.2).length ≤ 1000 ∧ ∀ w ∈ (look told f.1).getD f.2, w ∈ f.2) {ws : List Str} (hw : look told f.1 = some ws) (hl : ws.length ≤ 1000) (hws : ∀ w ∈ ws, okS w = true) (hb : BadW f ws) :
    ∃ ce2, F_Note___init__ K [.cel 0, .d (catD K fs), .d (.dic (encK tupS told))] [.ins (ga K "Note") []] = .ex ⟨.ref (ga K "InvalidNote"), [("feature", .str f.1)]⟩ ce2 := by
  rw [F_Note___init___eq]
  unfold B_Note___init__
  have hnil : told.filter (fun p => !decide (p.1 ∈ fs.map (·.1))) = [] := by
    rw [List.filter_eq_nil_iff]
    intro p hp
    simp only [Bool.not_eq_true', decide_eq_false_iff_not, Decidable.not_not]
    simpa using hk p hp
  simp_arith [14]
  rw [compM_filter (fun p : Str × List Str => T.d (.str p.1)) (fun p => !decide (p.1 ∈ fs.map (·.1))) (fun p => D.str p.1) _ told (fun p hp => by
    simp_arith [14]
    cases decide (p.1 ∈ fs.map (·.1)) <;> rfl), hnil]
  simp_arith [14]
  generalize hr : forL _ _ _ _ _ = r
  obtain ⟨sl', ce', e, _⟩ : ∃ sl' ce', r = .ex ⟨.ref (ga K "InvalidNote"), [("feature", .str f.1)]⟩ sl' ce' ∧ True := by
    have eit : List.map T.d (List.map featD fs) = (pre ++ f :: post).map (T.d ∘ featD) := by rw [← hpp]; simp
    rw [← hr, eit]
    refine forL_raiseC (T.d ∘ featD) (fun pre sl c => ∃ x y z, sl = [some (.cel 0), some (.d (catD K fs)), some (.d (.dic (encK tupS told))), some (.d (.lst [])), x, y, z, none] ∧ c = [.ins (ga K "Note") [("own_catalog", .d (catD K fs)), ("sets", .cel 1)], .dic (encT tupS (noteSets pre told))]) (fun _ => True) _ f post pre [] _ _ ⟨none, none, none, rfl, rfl⟩ ?_ ?_
    · rintro p g q sl c hpq ⟨x, y, z, rfl, rfl⟩
      have hf : g ∈ fs := by rw [hpp, hpq]; simp
      obtain ⟨g1, g2, g3, g4⟩ := hg g (by rw [hpq]; simp)
      have hv := valA_enc tupS told g.1
      have hnew : g.1 ∉ (noteSets p told).map (·.1) := by
        have e : (noteSets p told).map (·.1) = p.map (·.1) := by simp [noteSets]
        rw [e]
        exact nodup_split (l := fs.map (·.1)) (pre := p.map (·.1)) (m := g.1) (post := (q ++ f :: post).map (·.1)) hnd (by rw [hpp, hpq]; simp)
      have hput := putA_enc tupS (noteSets p told) g.1 ((look told g.1).getD g.2)
      rw [putL_new hnew] at hput
      have hgd : ((look told g.1).map fun a => T.d (tupS a)).getD (T.d (.tup (g.2.map .str))) = T.d (.tup (((look told g.1).getD g.2).map .str)) := by cases look told g.1 <;> rfl
      generalize hws : (look told g.1).getD g.2 = vs at *
      have h0 : ¬ ((vs.length : Int) = 0) := by cases vs with | nil => exact absurd rfl g1 | cons a r => simp; omega
      have hn2 : vs.filter (fun w => !decide (w ∈ g.2)) = [] := by
        rw [List.filter_eq_nil_iff]
        intro w hw
        simp [g4 w hw]
      have hset : noteSets (p ++ [g]) told = noteSets p told ++ [(g.1, vs)] := by simp [noteSets, hws]
      rw [List.nil_append]
      simp_arith [14, Function.comp, featD, hv, hgd, g2]
      rw [show (vs.map D.str).map T.d = vs.map (fun w => T.d (.str w)) by simp, compM_filter (fun w : Str => T.d (.str w)) (fun w => !decide (w ∈ g.2)) (fun w => D.str w) _ vs (fun w hw => by
        simp_arith [14]
        cases decide (w ∈ g.2) <;> rfl), hn2]
      have hnl : (noteSets p told).length < 16777216 := by
        have : p.length ≤ fs.length := by rw [hpp, hpq]; simp only [List.length_append, List.length_cons]; omega
        simp only [noteSets, List.length_map]; omega
      simp_arith [14]
      exact ⟨_, _, _, rfl, by rw [hset, ← hput]; rfl⟩
    · rintro sl c ⟨x, y, z, rfl, rfl⟩
      have hv := valA_enc tupS told f.1
      rw [hw] at hv
      have hv : valA (encT tupS told) (.inr f.1) = some (T.d (.tup (ws.map .str))) := hv
      have hgd : (some (T.d (.tup (ws.map .str)))).getD (T.d (.tup (f.2.map .str))) = T.d (.tup (ws.map .str)) := rfl
      rcases hb with rfl | hb | ⟨w, hw1, hw2⟩
      · simp_arith [14, Function.comp, featD, hv, Option.getD_some, List.map_nil]
        exact ⟨_, _, rfl⟩
      · have h0 : ¬ ((ws.length : Int) = 0) := by cases ws with | nil => exact absurd hb (by decide) | cons a r => simp; omega
        simp_arith [14, Function.comp, featD, hv, hgd, hb, h0]
        exact ⟨_, _, rfl⟩
      · cases hb : rising ws with
        | false =>
          have h0 : ¬ ((ws.length : Int) = 0) := by cases ws with | nil => exact absurd hb (by decide) | cons a r => simp; omega
          simp_arith [14, Function.comp, featD, hv, hgd, hb, h0]
          exact ⟨_, _, rfl⟩
        | true =>
          have h0 : ¬ ((ws.length : Int) = 0) := by cases ws with | nil => exact nomatch hw1 | cons a r => simp; omega
          simp_arith [14, Function.comp, featD, hv, hgd, hb, h0]
          rw [show (ws.map D.str).map T.d = ws.map (fun w => T.d (.str w)) by simp, compM_filter (fun w : Str => T.d (.str w)) (fun w => !decide (w ∈ f.2)) (fun w => D.str w) _ ws (fun w hw => by
            simp_arith [14]
            cases decide (w ∈ f.2) <;> rfl)]
          have hne : ¬ ws.filter (fun w => !decide (w ∈ f.2)) = [] := fun e => by
            rw [List.filter_eq_nil_iff] at e
            exact e w hw1 (by simp [hw2])
          have hl2 : (ws.filter (fun w => !decide (w ∈ f.2))).length ≤ 1000 := Nat.le_trans (List.length_filter_le _ _) hl
          cases hq : ws.filter (fun w => !decide (w ∈ f.2)) with
          | nil => exact absurd hq hne
          | cons b r =>
            have hbo : ∀ w ∈ b :: r, okS w = true := fun w hw => hws w (by rw [← hq] at hw; exact (List.mem_filter.mp hw).1)
            have o1 : okD 16 (.lst ((b :: r).map D.str)) = true := by rw [okD_lst]; exact okD_strs hbo
            have o2 : okD 16 (.lst []) = true := rfl
            have he := eqD_strsN hbo
            rw [List.map_cons] at o1 he
            simp_arith [14, o1, o2, he]
            exact ⟨_, _, rfl⟩
  subst e
  simp_arith [14]
  exact ⟨_, rfl⟩
end
open PySem L2 He DL
section
variable {fs : List Feat}
def descW (st : Sets) : Int := st.foldl (fun a p => a * (p.2.length : Int)) 1
theorem descW_snoc (a : Sets) (p : Str × List Str) : descW (a ++ [p]) = descW a * (p.2.length : Int) := by
  unfold descW
  rw [List.foldl_append]
  rfl
theorem S_descW {st : Sets} {ce : Ce} (h : ∀ p ∈ st, p.2.length ≤ 1000) : F_Note_description_count K [.d (noteD K fs st)] ce = .ok (.d (.int (descW st))) ce := by
  rw [F_Note_description_count_eq]; unfold B_Note_description_count
  simp_arith [14, noteD]
  generalize hr : forL _ _ _ _ _ = r
  obtain ⟨sl', ce', rfl, x2, rfl, rfl⟩ := forL_use hr (fun p : Str × List Str => T.d (tupS p.2)) st (fun pre sl c' => ∃ x2, sl = [some (.d (.ins (ga K "Note") [("own_catalog", catD K fs), ("sets", .dic (encK tupS st))])), some (.d (.int (descW pre))), x2] ∧ c' = ce) rfl ⟨_, rfl, rfl⟩ (by
    rintro pre p post sl c' hpp ⟨x2, rfl, rfl⟩
    have hp := h p (by rw [hpp]; simp)
    have cm : CMul (descW pre) (p.2.length : Int) := .inr ⟨by omega, by omega⟩
    simp_arith [14, tupS, cm]
    exact ⟨_, by rw [descW_snoc], rfl⟩)
  clear hr
  simp_arith [14]
theorem mem_st {st : Sets} (hnd : (fs.map (·.1)).Nodup) (h : SetsOf fs st) {p : Str × List Str} (hp : p ∈ st) : ∃ f ∈ fs, f.1 = p.1 ∧ look st p.1 = some p.2 ∧ p.2 ≠ [] ∧ List.Sublist p.2 f.2 := by
  have hm : p.1 ∈ fs.map (·.1) := by rw [← h.1]; exact List.mem_map.mpr ⟨p, hp, rfl⟩
  obtain ⟨f, hf, e⟩ := List.mem_map.mp hm
  have e : f.1 = p.1 := e
  obtain ⟨us, h1, h2, h3⟩ := h.2 f hf
  have l1 := look_of (l := st) (by rw [h.1]; exact hnd) (n := p.1) (a := p.2) hp
  rw [e, l1] at h1
  cases h1
  exact ⟨f, hf, e, l1, h2, h3⟩
theorem S_same {st : Sets} {ce : Ce} (hl : fs.length ≤ 6) (hnd : (fs.map (·.1)).Nodup) (hok : ∀ f ∈ fs, okF f) (h : SetsOf fs st) : F__law_same K [.d (noteD K fs st), .d (featsD fs), .d (.dic (encK tupS st))] ce = .ok (.d (.bl true)) ce := by
  have ei : ∀ ce, isiD [ga K "Note"] ce (.d (noteD K fs st)) (.raw (.ref (ga K "Note"))) = some true := fun ce => by simp [isiD, noteD, tagOf, okT, clsOf, okA, isiT]
  have hp1 : ∀ p ∈ st, p.2.length ≤ 1000 := fun p hp => by
    obtain ⟨f, hf, _, _, _, h3⟩ := mem_st hnd h hp
    exact Nat.le_trans h3.length_le (hok f hf).l
  have hsl : st.length ≤ 6 := by
    have := congrArg List.length h.1
    rw [List.length_map, List.length_map] at this
    omega
  have dc := fun ce => S_descW (K := K) (fs := fs) (ce := ce) hp1
  have al := fun ce => S_alike (K := K) 7 (.int (descW st)) ce rfl
  rw [F__law_same_eq]; unfold B__law_same
  simp_arith [14, ei]
  rw [show List.map T.d (List.map featD fs) = fs.map (fun f => T.d (featD f)) by simp, compM_filter (fun f : Feat => T.d (featD f)) (fun _ => false) (fun f => D.str f.1) _ fs (fun f hf => by
    obtain ⟨v1, v2, v3⟩ := h.val hf
    have hw : ∀ w ∈ valS st f.1, okS w = true := fun w hw => ((hok f hf).w w (v3.subset hw)).2
    have g := fun ce => S_getitem (K := K) (fs := fs) (ce := ce) v1
    have hv := valA_enc tupS st f.1
    rw [v1] at hv
    have hv : valA (encT tupS st) (.inr f.1) = some (T.d (.tup ((valS st f.1).map .str))) := hv
    have o1 : okD 16 (.tup ((valS st f.1).map D.str)) = true := by rw [okD_tup]; exact okD_strs hw
    have hq := eqD_tups hw hw
    rw [decide_eq_true rfl] at hq
    simp_arith [14, featD, g, hv, tupS, o1, hq])]
  rw [show List.filter (fun _ => false) fs = [] by simp]
  simp_arith [14]
  generalize hr : forL _ _ _ _ _ = r
  obtain ⟨sl', ce', rfl, x3, x4, rfl, rfl⟩ := forL_use hr (fun p : Str × List Str => T.d (.str p.1)) st (fun pre sl c' => ∃ x3 x4, sl = [some (.d (noteD K fs st)), some (.d (featsD fs)), some (.d (.dic (encK tupS st))), x3, x4, some (.d (.int (descW pre)))] ∧ c' = ce) (by simp) ⟨_, _, rfl, rfl⟩ (by
    rintro pre p post sl c' hpp ⟨x3, x4, rfl, rfl⟩
    have hm : p ∈ st := by rw [hpp]; simp
    obtain ⟨f, hf, _, l1, _, h3⟩ := mem_st hnd h hm
    have hp := hp1 p hm
    have cm : CMul (descW pre) (p.2.length : Int) := .inr ⟨by omega, by omega⟩
    have hv := valA_enc tupS st p.1
    rw [l1] at hv
    have hv : valA (encT tupS st) (.inr p.1) = some (T.d (.tup (p.2.map .str))) := hv
    simp_arith [14, tupS, cm, hv]
    exact ⟨_, _, by rw [descW_snoc], rfl⟩)
  clear hr
  simp_arith [14, dc, al]
theorem S_same_t {a n : Str} {ce : Ce} (ha : okS a = true) (hn : okS n = true) : F__law_same K [.d (.tup [.str a, .str n]), .d (featsD fs), .d (.tup [.str a, .str n])] ce = .ok (.d (.bl true)) ce := by
  have al := fun ce => S_alike (K := K) 7 (.tup [.str a, .str n]) ce (by simp [alD, ha, hn])
  rw [F__law_same_eq]; unfold B__law_same
  simp_arith [14, al]
/-! ### names that are no features -/
def zzW (wa wb : List Str) : Sets := [(("zzz" : Str), wa), (("zza" : Str), wb)]
theorem note_unknown {told : Sets} {wa wb : List Str} (hlt : told.length ≤ 60) (hk : ∀ p ∈ told, p.1 ∈ fs.map (·.1)) (hfs : fs.length ≤ 1000) (hz : ("zzz" : Str) ∉ fs.map (·.1)) (hz2 : ("zza" : Str) ∉ fs.map (·.1)) :
    ∃ ce2, F_Note___init__ K [.cel 0, .d (catD K fs), .d (.dic (encK tupS (told ++ zzW wa wb)))] [.ins (ga K "Note") []] = .ex ⟨.ref (ga K "InvalidNote"), [("feature", .str "zza")]⟩ ce2 := by
  rw [F_Note___init___eq]
  unfold B_Note___init__
  have hnil : (told ++ zzW wa wb).filter (fun p : Str × List Str => !decide (p.1 ∈ fs.map (·.1))) = zzW wa wb := by
    rw [List.filter_append, List.filter_eq_nil_iff.mpr (fun p hp => by
      simp only [Bool.not_eq_true', decide_eq_false_iff_not, Decidable.not_not]
      simpa using hk p hp), List.nil_append]
    unfold zzW
    rw [List.filter_cons_of_pos (by simpa using hz), List.filter_cons_of_pos (by simpa using hz2)]
    rfl
  have hs : srt (["zzz", "zza"] : List Str) = (["zza", "zzz"] : List Str) := (srt_uniq (xs := ["zzz", "zza"]) (ys := ["zza", "zzz"]) (by decide +kernel) (by decide +kernel)).symm
  have hlen : (told ++ zzW wa wb).length < 1000000 := by rw [List.length_append]; show told.length + 2 < 1000000; omega
  generalize told ++ zzW wa wb = U at *
  have hv : eqD (.lst [.str "zza", .str "zzz"]) (.lst []) = false := eqD_strsN (b := "zza") (r := ["zzz"]) (by decide +kernel)
  have o1 : okD 16 (.lst [.str "zza", .str "zzz"]) = true := by decide +kernel
  simp_arith [14, hlen]
  rw [compM_filter (fun p : Str × List Str => T.d (.str p.1)) (fun p => !decide (p.1 ∈ fs.map (·.1))) (fun p => D.str p.1) _ U (fun p hp => by
    simp_arith [14]
    cases decide (p.1 ∈ fs.map (·.1)) <;> rfl), hnil]
  unfold zzW
  have hst : strD [D.str "zzz", D.str "zza"] = some (["zzz", "zza"] : List Str) := rfl
  simp_arith [14, hst, hs, hv, o1]
  exact ⟨_, rfl⟩
end
open PySem L2 He DL
section
variable {fs : List Feat}
/-! ### the law on wrong notes -/
def toldW (st : Sets) (n : Str) (bad : List Str) : Sets := st.map fun p => (p.1, if p.1 = n then bad else p.2)
theorem toldW_fst (st : Sets) (n : Str) (bad : List Str) : (toldW st n bad).map (·.1) = st.map (·.1) := by
  unfold toldW
  rw [List.map_map]
  rfl
theorem toldW_look {st : Sets} {n : Str} {bad : List Str} (m : Str) : look (toldW st n bad) m = (look st m).map fun ws => if m = n then bad else ws := by
  unfold toldW look
  induction st with
  | nil => rfl
  | cons p st ih =>
    rw [List.map_cons]
    by_cases e : p.1 = m
    · rw [List.find?_cons_of_pos (by simp [e]), List.find?_cons_of_pos (by simp [e])]
      simp [e]
    · rw [List.find?_cons_of_neg (by simp [e]), List.find?_cons_of_neg (by simp [e])]
      exact ih
theorem bad_w {f : Feat} {k : Nat} (g : GoodF k f) {j : Int} (h0 : 0 ≤ j) (h1 : j < 5) {a b : Str} (ea : f.2[0]? = some a) (eb : f.2[1]? = some b) :
    ∃ bad : List Str, atI [D.tup [], .tup (f.2.map D.str ++ [.str "zzz"]), .tup [.str b, .str a], .tup [.str a, .str a], .tup [.str "aaa"]] j = some (tupS bad) ∧ bad.length ≤ 1000 ∧ (∀ w ∈ bad, okS w = true) ∧ BadW f bad := by
  have hz : ("zzz" : Str) ∉ f.2 := fun h => (by decide +kernel : ("zzz" : Str) ∉ five) (g.2.1.subset h)
  have hq : ("aaa" : Str) ∉ f.2 := fun h => (by decide +kernel : ("aaa" : Str) ∉ five) (g.2.1.subset h)
  have ha := g.okw a (List.mem_of_getElem? ea)
  have hb := g.okw b (List.mem_of_getElem? eb)
  have hab : ltS a b = true := by
    have := g.pw
    obtain ⟨h1, e1⟩ := List.getElem?_eq_some_iff.mp ea
    obtain ⟨h2, e2⟩ := List.getElem?_eq_some_iff.mp eb
    rw [← e1, ← e2]
    exact List.pairwise_iff_getElem.mp this 0 1 h1 h2 (by decide)
  have oz : okS "zzz" = true := by decide +kernel
  have oq : okS "aaa" = true := by decide +kernel
  rcases (show j = 0 ∨ j = 1 ∨ j = 2 ∨ j = 3 ∨ j = 4 by omega) with rfl | rfl | rfl | rfl | rfl
  · exact ⟨[], rfl, by decide, fun w hw => (nomatch hw), .inl rfl⟩
  · refine ⟨f.2 ++ [("zzz" : Str)], ?_, ?_, fun w hw => ?_, .inr (.inr ⟨"zzz", by simp, hz⟩)⟩
    · show some _ = some _
      unfold tupS
      rw [List.map_append]
      rfl
    · have := g.len
      rw [List.length_append]
      show f.2.length + 1 ≤ 1000
      omega
    · rcases List.mem_append.mp hw with h | h
      · exact g.okw w h
      · rw [List.mem_singleton] at h
        rw [h]; exact oz
  · refine ⟨[b, a], rfl, by simp, fun w hw => ?_, .inr (.inl ?_)⟩
    · rcases (by simpa using hw : w = b ∨ w = a) with h | h <;> rw [h] <;> assumption
    · unfold rising
      simp [ltS_asymm hab]
  · refine ⟨[a, a], rfl, by simp, fun w hw => ?_, .inr (.inl ?_)⟩
    · rcases (by simpa using hw : w = a ∨ w = a) with h | h <;> rw [h] <;> assumption
    · unfold rising
      simp [ltS_irrefl]
  · refine ⟨["aaa"], rfl, by decide, fun w hw => ?_, .inr (.inr ⟨"aaa", by simp, hq⟩)⟩
    rw [List.mem_singleton.mp hw]; exact oq
theorem at_mapW {α : Type} (f : α → D) (l : List α) {k : Int} (h0 : 0 ≤ k) (h : k.toNat < l.length) : atI (l.map f) k = some (f l[k.toNat]) := by
  obtain ⟨n, rfl⟩ : ∃ n : Nat, k = (n : Int) := ⟨k.toNat, by omega⟩
  have h : n < l.length := by simpa using h
  rw [DL.atI_nat (by simpa using h), List.getElem?_map, List.getElem?_eq_getElem h]
  rfl
theorem mkV_of {told : Sets} {k : Nat} {ce ce2 : Ce} {n : Str} (hc : ce[k]? = some (.dic (encT tupS told))) (h : F_Note___init__ K [.cel 0, .d (catD K fs), .d (.dic (encK tupS told))] [.ins (ga K "Note") []] = .ex ⟨.ref (ga K "InvalidNote"), [("feature", .str n)]⟩ ce2) :
    mkV (ga K "Note") (F_Note___init__ K) [.d (catD K fs), .cel k] ce = .ex ⟨.ref (ga K "InvalidNote"), [("feature", .str n)]⟩ ce := by
  have e : twoV ce [.d (catD K fs), .cel k] = some (catD K fs, encK tupS told) := by
    rw [twoV_cel, hc]
    show ((some (encT tupS told)).bind fun kvs => (unK kvs).map fun ds => (catD K fs, ds)) = _
    show ((unK (encT tupS told)).map fun ds => (catD K fs, ds)) = _
    rw [unK_enc]
    rfl
  unfold mkV
  rw [e]
  show R.exV ce (F_Note___init__ K [.cel 0, .d (catD K fs), .d (.dic (encK tupS told))] [.ins (ga K "Note") []]) = _
  rw [h, R.exV_ex]
  exact R.chk_of (by simp [flV])
theorem S__law_wrong (g : GoodFs fs) (h1 : 1 ≤ fs.length) (h4 : fs.length ≤ 4) {st : Sets} (hst : SetsOf fs st) {s : Dr} (hs : DrOk s) : ∃ s', DrOk s' ∧ F__law_wrong K [.cel 3, .d (catD K fs), .d (featsD fs), .d (.dic (encK tupS st))] (hdX5 K s []) = .ok (.d (.bl true)) (hdX5 K s' []) := by
  have hnd := g.nodup (by omega)
  have hok := g.ok (by omega)
  obtain ⟨i, s1, i0, i1, hs1, e1⟩ := S_nextX5 (K := K) (lim := (fs.length : Int)) (rest := []) hs (by omega) (by omega)
  obtain ⟨j, s2, j0, j1, hs2, e2⟩ := S_nextX5 (K := K) (lim := 5) (rest := []) hs1 (by decide) (by decide)
  replace e1 : F__law_next K [.cel 3, .d (.int (fs.length : Int))] (hdX5 K s []) = .ok (.d (.int i)) (hdX5 K s1 []) := e1
  replace e2 : F__law_next K [.cel 3, .d (.int 5)] (hdX5 K s1 []) = .ok (.d (.int j)) (hdX5 K s2 []) := e2
  have hi : i.toNat < fs.length := by omega
  obtain ⟨f, hfe⟩ : ∃ f, f = fs[i.toNat] := ⟨_, rfl⟩
  have hf : f ∈ fs := by rw [hfe]; exact List.getElem_mem hi
  have q1 : atI (fs.map featD) i = some (featD f) := by
    rw [hfe]
    exact at_mapW _ fs i0 hi
  obtain ⟨k, hk, gf⟩ := g.mem hf
  have h2 := gf.2.2
  obtain ⟨a, ea⟩ : ∃ a, f.2[0]? = some a := ⟨_, List.getElem?_eq_getElem (by omega)⟩
  obtain ⟨b, eb⟩ : ∃ b, f.2[1]? = some b := ⟨_, List.getElem?_eq_getElem (by omega)⟩
  have qa : atI (f.2.map D.str) 0 = some (.str a) := atI_get (by decide) (by rw [List.getElem?_map, show (0 : Int).toNat = 0 from rfl, ea]; rfl)
  have qb : atI (f.2.map D.str) 1 = some (.str b) := atI_get (by decide) (by rw [List.getElem?_map, show (1 : Int).toNat = 1 from rfl, eb]; rfl)
  obtain ⟨bad, hat, hbl, hbo, hbw⟩ := bad_w gf j0 j1 ea eb
  refine ⟨s2, hs2, ?_⟩
  rw [F__law_wrong_eq]; unfold B__law_wrong
  have hfl : fs.length < 1000000 := by omega
  have hsl : st.length ≤ 6 := by
    have := congrArg List.length hst.1
    rw [List.length_map, List.length_map] at this
    omega
  have hl2 : f.2.length + (0 + 1) ≤ 16777216 := by have := gf.len; omega
  simp_arith [14, featsD, e1, q1, featD, qa, qb, e2, hat, hl2]
  rw [compM_all (fun p : Str × List Str => T.d (.str p.1)) (fun p => D.tup [.str p.1, tupS (if p.1 = f.1 then bad else p.2)]) (hdX5 K s2 []) st (fun p hp => by
    obtain ⟨_, _, _, l1, _, _⟩ := mem_st hnd hst hp
    have hv := valA_enc tupS st p.1
    rw [l1] at hv
    have hv : valA (encT tupS st) (.inr p.1) = some (T.d (.tup (p.2.map .str))) := hv
    by_cases e : p.1 = f.1
    · simp_arith [14, e, hv, tupS]
    · simp_arith [14, e, hv, tupS])]
  have hp0 := pairs_enc tupS (toldW st f.1 bad)
  have hm0 := merge_nil tupS (toldW st f.1 bad) (by rw [toldW_fst, hst.1]; exact hnd)
  have hp1 : pairsD (st.map fun p => D.tup [.str p.1, tupS (if p.1 = f.1 then bad else p.2)]) = some (encK tupS (toldW st f.1 bad)) := by
    rw [← hp0]
    unfold toldW
    rw [List.map_map]
    rfl
  have ht0 : ((encK tupS (toldW st f.1 bad)).map fun p => (p.1, T.d p.2)) = encT tupS (toldW st f.1 bad) := by
    unfold encK encT
    rw [List.map_map]
    rfl
  simp_arith [14, hp1, hm0, ht0]
  obtain ⟨told, htold⟩ : ∃ told, told = toldW st f.1 bad := ⟨_, rfl⟩
  have hkeys : told.map (·.1) = fs.map (·.1) := by rw [htold, toldW_fst, hst.1]
  have hlk : ∀ m, look told m = (look st m).map fun ws => if m = f.1 then bad else ws := fun m => by rw [htold, toldW_look]
  have hk : ∀ p ∈ told, p.1 ∈ fs.map (·.1) := fun p hp => by rw [← hkeys]; exact List.mem_map.mpr ⟨p, hp, rfl⟩
  have htl : told.length ≤ 6 := by
    have := congrArg List.length hkeys
    rw [List.length_map, List.length_map] at this
    omega
  rw [← htold]
  obtain ⟨pre, post, hpp⟩ := List.append_of_mem hf
  have hsix : ("zzz" : Str) ∉ fs.map (·.1) ∧ ("zza" : Str) ∉ fs.map (·.1) := by
    rw [g.names (by omega)]
    exact ⟨fun h => (by decide +kernel : ("zzz" : Str) ∉ six) (List.mem_of_mem_take h), fun h => (by decide +kernel : ("zza" : Str) ∉ six) (List.mem_of_mem_take h)⟩
  obtain ⟨c1, b1⟩ := note_bad (K := K) (told := told) (by omega) hnd hok hk (by omega) hpp (fun g' hg' => by
    have hgf : g' ∈ fs := by rw [hpp]; exact List.mem_append_left _ hg'
    have hne : g'.1 ≠ f.1 := fun e => nodup_split (l := fs.map (·.1)) (pre := pre.map (·.1)) (m := f.1) (post := post.map (·.1)) hnd (by rw [hpp]; simp) (by rw [← e]; exact List.mem_map.mpr ⟨g', hg', rfl⟩)
    obtain ⟨v1, v2, v3⟩ := hst.val hgf
    obtain ⟨k', _, gg⟩ := g.mem hgf
    rw [hlk, v1]
    simp only [Option.map_some, if_neg hne, Option.getD_some]
    exact ⟨v2, rising_pw (gg.pw.sublist v3), Nat.le_trans v3.length_le (hok g' hgf).l, fun w hw => v3.subset hw⟩) (ws := bad) (by
    rw [hlk, (hst.val hf).1]
    simp) hbl hbo hbw
  obtain ⟨c2, b2⟩ := note_unknown (K := K) (fs := fs) (told := told) (wa := f.2) (wb := f.2) (by omega) hk (by omega) hsix.1 hsix.2
  have V1 := mkV_of (K := K) (fs := fs) (told := told) (k := 0 + 4) (ce := hdX5 K s2 [.dic (encT tupS told)]) rfl b1
  have V2 := mkV_of (K := K) (fs := fs) (told := told ++ zzW f.2 f.2) (k := 0 + 4) (ce := hdX5 K s2 [.dic (encT tupS (told ++ zzW f.2 f.2))]) rfl b2
  have hfn : okS f.1 = true := (hok f hf).n2
  have oi : okS "InvalidNote" = true := by decide +kernel
  have oz : okS "zza" = true := by decide +kernel
  have al1 := fun ce => S_alike (K := K) 7 (.tup [.str "InvalidNote", .str f.1]) ce (by simp [alD, oi, hfn])
  have al2 := fun ce => S_alike (K := K) 7 (.tup [.str "InvalidNote", .str "zza"]) ce (by simp [alD, oi, oz])
  have ht1 : ∀ a, (hdX5 K s2 a)[1]? = some (.tab (tabA K "_law_wrong").2 (lamN "_law_wrong")) := fun _ => rfl
  have pu1 : putA (encT tupS told) (.inr "zzz") (T.d (.tup (f.2.map .str))) = encT tupS (told ++ [(("zzz" : Str), f.2)]) := by
    have := putA_enc tupS told "zzz" f.2
    rw [putL_new (by rw [hkeys]; exact hsix.1)] at this
    exact this
  have pu2 : putA (encT tupS (told ++ [(("zzz" : Str), f.2)])) (.inr "zza") (T.d (.tup (f.2.map .str))) = encT tupS (told ++ zzW f.2 f.2) := by
    have := putA_enc tupS (told ++ [(("zzz" : Str), f.2)]) "zza" f.2
    rw [putL_new (by
      rw [List.map_append, hkeys]
      intro h
      rcases List.mem_append.mp h with h | h
      · exact hsix.2 h
      · exact absurd (List.mem_singleton.mp h) (by decide +kernel : ("zza" : Str) ≠ "zzz"))] at this
    rw [List.append_assoc] at this
    exact this
  have ln1 : told.length < 16777216 := by omega
  have ln2 : (told ++ [(("zzz" : Str), f.2)]).length < 16777216 := by rw [List.length_append]; show told.length + 1 < 16777216; omega
  rw [mLam_at (ht1 _), S_fail_i (n := f.1) (ce' := hdX5 K s2 [.dic (encT tupS told)]) (by simp_arith [14, V1])]
  simp_arith [14, al1, pu1, ln1]
  rw [pu2, mLam_at (ht1 _), S_fail_i (n := "zza") (ce' := hdX5 K s2 [.dic (encT tupS (told ++ zzW f.2 f.2))]) (by simp_arith [14, V2])]
  simp_arith [14, al2]
  exact retR_hdX5 s s2 [] [_] _
end
open PySem L2 He DL
theorem split_firstW (P : Feat → Bool) : ∀ l : List Feat, (∀ f ∈ l, P f = false) ∨ ∃ pre f post, l = pre ++ f :: post ∧ (∀ g ∈ pre, P g = false) ∧ P f = true
  | [] => .inl fun _ h => absurd h (by simp)
  | f :: l => by
    cases q : P f with
    | true => exact .inr ⟨[], f, l, rfl, fun _ h => absurd h (by simp), q⟩
    | false =>
      rcases split_firstW P l with h | ⟨pre, g, post, e, h1, h2⟩
      · refine .inl fun g hg => ?_
        rcases List.mem_cons.mp hg with rfl | hg
        · exact q
        · exact h g hg
      · refine .inr ⟨f :: pre, g, post, by rw [e]; rfl, fun x hx => ?_, h2⟩
        rcases List.mem_cons.mp hx with rfl | hx
        · exact q
        · exact h1 x hx
theorem filter_splitW {P : Feat → Bool} {l pre post : List Feat} {f : Feat} (e : l = pre ++ f :: post) (h1 : ∀ g ∈ pre, P g = false) (h2 : P f = true) : l.filter P = f :: post.filter P := by
  rw [e, List.filter_append, List.filter_eq_nil_iff.mpr (fun g hg => by rw [h1 g hg]; exact Bool.false_ne_true), List.filter_cons_of_pos h2]
  rfl
theorem valA_encKW {α : Type} (enc : α → D) (l : List (Str × α)) (n : Str) : valA (encK enc l) (.inr n) = (look l n).map enc := by
  induction l with
  | nil => rfl
  | cons p r ih =>
    unfold encK valA look at *
    rw [List.map_cons, List.find?_cons, List.find?_cons]
    by_cases q : p.1 = n
    · simp [q]
    · have q' : ¬ ((Sum.inr p.1 : Key) = .inr n) := fun h => q (Sum.inr.inj h)
      rw [decide_eq_false q, decide_eq_false q']
      exact ih
theorem eqK_sameW {α : Type} {enc : α → D} {l : List (Str × α)} (nd : (l.map (·.1)).Nodup) (h : ∀ p ∈ l, eqD (enc p.2) (enc p.2) = true) : eqK (encK enc l) (encK enc l) = true := by
  unfold eqK
  rw [Bool.and_eq_true]
  refine ⟨by simp, ?_⟩
  rw [List.all_eq_true]
  intro p hp
  obtain ⟨q, hq, rfl⟩ := List.mem_map.mp hp
  have e := valA_encKW enc l q.1
  rw [look_of nd hq] at e
  show (match valA (encK enc l) (.inr q.1) with | some u => eqD (enc q.2) u | none => false) = true
  rw [e]
  exact h q hq
theorem neq_reflW {fs : List Feat} (hok : ∀ f ∈ fs, okF f) (hnd : (fs.map (·.1)).Nodup) {st : Sets} (h : SetsOf fs st) : neq3 st st = true := by
  have nd : (st.map (·.1)).Nodup := by rw [h.1]; exact hnd
  have ov := List.all_eq_true.mp (okV_sets3 hok hnd h)
  unfold neq3
  exact eqK_sameW (enc := tupS) nd fun p hp => eqD_refl (okD_ok _ _ (ov _ (List.mem_map.mpr ⟨p, hp, rfl⟩)))
noncomputable def T_k02 (K : PySem.W.Frag) : MS := (sSeq (sAsg (mOp oIxM (mVar 3) (mCall (F__law_next K) (mCons (mVar 1) (mCons (mCB oLenM (mCons (mVar 3) mNil)) mNil)))) (DL.gTup 2 (DL.gCons (DL.gName 11) (DL.gCons (DL.gName 12) DL.gNil)))) (sSeq (sSet 10 (mOp oIxM (mOp oAddM (mVar 12) (mTup (mCons (mC (.str "nosuch")) mNil))) (mCall (F__law_next K) (mCons (mVar 1) (mCons (mOp oAddM (mCB oLenM (mCons (mVar 12) mNil)) (mC (.int 1))) mNil))))) (sSeq (sSet 14 (mTup (mCons (mC (.str "Conflict")) (mCons (mVar 11) mNil)))) (sSeq (sIf (mTB (mOp (oInM false) (mVar 10) (mOp oDGetM (mVar 5) (mVar 11)))) (sSet 14 (mCB oDictM (mCons (mLc (mIt itDK (mVar 5)) (DL.gName 15) mYes (mTup (mCons (mVar 15) (mCons (mIfE (mTB (mOp (oEqM true) (mVar 15) (mVar 11))) (mOp oDGetM (mVar 5) (mVar 15)) (mTup (mCons (mVar 10) mNil))) mNil))) [15]) mNil))) sNext) (sSeq (sIf (mNotT (mTru (mCall (F__law_same K) (mCons (mLam 0 (tabA K "law").2 lamQ (F__law_fail_v2 K) (mMeth (ga K "Note") "narrowed" (F_Note_narrowed K) (mVar 7) (mCons (mVar 11) (mCons (mVar 10) mNil)))) (mCons (mVar 3) (mCons (mVar 14) mNil)))))) (sRet (mC (.bl false))) sNext) (sSeq (sSet 16 (mLst (mCons (mLam 0 (tabA K "law").2 lamQ (F__law_fail_v2 K) (mMeth (ga K "Note") "narrowed" (F_Note_narrowed K) (mVar 7) (mCons (mC (.str "zzz")) (mCons (mVar 10) mNil)))) (mCons (mLam 0 (tabA K "law").2 lamQ (F__law_fail_v2 K) (mDfl (mGetO (ga K "Note") (F_Note___getitem__ K) (mVar 7) (mC (.str "zzz"))))) mNil)))) (sSeq (sIf (mNotT (mTru (mCall (F__law_alike K 8) (mCons (mVar 16) (mCons (mFrz (mOp oRepCM (mLstC (mCons (mC (.str "UnknownFeature")) mNil)) (mC (.int 2)))) mNil))))) (sRet (mC (.bl false))) sNext) (sIf (mNotT (mTru (mCall (F__law_wrong K) (mCons (mVar 1) (mCons (mVar 4) (mCons (mVar 3) (mCons (mVar 5) mNil))))))) (sRet (mC (.bl false))) sNext))))))))
theorem T_k02_eq (K : PySem.W.Frag) : T_k02 K = (sSeq (sAsg (mOp oIxM (mVar 3) (mCall (F__law_next K) (mCons (mVar 1) (mCons (mCB oLenM (mCons (mVar 3) mNil)) mNil)))) (DL.gTup 2 (DL.gCons (DL.gName 11) (DL.gCons (DL.gName 12) DL.gNil)))) (sSeq (sSet 10 (mOp oIxM (mOp oAddM (mVar 12) (mTup (mCons (mC (.str "nosuch")) mNil))) (mCall (F__law_next K) (mCons (mVar 1) (mCons (mOp oAddM (mCB oLenM (mCons (mVar 12) mNil)) (mC (.int 1))) mNil))))) (sSeq (sSet 14 (mTup (mCons (mC (.str "Conflict")) (mCons (mVar 11) mNil)))) (sSeq (sIf (mTB (mOp (oInM false) (mVar 10) (mOp oDGetM (mVar 5) (mVar 11)))) (sSet 14 (mCB oDictM (mCons (mLc (mIt itDK (mVar 5)) (DL.gName 15) mYes (mTup (mCons (mVar 15) (mCons (mIfE (mTB (mOp (oEqM true) (mVar 15) (mVar 11))) (mOp oDGetM (mVar 5) (mVar 15)) (mTup (mCons (mVar 10) mNil))) mNil))) [15]) mNil))) sNext) (sSeq (sIf (mNotT (mTru (mCall (F__law_same K) (mCons (mLam 0 (tabA K "law").2 lamQ (F__law_fail_v2 K) (mMeth (ga K "Note") "narrowed" (F_Note_narrowed K) (mVar 7) (mCons (mVar 11) (mCons (mVar 10) mNil)))) (mCons (mVar 3) (mCons (mVar 14) mNil)))))) (sRet (mC (.bl false))) sNext) (sSeq (sSet 16 (mLst (mCons (mLam 0 (tabA K "law").2 lamQ (F__law_fail_v2 K) (mMeth (ga K "Note") "narrowed" (F_Note_narrowed K) (mVar 7) (mCons (mC (.str "zzz")) (mCons (mVar 10) mNil)))) (mCons (mLam 0 (tabA K "law").2 lamQ (F__law_fail_v2 K) (mDfl (mGetO (ga K "Note") (F_Note___getitem__ K) (mVar 7) (mC (.str "zzz"))))) mNil)))) (sSeq (sIf (mNotT (mTru (mCall (F__law_alike K 8) (mCons (mVar 16) (mCons (mFrz (mOp oRepCM (mLstC (mCons (mC (.str "UnknownFeature")) mNil)) (mC (.int 2)))) mNil))))) (sRet (mC (.bl false))) sNext) (sIf (mNotT (mTru (mCall (F__law_wrong K) (mCons (mVar 1) (mCons (mVar 4) (mCons (mVar 3) (mCons (mVar 5) mNil))))))) (sRet (mC (.bl false))) sNext)))))))) := rfl
noncomputable def T2_k02 (K : PySem.W.Frag) : MS := (sSeq (sSet 16 (mLst (mCons (mLam 0 (tabA K "law").2 lamQ (F__law_fail_v2 K) (mMeth (ga K "Note") "narrowed" (F_Note_narrowed K) (mVar 7) (mCons (mC (.str "zzz")) (mCons (mVar 10) mNil)))) (mCons (mLam 0 (tabA K "law").2 lamQ (F__law_fail_v2 K) (mDfl (mGetO (ga K "Note") (F_Note___getitem__ K) (mVar 7) (mC (.str "zzz"))))) mNil)))) (sSeq (sIf (mNotT (mTru (mCall (F__law_alike K 8) (mCons (mVar 16) (mCons (mFrz (mOp oRepCM (mLstC (mCons (mC (.str "UnknownFeature")) mNil)) (mC (.int 2)))) mNil))))) (sRet (mC (.bl false))) sNext) (sIf (mNotT (mTru (mCall (F__law_wrong K) (mCons (mVar 1) (mCons (mVar 4) (mCons (mVar 3) (mCons (mVar 5) mNil))))))) (sRet (mC (.bl false))) sNext)))
theorem T2_k02_eq (K : PySem.W.Frag) : T2_k02 K = (sSeq (sSet 16 (mLst (mCons (mLam 0 (tabA K "law").2 lamQ (F__law_fail_v2 K) (mMeth (ga K "Note") "narrowed" (F_Note_narrowed K) (mVar 7) (mCons (mC (.str "zzz")) (mCons (mVar 10) mNil)))) (mCons (mLam 0 (tabA K "law").2 lamQ (F__law_fail_v2 K) (mDfl (mGetO (ga K "Note") (F_Note___getitem__ K) (mVar 7) (mC (.str "zzz"))))) mNil)))) (sSeq (sIf (mNotT (mTru (mCall (F__law_alike K 8) (mCons (mVar 16) (mCons (mFrz (mOp oRepCM (mLstC (mCons (mC (.str "UnknownFeature")) mNil)) (mC (.int 2)))) mNil))))) (sRet (mC (.bl false))) sNext) (sIf (mNotT (mTru (mCall (F__law_wrong K) (mCons (mVar 1) (mCons (mVar 4) (mCons (mVar 3) (mCons (mVar 5) mNil))))))) (sRet (mC (.bl false))) sNext))) := rfl
def I02 (K : PySem.W.Frag) (ns : List Int) : Sl → Ce → Prop := fun sl c => ∃ s x2 x3 x4 x5 x6 x7 x8 x9 x10 x11 x12 x13 x14 x15 x16, DrOk s ∧ sl = [some (.d (.lst (ns.map .int))), some (.cel 3), x2, x3, x4, x5, x6, x7, x8, x9, x10, x11, x12, x13, x14, x15, x16] ∧ c = hdX5 K s []
theorem a_isW {fs : List Feat} (hnd : (fs.map (·.1)).Nodup) {st : Sets} (h : SetsOf fs st) : st = fs.map fun g => (g.1, valS st g.1) := by
  have e1 : st = (st.map (·.1)).map fun n => (n, valS st n) := by
    rw [List.map_map]
    conv => lhs; rw [← List.map_id st]
    refine List.map_congr_left fun p hp => ?_
    obtain ⟨_, _, _, l1, _, _⟩ := mem_st hnd h hp
    show p = (p.1, valS st p.1)
    unfold valS
    rw [l1]
    rfl
  conv => lhs; rw [e1]
  rw [h.1, List.map_map]
  rfl
theorem nr_told {fs : List Feat} (hnd : (fs.map (·.1)).Nodup) {st : Sets} (h : SetsOf fs st) (f : Feat) (v : Str) : nrS fs st f.1 v = toldW st f.1 [v] := by
  unfold toldW
  conv => rhs; rw [a_isW hnd h]
  rw [List.map_map]
  unfold nrS noteSets
  refine List.map_congr_left fun g hg => ?_
  rw [nr_look hnd h hg]
  rfl
theorem S_law_k02 {ns : List Int} (hl : ns.length ≤ 900) (dd3 : Dif3 K) : F_law_k02 K [.d (.lst (ns.map .int))] [tabL K, tabWr K] = .ok (.d (.bl true)) [tabL K, tabWr K] := by
  obtain ⟨s0, hs0, _, e0⟩ := S_mixX5 (K := K) (sd := 2) hl
  rw [F_law_k02_eq]; unfold B_law_k02
  simp_arith [14, e0]
  generalize hr : forL _ _ _ _ _ = r
  obtain ⟨sl', ce', rfl, s', x2, x3, x4, x5, x6, x7, x8, x9, x10, x11, x12, x13, x14, x15, x16, hs', rfl, rfl⟩ := forL_use hr (fun i : Nat => T.d (.int i)) (List.range 4) (fun _ => I02 K ns) rfl ⟨s0, none, none, none, none, none, none, none, none, none, none, none, none, none, none, none, hs0, rfl, rfl⟩ (by
    rintro pre t post sl c hpp ⟨s, x2, x3, x4, x5, x6, x7, x8, x9, x10, x11, x12, x13, x14, x15, x16, hs, rfl, rfl⟩
    obtain ⟨fs, s1, g, f1, f4, hs1, e1⟩ := S_featsX5 (K := K) (most := 4) (rest := []) hs (by decide) (by decide)
    have hnd := g.nodup (by omega)
    have hok := g.ok (by omega)
    have hpw : ∀ f ∈ fs, Pw f.2 := fun f hf => by
      obtain ⟨k, _, gg⟩ := g.mem hf
      exact gg.pw
    have hcond : ∀ f ∈ fs, f.2 ≠ [] ∧ f.2.length ≤ 5 ∧ ∀ w ∈ f.2, okS w = true := fun f hf => by
      obtain ⟨k, _, gg⟩ := g.mem hf
      exact ⟨gg.ne, gg.len, gg.okw⟩
    obtain ⟨a, s2, ha, hs2, e2⟩ := S_setsX5 (K := K) (rest := []) hs1 hnd (by omega) hcond
    obtain ⟨b, s3, hb, hs3, e3⟩ := S_setsX5 (K := K) (rest := []) hs2 hnd (by omega) hcond
    have cat := fun ce => mk_cat (K := K) (fs := fs) (ce := ce) (good_cat g f1 (by omega))
    have nt := fun ce => S_note (K := K) (fs := fs) (st := a) (ce := ce) (by omega) hnd hok hpw ha
    have n2 := fun ce => S_noteF2 (K := K) (fs := fs) (st := b) (ce := ce) (by omega) hnd hok hpw hb
    have n1 := fun ce => S_noteF2 (K := K) (fs := fs) (st := a) (ce := ce) (by omega) hnd hok hpw ha
    have sa := fun ce => S_same (K := K) (fs := fs) (st := a) (ce := ce) (by omega) hnd hok ha
    have sb := fun ce => S_same (K := K) (fs := fs) (st := b) (ce := ce) (by omega) hnd hok hb
    have cq := fun ce => S_cat_eq (K := K) (fs := fs) (gs := fs) (ce := ce) hok hok
    have hself : eqD (featsD fs) (featsD fs) = true := eqD_refl (okD_ok _ _ (feats_ok hok (n := 0)))
    rw [hself] at cq
    have qab := fun ce => S_note_eq3 (K := K) (ce := ce) hok hnd ha hb
    have qaa := fun ce => S_note_eq3 (K := K) (ce := ce) hok hnd ha ha
    rw [neq_reflW hok hnd ha] at qaa
    have hdec : decide (neq3 a b = eqK (encK tupS a) (encK tupS b)) = true := decide_eq_true rfl
    have ova := okV_sets3 hok hnd ha
    have ovb := okV_sets3 hok hnd hb
    obtain ⟨i, s4, i0, i1, hs4, e4⟩ := S_nextX5 (K := K) (lim := (fs.length : Int)) (rest := []) hs3 (by omega) (by omega)
    have hi : i.toNat < fs.length := by omega
    obtain ⟨f, hfe⟩ : ∃ f, f = fs[i.toNat] := ⟨_, rfl⟩
    have hf : f ∈ fs := by rw [hfe]; exact List.getElem_mem hi
    have q1 : atI (fs.map featD) i = some (featD f) := by
      rw [hfe]
      exact at_mapW _ fs i0 hi
    obtain ⟨kf, _, gf⟩ := g.mem hf
    have gl := gf.len
    obtain ⟨j, s5, j0, j1, hs5, e5⟩ := S_nextX5 (K := K) (lim := (f.2.length : Int) + 1) (rest := []) hs4 (by omega) (by omega)
    obtain ⟨s6, hs6, e6⟩ := S__law_wrong (K := K) g f1 f4 ha hs5
    replace e1 : F__law_features K [.cel 3, .d (.int 4)] (hdX5 K s []) = .ok (.d (featsD fs)) (hdX5 K s1 []) := e1
    replace e2 : F__law_sets K [.cel 3, .d (featsD fs)] (hdX5 K s1 []) = .ok (.d (.dic (encK tupS a))) (hdX5 K s2 []) := e2
    replace e3 : F__law_sets K [.cel 3, .d (featsD fs)] (hdX5 K s2 []) = .ok (.d (.dic (encK tupS b))) (hdX5 K s3 []) := e3
    replace e4 : F__law_next K [.cel 3, .d (.int (fs.length : Int))] (hdX5 K s3 []) = .ok (.d (.int i)) (hdX5 K s4 []) := e4
    simp_arith [14, e1, e2, e3, e4, cat, nt, n2, n1, sa, sb, cq, qab, qaa, ova, ovb, hdec]
    rw [show List.map T.d (List.map featD fs) = fs.map (fun f => T.d (featD f)) by simp, compM_all (fun f : Feat => T.d (featD f)) (fun f => D.tup [.str f.1, tupS (comL (valS a f.1) (valS b f.1))]) (hdX5 K s3 []) fs (fun f hf => by
      obtain ⟨a1, a2, a3⟩ := ha.val hf
      obtain ⟨b1, b2, b3⟩ := hb.val hf
      have va := valA_enc tupS a f.1
      have vb := valA_enc tupS b f.1
      rw [a1] at va
      rw [b1] at vb
      have va : valA (encT tupS a) (.inr f.1) = some (T.d (.tup ((valS a f.1).map .str))) := va
      have vb : valA (encT tupS b) (.inr f.1) = some (T.d (.tup ((valS b f.1).map .str))) := vb
      have l1 : (valS a f.1).length < 1000000 := by
        have := a3.length_le
        have := (hok f hf).l
        omega
      have l2 : (comL (valS a f.1) (valS b f.1)).length ≤ 1000 := Nat.le_trans (comL_sub (a := valS a f.1) (b := valS b f.1)).length_le (Nat.le_trans a3.length_le (hok f hf).l)
      simp_arith [14, featD, va, vb, l1]
      rw [show List.map T.d (List.map D.str (valS a f.1)) = (valS a f.1).map (fun w => T.d (.str w)) by simp, compM_filter (fun w : Str => T.d (.str w)) (fun w => decide (w ∈ valS b f.1)) (fun w => D.str w) (hdX5 K s3 []) (valS a f.1) (fun w hw => by
        simp_arith [14, vb]
        cases decide (w ∈ valS b f.1) <;> rfl)]
      rw [show (valS a f.1).filter (fun w => decide (w ∈ valS b f.1)) = comL (valS a f.1) (valS b f.1) from rfl]
      simp_arith [14, tupS])]
    have hpM : pairsD (fs.map fun f => D.tup [.str f.1, tupS (comL (valS a f.1) (valS b f.1))]) = some (encK tupS (bothS fs a b)) := by
      rw [← pairs_enc tupS (bothS fs a b)]
      unfold bothS
      rw [List.map_map]
      rfl
    have hmM := merge_nil tupS (bothS fs a b) (by rw [bothS_fst]; exact hnd)
    simp_arith [14, hpM, hmM]
    rw [show List.map T.d (List.map featD fs) = fs.map (fun f => T.d (featD f)) by simp, compM_filter (fun f : Feat => T.d (featD f)) (fun f => decide (comL (valS a f.1) (valS b f.1) = [])) (fun f => D.str f.1) (hdX5 K s3 []) fs (fun f hf => by
      have vm := valA_enc tupS (bothS fs a b) f.1
      rw [bothS_look hnd a b hf] at vm
      have vm : valA (encT tupS (bothS fs a b)) (.inr f.1) = some (T.d (.tup ((comL (valS a f.1) (valS b f.1)).map .str))) := vm
      have hcm : ∀ w ∈ comL (valS a f.1) (valS b f.1), okS w = true := fun w hw => ((hok f hf).w w ((ha.val hf).2.2.subset (comL_sub.subset hw))).2
      have o1 : okD 16 (.tup ((comL (valS a f.1) (valS b f.1)).map D.str)) = true := by rw [okD_tup]; exact okD_strs hcm
      have hq := eqD_tups (a := comL (valS a f.1) (valS b f.1)) (b := []) hcm (by simp)
      rw [List.map_nil] at hq
      simp_arith [14, featD, vm, o1, hq]
      cases decide (comL (valS a f.1) (valS b f.1) = []) <;> rfl)]
    rw [← T_k02_eq]
    have ht0 : ∀ s r, (hdX5 K s r)[0]? = some (.tab (tabA K "law").2 lamQ) := fun _ _ => rfl
    have oc : okS "Conflict" = true := by decide +kernel
    have tail : ∀ y13 y14 : Option T, RS.Nx (I02 K ns) (T_k02 K [some (.d (.lst (ns.map .int))), some (.cel 3), some (.d (.int t)), some (.d (featsD fs)), some (.d (catD K fs)), some (.d (.dic (encK tupS a))), some (.d (.dic (encK tupS b))), some (.d (noteD K fs a)), some (.d (noteD K fs b)), some (.d (.dic (encK tupS (bothS fs a b)))), x10, x11, x12, y13, y14, x15, x16] (hdX5 K s3 [])) := fun y13 y14 => by
      unfold T_k02
      have hcnt : ∀ ce, cntD ce (T.d (featsD fs)) = some fs.length := fun ce => by
        show some (fs.map featD).length = _
        rw [List.length_map]
      have hix : ∀ ce, oIxM (T.d (featsD fs)) (.d (.int i)) ce = .ok (.d (.tup [.str f.1, .tup (f.2.map .str)])) ce := fun ce => by
        show oIxM (T.d (.tup (fs.map featD))) (.d (.int i)) ce = _
        simp_arith [14, q1, featD]
      obtain ⟨v, hv, hvo⟩ : ∃ v : Str, atI (f.2.map D.str ++ [.str "nosuch"]) j = some (.str v) ∧ okS v = true := by
        rcases Nat.lt_or_ge j.toNat f.2.length with h | h
        · refine ⟨f.2[j.toNat], atI_get j0 ?_, gf.okw _ (List.getElem_mem h)⟩
          rw [List.getElem?_append_left (by rw [List.length_map]; exact h), List.getElem?_map, List.getElem?_eq_getElem h]
          rfl
        · refine ⟨"nosuch", atI_get j0 ?_, by decide +kernel⟩
          rw [List.getElem?_append_right (by rw [List.length_map]; exact h), List.length_map, show j.toNat - f.2.length = 0 by omega]
          rfl
      replace e5 : F__law_next K [.cel 3, .d (.int ((f.2.length : Int) + 1))] (hdX5 K s4 []) = .ok (.d (.int j)) (hdX5 K s5 []) := e5
      obtain ⟨a1, a2, a3⟩ := ha.val hf
      have va := valA_enc tupS a f.1
      rw [a1] at va
      have va : valA (encT tupS a) (.inr f.1) = some (T.d (.tup ((valS a f.1).map .str))) := va
      have hl2 : f.2.length + (0 + 1) ≤ 16777216 := by omega
      have hz : look a "zzz" = none := by
        cases q : look a "zzz" with
        | none => rfl
        | some ws =>
          have hm : ("zzz" : Str) ∈ fs.map (·.1) := by rw [← ha.1]; exact List.mem_map.mpr ⟨_, look_mem q, rfl⟩
          rw [g.names (by omega)] at hm
          exact absurd (List.mem_of_mem_take hm) (by decide +kernel)
      have g1 := fun v ce => S_narrowed_no2 (K := K) (fs := fs) (ce := ce) (st := a) (n := "zzz") (v := v) hz
      have g2 := fun ce => S_getitem_no2 (K := K) (fs := fs) (ce := ce) (st := a) (n := "zzz") hz
      have ou : okS "UnknownFeature" = true := by decide +kernel
      have al := fun ce => S_alike (K := K) 7 (.lst [.str "UnknownFeature", .str "UnknownFeature"]) ce (by simp [alD, ou])
      have tail2 : ∀ y14 : Option T, RS.Nx (I02 K ns) (T2_k02 K [some (.d (.lst (ns.map .int))), some (.cel 3), some (.d (.int t)), some (.d (featsD fs)), some (.d (catD K fs)), some (.d (.dic (encK tupS a))), some (.d (.dic (encK tupS b))), some (.d (noteD K fs a)), some (.d (noteD K fs b)), some (.d (.dic (encK tupS (bothS fs a b)))), some (.d (.str v)), some (.d (.str f.1)), some (.d (.tup (f.2.map .str))), y13, y14, x15, x16] (hdX5 K s5 [])) := fun y14 => by
        unfold T2_k02
        simp_arith [14]
        rw [mLam_at (ht0 _ _), S_fail_u dd3 (ce' := hdX5 K s5 []) (by simp_arith [14, g1])]
        simp_arith [14]
        rw [mLam_at (ht0 _ _), S_fail_u dd3 (ce' := hdX5 K s5 []) (by simp_arith [14, g2])]
        simp_arith [14]
        have hret : retR (hdX5 K s5 []) (T.cel (0 + 1 + 4)) (hdX5 K s5 [.lst [.d (.str "UnknownFeature")], .lst [.d (.str "UnknownFeature"), .d (.str "UnknownFeature")]]) = .ok (.d (.lst [.str "UnknownFeature", .str "UnknownFeature"])) (hdX5 K s5 []) := by
          have h := retR_hdNX5 (K := K) (s := s5) (s' := s5) (a := []) (l := [.lst [.d (.str "UnknownFeature")], .lst [.d (.str "UnknownFeature"), .d (.str "UnknownFeature")]]) (i := 1)
          rw [show (([] : Ce).length + 1 + 4) = 0 + 1 + 4 from rfl, List.nil_append] at h
          rw [h]
          rfl
        simp_arith [14, hret, al, e6]
        exact ⟨s6, _, _, _, _, _, _, _, _, _, _, _, _, _, _, _, hs6, rfl, rfl⟩
      rw [← T2_k02_eq]
      simp_arith [14, hcnt, hix, e4, e5, hv, va, hl2]
      by_cases hvm : v ∈ valS a f.1
      · have hd1 : decide (v ∈ valS a f.1) = true := decide_eq_true hvm
        have nw := fun ce => S_narrowed (K := K) (ce := ce) (by omega) hnd hok hpw ha hf hvm
        have sm := fun ce => S_same (K := K) (ce := ce) (by omega) hnd hok (nr_sets hnd ha hf hvm)
        have hp1 : pairsD (a.map fun p => D.tup [.str p.1, tupS (if p.1 = f.1 then [v] else p.2)]) = some (encK tupS (nrS fs a f.1 v)) := by
          rw [nr_told hnd ha, ← pairs_enc tupS (toldW a f.1 [v])]
          unfold toldW
          rw [List.map_map]
          rfl
        have hm1 := merge_nil tupS (nrS fs a f.1 v) (by rw [(nr_sets hnd ha hf hvm).1]; exact hnd)
        have hal : a.length < 1000000 := by
          have := congrArg List.length ha.1
          rw [List.length_map, List.length_map] at this
          omega
        simp_arith [14, hd1, hal]
        rw [compM_all (fun p : Str × List Str => T.d (.str p.1)) (fun p => D.tup [.str p.1, tupS (if p.1 = f.1 then [v] else p.2)]) (hdX5 K s5 []) a (fun p hp => by
          obtain ⟨_, _, _, l1, _, _⟩ := mem_st hnd ha hp
          have hv := valA_enc tupS a p.1
          rw [l1] at hv
          have hv : valA (encT tupS a) (.inr p.1) = some (T.d (.tup (p.2.map .str))) := hv
          by_cases e : p.1 = f.1
          · simp_arith [14, e, hv, tupS]
          · simp_arith [14, e, hv, tupS])]
        simp_arith [14, hp1, hm1]
        rw [mLam_at (ht0 _ _), S_fail_ok2 (t := .d (noteD K fs (nrS fs a f.1 v))) (ce' := hdX5 K s5 []) (by simp_arith [14, nw])]
        simp_arith [14, sm]
        exact tail2 _
      · have hd1 : decide (v ∈ valS a f.1) = false := decide_eq_false hvm
        have nw := fun ce => S_narrowed_bad2 (K := K) (fs := fs) (ce := ce) a1 hvm
        have sm := fun ce => S_same_t (K := K) (fs := fs) (ce := ce) oc (hok f hf).n2
        simp_arith [14, hd1]
        rw [mLam_at (ht0 _ _), S_fail_c dd3 (n := f.1) (ce' := hdX5 K s5 []) (by simp_arith [14, nw])]
        simp_arith [14, sm]
        exact tail2 _
    rcases split_firstW (fun f => decide (comL (valS a f.1) (valS b f.1) = [])) fs with hall | ⟨pr, f0, po, hsp, h1, h2⟩
    · have hfil : fs.filter (fun f => decide (comL (valS a f.1) (valS b f.1) = [])) = [] := List.filter_eq_nil_iff.mpr fun f hf => by rw [hall f hf]; exact Bool.false_ne_true
      have hne : ∀ f ∈ fs, comL (valS a f.1) (valS b f.1) ≠ [] := fun f hf => of_decide_eq_false (hall f hf)
      have bo := fun ce => S_both (K := K) (ce := ce) (by omega) hnd hok hpw ha hb hne
      have sm := fun ce => S_same (K := K) (ce := ce) (by omega) hnd hok (bothS_sets hnd ha hne)
      rw [hfil]
      simp_arith [14, List.map_nil]
      rw [mLam_at (ht0 _ _), S_fail_ok2 (t := .d (noteD K fs (bothS fs a b))) (ce' := hdX5 K s3 []) (by simp_arith [14, bo])]
      simp_arith [14, sm]
      exact tail _ _
    · have hfil := filter_splitW hsp h1 h2
      have f0m : f0 ∈ fs := by rw [hsp]; simp
      have oks : ∀ w ∈ f0.1 :: (po.filter fun f => decide (comL (valS a f.1) (valS b f.1) = [])).map (·.1), okS w = true := fun w hw => by
        rcases List.mem_cons.mp hw with rfl | hw
        · exact (hok f0 f0m).n2
        · obtain ⟨f, hf, rfl⟩ := List.mem_map.mp hw
          exact (hok f (by rw [hsp]; exact List.mem_append_right _ (List.mem_cons_of_mem _ (List.mem_filter.mp hf).1))).n2
      have he := eqD_strsN oks
      have o1 : okD 16 (.lst ((f0.1 :: (po.filter fun f => decide (comL (valS a f.1) (valS b f.1) = [])).map (·.1)).map D.str)) = true := by rw [okD_lst]; exact okD_strs oks
      rw [List.map_cons, List.map_map] at he o1
      have bo := fun ce => S_both_no (K := K) (ce := ce) (by omega) hnd hok ha hb hsp (fun g hg => of_decide_eq_false (h1 g hg)) (of_decide_eq_true h2)
      have sm := fun ce => S_same_t (K := K) (fs := fs) (ce := ce) oc (hok f0 f0m).n2
      have o2 : okD 16 (.lst []) = true := rfl
      rw [hfil, List.map_cons]
      change eqD (.lst (.str f0.1 :: List.map (fun f : Feat => D.str f.1) _)) _ = _ at he
      change okD 16 (.lst (.str f0.1 :: List.map (fun f : Feat => D.str f.1) _)) = _ at o1
      simp_arith [14, he, o1, o2]
      rw [mLam_at (ht0 _ _), S_fail_c dd3 (n := f0.1) (ce' := hdX5 K s3 []) (by simp_arith [14, bo])]
      simp_arith [14, sm]
      exact tail _ _)
  clear hr
  simp_arith [14]

end LD
namespace K02
open PySem PySem.Spec PyProof.Rows L2 He DL LD
variable {K : PySem.W.Frag} {mg : Str → Option Value} {base : Heap} {w : World}
theorem sc__law_mix : FnScope ["_law_script", "_law_seed", "_law_state", "_law_cell"] ["_law_script", "_law_seed"] (defScope (top 19)) := ⟨rfl, rfl, rfl, by decide +kernel, rfl, by decide +kernel, by decide +kernel⟩
theorem ok__law_mix (W : Wo K mg base) : FnX P w K mg base 1 (ga K "_law_mix") (phi (F__law_mix K)) := by
  have sc := sc__law_mix
  obtain ⟨fd, F⟩ := W.d__law_mix
  exact fnMK (fun_of F) sc (F.bindsN fun _ _ _ _ _ _ us hl => match us, hl with | [_, _], _ => rfl) W.X (fun cdv A outer s H E hr po => (ssm_cons (sm_set 2 sc.nd (em_var 1))
      (ssm_cons (sm_for po (im_list (em_var 0)) (gm_name 3 sc.nd) (ssm_one (sm_set 2 sc.nd (em_bin om_mod (em_callTy cm_int W.f_int boot_int' (am_cons (em_bin om_add (em_bin om_add (em_bin om_mul (em_var 2) em_int) (em_bin om_mod (em_callTy cm_int W.f_int boot_int' (am_cons (em_var 3) am_nil)) em_int)) em_int) am_nil)) em_int))))
      (ssm_one (sm_ret (em_lstC (am_cons (em_var 2) (am_cons (em_callTy cm_listC W.f_list boot_list' (am_cons (em_var 0) am_nil)) (am_cons em_int am_nil)))))))))
theorem sc__law_next : FnScope ["_law_h", "_law_limit", "_law_cell"] ["_law_h", "_law_limit"] (defScope (top 20)) := ⟨rfl, rfl, rfl, by decide +kernel, rfl, by decide +kernel, by decide +kernel⟩
theorem ok__law_next (W : Wo K mg base) : FnX P w K mg base 1 (ga K "_law_next") (phi (F__law_next K)) := by
  have sc := sc__law_next
  obtain ⟨fd, F⟩ := W.d__law_next
  exact fnM (fun_of F) sc (F.bindsN fun _ _ _ _ _ _ us hl => match us, hl with | [_, _], _ => rfl) W.X (fun cdv A outer s H E hr po => (ssm_cons (sm_set 2 sc.nd (em_ix (em_bin om_add (em_ix (em_var 0) em_int) (em_lst (am_cons em_int am_nil))) (em_bin om_mod (em_callTy cm_int W.f_int boot_int' (am_cons (em_ix (em_var 0) em_int) am_nil)) (em_callB (cm_max2 rfl) W.f_max boot_max' (am_cons em_int (am_cons (em_callB cm_len W.f_len boot_len' (am_cons (em_ix (em_var 0) em_int) am_nil)) am_nil))))))
      (ssm_cons (sm_if (tm_cmp om_ge (em_var 2) (em_bin om_pow em_int em_int)) (ssm_cons (sm_setI (em_ix (em_var 0) em_int) (em_bin om_mod (em_callTy cm_int W.f_int boot_int' (am_cons (em_ix (em_var 0) em_int) am_nil)) (em_callB cm_len W.f_len boot_len' (am_cons (em_ix (em_var 0) em_int) am_nil))) (em_bin om_fdiv (em_var 2) (em_var 1)))
      (ssm_one (sm_ret (em_bin om_mod (em_callTy cm_int W.f_int boot_int' (am_cons (em_var 2) am_nil)) (em_var 1))))) ssm_nil)
      (ssm_cons (sm_setI (em_var 0) em_int (em_bin om_mod (em_callTy cm_int W.f_int boot_int' (am_cons (em_bin om_add (em_bin om_add (em_bin om_mul (em_ix (em_var 0) em_int) em_int) (em_bin om_mul (em_var 2) em_int)) em_int) am_nil)) em_int))
      (ssm_cons (sm_setI (em_var 0) em_int (em_bin om_add (em_ix (em_var 0) em_int) em_int))
      (ssm_one (sm_ret (em_bin om_mod (em_callTy cm_int W.f_int boot_int' (am_cons (em_bin om_fdiv (em_ix (em_var 0) em_int) em_int) am_nil)) (em_var 1)))))))))
theorem sc__law_features : FnScope ["_law_h", "_law_most", "_law_found", "_law_k", "_law_words"] ["_law_h", "_law_most"] (defScope (top 22)) := ⟨rfl, rfl, rfl, by decide +kernel, rfl, by decide +kernel, by decide +kernel⟩
theorem ok__law_features (W : Wo K mg base) : FnX P w K mg base 2 (ga K "_law_features") (phi (F__law_features K)) := by
  have sc := sc__law_features
  obtain ⟨fd, F⟩ := W.d__law_features
  exact fnM (fun_of F) sc (F.bindsN fun _ _ _ _ _ _ us hl => match us, hl with | [_, _], _ => rfl) W.X (fun cdv A outer s H E hr po => (ssm_cons (sm_set 2 sc.nd (em_lstC am_nil))
      (ssm_cons (sm_for po (im_range1 (am_cons (em_bin om_add em_int (em_call (ok__law_next W) (hr.mono (by decide)) W.g__law_next W.k__law_next (am_cons (em_var 0) (am_cons (em_var 1) am_nil)))) am_nil) W.f_range) (gm_name 3 sc.nd) (ssm_cons (sm_set 4 sc.nd (em_lstC (am_cons em_str (am_cons em_str (am_cons em_str (am_cons em_str (am_cons em_str am_nil)))))))
      (ssm_cons (sm_while (fun _ _ => 6) po (tm_cmp om_gt (em_callB cm_len W.f_len boot_len' (am_cons (em_var 4) am_nil)) (em_bin om_add em_int (em_call (ok__law_next W) (hr.mono (by decide)) W.g__law_next W.k__law_next (am_cons (em_var 0) (am_cons em_int am_nil))))) (ssm_one (sm_expr (em_popAt (em_var 4) (am_cons (em_call (ok__law_next W) (hr.mono (by decide)) W.g__law_next W.k__law_next (am_cons (em_var 0) (am_cons (em_callB cm_len W.f_len boot_len' (am_cons (em_var 4) am_nil)) am_nil))) am_nil)))))
      (ssm_one (sm_expr (em_append (em_var 2) (am_cons (em_tup (am_cons (em_ix (em_lst (am_cons em_str (am_cons em_str (am_cons em_str (am_cons em_str (am_cons em_str (am_cons em_str am_nil))))))) (em_var 3)) (am_cons (em_callTy cm_tuple W.f_tuple boot_tuple' (am_cons (em_var 4) am_nil)) am_nil))) am_nil)))))))
      (ssm_one (sm_ret (em_callTy cm_tuple W.f_tuple boot_tuple' (am_cons (em_var 2) am_nil)))))))
theorem sc__law_some : FnScope ["_law_h", "_law_words", "_law_found", "_law_word"] ["_law_h", "_law_words"] (defScope (top 23)) := ⟨rfl, rfl, rfl, by decide +kernel, rfl, by decide +kernel, by decide +kernel⟩
theorem ok__law_some (W : Wo K mg base) : FnX P w K mg base 2 (ga K "_law_some") (phi (F__law_some K)) := by
  have sc := sc__law_some
  obtain ⟨fd, F⟩ := W.d__law_some
  exact fnM (fun_of F) sc (F.bindsN fun _ _ _ _ _ _ us hl => match us, hl with | [_, _], _ => rfl) W.X (fun cdv A outer s H E hr po => (ssm_cons (sm_if (tm_cmp (om_eq hr.units) (em_call (ok__law_next W) (hr.mono (by decide)) W.g__law_next W.k__law_next (am_cons (em_var 0) (am_cons em_int am_nil))) em_int) (ssm_one (sm_ret (em_var 1))) ssm_nil)
      (ssm_cons (sm_setLc 2 sc.nd (own := [("_law_word", 3)]) (im_tup (em_var 1)) (blkOk_by (by kernel_rfl)) (fun _ _ _ _ _ => (gm_name 3 sc.nd)) (fun _ _ _ _ _ => (tsm_one (tm_cmp (om_eq hr.units) (em_call (ok__law_next W) (hr.mono (by decide)) W.g__law_next W.k__law_next (am_cons (em_var 0) (am_cons em_int am_nil))) em_int))) (fun _ _ _ _ _ => (em_var 3)))
      (ssm_one (sm_ret (em_ifExp (tm_cmp (om_ne hr.units) (em_var 2) (em_lst am_nil)) (em_callTy cm_tuple W.f_tuple boot_tuple' (am_cons (em_var 2) am_nil)) (em_tup (am_cons (em_ix (em_var 1) (em_call (ok__law_next W) (hr.mono (by decide)) W.g__law_next W.k__law_next (am_cons (em_var 0) (am_cons (em_callB cm_len W.f_len boot_len' (am_cons (em_var 1) am_nil)) am_nil)))) am_nil))))))))
theorem sc__law_sets : FnScope ["_law_h", "_law_features_here", "_law_name", "_law_words"] ["_law_h", "_law_features_here"] (defScope (top 24)) := ⟨rfl, rfl, rfl, by decide +kernel, rfl, by decide +kernel, by decide +kernel⟩
theorem ok__law_sets (W : Wo K mg base) : FnX P w K mg base 3 (ga K "_law_sets") (phi (F__law_sets K)) := by
  have sc := sc__law_sets
  obtain ⟨fd, F⟩ := W.d__law_sets
  exact fnM (fun_of F) sc (F.bindsN fun _ _ _ _ _ _ us hl => match us, hl with | [_, _], _ => rfl) W.X (fun cdv A outer s H E hr po => (ssm_one (sm_ret (em_callTy (cm_dict rfl) W.f_dict boot_dict' (am_cons (em_lc sc.nd (own := [("_law_name", 2), ("_law_words", 3)]) (im_tup (em_var 1)) (blkOk_by (by kernel_rfl)) (fun _ _ _ _ _ => (gm_tup (n := 2) (gsm_cons (gm_name 2 sc.nd) (gsm_cons (gm_name 3 sc.nd) gsm_nil)))) (fun _ _ _ _ _ => tsm_nil) (fun _ _ _ _ _ => (em_tup (am_cons (em_var 2) (am_cons (em_call (ok__law_some W) (hr.mono (by decide)) W.g__law_some W.k__law_some (am_cons (em_var 0) (am_cons (em_var 3) am_nil))) am_nil))))) am_nil)))))
theorem sc_is_word : FnScope ["text", "letter"] ["text"] (defScope (top 11)) := ⟨rfl, rfl, rfl, by decide +kernel, rfl, by decide +kernel, by decide +kernel⟩
theorem ok_is_word (W : Wo K mg base) : FnX P w K mg base 1 (ga K "is_word") (phi (F_is_word K)) := by
  have sc := sc_is_word
  obtain ⟨fd, F⟩ := W.d_is_word
  exact fnM (fun_of F) sc (F.bindsN fun _ _ _ _ _ _ us hl => match us, hl with | [_], _ => rfl) W.X (fun cdv A outer s H E hr po => (ssm_one (sm_ret (em_and (em_chain om_le om_le em_int (em_callB cm_len W.f_len boot_len' (am_cons (em_var 0) am_nil)) (em_gint W.i_MAX_LETTERS)) (em_one (em_cmp (om_eq hr.units) (em_lc sc.nd (own := [("letter", 1)]) (im_str (em_var 0)) (blkOk_by (by kernel_rfl)) (fun _ _ _ _ _ => (gm_name 1 sc.nd)) (fun _ _ _ _ _ => (tsm_one (tm_cmp om_notin (em_var 1) (em_gstr W.s_LETTERS)))) (fun _ _ _ _ _ => (em_var 1))) (em_lst am_nil)))))))
theorem sc_is_rising : FnScope ["words", "one", "other"] ["words"] (defScope (top 12)) := ⟨rfl, rfl, rfl, by decide +kernel, rfl, by decide +kernel, by decide +kernel⟩
theorem ok_is_rising (W : Wo K mg base) : FnX P w K mg base 1 (ga K "is_rising") (phi (F_is_rising K)) := by
  have sc := sc_is_rising
  obtain ⟨fd, F⟩ := W.d_is_rising
  exact fnM (fun_of F) sc (F.bindsN fun _ _ _ _ _ _ us hl => match us, hl with | [_], _ => rfl) W.X (fun cdv A outer s H E hr po => (ssm_one (sm_ret (em_callB (cm_all rfl) W.f_all boot_all' (am_cons (em_lc sc.nd (own := [("one", 1), ("other", 2)]) (im_zip (am_cons (em_var 0) (am_cons (em_slice (em_var 0) (om_some em_int) om_none) am_nil)) W.f_zip) (blkOk_by (by kernel_rfl)) (fun _ _ _ _ _ => (gm_tup (n := 2) (gsm_cons (gm_name 1 sc.nd) (gsm_cons (gm_name 2 sc.nd) gsm_nil)))) (fun _ _ _ _ _ => tsm_nil) (fun _ _ _ _ _ => (em_cmp om_lt (em_var 1) (em_var 2)))) am_nil)))))
theorem sc_is_feature : FnScope ["feature", "name", "values", "word"] ["feature"] (defScope (top 13)) := ⟨rfl, rfl, rfl, by decide +kernel, rfl, by decide +kernel, by decide +kernel⟩
theorem ok_is_feature (W : Wo K mg base) : FnX P w K mg base 2 (ga K "is_feature") (phi (F_is_feature K)) := by
  have sc := sc_is_feature
  obtain ⟨fd, F⟩ := W.d_is_feature
  exact fnM (fun_of F) sc (F.bindsN fun _ _ _ _ _ _ us hl => match us, hl with | [_], _ => rfl) W.X (fun cdv A outer s H E hr po => (ssm_cons (sm_asg (em_var 0) (gm_tup (n := 2) (gsm_cons (gm_name 1 sc.nd) (gsm_cons (gm_name 2 sc.nd) gsm_nil))))
      (ssm_cons (sm_if (wm_or (tm_not (tm_val (em_call (ok_is_word W) (hr.mono (by decide)) W.g_is_word W.k_is_word (am_cons (em_var 1) am_nil)))) (wm_or1 (tm_not (tm_chain om_le om_le em_int (em_callB cm_len W.f_len boot_len' (am_cons (em_var 2) am_nil)) (em_gint W.i_MAX_VALUES))))).tm (ssm_one (sm_ret em_bl)) ssm_nil)
      (ssm_one (sm_ret (em_and (em_callB (cm_all rfl) W.f_all boot_all' (am_cons (em_lc sc.nd (own := [("word", 3)]) (im_tup (em_var 2)) (blkOk_by (by kernel_rfl)) (fun _ _ _ _ _ => (gm_name 3 sc.nd)) (fun _ _ _ _ _ => tsm_nil) (fun _ _ _ _ _ => (em_call (ok_is_word W) (hr.mono (by decide)) W.g_is_word W.k_is_word (am_cons (em_var 3) am_nil)))) am_nil)) (em_one (em_call (ok_is_rising W) (hr.mono (by decide)) W.g_is_rising W.k_is_rising (am_cons (em_var 2) am_nil)))))))))
theorem sc_Catalog___init__ : FnScope ["self", "features", "index", "feature", "is_known", "earlier"] ["self", "features"] (defScope (inClass (top 14) 0)) := ⟨rfl, rfl, rfl, by decide +kernel, rfl, by decide +kernel, by decide +kernel⟩
theorem ok_Catalog___init__ (W : Wo K mg base) : FnX P w K mg base 3 (ma K (ga K "Catalog") "__init__") (phi (F_Catalog___init__ K)) := by
  have sc := sc_Catalog___init__
  obtain ⟨fd, F⟩ := W.d_Catalog___init__
  exact fnMK (fun_of F) sc (F.bindsN fun _ _ _ _ _ _ us hl => match us, hl with | [_, _], _ => rfl) W.X (fun cdv A outer s H E hr po => (ssm_cons (sm_for po (im_enum (am_cons (em_var 1) am_nil) W.f_enumerate) (gm_tup (n := 2) (gsm_cons (gm_name 2 sc.nd) (gsm_cons (gm_name 3 sc.nd) gsm_nil))) (ssm_cons (sm_set 4 sc.nd (em_cmp om_in (em_ix (em_var 3) em_int) (em_lc sc.nd (own := [("earlier", 5)]) (im_tup (em_slice (em_var 1) om_none (om_some (em_var 2)))) (blkOk_by (by kernel_rfl)) (fun _ _ _ _ _ => (gm_name 5 sc.nd)) (fun _ _ _ _ _ => tsm_nil) (fun _ _ _ _ _ => (em_ix (em_var 5) em_int)))))
      (ssm_one (sm_if (wm_or (tm_cmp (om_eq hr.units) (em_var 2) (em_gint W.i_MAX_FEATURES)) (wm_or (tm_val (em_var 4)) (wm_or1 (tm_not (tm_val (em_call (ok_is_feature W) (hr.mono (by decide)) W.g_is_feature W.k_is_feature (am_cons (em_var 3) am_nil))))))).tm (ssm_one (sm_raise (xm_kw W.mk_InvalidCatalog W.g_InvalidCatalog hr (km_cons (em_var 2) km_nil)))) ssm_nil))))
      (ssm_cons (sm_if (tm_cmp (om_eq hr.units) (em_callB cm_len W.f_len boot_len' (am_cons (em_var 1) am_nil)) em_int) (ssm_one (sm_raise (xm_kw W.mk_InvalidCatalog W.g_InvalidCatalog hr (km_cons em_int km_nil)))) ssm_nil)
      (ssm_one (sm_fld W.c_Catalog W.x_Catalog_parts (em_var 0) (em_var 1))))))
theorem sc_Catalog_names : FnScope ["self", "name", "words"] ["self"] (defScope (inClass (top 14) 2)) := ⟨rfl, rfl, rfl, by decide +kernel, rfl, by decide +kernel, by decide +kernel⟩
theorem ok_Catalog_names (W : Wo K mg base) : FnX P w K mg base 1 (pgA K "Catalog" "names").2 (phi (F_Catalog_names K)) := by
  have sc := sc_Catalog_names
  obtain ⟨fd, F⟩ := W.d_Catalog_names
  exact fnM (fun_of F) sc (F.bindsN fun _ _ _ _ _ _ us hl => match us, hl with | [_], _ => rfl) W.X (fun cdv A outer s H E hr po => (ssm_one (sm_ret (em_callTy cm_tuple W.f_tuple boot_tuple' (am_cons (em_lc sc.nd (own := [("name", 1), ("words", 2)]) (im_tup (em_fld (em_var 0) W.c_Catalog W.x_Catalog_parts)) (blkOk_by (by kernel_rfl)) (fun _ _ _ _ _ => (gm_tup (n := 2) (gsm_cons (gm_name 1 sc.nd) (gsm_cons (gm_name 2 sc.nd) gsm_nil)))) (fun _ _ _ _ _ => tsm_nil) (fun _ _ _ _ _ => (em_var 1))) am_nil)))))
theorem sc_Catalog___contains__ : FnScope ["self", "name"] ["self", "name"] (defScope (inClass (top 14) 4)) := ⟨rfl, rfl, rfl, by decide +kernel, rfl, by decide +kernel, by decide +kernel⟩
theorem ok_Catalog___contains__ (W : Wo K mg base) : FnX P w K mg base 3 (ma K (ga K "Catalog") "__contains__") (phi (F_Catalog___contains__ K)) := by
  have sc := sc_Catalog___contains__
  obtain ⟨fd, F⟩ := W.d_Catalog___contains__
  exact fnM (fun_of F) sc (F.bindsN fun _ _ _ _ _ _ us hl => match us, hl with | [_, _], _ => rfl) W.X (fun cdv A outer s H E hr po => (ssm_one (sm_ret (em_cmp om_in (em_var 1) (em_prop (em_var 0) W.c_Catalog W.p_Catalog_names (ok_Catalog_names W) (hr.mono (by decide)))))))
theorem sc_Catalog_features : FnScope ["self"] ["self"] (defScope (inClass (top 14) 1)) := ⟨rfl, rfl, rfl, by decide +kernel, rfl, by decide +kernel, by decide +kernel⟩
theorem ok_Catalog_features (W : Wo K mg base) : FnX P w K mg base 1 (pgA K "Catalog" "features").2 (phi (F_Catalog_features K)) := by
  have sc := sc_Catalog_features
  obtain ⟨fd, F⟩ := W.d_Catalog_features
  exact fnM (fun_of F) sc (F.bindsN fun _ _ _ _ _ _ us hl => match us, hl with | [_], _ => rfl) W.X (fun cdv A outer s H E hr po => (ssm_one (sm_ret (em_fld (em_var 0) W.c_Catalog W.x_Catalog_parts))))
theorem sc_Note___init__ : FnScope ["self", "catalog", "told", "unknown", "name", "words", "some", "word"] ["self", "catalog", "told"] (defScope (inClass (top 16) 0)) := ⟨rfl, rfl, rfl, by decide +kernel, rfl, by decide +kernel, by decide +kernel⟩
theorem ok_Note___init__ (W : Wo K mg base) : FnX P w K mg base 4 (ma K (ga K "Note") "__init__") (phi (F_Note___init__ K)) := by
  have sc := sc_Note___init__
  obtain ⟨fd, F⟩ := W.d_Note___init__
  exact fnMK (fun_of F) sc (F.bindsN fun _ _ _ _ _ _ us hl => match us, hl with | [_, _, _], _ => rfl) W.X (fun cdv A outer s H E hr po => (ssm_cons (sm_set 3 sc.nd (em_callB cm_sortS W.f_sorted boot_sorted' (am_cons (em_lc sc.nd (own := [("name", 4)]) (im_dkeys (em_var 2)) (blkOk_by (by kernel_rfl)) (fun _ _ _ _ _ => (gm_name 4 sc.nd)) (fun _ _ _ _ _ => (tsm_one (tm_cmp (om_notinO W.a_Catalog___contains__ W.b_Catalog___contains__ (ok_Catalog___contains__ W) (hr.mono (by decide))) (em_var 4) (em_var 1)))) (fun _ _ _ _ _ => (em_var 4))) am_nil)))
      (ssm_cons (sm_if (tm_cmp (om_ne hr.units) (em_var 3) (em_lst am_nil)) (ssm_one (sm_raise (xm_kw W.mk_InvalidNote W.g_InvalidNote hr (km_cons (em_ix (em_var 3) em_int) km_nil)))) ssm_nil)
      (ssm_cons (sm_fld W.c_Note W.x_Note_own_catalog (em_var 0) (em_var 1))
      (ssm_cons (sm_fld W.c_Note W.x_Note_sets (em_var 0) em_dnew)
      (ssm_one (sm_for po (im_tup (em_prop (em_var 1) W.c_Catalog W.p_Catalog_features (ok_Catalog_features W) (hr.mono (by decide)))) (gm_tup (n := 2) (gsm_cons (gm_name 4 sc.nd) (gsm_cons (gm_name 5 sc.nd) gsm_nil))) (ssm_cons (sm_set 6 sc.nd (em_dget2 (em_var 2) (em_var 4) (em_var 5) hr.units1))
      (ssm_cons (sm_if (wm_or (tm_cmp (om_eq hr.units) (em_callB cm_len W.f_len boot_len' (am_cons (em_var 6) am_nil)) em_int) (wm_or (tm_not (tm_val (em_call (ok_is_rising W) (hr.mono (by decide)) W.g_is_rising W.k_is_rising (am_cons (em_var 6) am_nil)))) (wm_or1 (tm_cmp (om_ne hr.units) (em_lc sc.nd (own := [("word", 7)]) (im_tup (em_var 6)) (blkOk_by (by kernel_rfl)) (fun _ _ _ _ _ => (gm_name 7 sc.nd)) (fun _ _ _ _ _ => (tsm_one (tm_cmp om_notin (em_var 7) (em_var 5)))) (fun _ _ _ _ _ => (em_var 7))) (em_lst am_nil))))).tm (ssm_one (sm_raise (xm_kw W.mk_InvalidNote W.g_InvalidNote hr (km_cons (em_var 4) km_nil)))) ssm_nil)
      (ssm_one (sm_dput (em_fld (em_var 0) W.c_Note W.x_Note_sets) (em_var 4) (em_var 6) hr.units1)))))))))))
theorem sc__law_note : FnScope ["_law_catalog", "_law_features_here", "_law_sets_here", "_law_name", "_law_words"] ["_law_catalog", "_law_features_here", "_law_sets_here"] (defScope (top 25)) := ⟨rfl, rfl, rfl, by decide +kernel, rfl, by decide +kernel, by decide +kernel⟩
theorem ok__law_note (W : Wo K mg base) : FnX P w K mg base 6 (ga K "_law_note") (phi (F__law_note K)) := by
  have sc := sc__law_note
  obtain ⟨fd, F⟩ := W.d__law_note
  exact fnM (fun_of F) sc (F.bindsN fun _ _ _ _ _ _ us hl => match us, hl with | [_, _, _], _ => rfl) W.X (fun cdv A outer s H E hr po => (ssm_one (sm_ret (em_make W.m_Note (ok_Note___init__ W) (hr.mono (by decide)) W.g_Note (am_cons (em_var 0) (am_cons (em_callTy (cm_dict rfl) W.f_dict boot_dict' (am_cons (em_lc sc.nd (own := [("_law_name", 3), ("_law_words", 4)]) (im_tup (em_var 1)) (blkOk_by (by kernel_rfl)) (fun _ _ _ _ _ => (gm_tup (n := 2) (gsm_cons (gm_name 3 sc.nd) (gsm_cons (gm_name 4 sc.nd) gsm_nil)))) (fun _ _ _ _ _ => (tsm_one (tm_cmp (om_ne hr.units) (em_dget (em_var 2) (em_var 3) hr.units1) (em_var 4)))) (fun _ _ _ _ _ => (em_tup (am_cons (em_var 3) (am_cons (em_dget (em_var 2) (em_var 3) hr.units1) am_nil))))) am_nil)) am_nil))))))
theorem sc_Note_catalog : FnScope ["self"] ["self"] (defScope (inClass (top 16) 1)) := ⟨rfl, rfl, rfl, by decide +kernel, rfl, by decide +kernel, by decide +kernel⟩
theorem ok_Note_catalog (W : Wo K mg base) : FnX P w K mg base 1 (pgA K "Note" "catalog").2 (phi (F_Note_catalog K)) := by
  have sc := sc_Note_catalog
  obtain ⟨fd, F⟩ := W.d_Note_catalog
  exact fnM (fun_of F) sc (F.bindsN fun _ _ _ _ _ _ us hl => match us, hl with | [_], _ => rfl) W.X (fun cdv A outer s H E hr po => (ssm_one (sm_ret (em_fld (em_var 0) W.c_Note W.x_Note_own_catalog))))
theorem sc_Catalog___eq__ : FnScope ["self", "other"] ["self", "other"] (defScope (inClass (top 14) 7)) := ⟨rfl, rfl, rfl, by decide +kernel, rfl, by decide +kernel, by decide +kernel⟩
theorem ok_Catalog___eq__ (W : Wo K mg base) : FnX P w K mg base 3 (ma K (ga K "Catalog") "__eq__") (phi (F_Catalog___eq__ K)) := by
  have sc := sc_Catalog___eq__
  obtain ⟨fd, F⟩ := W.d_Catalog___eq__
  exact fnM (fun_of F) sc (F.bindsN fun _ _ _ _ _ _ us hl => match us, hl with | [_, _], _ => rfl) W.X (fun cdv A outer s H E hr po => (ssm_one (sm_ret (em_and (em_callB (cm_isi W.isi_Catalog) W.f_isinstance boot_isinstance' (am_cons (em_var 1) (am_cons (em_gref W.g_Catalog) am_nil))) (em_one (em_cmp (om_eq hr.units) (em_fld (em_var 0) W.c_Catalog W.x_Catalog_parts) (em_prop (em_var 1) W.c_Catalog W.p_Catalog_features (ok_Catalog_features W) (hr.mono (by decide)))))))))
theorem sc__law_alike : FnScope ["_law_found", "_law_due", "_law_k"] ["_law_found", "_law_due"] (defScope (top 21)) := ⟨rfl, rfl, rfl, by decide +kernel, rfl, by decide +kernel, by decide +kernel⟩
theorem ok__law_alike (W : Wo K mg base) : ∀ n, FnX P w K mg base (1 + n) (ga K "_law_alike") (phi (F__law_alike K n))
  | 0 => FnX.bad
  | n + 1 => by
    have sc := sc__law_alike
    have ih := ok__law_alike W n
    obtain ⟨fd, F⟩ := W.d__law_alike
    exact fnM (k := 1 + n) (fun_of F) sc (F.bindsN fun _ _ _ _ _ _ us hl => match us, hl with | [_, _], _ => rfl) W.X (fun cdv A outer s H E hr po => (ssm_cons (sm_if (tm_val (em_callB (cm_isi W.isi_) W.f_isinstance boot_isinstance' (am_cons (em_var 1) (am_cons (em_ty W.f_dict boot_dict') am_nil)))) (ssm_one (sm_ret (em_and (em_callB (cm_isi W.isi_) W.f_isinstance boot_isinstance' (am_cons (em_var 0) (am_cons (em_ty W.f_dict boot_dict') am_nil))) (em_and em_never (em_one (em_cmp (om_eq hr.units) (em_var 0) (em_var 1))))))) ssm_nil)
      (ssm_cons (sm_if (tm_val (em_callB (cm_isi W.isi_) W.f_isinstance boot_isinstance' (am_cons (em_var 1) (am_cons (em_tup (am_cons (em_ty W.f_tuple boot_tuple') (am_cons (em_ty W.f_list boot_list') am_nil))) am_nil)))) (ssm_cons (sm_if (wm_or (tm_not (tm_val (em_callB (cm_isi W.isi_) W.f_isinstance boot_isinstance' (am_cons (em_var 0) (am_cons (em_tup (am_cons (em_ty W.f_tuple boot_tuple') (am_cons (em_ty W.f_list boot_list') am_nil))) am_nil))))) (wm_or1 (tm_cmp (om_ne hr.units) (em_callB (cm_isi W.isi_) W.f_isinstance boot_isinstance' (am_cons (em_var 0) (am_cons (em_ty W.f_list boot_list') am_nil))) (em_callB (cm_isi W.isi_) W.f_isinstance boot_isinstance' (am_cons (em_var 1) (am_cons (em_ty W.f_list boot_list') am_nil)))))).tm (ssm_one (sm_ret em_bl)) ssm_nil)
      (ssm_cons (sm_if (tm_cmp (om_ne hr.units) (em_callB cm_len W.f_len boot_len' (am_cons (em_var 0) am_nil)) (em_callB cm_len W.f_len boot_len' (am_cons (em_var 1) am_nil))) (ssm_one (sm_ret em_bl)) ssm_nil)
      (ssm_one (sm_ret (em_cmp (om_eq hr.units) (em_lc sc.nd (own := [("_law_k", 2)]) (im_range1 (am_cons (em_callB cm_len W.f_len boot_len' (am_cons (em_var 1) am_nil)) am_nil) W.f_range) (blkOk_by (by kernel_rfl)) (fun _ _ _ _ _ => (gm_name 2 sc.nd)) (fun _ _ _ _ _ => (tsm_one (tm_not (tm_val (em_call ih (hr.mono (by omega)) W.g__law_alike W.k__law_alike (am_cons (em_ix (em_var 0) (em_var 2)) (am_cons (em_ix (em_var 1) (em_var 2)) am_nil))))))) (fun _ _ _ _ _ => (em_var 2))) (em_lst am_nil)))))) ssm_nil)
      (ssm_cons (sm_if (wm_or (tm_cmp om_is (em_var 1) em_non) (wm_or1 (tm_val (em_callB (cm_isi W.isi_) W.f_isinstance boot_isinstance' (am_cons (em_var 1) (am_cons (em_ty W.f_str boot_str') am_nil)))))).tm (ssm_one (sm_ret (em_and (em_cmp (om_eq hr.units) (em_var 0) (em_var 1)) (em_one (em_cmp (om_eq hr.units) (em_callB (cm_isi W.isi_) W.f_isinstance boot_isinstance' (am_cons (em_var 0) (am_cons (em_ty W.f_str boot_str') am_nil))) (em_callB (cm_isi W.isi_) W.f_isinstance boot_isinstance' (am_cons (em_var 1) (am_cons (em_ty W.f_str boot_str') am_nil)))))))) ssm_nil)
      (ssm_one (sm_ret (em_and (em_callB (cm_isi W.isi_) W.f_isinstance boot_isinstance' (am_cons (em_var 0) (am_cons (em_ty W.f_int boot_int') am_nil))) (em_and (em_cmp (om_eq hr.units) (em_callB (cm_isi W.isi_) W.f_isinstance boot_isinstance' (am_cons (em_var 0) (am_cons (em_ty W.f_bool boot_bool') am_nil))) (em_callB (cm_isi W.isi_) W.f_isinstance boot_isinstance' (am_cons (em_var 1) (am_cons (em_ty W.f_bool boot_bool') am_nil)))) (em_one (em_cmp (om_eq hr.units) (em_var 0) (em_var 1)))))))))))
theorem sc_Note___getitem__ : FnScope ["self", "name"] ["self", "name"] (defScope (inClass (top 16) 3)) := ⟨rfl, rfl, rfl, by decide +kernel, rfl, by decide +kernel, by decide +kernel⟩
theorem ok_Note___getitem__ (W : Wo K mg base) : FnX P w K mg base 1 (ma K (ga K "Note") "__getitem__") (phi (F_Note___getitem__ K)) := by
  have sc := sc_Note___getitem__
  obtain ⟨fd, F⟩ := W.d_Note___getitem__
  exact fnM (fun_of F) sc (F.bindsN fun _ _ _ _ _ _ us hl => match us, hl with | [_, _], _ => rfl) W.X (fun cdv A outer s H E hr po => (ssm_cons (sm_if (tm_cmp (om_notinD hr.units1) (em_var 1) (em_fld (em_var 0) W.c_Note W.x_Note_sets)) (ssm_one (sm_raise (xm_own PySem.F.excBase_ValueError W.e_UnknownFeature W.g_UnknownFeature W.k_UnknownFeature (raises_own W.E_UnknownFeature.2.2.1 W.E_UnknownFeature.2.2.2)))) ssm_nil)
      (ssm_one (sm_ret (em_dget (em_fld (em_var 0) W.c_Note W.x_Note_sets) (em_var 1) hr.units1)))))
theorem sc_Note_description_count : FnScope ["self", "found", "words"] ["self"] (defScope (inClass (top 16) 2)) := ⟨rfl, rfl, rfl, by decide +kernel, rfl, by decide +kernel, by decide +kernel⟩
theorem ok_Note_description_count (W : Wo K mg base) : FnX P w K mg base 1 (pgA K "Note" "description_count").2 (phi (F_Note_description_count K)) := by
  have sc := sc_Note_description_count
  obtain ⟨fd, F⟩ := W.d_Note_description_count
  exact fnM (fun_of F) sc (F.bindsN fun _ _ _ _ _ _ us hl => match us, hl with | [_], _ => rfl) W.X (fun cdv A outer s H E hr po => (ssm_cons (sm_set 1 sc.nd em_int)
      (ssm_cons (sm_for po (im_dvalues (em_fld (em_var 0) W.c_Note W.x_Note_sets)) (gm_name 2 sc.nd) (ssm_one (sm_augMul 1 sc.nd (em_callB cm_len W.f_len boot_len' (am_cons (em_var 2) am_nil)))))
      (ssm_one (sm_ret (em_var 1))))))
theorem sc__law_same : FnScope ["_law_note_here", "_law_features_here", "_law_sets_here", "_law_name", "_law_words", "_law_count"] ["_law_note_here", "_law_features_here", "_law_sets_here"] (defScope (top 27)) := ⟨rfl, rfl, rfl, by decide +kernel, rfl, by decide +kernel, by decide +kernel⟩
theorem ok__law_same (W : Wo K mg base) : FnX P w K mg base 10 (ga K "_law_same") (phi (F__law_same K)) := by
  have sc := sc__law_same
  obtain ⟨fd, F⟩ := W.d__law_same
  exact fnM (fun_of F) sc (F.bindsN fun _ _ _ _ _ _ us hl => match us, hl with | [_, _, _], _ => rfl) W.X (fun cdv A outer s H E hr po => (ssm_cons (sm_if (tm_not (tm_val (em_callB (cm_isi W.isi_) W.f_isinstance boot_isinstance' (am_cons (em_var 2) (am_cons (em_ty W.f_dict boot_dict') am_nil))))) (ssm_one (sm_ret (em_call (ok__law_alike W 8) (hr.mono (by decide)) W.g__law_alike W.k__law_alike (am_cons (em_var 0) (am_cons (em_var 2) am_nil))))) ssm_nil)
      (ssm_cons (sm_if (tm_not (tm_val (em_callB (cm_isi W.isi_Note) W.f_isinstance boot_isinstance' (am_cons (em_var 0) (am_cons (em_gref W.g_Note) am_nil))))) (ssm_one (sm_ret em_bl)) ssm_nil)
      (ssm_cons (sm_if (tm_cmp (om_ne hr.units) (em_lc sc.nd (own := [("_law_name", 3), ("_law_words", 4)]) (im_tup (em_var 1)) (blkOk_by (by kernel_rfl)) (fun _ _ _ _ _ => (gm_tup (n := 2) (gsm_cons (gm_name 3 sc.nd) (gsm_cons (gm_name 4 sc.nd) gsm_nil)))) (fun _ _ _ _ _ => (tsm_one (tm_cmp (om_ne hr.units) (em_getO W.a_Note___getitem__ W.n_Note___getitem__ W.b_Note___getitem__ (ok_Note___getitem__ W) (hr.mono (by decide)) (em_var 0) (em_var 3)) (em_dget (em_var 2) (em_var 3) hr.units1)))) (fun _ _ _ _ _ => (em_var 3))) (em_lst am_nil)) (ssm_one (sm_ret em_bl)) ssm_nil)
      (ssm_cons (sm_set 5 sc.nd em_int)
      (ssm_cons (sm_for po (im_dkeys (em_var 2)) (gm_name 3 sc.nd) (ssm_one (sm_set 5 sc.nd (em_bin om_mul (em_var 5) (em_callB cm_len W.f_len boot_len' (am_cons (em_dget (em_var 2) (em_var 3) hr.units1) am_nil))))))
      (ssm_one (sm_ret (em_call (ok__law_alike W 8) (hr.mono (by decide)) W.g__law_alike W.k__law_alike (am_cons (em_prop (em_var 0) W.c_Note W.p_Note_description_count (ok_Note_description_count W) (hr.mono (by decide))) (am_cons (em_var 5) am_nil)))))))))))
theorem sc_Note___eq__ : FnScope ["self", "other"] ["self", "other"] (defScope (inClass (top 16) 7)) := ⟨rfl, rfl, rfl, by decide +kernel, rfl, by decide +kernel, by decide +kernel⟩
theorem ok_Note___eq__ (W : Wo K mg base) : FnX P w K mg base 4 (ma K (ga K "Note") "__eq__") (phi (F_Note___eq__ K)) := by
  have sc := sc_Note___eq__
  obtain ⟨fd, F⟩ := W.d_Note___eq__
  exact fnM (fun_of F) sc (F.bindsN fun _ _ _ _ _ _ us hl => match us, hl with | [_, _], _ => rfl) W.X (fun cdv A outer s H E hr po => (ssm_one (sm_ret (em_and (em_callB (cm_isi W.isi_Note) W.f_isinstance boot_isinstance' (am_cons (em_var 1) (am_cons (em_gref W.g_Note) am_nil))) (em_and (em_cmp (om_eqO W.a_Catalog___eq__ W.b_Catalog___eq__ (ok_Catalog___eq__ W) (hr.mono (by decide))) (em_fld (em_var 0) W.c_Note W.x_Note_own_catalog) (em_prop (em_var 1) W.c_Note W.p_Note_catalog (ok_Note_catalog W) (hr.mono (by decide)))) (em_one (em_cmp (om_deq_Eq hr.units) (em_fld (em_var 0) W.c_Note W.x_Note_sets) (em_fld (em_var 1) W.c_Note W.x_Note_sets))))))))
theorem sc__law_fail_v2 : FnScope ["_law_work", "e"] ["_law_work"] (defScope (top 26)) := ⟨rfl, rfl, rfl, by decide +kernel, rfl, by decide +kernel, by decide +kernel⟩
theorem ok__law_fail_v2 (W : Wo K mg base) : LamFn P w K mg base 1 (ga K "_law_fail") (F__law_fail_v2 K) := by
  have sc := sc__law_fail_v2
  obtain ⟨fd, F⟩ := W.d__law_fail
  exact lamFn_fail (fun_of F) sc (F.bindsN fun _ _ _ _ _ _ us hl => match us, hl with | [_], _ => rfl) (fun cdv A outer s H E hr po => lamC_try (.cons ⟨rfl, by decide, .inl W.g_InvalidNote⟩ (exmL_ok (by intro p hp; simp only [List.mem_cons, List.not_mem_nil, or_false] at hp; rcases hp with rfl | rfl | rfl <;> first | exact W.ym_InvalidNote_InvalidNote | exact W.ym_InvalidNote_Conflict | exact W.ym_InvalidNote_UnknownFeature)) (.inr ⟨1, _, rfl, rfl, rfl, rfl⟩) (fun a oe cls d pn hz hf => (ssm_one (sm_ret (em_tup (am_cons em_str (am_cons (em_xf W.z_InvalidNote W.y_InvalidNote_feature hz hf (em_var 1)) am_nil))))))
    (.cons ⟨rfl, by decide, .inl W.g_Conflict⟩ (exmL_ok (by intro p hp; simp only [List.mem_cons, List.not_mem_nil, or_false] at hp; rcases hp with rfl | rfl <;> first | exact W.ym_Conflict_Conflict | exact W.ym_Conflict_UnknownFeature)) (.inr ⟨1, _, rfl, rfl, rfl, rfl⟩) (fun a oe cls d pn hz hf => (ssm_one (sm_ret (em_tup (am_cons em_str (am_cons (em_xf W.z_Conflict W.y_Conflict_feature hz hf (em_var 1)) am_nil))))))
    (.cons ⟨rfl, by decide, .inl W.g_UnknownFeature⟩ (exmL_ok (by intro p hp; simp only [List.mem_cons, List.not_mem_nil, or_false] at hp; rcases hp with rfl <;> first | exact W.ym_UnknownFeature_UnknownFeature)) (.inl ⟨rfl, rfl⟩) (fun a oe cls d pn hz hf => (ssm_one (sm_ret em_str)))
    .nil))))
theorem sc_common : FnScope ["one", "other", "name", "word"] ["one", "other", "name"] (defScope (top 17)) := ⟨rfl, rfl, rfl, by decide +kernel, rfl, by decide +kernel, by decide +kernel⟩
theorem ok_common (W : Wo K mg base) : FnX P w K mg base 3 (ga K "common") (phi (F_common K)) := by
  have sc := sc_common
  obtain ⟨fd, F⟩ := W.d_common
  exact fnM (fun_of F) sc (F.bindsN fun _ _ _ _ _ _ us hl => match us, hl with | [_, _, _], _ => rfl) W.X (fun cdv A outer s H E hr po => (ssm_one (sm_ret (em_callTy cm_tuple W.f_tuple boot_tuple' (am_cons (em_lc sc.nd (own := [("word", 3)]) (im_tup (em_getO W.a_Note___getitem__ W.n_Note___getitem__ W.b_Note___getitem__ (ok_Note___getitem__ W) (hr.mono (by decide)) (em_var 0) (em_var 2))) (blkOk_by (by kernel_rfl)) (fun _ _ _ _ _ => (gm_name 3 sc.nd)) (fun _ _ _ _ _ => (tsm_one (tm_cmp om_in (em_var 3) (em_getO W.a_Note___getitem__ W.n_Note___getitem__ W.b_Note___getitem__ (ok_Note___getitem__ W) (hr.mono (by decide)) (em_var 1) (em_var 2))))) (fun _ _ _ _ _ => (em_var 3))) am_nil)))))
theorem sc_Note_both : FnScope ["self", "other", "told", "name"] ["self", "other"] (defScope (inClass (top 16) 5)) := ⟨rfl, rfl, rfl, by decide +kernel, rfl, by decide +kernel, by decide +kernel⟩
theorem ok_Note_both (W : Wo K mg base) : FnX P w K mg base 6 (ma K (ga K "Note") "both") (phi (F_Note_both K)) := by
  have sc := sc_Note_both
  obtain ⟨fd, F⟩ := W.d_Note_both
  exact fnM (fun_of F) sc (F.bindsN fun _ _ _ _ _ _ us hl => match us, hl with | [_, _], _ => rfl) W.X (fun cdv A outer s H E hr po => (ssm_cons (sm_set 2 sc.nd em_dnew)
      (ssm_cons (sm_for po (im_tup (em_prop (em_fld (em_var 0) W.c_Note W.x_Note_own_catalog) W.c_Catalog W.p_Catalog_names (ok_Catalog_names W) (hr.mono (by decide)))) (gm_name 3 sc.nd) (ssm_cons (sm_dput (em_var 2) (em_var 3) (em_call (ok_common W) (hr.mono (by decide)) W.g_common W.k_common (am_cons (em_var 0) (am_cons (em_var 1) (am_cons (em_var 3) am_nil)))) hr.units1)
      (ssm_one (sm_if (tm_cmp (om_eq hr.units) (em_dget (em_var 2) (em_var 3) hr.units1) (em_tup am_nil)) (ssm_one (sm_raise (xm_kw W.mk_Conflict W.g_Conflict hr (km_cons (em_var 3) km_nil)))) ssm_nil))))
      (ssm_one (sm_ret (em_make W.m_Note (ok_Note___init__ W) (hr.mono (by decide)) W.g_Note (am_cons (em_fld (em_var 0) W.c_Note W.x_Note_own_catalog) (am_cons (em_take (em_var 2)) am_nil))))))))
theorem sc_Note_narrowed : FnScope ["self", "name", "value"] ["self", "name", "value"] (defScope (inClass (top 16) 6)) := ⟨rfl, rfl, rfl, by decide +kernel, rfl, by decide +kernel, by decide +kernel⟩
theorem ok_Note_narrowed (W : Wo K mg base) : FnX P w K mg base 6 (ma K (ga K "Note") "narrowed") (phi (F_Note_narrowed K)) := by
  have sc := sc_Note_narrowed
  obtain ⟨fd, F⟩ := W.d_Note_narrowed
  exact fnM (fun_of F) sc (F.bindsN fun _ _ _ _ _ _ us hl => match us, hl with | [_, _, _], _ => rfl) W.X (fun cdv A outer s H E hr po => (ssm_cons (sm_if (tm_cmp om_notin (em_var 2) (em_getO W.a_Note___getitem__ W.n_Note___getitem__ W.b_Note___getitem__ (ok_Note___getitem__ W) (hr.mono (by decide)) (em_var 0) (em_var 1))) (ssm_one (sm_raise (xm_kw W.mk_Conflict W.g_Conflict hr (km_cons (em_var 1) km_nil)))) ssm_nil)
      (ssm_one (sm_ret (em_make W.m_Note (ok_Note___init__ W) (hr.mono (by decide)) W.g_Note (am_cons (em_fld (em_var 0) W.c_Note W.x_Note_own_catalog) (am_cons (em_bin (om_union (hu := hr.units)) (em_fld (em_var 0) W.c_Note W.x_Note_sets) (em_frz (em_dictC (pm_cons (em_var 1) (em_tup (am_cons (em_var 2) am_nil)) pm_nil)))) am_nil)))))))
theorem sc__law_wrong : FnScope ["_law_h", "_law_catalog", "_law_features_here", "_law_one", "_law_name", "_law_words", "_law_bad", "_law_wrong_here", "_law_key"] ["_law_h", "_law_catalog", "_law_features_here", "_law_one"] (defScope (top 28)) := ⟨rfl, rfl, rfl, by decide +kernel, rfl, by decide +kernel, by decide +kernel⟩
theorem ok__law_wrong (W : Wo K mg base) (TB2 : LamX.TabB base mg (tabA K "_law_wrong").1 (tabA K "_law_wrong").2) : FnX P w K mg base 10 (ga K "_law_wrong") (phi (F__law_wrong K)) := by
  have sc := sc__law_wrong
  obtain ⟨fd, F⟩ := W.d__law_wrong
  have hcA : fd.code = .ref (tabA K "_law_wrong").1 := by
    obtain ⟨oc, od, dV, kV, doc, pm, an, cdv, ct, osl, e, lk, _⟩ := F.ex
    exact tab_code W.t__law_wrong lk
  exact fnMc (fun_of F) hcA sc (F.bindsN fun _ _ _ _ _ _ us hl => match us, hl with | [_, _, _, _], _ => rfl) W.X (fun cdv hcd A outer s H E hr po => (ssm_cons (sm_asg (em_ix (em_var 2) (em_call (ok__law_next W) (hr.mono (by decide)) W.g__law_next W.k__law_next (am_cons (em_var 0) (am_cons (em_callB cm_len W.f_len boot_len' (am_cons (em_var 2) am_nil)) am_nil)))) (gm_tup (n := 2) (gsm_cons (gm_name 4 sc.nd) (gsm_cons (gm_name 5 sc.nd) gsm_nil))))
      (ssm_cons (sm_set 6 sc.nd (em_ix (em_lst (am_cons (em_tup am_nil) (am_cons (em_bin om_add (em_var 5) (em_tup (am_cons em_str am_nil))) (am_cons (em_tup (am_cons (em_ix (em_var 5) em_int) (am_cons (em_ix (em_var 5) em_int) am_nil))) (am_cons (em_tup (am_cons (em_ix (em_var 5) em_int) (am_cons (em_ix (em_var 5) em_int) am_nil))) (am_cons (em_tup (am_cons em_str am_nil)) am_nil)))))) (em_call (ok__law_next W) (hr.mono (by decide)) W.g__law_next W.k__law_next (am_cons (em_var 0) (am_cons em_int am_nil)))))
      (ssm_cons (sm_set 7 sc.nd (em_callTy (cm_dictN rfl) W.f_dict boot_dict' (am_cons (em_lc sc.nd (own := [("_law_key", 8)]) (im_dkeys (em_var 3)) (blkOk_by (by kernel_rfl)) (fun _ _ _ _ _ => (gm_name 8 sc.nd)) (fun _ _ _ _ _ => tsm_nil) (fun _ _ _ _ _ => (em_tup (am_cons (em_var 8) (am_cons (em_ifExp (tm_cmp (om_ne hr.units) (em_var 8) (em_var 4)) (em_dget (em_var 3) (em_var 8) hr.units1) (em_var 6)) am_nil))))) am_nil)))
      (ssm_cons (sm_if (tm_not (tm_val (em_call (ok__law_alike W 8) (hr.mono (by decide)) W.g__law_alike W.k__law_alike (am_cons (by exact em_lamcall (j := 1) (q := (lamN "_law_wrong")) (kb := 5) (ok__law_fail_v2 W) (hr.mono (by decide)) (hr.mono (by decide)) W.g__law_fail W.k__law_fail TB2 hcd (fun A outer s s2 H E f c' hr => (em_makeV W.m_Note (ok_Note___init__ W) (hr.mono (by decide)) W.g_Note (am_cons (em_var 1) (am_cons (em_var 7) am_nil))))) (am_cons (em_tup (am_cons em_str (am_cons (em_var 4) am_nil))) am_nil))))) (ssm_one (sm_ret em_bl)) ssm_nil)
      (ssm_cons (sm_parD (em_var 7) em_str (em_var 7) em_str (am_cons (em_var 5) (am_cons (em_var 5) am_nil)) hr.units1)
      (ssm_one (sm_ret (em_call (ok__law_alike W 8) (hr.mono (by decide)) W.g__law_alike W.k__law_alike (am_cons (by exact em_lamcall (j := 1) (q := (lamN "_law_wrong")) (kb := 5) (ok__law_fail_v2 W) (hr.mono (by decide)) (hr.mono (by decide)) W.g__law_fail W.k__law_fail TB2 hcd (fun A outer s s2 H E f c' hr => (em_makeV W.m_Note (ok_Note___init__ W) (hr.mono (by decide)) W.g_Note (am_cons (em_var 1) (am_cons (em_var 7) am_nil))))) (am_cons (em_tup (am_cons em_str (am_cons em_str am_nil))) am_nil)))))))))))
theorem sc_law_k02 : FnScope ["_law_script", "_law_h", "_law_turn", "_law_features_here", "_law_catalog", "_law_one", "_law_other", "_law_note_here", "_law_second", "_law_mutual", "_law_word", "_law_name", "_law_words", "_law_none", "_law_due", "_law_key", "_law_found"] ["_law_script"] (defScope (top 29)) := ⟨rfl, rfl, rfl, by decide +kernel, rfl, by decide +kernel, by decide +kernel⟩
theorem ok_law (W : Wo K mg base) (TB : LamX.TabB base mg (tabA K "law").1 (tabA K "law").2) (TB2 : LamX.TabB base mg (tabA K "_law_wrong").1 (tabA K "_law_wrong").2) {fd : FuncData} (F : FunD K "law" "law" (defArgs (top 29)) (defBody (top 29)) (defScope (top 29)) [] [] (ga K "law") fd) : FnOk P w K mg base (L2.CX P w) 11 (ga K "law") fd ["_law_script"] (spD K w (phi (F_law_k02 K))) := by
  have sc := sc_law_k02
  have hcA : fd.code = .ref (tabA K "law").1 := by
    obtain ⟨oc, od, dV, kV, doc, pm, an, cdv, ct, osl, e, lk, _⟩ := F.ex
    exact tab_code W.t_law lk
  have z := fnKMc (P := P) (w := w) (mg := mg) (base := base) (k := 10) (fun_of F) hcA sc (fun cdv hcd A outer s H E hr po => (ssm_cons (sm_set 1 sc.nd (em_call (ok__law_mix W) (hr.mono (by decide)) W.g__law_mix W.k__law_mix (am_cons (em_var 0) (am_cons em_int am_nil))))
      (ssm_cons (sm_for po (im_range1 (am_cons em_int am_nil) W.f_range) (gm_name 2 sc.nd) (ssm_cons (sm_set 3 sc.nd (em_call (ok__law_features W) (hr.mono (by decide)) W.g__law_features W.k__law_features (am_cons (em_var 1) (am_cons em_int am_nil))))
      (ssm_cons (sm_asg (em_tup (am_cons (em_make W.m_Catalog (ok_Catalog___init__ W) (hr.mono (by decide)) W.g_Catalog (am_cons (em_var 3) am_nil)) (am_cons (em_call (ok__law_sets W) (hr.mono (by decide)) W.g__law_sets W.k__law_sets (am_cons (em_var 1) (am_cons (em_var 3) am_nil))) (am_cons (em_call (ok__law_sets W) (hr.mono (by decide)) W.g__law_sets W.k__law_sets (am_cons (em_var 1) (am_cons (em_var 3) am_nil))) am_nil)))) (gm_tup (n := 3) (gsm_cons (gm_name 4 sc.nd) (gsm_cons (gm_name 5 sc.nd) (gsm_cons (gm_name 6 sc.nd) gsm_nil)))))
      (ssm_cons (sm_asg (em_tup (am_cons (em_call (ok__law_note W) (hr.mono (by decide)) W.g__law_note W.k__law_note (am_cons (em_var 4) (am_cons (em_var 3) (am_cons (em_var 5) am_nil)))) (am_cons (em_make W.m_Note (ok_Note___init__ W) (hr.mono (by decide)) W.g_Note (am_cons (em_var 4) (am_cons (em_var 6) am_nil))) am_nil))) (gm_tup (n := 2) (gsm_cons (gm_name 7 sc.nd) (gsm_cons (gm_name 8 sc.nd) gsm_nil))))
      (ssm_cons (sm_if (wm_or (tm_not (tm_val (em_call (ok__law_same W) (hr.mono (by decide)) W.g__law_same W.k__law_same (am_cons (em_var 7) (am_cons (em_var 3) (am_cons (em_var 5) am_nil)))))) (wm_or (tm_not (tm_val (em_call (ok__law_same W) (hr.mono (by decide)) W.g__law_same W.k__law_same (am_cons (em_var 8) (am_cons (em_var 3) (am_cons (em_var 6) am_nil)))))) (wm_or1 (tm_cmp (om_neO W.a_Catalog___eq__ W.ne_Catalog W.ob_Catalog W.b_Catalog___eq__ (ok_Catalog___eq__ W) (hr.mono (by decide))) (em_prop (em_var 7) W.c_Note W.p_Note_catalog (ok_Note_catalog W) (hr.mono (by decide))) (em_var 4))))).tm (ssm_one (sm_ret em_bl)) ssm_nil)
      (ssm_cons (sm_if (wm_or (tm_cmp (om_ne hr.units) (em_cmp (om_eqO W.a_Note___eq__ W.b_Note___eq__ (ok_Note___eq__ W) (hr.mono (by decide))) (em_var 7) (em_var 8)) (em_cmp (om_deq_Eq hr.units) (em_var 5) (em_var 6))) (wm_or1 (tm_cmp (om_neO W.a_Note___eq__ W.ne_Note W.ob_Note W.b_Note___eq__ (ok_Note___eq__ W) (hr.mono (by decide))) (em_var 7) (em_make W.m_Note (ok_Note___init__ W) (hr.mono (by decide)) W.g_Note (am_cons (em_var 4) (am_cons (em_var 5) am_nil)))))).tm (ssm_one (sm_ret em_bl)) ssm_nil)
      (ssm_cons (sm_set 9 sc.nd (em_callTy (cm_dict rfl) W.f_dict boot_dict' (am_cons (em_lc sc.nd (own := [("_law_name", 11), ("_law_words", 12)]) (im_tup (em_var 3)) (blkOk_by (by kernel_rfl)) (fun _ _ _ _ _ => (gm_tup (n := 2) (gsm_cons (gm_name 11 sc.nd) (gsm_cons (gm_name 12 sc.nd) gsm_nil)))) (fun _ _ _ _ _ => tsm_nil) (fun _ _ _ _ _ => (em_tup (am_cons (em_var 11) (am_cons (em_callTy cm_tuple W.f_tuple boot_tuple' (am_cons (em_lc sc.nd (own := [("_law_word", 10)]) (im_tup (em_dget (em_var 5) (em_var 11) hr.units1)) (blkOk_by (by kernel_rfl)) (fun _ _ _ _ _ => (gm_name 10 sc.nd)) (fun _ _ _ _ _ => (tsm_one (tm_cmp om_in (em_var 10) (em_dget (em_var 6) (em_var 11) hr.units1)))) (fun _ _ _ _ _ => (em_var 10))) am_nil)) am_nil))))) am_nil)))
      (ssm_cons (sm_setLc 13 sc.nd (own := [("_law_name", 11), ("_law_words", 12)]) (im_tup (em_var 3)) (blkOk_by (by kernel_rfl)) (fun _ _ _ _ _ => (gm_tup (n := 2) (gsm_cons (gm_name 11 sc.nd) (gsm_cons (gm_name 12 sc.nd) gsm_nil)))) (fun _ _ _ _ _ => (tsm_one (tm_cmp (om_eq hr.units) (em_dget (em_var 9) (em_var 11) hr.units1) (em_tup am_nil)))) (fun _ _ _ _ _ => (em_var 11)))
      (ssm_cons (sm_set 14 sc.nd (em_ifExp (tm_cmp (om_ne hr.units) (em_var 13) (em_lst am_nil)) (em_tup (am_cons em_str (am_cons (em_ix (em_var 13) em_int) am_nil))) (em_var 9)))
      (ssm_cons (sm_if (tm_not (tm_val (em_call (ok__law_same W) (hr.mono (by decide)) W.g__law_same W.k__law_same (am_cons (by exact em_lamcall (j := 0) (q := lamQ) (kb := 6) (ok__law_fail_v2 W) (hr.mono (by decide)) (hr.mono (by decide)) W.g__law_fail W.k__law_fail TB hcd (fun A outer s s2 H E f c' hr => (em_meth (em_var 7) W.c_Note W.q_Note_both (ok_Note_both W) (hr.mono (by decide)) (am_cons (em_var 8) am_nil)))) (am_cons (em_var 3) (am_cons (em_var 14) am_nil)))))) (ssm_one (sm_ret em_bl)) ssm_nil)
      (ssm_cons (sm_asg (em_ix (em_var 3) (em_call (ok__law_next W) (hr.mono (by decide)) W.g__law_next W.k__law_next (am_cons (em_var 1) (am_cons (em_callB cm_len W.f_len boot_len' (am_cons (em_var 3) am_nil)) am_nil)))) (gm_tup (n := 2) (gsm_cons (gm_name 11 sc.nd) (gsm_cons (gm_name 12 sc.nd) gsm_nil))))
      (ssm_cons (sm_set 10 sc.nd (em_ix (em_bin om_add (em_var 12) (em_tup (am_cons em_str am_nil))) (em_call (ok__law_next W) (hr.mono (by decide)) W.g__law_next W.k__law_next (am_cons (em_var 1) (am_cons (em_bin om_add (em_callB cm_len W.f_len boot_len' (am_cons (em_var 12) am_nil)) em_int) am_nil)))))
      (ssm_cons (sm_set 14 sc.nd (em_tup (am_cons em_str (am_cons (em_var 11) am_nil))))
      (ssm_cons (sm_if (tm_cmp om_in (em_var 10) (em_dget (em_var 5) (em_var 11) hr.units1)) (ssm_one (sm_set 14 sc.nd (em_callTy (cm_dict rfl) W.f_dict boot_dict' (am_cons (em_lc sc.nd (own := [("_law_key", 15)]) (im_dkeys (em_var 5)) (blkOk_by (by kernel_rfl)) (fun _ _ _ _ _ => (gm_name 15 sc.nd)) (fun _ _ _ _ _ => tsm_nil) (fun _ _ _ _ _ => (em_tup (am_cons (em_var 15) (am_cons (em_ifExp (tm_cmp (om_ne hr.units) (em_var 15) (em_var 11)) (em_dget (em_var 5) (em_var 15) hr.units1) (em_tup (am_cons (em_var 10) am_nil))) am_nil))))) am_nil)))) ssm_nil)
      (ssm_cons (sm_if (tm_not (tm_val (em_call (ok__law_same W) (hr.mono (by decide)) W.g__law_same W.k__law_same (am_cons (by exact em_lamcall (j := 0) (q := lamQ) (kb := 6) (ok__law_fail_v2 W) (hr.mono (by decide)) (hr.mono (by decide)) W.g__law_fail W.k__law_fail TB hcd (fun A outer s s2 H E f c' hr => (em_meth (em_var 7) W.c_Note W.q_Note_narrowed (ok_Note_narrowed W) (hr.mono (by decide)) (am_cons (em_var 11) (am_cons (em_var 10) am_nil))))) (am_cons (em_var 3) (am_cons (em_var 14) am_nil)))))) (ssm_one (sm_ret em_bl)) ssm_nil)
      (ssm_cons (sm_set 16 sc.nd (em_lst (am_cons (by exact em_lamcall (j := 0) (q := lamQ) (kb := 6) (ok__law_fail_v2 W) (hr.mono (by decide)) (hr.mono (by decide)) W.g__law_fail W.k__law_fail TB hcd (fun A outer s s2 H E f c' hr => (em_meth (em_var 7) W.c_Note W.q_Note_narrowed (ok_Note_narrowed W) (hr.mono (by decide)) (am_cons em_str (am_cons (em_var 10) am_nil))))) (am_cons (by exact em_lamcall2 (j := 0) (q := lamQ) (kb := 2) (ok__law_fail_v2 W) (hr.mono (by decide)) (hr.mono (by decide)) W.g__law_fail W.k__law_fail (lamMk_dfl (p := "_law_a") TB hcd (fun A outer s H E f c' hr => (em_getO W.a_Note___getitem__ W.n_Note___getitem__ W.b_Note___getitem__ (ok_Note___getitem__ W) (hr.mono (by decide)) (em_var 7) em_str)))) am_nil))))
      (ssm_cons (sm_if (tm_not (tm_val (em_call (ok__law_alike W 8) (hr.mono (by decide)) W.g__law_alike W.k__law_alike (am_cons (em_var 16) (am_cons (em_frz (em_bin om_repC (em_lstC (am_cons em_str am_nil)) em_int)) am_nil))))) (ssm_one (sm_ret em_bl)) ssm_nil)
      (ssm_one (sm_if (tm_not (tm_val (em_call (ok__law_wrong W TB2) (hr.mono (by decide)) W.g__law_wrong W.k__law_wrong (am_cons (em_var 1) (am_cons (em_var 4) (am_cons (em_var 3) (am_cons (em_var 5) am_nil))))))) (ssm_one (sm_ret em_bl)) ssm_nil)))))))))))))))))))
      (ssm_one (sm_ret em_bl)))))
  exact z
end K02


namespace K02
open PySem PySem.Spec PyProof.Rows L2 He DL LD
theorem sp_law {w : World} {K : PySem.W.Frag} {mg : Str → Option Value} {h : Heap} (W : Wo K mg h) {H : Hp} {a : Addr} {ns : List Int} (hl : ns.length ≤ 63) (hT : H (tabA K "law").2 = some (.tbl #[])) (hT2 : H (tabA K "_law_wrong").2 = some (.tbl #[])) (hS : SqL K H a (ns.map V.int)) : spD K w (phi (F_law_k02 K)) [.ref a] H (fun v _ => v = .bl true) fun _ _ _ => False := by
  refine law_start2 (y := "_law_wrong") W.dift_law__law_wrong hT hT2 (tabA_of W.t_law).2.2 (tabA_of W.t__law_wrong).2.2 hS ?_
  unfold phi
  rw [S_law_k02 (K := K) (ns := ns) (Nat.le_trans hl (by decide)) ⟨W.dif_InvalidNote_Conflict, W.dif_InvalidNote_UnknownFeature, W.dif_Conflict_UnknownFeature⟩]
  exact rfl
theorem facts {w : World} {K : PySem.W.Frag} {mg : Str → Option Value} {h : Heap} {f : Addr} (X : K.In h) (G : h.Ns mainGlobals mg) (hfa : mg ("law" : Str) = some (.ref f)) (c : SaysM tab K) :
    ∃ fd : FuncData, (∀ (s : Shared) (v : Value), BindsTo s fd ⟨[v], []⟩ [("_law_script", v)]) ∧ ∀ base : Heap, K.In base → base.Ns mainGlobals mg → LamX.TabB base mg (tabA K "law").1 (tabA K "law").2 → LamX.TabB base mg (tabA K "_law_wrong").1 (tabA K "_law_wrong").2 → FnOk P w K mg base (CXA P) 11 f fd ["_law_script"] (spD K w (phi (F_law_k02 K))) := by
  obtain ⟨fd, F⟩ := (⟨c, X, G⟩ : Wo K mg h).d_law
  have e := hfa.symm.trans (⟨c, X, G⟩ : Wo K mg h).g_law
  cases e
  have b := FunD.bindsA (ps := ["_law_script"]) F fun _ _ _ _ _ _ us hl => match us, hl with | [_], _ => rfl
  refine ⟨fd, fun s v => b s [v] rfl, fun base KX NX TB TB2 => ?_⟩
  have W : Wo K mg base := ⟨c, KX, NX⟩
  exact fnOk_any (ok_law W TB TB2 F)
end K02
open PySem PySem.W PySem.Calls PyProof.Rows

theorem PySem.Challenge.cw_lostdesk_k02_notes_holds : PySem.Challenge.rw_lostdesk_k02_notes.Holds := by
  w_on; o_law
  refine HandSHeadRun.head_any (r := OpenLaw.row PySem.Challenge.rw_lostdesk_k02_notes) (q := view (OpenLaw.row PySem.Challenge.rw_lostdesk_k02_notes).prog [28, 29]) (H := K02.hk) (ob := K02.ob) (M := 20000) (loose := K02.loose) (d := HandSHeadRun.topDef (OpenLaw.row PySem.Challenge.rw_lostdesk_k02_notes).prog 29) (kwd := []) K02.ob_eq
    (by kernel_rfl) (fun s => by kernel_rfl) K02.run (by kernel_rfl) (by kernel_rfl) (by kernel_rfl) (by rfl) (by first | assumption | decide +kernel) (by decide +kernel) ⟨rfl, rfl, rfl, rfl, rfl, by decide +kernel⟩ ?hw ?hc
  case hw => w_witness2
  case hc =>
    have en : (HandSHeadRun.topDef (OpenLaw.row PySem.Challenge.rw_lostdesk_k02_notes).prog 29).name = ("law" : PySem.Str) := by kernel_rfl
    refine DL.walk_ofET2 (y := "_law_wrong") (l := PySem.Challenge.rw_lostdesk_k02_notes) (n := 63) (k := 11) (x := "_law_script") (CX := DL.CXA (PySem.Challenge.rw_lostdesk_k02_notes).prog) rfl (by decide) (by kernel_rfl) ⟨rfl, by decide, by decide⟩ (Option.some_get (by kernel_rfl)).symm (Option.some_get (by kernel_rfl)).symm ?F (fun _ _ _ _ z => DL.cxa_false z)
    intro w mg fa h Y G hmg
    obtain ⟨K, KX, c⟩ := Y
    rw [en] at hmg
    obtain ⟨fd, hb, hF⟩ := K02.facts (w := w) KX G hmg c
    have W : K02.Wo K mg h := ⟨c, KX, G⟩
    rw [en]
    exact ⟨K, fd, DL.spD K w (DL.phi (LD.F_law_k02 K)), KX, W.t_law, W.t__law_wrong, hb, fun H a ns hl hT hT2 hS => K02.sp_law W hl hT hT2 hS, hF⟩
