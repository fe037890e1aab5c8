import PyProof.Rows.All
import Wide.All
import OpenK.AllK
import Wide.FinOn
import HandS.ForMost
import HandS.ForExc
import HandS.Walk
import HandS.TupAny
import HandS.IsInst
import HandS.ExcField
import HandS.Property
import HandS.Zip
import KE.GoesMore
import HandS.ExcBuiltin
import KE.KExcSuper
import KE.RegKSuper
import HandS.ExcSuper
import HandS.Defaults
import HandS.Head0
import HandS.Head1
import HandS.Head2
import HandS.HeadEnd
import HandS.HeadHook1
import HandS.HeadHook2
import HandS.Words
import HandS.WordsExc
import PySem.Challenge.RW_lostdesk_k01_catalogs_refused
set_option Elab.async false
set_option linter.all false
set_option maxRecDepth 100000
set_option maxHeartbeats 0
set_option synthInstance.maxSize 10000
set_option synthInstance.maxHeartbeats 1000000
namespace DL
open PySem L2
/-! ### data: trees that never change; T: a tree or a cell -/
inductive D where
  | non | bl (b : Bool) | int (i : Int) | str (x : Str)
  | tup (xs : List D) | lst (xs : List D) | dic (kvs : List (Key × D))
  | ins (C : Addr) (fs : List (Str × D))
  | exc (a dd : Addr) (cls : Value) (fs : List (Str × D))
  | raw (v : V)
inductive T where
  | d (x : D) | cel (k : Nat)
mutual
def Rep (K : PySem.W.Frag) (G : Hp) : D → V → Prop
  | .non, v => v = .non
  | .bl b, v => v = .bl b
  | .int i, v => v = .int i
  | .str x, v => v = .str x
  | .tup ds, v => ∃ a vs, v = .ref a ∧ SqT K G a vs ∧ RepL K G ds vs
  | .lst ds, v => ∃ a vs, v = .ref a ∧ SqL K G a vs ∧ RepL K G ds vs
  | .dic kvs, v => ∃ a ws, v = .ref a ∧ G a = some (.dK ws) ∧ RepK K G kvs ws
  | .ins C fs, v => ∃ a dx ws, v = .ref a ∧ G a = some (.ins C dx ws) ∧ RepF K G fs ws
  | .exc a dd cls fs, v => v = .ref a ∧ ∃ ws, G dd = some (.xd ws) ∧ RepF K G fs ws
  | .raw u, v => v = u
def RepL (K : PySem.W.Frag) (G : Hp) : List D → List V → Prop
  | [], vs => vs = []
  | d :: ds, vs => ∃ v r, vs = v :: r ∧ Rep K G d v ∧ RepL K G ds r
def RepK (K : PySem.W.Frag) (G : Hp) : List (Key × D) → List (Key × V) → Prop
  | [], vs => vs = []
  | (k, d) :: ds, vs => ∃ v r, vs = (k, v) :: r ∧ Rep K G d v ∧ RepK K G ds r
def RepF (K : PySem.W.Frag) (G : Hp) : List (Str × D) → List (Str × V) → Prop
  | [], vs => vs = []
  | (k, d) :: ds, vs => ∃ v r, vs = (k, v) :: r ∧ Rep K G d v ∧ RepF K G ds r
end
/-- G says nothing less -/
def Gg (G G' : Hp) : Prop := ∀ a u, G a = some u → G' a = some u
theorem Gg.refl (G : Hp) : Gg G G := fun _ _ h => h
theorem Gg.trans {G G1 G2 : Hp} (a : Gg G G1) (b : Gg G1 G2) : Gg G G2 := fun x u h => b x u (a x u h)
theorem Gg.sqT {K : PySem.W.Frag} {G G' : Hp} (g : Gg G G') {a : Addr} {xs : List V} (h : SqT K G a xs) : SqT K G' a xs := by
  rcases h with (h | ⟨o, h⟩) | h
  · exact .inl (.inl (g _ _ h))
  · exact .inl (.inr ⟨o, g _ _ h⟩)
  · exact .inr h
theorem Gg.sqL {K : PySem.W.Frag} {G G' : Hp} (g : Gg G G') {a : Addr} {xs : List V} (h : SqL K G a xs) : SqL K G' a xs := by
  rcases h with (h | ⟨o, h⟩) | h
  · exact .inl (.inl (g _ _ h))
  · exact .inl (.inr ⟨o, g _ _ h⟩)
  · exact .inr h
theorem pre_get {m m' : List Addr} (p : m <+: m') {k : Nat} {a : Addr} (h : m[k]? = some a) : m'[k]? = some a := by
  obtain ⟨t, rfl⟩ := p
  rw [List.getElem?_append_left (List.getElem?_eq_some_iff.mp h).1]
  exact h
mutual
theorem Rep.mono {K : PySem.W.Frag} {G G' : Hp} (g : Gg G G') : ∀ (d : D) (v : V), Rep K G d v → Rep K G' d v
  | .non, v, h => h
  | .bl b, v, h => h
  | .int i, v, h => h
  | .str x, v, h => h
  | .tup ds, v, ⟨a, vs, e, hs, r⟩ => ⟨a, vs, e, g.sqT hs, RepL.mono g ds vs r⟩
  | .lst ds, v, ⟨a, vs, e, hs, r⟩ => ⟨a, vs, e, g.sqL hs, RepL.mono g ds vs r⟩
  | .dic kvs, v, ⟨a, ws, e, hs, r⟩ => ⟨a, ws, e, g _ _ hs, RepK.mono g kvs ws r⟩
  | .ins C fs, v, ⟨a, dx, ws, e, hs, r⟩ => ⟨a, dx, ws, e, g _ _ hs, RepF.mono g fs ws r⟩
  | .exc a dd cls fs, v, ⟨e, ws, hs, r⟩ => ⟨e, ws, g _ _ hs, RepF.mono g fs ws r⟩
  | .raw u, v, h => h
theorem RepL.mono {K : PySem.W.Frag} {G G' : Hp} (g : Gg G G') : ∀ (ds : List D) (vs : List V), RepL K G ds vs → RepL K G' ds vs
  | [], vs, h => h
  | d :: ds, vs, ⟨v, r, e, h, hr⟩ => ⟨v, r, e, Rep.mono g d v h, RepL.mono g ds r hr⟩
theorem RepK.mono {K : PySem.W.Frag} {G G' : Hp} (g : Gg G G') : ∀ (ds : List (Key × D)) (vs : List (Key × V)), RepK K G ds vs → RepK K G' ds vs
  | [], vs, h => h
  | (k, d) :: ds, vs, ⟨v, r, e, h, hr⟩ => ⟨v, r, e, Rep.mono g d v h, RepK.mono g ds r hr⟩
theorem RepF.mono {K : PySem.W.Frag} {G G' : Hp} (g : Gg G G') : ∀ (ds : List (Str × D)) (vs : List (Str × V)), RepF K G ds vs → RepF K G' ds vs
  | [], vs, h => h
  | (k, d) :: ds, vs, ⟨v, r, e, h, hr⟩ => ⟨v, r, e, Rep.mono g d v h, RepF.mono g ds r hr⟩
end
/-! ### tops -/
def RepT (K : PySem.W.Frag) (m : List Addr) (G : Hp) : T → V → Prop
  | .d x, v => Rep K G x v
  | .cel k, v => ∃ a, m[k]? = some a ∧ v = .ref a
def RepTL (K : PySem.W.Frag) (m : List Addr) (G : Hp) : List T → List V → Prop
  | [], vs => vs = []
  | d :: ds, vs => ∃ v r, vs = v :: r ∧ RepT K m G d v ∧ RepTL K m G ds r
def RepTK {κ : Type} (K : PySem.W.Frag) (m : List Addr) (G : Hp) : List (κ × T) → List (κ × V) → Prop
  | [], vs => vs = []
  | (k, d) :: ds, vs => ∃ v r, vs = (k, v) :: r ∧ RepT K m G d v ∧ RepTK K m G ds r
theorem RepT.mono {K : PySem.W.Frag} {m m' : List Addr} {G G' : Hp} (p : m <+: m') (g : Gg G G') : ∀ {t : T} {v : V}, RepT K m G t v → RepT K m' G' t v
  | .d x, v, h => Rep.mono g x v h
  | .cel k, v, ⟨a, hk, e⟩ => ⟨a, pre_get p hk, e⟩
theorem RepTL.mono {K : PySem.W.Frag} {m m' : List Addr} {G G' : Hp} (p : m <+: m') (g : Gg G G') : ∀ {ts : List T} {vs : List V}, RepTL K m G ts vs → RepTL K m' G' ts vs
  | [], vs, h => h
  | d :: ds, vs, ⟨v, r, e, h, hr⟩ => ⟨v, r, e, h.mono p g, RepTL.mono p g hr⟩
theorem RepTK.mono {κ : Type} {K : PySem.W.Frag} {m m' : List Addr} {G G' : Hp} (p : m <+: m') (g : Gg G G') : ∀ {ts : List (κ × T)} {vs : List (κ × V)}, RepTK K m G ts vs → RepTK K m' G' ts vs
  | [], vs, h => h
  | (k, d) :: ds, vs, ⟨v, r, e, h, hr⟩ => ⟨v, r, e, h.mono p g, RepTK.mono p g hr⟩
/-! ### lists of data -/
section
variable {K : PySem.W.Frag} {m : List Addr} {G : Hp}
theorem RepL.length : ∀ {ds : List D} {vs : List V}, RepL K G ds vs → vs.length = ds.length
  | [], _, h => by cases h; rfl
  | d :: ds, _, ⟨v, r, e, _, hr⟩ => by subst e; simp [RepL.length hr]
theorem RepL.get : ∀ {ds : List D} {vs : List V} {i : Nat} {d : D}, RepL K G ds vs → ds[i]? = some d → ∃ v, vs[i]? = some v ∧ Rep K G d v
  | d :: ds, _, 0, d', ⟨v, r, e, h, _⟩, hi => by subst e; cases hi; exact ⟨v, rfl, h⟩
  | d :: ds, _, i + 1, d', ⟨v, r, e, _, hr⟩, hi => by subst e; exact RepL.get (i := i) hr hi
theorem RepL.append : ∀ {ds es : List D} {vs ws : List V}, RepL K G ds vs → RepL K G es ws → RepL K G (ds ++ es) (vs ++ ws)
  | [], es, _, ws, h, h' => by cases h; exact h'
  | d :: ds, es, _, ws, ⟨v, r, e, h, hr⟩, h' => by subst e; exact ⟨v, r ++ ws, rfl, h, RepL.append hr h'⟩
theorem RepL.one {d : D} {v : V} (h : Rep K G d v) : RepL K G [d] [v] := ⟨v, [], rfl, h, rfl⟩
theorem RepL.take : ∀ {ds : List D} {vs : List V} (n : Nat), RepL K G ds vs → RepL K G (ds.take n) (vs.take n)
  | [], _, n, h => by cases h; simp [RepL]
  | d :: ds, _, 0, h => by simp [RepL]
  | d :: ds, _, n + 1, ⟨v, r, e, h, hr⟩ => by subst e; exact ⟨v, r.take n, rfl, h, RepL.take n hr⟩
theorem RepL.drop : ∀ {ds : List D} {vs : List V} (n : Nat), RepL K G ds vs → RepL K G (ds.drop n) (vs.drop n)
  | [], _, n, h => by cases h; simp [RepL]
  | d :: ds, _, 0, h => h
  | d :: ds, _, n + 1, ⟨v, r, e, h, hr⟩ => by subst e; exact RepL.drop n hr
theorem RepL.isEmpty : ∀ {ds : List D} {vs : List V}, RepL K G ds vs → vs.isEmpty = ds.isEmpty
  | [], _, h => by cases h; rfl
  | _ :: _, _, ⟨_, _, e, _⟩ => by subst e; rfl
theorem RepF.lookup : ∀ {fs : List (Str × D)} {ws : List (Str × V)} {f : Str} {d : D}, RepF K G fs ws → fs.lookup f = some d → ∃ v, ws.lookup f = some v ∧ Rep K G d v
  | (k, c) :: fs, _, f, d, ⟨v, r, e, h, hr⟩, hi => by
    subst e
    rw [List.lookup_cons] at hi ⊢
    cases q : (f == k) with
    | true => rw [q] at hi; cases hi; exact ⟨v, rfl, h⟩
    | false => rw [q] at hi; exact RepF.lookup hr hi
theorem RepF.none : ∀ {fs : List (Str × D)} {ws : List (Str × V)} {f : Str}, RepF K G fs ws → fs.lookup f = .none → ws.lookup f = .none
  | [], _, f, h, _ => by cases h; rfl
  | (k, c) :: fs, _, f, ⟨v, r, e, h, hr⟩, hi => by
    subst e
    rw [List.lookup_cons] at hi ⊢
    cases q : (f == k) with
    | true => rw [q] at hi; cases hi
    | false => rw [q] at hi; exact RepF.none hr hi
theorem RepTL.length : ∀ {ds : List T} {vs : List V}, RepTL K m G ds vs → vs.length = ds.length
  | [], _, h => by cases h; rfl
  | d :: ds, _, ⟨v, r, e, _, hr⟩ => by subst e; simp [RepTL.length hr]
theorem RepTL.get : ∀ {ds : List T} {vs : List V} {i : Nat} {d : T}, RepTL K m G ds vs → ds[i]? = some d → ∃ v, vs[i]? = some v ∧ RepT K m G d v
  | d :: ds, _, 0, d', ⟨v, r, e, h, _⟩, hi => by subst e; cases hi; exact ⟨v, rfl, h⟩
  | d :: ds, _, i + 1, d', ⟨v, r, e, _, hr⟩, hi => by subst e; exact RepTL.get (i := i) hr hi
theorem RepTL.append : ∀ {ds es : List T} {vs ws : List V}, RepTL K m G ds vs → RepTL K m G es ws → RepTL K m G (ds ++ es) (vs ++ ws)
  | [], es, _, ws, h, h' => by cases h; exact h'
  | d :: ds, es, _, ws, ⟨v, r, e, h, hr⟩, h' => by subst e; exact ⟨v, r ++ ws, rfl, h, RepTL.append hr h'⟩
theorem RepTL.one {d : T} {v : V} (h : RepT K m G d v) : RepTL K m G [d] [v] := ⟨v, [], rfl, h, rfl⟩
theorem RepTL.set : ∀ {ds : List T} {vs : List V} (i : Nat) {d : T} {v : V}, RepTL K m G ds vs → RepT K m G d v → RepTL K m G (ds.set i d) (vs.set i v)
  | [], _, i, d, v, h, _ => by cases h; simp [RepTL]
  | c :: ds, _, 0, d, v, ⟨u, r, e, h, hr⟩, h' => by subst e; exact ⟨v, r, rfl, h', hr⟩
  | c :: ds, _, i + 1, d, v, ⟨u, r, e, h, hr⟩, h' => by subst e; exact ⟨u, r.set i v, rfl, h, RepTL.set i hr h'⟩
theorem RepTL.erase : ∀ {ds : List T} {vs : List V} (i : Nat), RepTL K m G ds vs → RepTL K m G (ds.eraseIdx i) (vs.eraseIdx i)
  | [], _, i, h => by cases h; simp [RepTL]
  | c :: ds, _, 0, ⟨u, r, e, h, hr⟩ => by subst e; exact hr
  | c :: ds, _, i + 1, ⟨u, r, e, h, hr⟩ => by subst e; exact ⟨u, r.eraseIdx i, rfl, h, RepTL.erase i hr⟩
theorem RepTL.isEmpty : ∀ {ds : List T} {vs : List V}, RepTL K m G ds vs → vs.isEmpty = ds.isEmpty
  | [], _, h => by cases h; rfl
  | _ :: _, _, ⟨_, _, e, _⟩ => by subst e; rfl
/-- all trees -/
def unT : List T → Option (List D)
  | [] => some []
  | .d x :: r => match unT r with
    | some xs => some (x :: xs)
    | none => none
  | .cel _ :: _ => none
theorem unT_ok : ∀ {ts : List T} {vs : List V} {ds : List D}, RepTL K m G ts vs → unT ts = some ds → RepL K G ds vs
  | [], vs, ds, r, h => by cases r; cases h; exact rfl
  | .d x :: ts, vs, ds, ⟨v, t, e, r, rs⟩, h => by
    simp only [unT] at h
    cases q : unT ts with
    | none => rw [q] at h; cases h
    | some ys => rw [q] at h; cases h; exact ⟨v, t, e, r, unT_ok rs q⟩
  | .cel _ :: ts, vs, ds, _, h => nomatch h
theorem toT : ∀ {ds : List D} {vs : List V}, RepL K G ds vs → RepTL K m G (ds.map T.d) vs
  | [], _, h => h
  | d :: ds, _, ⟨v, r, e, h, hr⟩ => ⟨v, r, e, h, toT hr⟩
theorem unT_map : ∀ ds : List D, unT (ds.map T.d) = some ds
  | [] => rfl
  | d :: ds => by simp [unT, unT_map ds]
def unF : List (Str × T) → Option (List (Str × D))
  | [] => some []
  | (k, .d x) :: r => match unF r with
    | some xs => some ((k, x) :: xs)
    | none => none
  | (_, .cel _) :: _ => none
theorem unF_ok : ∀ {ts : List (Str × T)} {vs : List (Str × V)} {ds : List (Str × D)}, RepTK K m G ts vs → unF ts = some ds → RepF K G ds vs
  | [], vs, ds, r, h => by cases r; cases h; exact rfl
  | (k, .d x) :: ts, vs, ds, ⟨v, t, e, r, rs⟩, h => by
    simp only [unF] at h
    cases q : unF ts with
    | none => rw [q] at h; cases h
    | some ys => rw [q] at h; cases h; exact ⟨v, t, e, r, unF_ok rs q⟩
  | (k, .cel _) :: ts, vs, ds, _, h => nomatch h
def unK : List (Key × T) → Option (List (Key × D))
  | [] => some []
  | (k, .d x) :: r => match unK r with
    | some xs => some ((k, x) :: xs)
    | none => none
  | (_, .cel _) :: _ => none
theorem unK_ok : ∀ {ts : List (Key × T)} {vs : List (Key × V)} {ds : List (Key × D)}, RepTK K m G ts vs → unK ts = some ds → RepK K G ds vs
  | [], vs, ds, r, h => by cases r; cases h; exact rfl
  | (k, .d x) :: ts, vs, ds, ⟨v, t, e, r, rs⟩, h => by
    simp only [unK] at h
    cases q : unK ts with
    | none => rw [q] at h; cases h
    | some ys => rw [q] at h; cases h; exact ⟨v, t, e, r, unK_ok rs q⟩
  | (k, .cel _) :: ts, vs, ds, _, h => nomatch h
theorem RepTK.lookup : ∀ {fs : List (Str × T)} {ws : List (Str × V)} {f : Str} {d : T}, RepTK K m G fs ws → fs.lookup f = some d → ∃ v, ws.lookup f = some v ∧ RepT K m G d v
  | (k, c) :: fs, _, f, d, ⟨v, r, e, h, hr⟩, hi => by
    subst e
    rw [List.lookup_cons] at hi ⊢
    cases q : (f == k) with
    | true => rw [q] at hi; cases hi; exact ⟨v, rfl, h⟩
    | false => rw [q] at hi; exact RepTK.lookup hr hi
theorem RepTK.length {κ : Type} : ∀ {fs : List (κ × T)} {ws : List (κ × V)}, RepTK K m G fs ws → ws.length = fs.length
  | [], _, h => by cases h; rfl
  | (k, d) :: ds, _, ⟨v, r, e, _, hr⟩ => by subst e; simp [RepTK.length hr]
def putD (f : Str) (d : T) : List (Str × T) → List (Str × T)
  | [] => [(f, d)]
  | (g, x) :: r => if g = f then (g, d) :: r else (g, x) :: putD f d r
theorem RepTK.put {f : Str} {d : T} {v : V} (h' : RepT K m G d v) : ∀ {fs : List (Str × T)} {ws : List (Str × V)}, RepTK K m G fs ws → RepTK K m G (putD f d fs) (putF f v ws)
  | [], _, h => by cases h; exact ⟨v, [], rfl, h', rfl⟩
  | (k, c) :: fs, _, ⟨u, r, e, h, hr⟩ => by
    subst e
    by_cases q : k = f
    · simp only [putD, putF, if_pos q]; exact ⟨v, r, rfl, h', hr⟩
    · simp only [putD, putF, if_neg q]; exact ⟨u, _, rfl, h, RepTK.put h' hr⟩
end
/-! ### cells, the state -/
inductive Cell where
  | lst (xs : List T) | dic (kvs : List (Key × T)) | ins (C : Addr) (fs : List (Str × T))
/-- what G says stands in H, locked perhaps -/
def Gs (G H : Hp) : Prop := ∀ a u, G a = some u → H a = some u ∨ ((∃ kvs, u = .dK kvs) ∧ ∃ o, H a = some (.frz o u))
def CellOk (K : PySem.W.Frag) (m : List Addr) (G H : Hp) (a : Addr) : Cell → Prop
  | .lst ds => ∃ vs, H a = some (.lst vs) ∧ RepTL K m G ds vs
  | .dic kvs => ∃ ws, H a = some (.dK ws) ∧ RepTK K m G kvs ws
  | .ins C fs => ∃ dx ws, H a = some (.ins C dx ws) ∧ RepTK K m G fs ws
structure RelS (K : PySem.W.Frag) (H : Hp) (ce : List Cell) (G : Hp) (m : List Addr) : Prop where
  gh : Gs G H
  nd : m.Nodup
  len : m.length = ce.length
  out : ∀ a ∈ m, G a = none
  cel : ∀ (k : Nat) (a : Addr) (c : Cell), m[k]? = some a → ce[k]? = some c → CellOk K m G H a c
structure Stp (H : Hp) (m : List Addr) (G : Hp) (H' : Hp) (m' : List Addr) (G' : Hp) : Prop where
  keep : ∀ a o, H a = some o → a ∉ m → H' a = some o
  pre : m <+: m'
  new : ∀ a ∈ m', a ∈ m ∨ H a = none
  gg : Gg G G'
  stay : ∀ a, H a ≠ none → H' a ≠ none
  gnew : ∀ a u, G' a = some u → G a = some u ∨ H a = none
theorem Stp.refl {H : Hp} {m : List Addr} {G : Hp} : Stp H m G H m G := ⟨fun _ _ h _ => h, List.prefix_refl m, fun _ h => .inl h, Gg.refl G, fun _ h => h, fun _ _ h => .inl h⟩
theorem Stp.trans {H H1 H2 : Hp} {m m1 m2 : List Addr} {G G1 G2 : Hp} (a : Stp H m G H1 m1 G1) (b : Stp H1 m1 G1 H2 m2 G2) : Stp H m G H2 m2 G2 where
  keep := fun x o h n => b.keep x o (a.keep x o h n) fun h1 => (a.new x h1).elim n fun q => by rw [q] at h; cases h
  pre := a.pre.trans b.pre
  new := fun x h => (b.new x h).elim (fun h1 => a.new x h1) fun q => by
    cases e : H x with
    | none => exact .inr rfl
    | some o => exact absurd q (a.stay x (by rw [e]; exact fun z => nomatch z))
  gg := a.gg.trans b.gg
  stay := fun x h => b.stay x (a.stay x h)
  gnew := fun x u h => (b.gnew x u h).elim (fun h1 => a.gnew x u h1) fun q => by
    cases e : H x with
    | none => exact .inr rfl
    | some o => exact absurd q (a.stay x (by rw [e]; exact fun z => nomatch z))
theorem upd_stay {H : Hp} {p : Addr} {o : HO} (a : Addr) (h : H a ≠ none) : upd H p o a ≠ none := by
  by_cases e : a = p
  · subst e; rw [upd_same]; exact fun z => nomatch z
  · rw [upd_ne e]; exact h
abbrev Sl := List (Option T)
abbrev Ce := List Cell
structure Rel (K : PySem.W.Frag) (σ : St) (H : Hp) (sl : Sl) (ce : Ce) (G : Hp) (m : List Addr) : Prop extends RelS K H ce G m where
  sln : σ.length = sl.length
  sls : ∀ (i : Nat) (d : T), sl[i]? = some (some d) → ∃ v, σ[i]? = some (some v) ∧ RepT K m G d v
theorem Rel.step {K : PySem.W.Frag} {σ : St} {H H' : Hp} {sl : Sl} {ce ce' : Ce} {G G' : Hp} {m m' : List Addr} (R : Rel K σ H sl ce G m) (s : Stp H m G H' m' G') (R' : RelS K H' ce' G' m') : Rel K σ H' sl ce' G' m' :=
  { R' with sln := R.sln, sls := fun i d h => let ⟨v, e, r⟩ := R.sls i d h; ⟨v, e, r.mono s.pre s.gg⟩ }
/-- what is raised, as data -/
structure Exc where
  cls : Value
  fs : List (Str × D)
def RepX (K : PySem.W.Frag) (G : Hp) (cls : Value) (dd : Option Addr) (x : Exc) : Prop :=
  x.cls = cls ∧ match dd with
    | none => x.fs = []
    | some d => ∃ ws, G d = some (.xd ws) ∧ RepF K G x.fs ws
/-! ### how the state goes on -/
section
variable {K : PySem.W.Frag} {H : Hp} {ce : Ce} {G : Hp} {m : List Addr}
theorem Gs.fresh (g : Gs G H) {p : Addr} (hp : H p = none) : G p = none := by
  cases e : G p with
  | none => rfl
  | some u =>
    rcases g p u e with h | ⟨_, o, h⟩ <;> rw [hp] at h <;> cases h
theorem Gs.rdT (g : Gs G H) {a : Addr} {xs : List V} (h : SqT K G a xs) : SqT K H a xs := by
  rcases h with (h | ⟨o, h⟩) | h
  · rcases g _ _ h with h | ⟨mu, _⟩
    · exact .inl (.inl h)
    · obtain ⟨_, q⟩ := mu; cases q
  · rcases g _ _ h with h | ⟨mu, _⟩
    · exact .inl (.inr ⟨o, h⟩)
    · obtain ⟨_, q⟩ := mu; cases q
  · exact .inr h
theorem Gs.rdL (g : Gs G H) {a : Addr} {xs : List V} (h : SqL K G a xs) : SqL K H a xs := by
  rcases h with (h | ⟨o, h⟩) | h
  · rcases g _ _ h with h | ⟨mu, o, h⟩
    · exact .inl (.inl h)
    · obtain ⟨_, q⟩ := mu; cases q
  · rcases g _ _ h with h | ⟨mu, _⟩
    · exact .inl (.inr ⟨o, h⟩)
    · obtain ⟨_, q⟩ := mu; cases q
  · exact .inr h
theorem CellOk.there {a : Addr} {c : Cell} (h : CellOk K m G H a c) : H a ≠ none := by
  cases c with
  | lst ds => obtain ⟨vs, h, _⟩ := h; rw [h]; exact fun z => nomatch z
  | dic ds => obtain ⟨vs, h, _⟩ := h; rw [h]; exact fun z => nomatch z
  | ins C fs => obtain ⟨dx, vs, h, _⟩ := h; rw [h]; exact fun z => nomatch z
theorem RelS.mem (R : RelS K H ce G m) {a : Addr} (h : a ∈ m) : H a ≠ none := by
  obtain ⟨k, hk, e⟩ := List.getElem_of_mem h
  have hk' : k < ce.length := by rw [← R.len]; exact hk
  exact (R.cel k a (ce[k]'hk') (by rw [List.getElem?_eq_getElem hk, e]) (List.getElem?_eq_getElem hk')).there
theorem RelS.nmem (R : RelS K H ce G m) {p : Addr} (hp : H p = none) : p ∉ m := fun h => R.mem h hp
theorem CellOk.mono {m' : List Addr} {G' H' : Hp} {a : Addr} {c : Cell} (h : CellOk K m G H a c) (p : m <+: m') (g : Gg G G') (hH : ∀ o, H a = some o → H' a = some o) : CellOk K m' G' H' a c := by
  cases c with
  | lst ds => obtain ⟨vs, h, r⟩ := h; exact ⟨vs, hH _ h, r.mono p g⟩
  | dic ds => obtain ⟨vs, h, r⟩ := h; exact ⟨vs, hH _ h, r.mono p g⟩
  | ins C fs => obtain ⟨dx, vs, h, r⟩ := h; exact ⟨dx, vs, hH _ h, r.mono p g⟩
theorem Gg.new {p : Addr} {o : HO} (h : G p = none) : Gg G (upd G p o) := fun a u e => by
  rw [upd_ne (ne_of_none e h)]
  exact e
/-- a new thing that never changes -/
theorem RelS.laid (R : RelS K H ce G m) {p : Addr} (o : HO) (hp : H p = none) : RelS K (upd H p o) ce (upd G p o) m ∧ Stp H m G (upd H p o) m (upd G p o) := by
  have gp := R.gh.fresh hp
  have g : Gg G (upd G p o) := Gg.new gp
  have nm := R.nmem hp
  refine ⟨⟨fun a u h => ?_, R.nd, R.len, fun a h => ?_, fun k a c hm hc => ?_⟩, ⟨fun a u h _ => ?_, List.prefix_refl m, fun a h => .inl h, g, upd_stay, fun a u h => ?_⟩⟩
  · by_cases e : a = p
    · subst e; rw [upd_same] at h; cases h; exact .inl upd_same
    · rw [upd_ne e] at h ⊢; exact R.gh a u h
  · have ne : a ≠ p := fun e => nm (e ▸ h)
    rw [upd_ne ne]; exact R.out a h
  · have ne : a ≠ p := fun e => R.mem (List.mem_of_getElem? hm) (e ▸ hp)
    exact (R.cel k a c hm hc).mono (List.prefix_refl m) g (fun o h => by rw [upd_ne ne]; exact h)
  · rw [upd_ne (ne_of_none h hp)]; exact h
  · by_cases e : a = p
    · subst e; exact .inr hp
    · rw [upd_ne e] at h; exact .inl h
/-- a thing that the machine lays beside (not said in G) -/
theorem RelS.beside (R : RelS K H ce G m) {p : Addr} (o : HO) (hp : H p = none) : RelS K (upd H p o) ce G m ∧ Stp H m G (upd H p o) m G := by
  refine ⟨⟨fun a u h => ?_, R.nd, R.len, R.out, fun k a c hm hc => ?_⟩, ⟨fun a u h _ => ?_, List.prefix_refl m, fun a h => .inl h, Gg.refl G, upd_stay, fun _ _ h => .inl h⟩⟩
  · have ne : a ≠ p := fun e => by
      subst e
      rcases R.gh _ _ h with z | ⟨_, o, z⟩ <;> rw [hp] at z <;> cases z
    rw [upd_ne ne]; exact R.gh a u h
  · have ne : a ≠ p := fun e => R.mem (List.mem_of_getElem? hm) (e ▸ hp)
    exact (R.cel k a c hm hc).mono (List.prefix_refl m) (Gg.refl G) (fun o h => by rw [upd_ne ne]; exact h)
  · rw [upd_ne (ne_of_none h hp)]; exact h
theorem nodup_snoc {m : List Addr} (h : m.Nodup) {p : Addr} (n : p ∉ m) : (m ++ [p]).Nodup := by
  rw [List.nodup_append]
  exact ⟨h, List.pairwise_singleton _ _, fun a ha b hb e => by simp at hb; subst hb; subst e; exact n ha⟩
/-- a new cell -/
theorem RelS.cell (R : RelS K H ce G m) {p : Addr} {o : HO} {c : Cell} (hp : H p = none) (hc : CellOk K (m ++ [p]) G (upd H p o) p c) : RelS K (upd H p o) (ce ++ [c]) G (m ++ [p]) ∧ Stp H m G (upd H p o) (m ++ [p]) G := by
  have nm := R.nmem hp
  refine ⟨⟨fun a u h => ?_, nodup_snoc R.nd nm, by simp [R.len], fun a h => ?_, fun k a c' hm hc' => ?_⟩, ⟨fun a u h _ => ?_, List.prefix_append m [p], fun a h => ?_, Gg.refl G, upd_stay, fun _ _ h => .inl h⟩⟩
  · have ne : a ≠ p := fun e => by
      subst e
      rcases R.gh _ _ h with z | ⟨_, o, z⟩ <;> rw [hp] at z <;> cases z
    rw [upd_ne ne]; exact R.gh a u h
  · rcases List.mem_append.mp h with h | h
    · exact R.out a h
    · simp at h; subst h; exact R.gh.fresh hp
  · by_cases hk : k < m.length
    · rw [List.getElem?_append_left hk] at hm
      rw [List.getElem?_append_left (by rw [← R.len]; exact hk)] at hc'
      have ne : a ≠ p := fun e => nm (e ▸ List.mem_of_getElem? hm)
      exact (R.cel k a c' hm hc').mono (List.prefix_append m [p]) (Gg.refl G) (fun o h => by rw [upd_ne ne]; exact h)
    · have hk0 : k = m.length := by
        have := (List.getElem?_eq_some_iff.mp hm).1
        simp at this; omega
      subst hk0
      rw [List.getElem?_append_right (Nat.le_refl _)] at hm
      rw [R.len, List.getElem?_append_right (Nat.le_refl _)] at hc'
      simp at hm hc'
      subst hm; subst hc'
      exact hc
  · rw [upd_ne (ne_of_none h hp)]; exact h
  · rw [List.mem_append] at h
    rcases h with h | h
    · exact .inl h
    · simp at h; subst h; exact .inr hp
/-- a cell is written -/
theorem RelS.write (R : RelS K H ce G m) {k : Nat} {a : Addr} {o : HO} {c : Cell} (hk : m[k]? = some a) (hc : CellOk K m G (upd H a o) a c) : RelS K (upd H a o) (ce.set k c) G m ∧ Stp H m G (upd H a o) m G := by
  have ha : a ∈ m := List.mem_of_getElem? hk
  have hg := R.out a ha
  refine ⟨⟨fun b u h => ?_, R.nd, by simp [R.len], R.out, fun j b c' hm hc' => ?_⟩, ⟨fun b u h nb => ?_, List.prefix_refl m, fun a h => .inl h, Gg.refl G, upd_stay, fun _ _ h => .inl h⟩⟩
  · have ne : b ≠ a := fun e => by subst e; rw [hg] at h; cases h
    rw [upd_ne ne]; exact R.gh b u h
  · by_cases e : j = k
    · subst e
      rw [hk] at hm; cases hm
      have hl : j < ce.length := by rw [← R.len]; exact (List.getElem?_eq_some_iff.mp hk).1
      rw [List.getElem?_set_self hl] at hc'
      cases hc'
      exact hc
    · rw [List.getElem?_set_ne (Ne.symm e)] at hc'
      have ne : b ≠ a := fun z => by
        subst z
        exact e (nd_ix R.nd hm hk)
      exact (R.cel j b c' hm hc').mono (List.prefix_refl m) (Gg.refl G) (fun o h => by rw [upd_ne ne]; exact h)
  · have ne : b ≠ a := fun z => nb (z ▸ ha)
    rw [upd_ne ne]; exact h
/-! ### cells are let go -/
def topB (n : Nat) : T → Bool
  | .d _ => true
  | .cel k => decide (k < n)
def cellB (n : Nat) : Cell → Bool
  | .lst xs => xs.all (topB n)
  | .dic xs => xs.all fun p => topB n p.2
  | .ins _ xs => xs.all fun p => topB n p.2
theorem RepT.less {n : Nat} {t : T} {v : V} (hn : n ≤ m.length) (hb : topB n t = true) (r : RepT K m G t v) : RepT K (m.take n) G t v := by
  cases t with
  | d x => exact r
  | cel k =>
    obtain ⟨a, h, e⟩ := r
    have hk : k < n := of_decide_eq_true hb
    exact ⟨a, by rw [List.getElem?_take_of_lt hk]; exact h, e⟩
theorem RepTL.less {n : Nat} (hn : n ≤ m.length) : ∀ {ts : List T} {vs : List V}, ts.all (topB n) = true → RepTL K m G ts vs → RepTL K (m.take n) G ts vs
  | [], vs, _, h => h
  | d :: ds, vs, hb, ⟨v, r, e, h, hr⟩ => by
    rw [List.all_cons, Bool.and_eq_true] at hb
    exact ⟨v, r, e, h.less hn hb.1, RepTL.less hn hb.2 hr⟩
theorem RepTK.less {κ : Type} {n : Nat} (hn : n ≤ m.length) : ∀ {ts : List (κ × T)} {vs : List (κ × V)}, (ts.all fun p => topB n p.2) = true → RepTK K m G ts vs → RepTK K (m.take n) G ts vs
  | [], vs, _, h => h
  | (k, d) :: ds, vs, hb, ⟨v, r, e, h, hr⟩ => by
    rw [List.all_cons, Bool.and_eq_true] at hb
    exact ⟨v, r, e, h.less hn hb.1, RepTK.less hn hb.2 hr⟩
theorem CellOk.less {n : Nat} {a : Addr} {c : Cell} (hn : n ≤ m.length) (hb : cellB n c = true) (h : CellOk K m G H a c) : CellOk K (m.take n) G H a c := by
  cases c with
  | lst ds => obtain ⟨vs, h, r⟩ := h; exact ⟨vs, h, r.less hn hb⟩
  | dic ds => obtain ⟨vs, h, r⟩ := h; exact ⟨vs, h, r.less hn hb⟩
  | ins C fs => obtain ⟨dx, vs, h, r⟩ := h; exact ⟨dx, vs, h, r.less hn hb⟩
theorem RelS.less (R : RelS K H ce G m) (n : Nat) (hn : n ≤ ce.length) (hb : (ce.take n).all (cellB n) = true) : RelS K H (ce.take n) G (m.take n) := by
  have hn' : n ≤ m.length := by rw [R.len]; exact hn
  refine ⟨R.gh, R.nd.sublist (List.take_sublist n m), by simp [R.len], fun a h => R.out a (List.mem_of_mem_take h), fun k a c hm hc => ?_⟩
  have hk : k < n := by
    have := (List.getElem?_eq_some_iff.mp hm).1
    simp at this; omega
  have hmem : c ∈ ce.take n := List.mem_of_getElem? hc
  rw [List.getElem?_take_of_lt hk] at hm hc
  exact (R.cel k a c hm hc).less hn' (List.all_eq_true.mp hb c hmem)
/-- the cells of a state speak of its cells alone -/
theorem RepT.top {t : T} {v : V} (r : RepT K m G t v) : topB m.length t = true := by
  cases t with
  | d x => rfl
  | cel k =>
    obtain ⟨a, h, _⟩ := r
    exact decide_eq_true (List.getElem?_eq_some_iff.mp h).1
theorem RepTL.top : ∀ {ts : List T} {vs : List V}, RepTL K m G ts vs → ts.all (topB m.length) = true
  | [], vs, _ => rfl
  | d :: ds, vs, ⟨v, r, e, h, hr⟩ => by rw [List.all_cons, h.top, RepTL.top hr]; rfl
theorem RepTK.top {κ : Type} : ∀ {ts : List (κ × T)} {vs : List (κ × V)}, RepTK K m G ts vs → (ts.all fun p => topB m.length p.2) = true
  | [], vs, _ => rfl
  | (k, d) :: ds, vs, ⟨v, r, e, h, hr⟩ => by
    have h2 := RepTK.top hr
    rw [List.all_cons, h2]
    simp [h.top]
theorem RelS.tops (R : RelS K H ce G m) : ce.all (cellB ce.length) = true := by
  rw [List.all_eq_true]
  intro c hc
  obtain ⟨k, hk, e⟩ := List.getElem_of_mem hc
  have hk' : k < m.length := by rw [R.len]; exact hk
  have h := R.cel k (m[k]'hk') c (List.getElem?_eq_getElem hk') (by rw [List.getElem?_eq_getElem hk, e])
  rw [← R.len]
  cases c with
  | lst ds => obtain ⟨vs, _, r⟩ := h; exact r.top
  | dic ds => obtain ⟨vs, _, r⟩ := h; exact r.top
  | ins C fs => obtain ⟨dx, vs, _, r⟩ := h; exact r.top
/-- what never changes again -/
theorem RelS.freeze (R : RelS K H ce G m) {a : Addr} {o : HO} (h : H a = some o) (ha : a ∉ m) (hg : G a = none) : RelS K H ce (upd G a o) m ∧ Gg G (upd G a o) := by
  have g : Gg G (upd G a o) := Gg.new hg
  refine ⟨⟨fun b u hb => ?_, R.nd, R.len, fun b hb => ?_, fun k b c hm hc => (R.cel k b c hm hc).mono (List.prefix_refl m) g fun o h => h⟩, g⟩
  · by_cases e : b = a
    · subst e; rw [upd_same] at hb; cases hb; exact .inl h
    · rw [upd_ne e] at hb; exact R.gh b u hb
  · have ne : b ≠ a := fun e => ha (e ▸ hb)
    rw [upd_ne ne]; exact R.out b hb
end
end DL

namespace DL
open PySem L2
abbrev Ex1 := Exc → Sl → Ce → Prop
abbrev UE := Sl → Ce → (T → Ce → Prop) → Ex1 → Prop
abbrev UT := Sl → Ce → (Bool → Ce → Prop) → Ex1 → Prop
abbrev UA := Sl → Ce → (List T → Ce → Prop) → Ex1 → Prop
/-- what is wished for of an exception -/
def Wish (K : PySem.W.Frag) (W : WX) (H : Hp) (m : List Addr) (G : Hp) (Ed : Ex1) : Prop := ∀ cls dd σ' H' x sl' ce' G' m', Rel K σ' H' sl' ce' G' m' → Stp H m G H' m' G' → RepX K G' cls dd x → Ed x sl' ce' → W cls dd σ' H'
theorem Wish.step {K : PySem.W.Frag} {W : WX} {H H' : Hp} {m m' : List Addr} {G G' : Hp} {Ed : Ex1} (w : Wish K W H m G Ed) (s : Stp H m G H' m' G') : Wish K W H' m' G' Ed := fun cls dd σ' H2 x sl' ce' G2 m2 R s2 => w cls dd σ' H2 x sl' ce' G2 m2 R (s.trans s2)
def SemE (K : PySem.W.Frag) (tf : WX → TE) (u : UE) : Prop := ∀ (W : WX) (σ : St) (H : Hp) (sl : Sl) (ce : Ce) (G : Hp) (m : List Addr) (Qd : T → Ce → Prop) (Ed : Ex1) (Qv : VK), Rel K σ H sl ce G m → Wish K W H m G Ed → u sl ce Qd Ed →
  (∀ d ce' G' m' v H', Rel K σ H' sl ce' G' m' → Stp H m G H' m' G' → RepT K m' G' d v → Qd d ce' → Qv v H') → tf W σ H Qv
def SemT (K : PySem.W.Frag) (tf : WX → TT) (u : UT) : Prop := ∀ (W : WX) (σ : St) (H : Hp) (sl : Sl) (ce : Ce) (G : Hp) (m : List Addr) (Qd : Bool → Ce → Prop) (Ed : Ex1) (Qv : Bool → Hp → Prop), Rel K σ H sl ce G m → Wish K W H m G Ed → u sl ce Qd Ed →
  (∀ b ce' G' m' H', Rel K σ H' sl ce' G' m' → Stp H m G H' m' G' → Qd b ce' → Qv b H') → tf W σ H Qv
def SemA (K : PySem.W.Frag) (tf : WX → TA) (u : UA) : Prop := ∀ (W : WX) (σ : St) (H : Hp) (sl : Sl) (ce : Ce) (G : Hp) (m : List Addr) (Qd : List T → Ce → Prop) (Ed : Ex1) (Qv : List V → Hp → Prop), Rel K σ H sl ce G m → Wish K W H m G Ed → u sl ce Qd Ed →
  (∀ ds ce' G' m' vs H', Rel K σ H' sl ce' G' m' → Stp H m G H' m' G' → RepTL K m' G' ds vs → Qd ds ce' → Qv vs H') → tf W σ H Qv
structure DE (X : Cx) (e : Expr) (u : UE) : Prop where
  ex : ∃ tf : WX → TE, (∀ W, Takes X W → PE X e (tf W)) ∧ SemE X.K tf u
structure DT (X : Cx) (e : Expr) (u : UT) : Prop where
  ex : ∃ tf : WX → TT, (∀ W, Takes X W → PT X e (tf W)) ∧ SemT X.K tf u
structure DW (X : Cx) (e : Expr) (u : UT) : Prop where
  ex : ∃ tf : WX → TT, (∀ W, Takes X W → PW X e (tf W)) ∧ SemT X.K tf u
structure DA (X : Cx) (es : List Expr) (u : UA) : Prop where
  ex : ∃ tf : WX → TA, (∀ W, Takes X W → PA X es (tf W)) ∧ SemA X.K tf u
/-! ### names and constants -/
section
variable {X : Cx} {e a b c : Expr} {ua ub uc : UE} {pos : Pos}
def uVar (i : Nat) : UE := fun sl ce Q _ => match sl[i]? with
  | some (some d) => Q d ce
  | _ => False
theorem de_var (i : Nat) {x : Str} (hN : X.N[i]? = some x := by rfl) (hv : Vis X.env.scope x := by first | exact Or.inl rfl | exact Or.inr (Or.inl rfl) | exact Or.inr (Or.inr rfl)) (hd : (x == ("__debug__" : Str)) = false := by decide) (hcd : (x == ("__classdict__" : Str)) = false := by decide) : DE X (.Name x pos) (uVar i) := by
  refine ⟨fun _ => tVar i, fun _ _ => pe_var hN hv hd hcd, fun W σ H sl ce G m Qd Ed Qv R w h k => ?_⟩
  unfold uVar at h
  split at h
  next d e =>
    obtain ⟨v, ev, r⟩ := R.sls i d e
    exact ⟨v, ev, k d ce G m v H R .refl r h⟩
  next => exact h.elim
def uC (d : D) : UE := fun _ ce Q _ => Q (.d d) ce
theorem semC {K : PySem.W.Frag} {d : D} {v : V} (h : ∀ G, Rep K G d v) : SemE K (fun _ => tC v) (uC d) := fun W σ H sl ce G m Qd Ed Qv R w hu k => k (.d d) ce G m v H R .refl (h G) hu
theorem de_int {i : Int} {j : Nat} : DE X (.Constant (.int i) j pos) (uC (.int i)) := ⟨_, fun _ _ => pe_int, semC fun _ => rfl⟩
theorem de_bl {i : Bool} {j : Nat} : DE X (.Constant (.bool i) j pos) (uC (.bl i)) := ⟨_, fun _ _ => pe_bl, semC fun _ => rfl⟩
theorem de_non {j : Nat} : DE X (.Constant .none j pos) (uC .non) := ⟨_, fun _ _ => pe_non, semC fun _ => rfl⟩
theorem de_str {i : Str} {j : Nat} : DE X (.Constant (.str i) j pos) (uC (.str i)) := ⟨_, fun _ _ => pe_str, semC fun _ => rfl⟩
/-- a module's constant -/
theorem de_gint {x : Str} {i : Int} (hm : ∃ t, X.mg x = some (.int i t)) (hg : Gl X x := by rfl) (hd : (x == ("__debug__" : Str)) = false := by decide) : DE X (.Name x pos) (uC (.int i)) := by
  obtain ⟨t, hm⟩ := hm
  exact ⟨_, fun _ _ => pe_glob (v := .int i) hg hm ⟨t, rfl⟩ hd, semC fun _ => rfl⟩
theorem de_gstr {x : Str} {i : Str} (hm : ∃ t, X.mg x = some (.str i t)) (hg : Gl X x := by rfl) (hd : (x == ("__debug__" : Str)) = false := by decide) : DE X (.Name x pos) (uC (.str i)) := by
  obtain ⟨t, hm⟩ := hm
  exact ⟨_, fun _ _ => pe_glob (v := .str i) hg hm ⟨t, rfl⟩ hd, semC fun _ => rfl⟩
theorem de_gref {x : Str} {i : Addr} (hm : X.mg x = some (.ref i)) (hg : Gl X x := by rfl) (hd : (x == ("__debug__" : Str)) = false := by decide) : DE X (.Name x pos) (uC (.raw (.ref i))) :=
  ⟨_, fun _ _ => pe_glob (v := .ref i) hg hm rfl hd, semC fun _ => rfl⟩
theorem de_ty {x : Str} {T : String} (hm : X.mg x = none) (hv : bootBuiltins x = some (.type T)) (hg : Gl X x := by rfl) (hn : x ≠ "__name__" := by decide) (hd : (x == ("__debug__" : Str)) = false := by decide) : DE X (.Name x pos) (uC (.raw (.ty T))) :=
  ⟨_, fun _ _ => pe_bltn (v := .ty T) hg hm hv rfl hn hd, semC fun _ => rfl⟩
/-! ### arguments, tuples, lists -/
def uNil : UA := fun _ ce Q _ => Q [] ce
def uCons (ua : UE) (ur : UA) : UA := fun sl ce Q E => ua sl ce (fun x ce1 => ur sl ce1 (fun xs ce2 => Q (x :: xs) ce2) E) E
theorem da_nil : DA X [] uNil := ⟨fun _ => tNil, fun _ _ => pa_nil, fun W σ H sl ce G m Qd Ed Qv R w h k => k [] ce G m [] H R .refl rfl h⟩
theorem da_cons {es : List Expr} {ur : UA} (ha : DE X e ua) (hr : DA X es ur) (hs : starEach (e :: es) X.env = (false, eval e X.env) :: starEach es X.env := by rfl) : DA X (e :: es) (uCons ua ur) := by
  obtain ⟨ta, pa, sa⟩ := ha.ex
  obtain ⟨tr, pr, sr⟩ := hr.ex
  refine ⟨fun W => tCons (ta W) (tr W), fun W tk => pa_cons (pa W tk) (pr W tk) hs, fun W σ H sl ce G m Qd Ed Qv R w h k => ?_⟩
  refine sa W σ H sl ce G m _ Ed _ R w h fun d ce1 G1 m1 v H1 R1 s1 r1 h1 => ?_
  refine sr W σ H1 sl ce1 G1 m1 _ Ed _ R1 (w.step s1) h1 fun ds ce2 G2 m2 vs H2 R2 s2 r2 h2 => ?_
  exact k (d :: ds) ce2 G2 m2 (v :: vs) H2 R2 (s1.trans s2) ⟨v, vs, rfl, r1.mono s2.pre s2.gg, r2⟩ h2
def uTup (ua : UA) : UE := fun sl ce Q E => ua sl ce (fun ts ce1 => match unT ts with
  | some ds => ds.length ≤ sizeLine ∧ Q (.d (.tup ds)) ce1
  | none => False) E
def uLst (ua : UA) : UE := fun sl ce Q E => ua sl ce (fun ts ce1 => match unT ts with
  | some ds => ds.length ≤ sizeLine ∧ Q (.d (.lst ds)) ce1
  | none => False) E
def uLstC (ua : UA) : UE := fun sl ce Q E => ua sl ce (fun ds ce1 => ds.length ≤ sizeLine ∧ Q (.cel ce1.length) (ce1 ++ [.lst ds])) E
theorem de_tup {es : List Expr} {u : UA} {x1} (h : DA X es u) : DE X (.Tuple es x1 pos) (uTup u) := by
  obtain ⟨ta, pa, sa⟩ := h.ex
  refine ⟨fun W => tTup (ta W), fun W tk => pe_tup (pa W tk), fun W σ H sl ce G m Qd Ed Qv R w h k => ?_⟩
  refine sa W σ H sl ce G m _ Ed _ R w h fun ts ce1 G1 m1 vs H1 R1 s1 r1 h1 => ?_
  cases q : unT ts with
  | none => simp only [q] at h1
  | some ds =>
    simp only [q] at h1
    obtain ⟨hl, h1⟩ := h1
    have r0 := unT_ok r1 q
    refine ⟨by rw [r0.length]; exact hl, fun p hp => ?_⟩
    obtain ⟨R2, s2⟩ := R1.toRelS.laid (.tup vs) hp
    exact k (.d (.tup ds)) ce1 _ m1 _ _ (R1.step s2 R2) (s1.trans s2) ⟨p, vs, rfl, SqT.of upd_same, RepL.mono s2.gg _ _ r0⟩ h1
theorem de_lst {es : List Expr} {u : UA} (h : DA X es u) : DE X (.List es pos) (uLst u) := by
  obtain ⟨ta, pa, sa⟩ := h.ex
  refine ⟨fun W => tLst (ta W), fun W tk => pe_lst (pa W tk), fun W σ H sl ce G m Qd Ed Qv R w h k => ?_⟩
  refine sa W σ H sl ce G m _ Ed _ R w h fun ts ce1 G1 m1 vs H1 R1 s1 r1 h1 => ?_
  cases q : unT ts with
  | none => simp only [q] at h1
  | some ds =>
    simp only [q] at h1
    obtain ⟨hl, h1⟩ := h1
    have r0 := unT_ok r1 q
    refine ⟨by rw [r0.length]; exact hl, fun p hp => ?_⟩
    obtain ⟨R2, s2⟩ := R1.toRelS.laid (.lst vs) hp
    exact k (.d (.lst ds)) ce1 _ m1 _ _ (R1.step s2 R2) (s1.trans s2) ⟨p, vs, rfl, SqL.of upd_same, RepL.mono s2.gg _ _ r0⟩ h1
theorem snoc_last {m : List Addr} {p : Addr} : (m ++ [p])[m.length]? = some p := by simp
theorem de_lstC {es : List Expr} {u : UA} (h : DA X es u) : DE X (.List es pos) (uLstC u) := by
  obtain ⟨ta, pa, sa⟩ := h.ex
  refine ⟨fun W => tLst (ta W), fun W tk => pe_lst (pa W tk), fun W σ H sl ce G m Qd Ed Qv R w h k => ?_⟩
  refine sa W σ H sl ce G m _ Ed _ R w h fun ds ce1 G1 m1 vs H1 R1 s1 r1 ⟨hl, h1⟩ => ⟨by rw [r1.length]; exact hl, fun p hp => ?_⟩
  obtain ⟨R2, s2⟩ := R1.toRelS.cell (o := .lst vs) (c := .lst ds) hp ⟨vs, upd_same, r1.mono (List.prefix_append m1 [p]) (Gg.refl _)⟩
  exact k (.cel ce1.length) _ _ _ _ _ (R1.step s2 R2) (s1.trans s2) ⟨p, by rw [← R1.len]; exact snoc_last, rfl⟩ h1
/-! ### operators -/
abbrev O2 := T → T → Ce → (T → Ce → Prop) → Prop
def OpD (X : Cx) (f : Value → Value → Sem Value) (o : O2) : Prop := ∃ r : R2, OpR X f r ∧ ∀ (H : Hp) (ce : Ce) (G : Hp) (m : List Addr) (Qd : T → Ce → Prop) (Qv : VK) (x y : T) (v u : V), RelS X.K H ce G m → RepT X.K m G x v → RepT X.K m G y u → o x y ce Qd →
  (∀ d ce' G' m' z H', RelS X.K H' ce' G' m' → Stp H m G H' m' G' → RepT X.K m' G' d z → Qd d ce' → Qv z H') → r v u H Qv
def uOp (o : O2) (ua ub : UE) : UE := fun sl ce Q E => ua sl ce (fun x ce1 => ub sl ce1 (fun y ce2 => o x y ce2 Q) E) E
theorem semOp {K : PySem.W.Frag} {ta tb : WX → TE} {r : R2} {o : O2} (sa : SemE K ta ua) (sb : SemE K tb ub)
    (hr : ∀ (H : Hp) (ce : Ce) (G : Hp) (m : List Addr) (Qd : T → Ce → Prop) (Qv : VK) (x y : T) (v u : V), RelS K H ce G m → RepT K m G x v → RepT K m G y u → o x y ce Qd →
      (∀ d ce' G' m' z H', RelS K H' ce' G' m' → Stp H m G H' m' G' → RepT K m' G' d z → Qd d ce' → Qv z H') → r v u H Qv) : SemE K (fun W => tOp r (ta W) (tb W)) (uOp o ua ub) := by
  intro W σ H sl ce G m Qd Ed Qv R w h k
  refine sa W σ H sl ce G m _ Ed _ R w h fun x ce1 G1 m1 v H1 R1 s1 r1 h1 => ?_
  refine sb W σ H1 sl ce1 G1 m1 _ Ed _ R1 (w.step s1) h1 fun y ce2 G2 m2 u H2 R2 s2 r2 h2 => ?_
  refine hr H2 ce2 G2 m2 Qd Qv x y v u R2.toRelS (r1.mono s2.pre s2.gg) r2 h2 fun d ce' G' m' z H' R' s' r' q' => ?_
  exact k d ce' G' m' z H' (R2.step s' R') ((s1.trans s2).trans s') r' q'
theorem de_bin {op : Operator} {o : O2} (ho : OpD X (binaryOp op) o) (ha : DE X a ua) (hb : DE X b ub) : DE X (.BinOp a op b pos) (uOp o ua ub) := by
  obtain ⟨ta, pa, sa⟩ := ha.ex
  obtain ⟨tb, pb, sb⟩ := hb.ex
  obtain ⟨r, pr, sr⟩ := ho
  exact ⟨_, fun W tk => pe_op pr (pa W tk) (pb W tk), semOp sa sb sr⟩
theorem de_cmp {op : CmpOp} {o : O2} (ho : OpD X (compareOp op) o) (ha : DE X a ua) (hb : DE X b ub) (hm : behindInMarks op b = false := by first | exact nomark _ | rfl) : DE X (.Compare a [op] [b] pos) (uOp o ua ub) := by
  obtain ⟨ta, pa, sa⟩ := ha.ex
  obtain ⟨tb, pb, sb⟩ := hb.ex
  obtain ⟨r, pr, sr⟩ := ho
  exact ⟨_, fun W tk => pe_cmpR pr (pa W tk) (pb W tk) hm, semOp sa sb sr⟩
/-- a <= b <= c -/
def uChain (o o' : O2) (ua ub uc : UE) : UE := fun sl ce Q E => ua sl ce (fun x ce1 => ub sl ce1 (fun y ce2 => o x y ce2 fun z ce3 => match z with
  | .d (.bl true) => uc sl ce3 (fun w ce4 => o' y w ce4 Q) E
  | .d (.bl false) => Q (.d (.bl false)) ce3
  | _ => False) E) E
theorem de_chain {op op' : CmpOp} {o o' : O2} (ho : OpD X (compareOp op) o) (ho' : OpD X (compareOp op') o') (ha : DE X a ua) (hb : DE X b ub) (hc : DE X c uc) (hm : lastMarks [op, op'] [b, c] = false := by with_unfolding_all rfl) : DE X (.Compare a [op, op'] [b, c] pos) (uChain o o' ua ub uc) := by
  obtain ⟨ta, pa, sa⟩ := ha.ex
  obtain ⟨tb, pb, sb⟩ := hb.ex
  obtain ⟨tc, pc, sc⟩ := hc.ex
  obtain ⟨r, pr, sr⟩ := ho
  obtain ⟨r', pr', sr'⟩ := ho'
  refine ⟨fun W => tChain r r' (ta W) (tb W) (tc W), fun W tk => pe_chain pr pr' (pa W tk) (pb W tk) (pc W tk) hm, ?_⟩
  intro W σ H sl ce G m Qd Ed Qv R w h k
  refine sa W σ H sl ce G m _ Ed _ R w h fun x ce1 G1 m1 v H1 R1 s1 r1 h1 => ?_
  refine sb W σ H1 sl ce1 G1 m1 _ Ed _ R1 (w.step s1) h1 fun y ce2 G2 m2 u H2 R2 s2 r2 h2 => ?_
  refine sr H2 ce2 G2 m2 _ _ x y v u R2.toRelS (r1.mono s2.pre s2.gg) r2 h2 fun z ce3 G3 m3 zv H3 R3' s3 r3 q3 => ?_
  have R3 := R2.step s3 R3'
  split at q3
  · refine ⟨true, r3, ?_⟩
    refine iteT ?_
    refine sc W σ H3 sl ce3 G3 m3 _ Ed _ R3 (w.step ((s1.trans s2).trans s3)) q3 fun d ce4 G4 m4 dv H4 R4 s4 r4 h4 => ?_
    refine sr' H4 ce4 G4 m4 Qd Qv y d u dv R4.toRelS (r2.mono (s3.trans s4).pre (s3.trans s4).gg) r4 h4 fun d' ce' G' m' z' H' R' s' r' q' => ?_
    exact k d' ce' G' m' z' H' (R4.step s' R') ((((s1.trans s2).trans s3).trans s4).trans s') r' q'
  · refine ⟨false, r3, ?_⟩
    refine iteF ?_
    exact k (.d (.bl false)) ce3 G3 m3 _ H3 R3 ((s1.trans s2).trans s3) rfl q3
  · exact q3.elim
/-! ### tests -/
def truthD (ce : Ce) : T → Option Bool
  | .d .non => some false
  | .d (.bl b) => some b
  | .d (.int i) => some (i != 0)
  | .d (.lst xs) => some (!xs.isEmpty)
  | .d (.tup xs) => some (!xs.isEmpty)
  | .cel k => match ce[k]? with
    | some (.lst xs) => some (!xs.isEmpty)
    | _ => none
  | _ => none
def uTru (ua : UE) : UT := fun sl ce Q E => ua sl ce (fun d ce1 => match truthD ce1 d with
  | some b => Q b ce1
  | none => False) E
theorem truthD_ok {K : PySem.W.Frag} {H : Hp} {ce : Ce} {G : Hp} {m : List Addr} (R : RelS K H ce G m) {t : T} {v : V} {b : Bool} (r : RepT K m G t v) (h : truthD ce t = some b) : TruV K v H b := by
  unfold truthD at h
  split at h
  · cases h; cases r; exact rfl
  · cases h; cases r; exact rfl
  · cases h; cases r; exact rfl
  · cases h; obtain ⟨a, vs, rfl, hs, r⟩ := r; exact .inl ⟨vs, R.gh.rdL hs, by rw [r.isEmpty]⟩
  · cases h; obtain ⟨a, vs, rfl, hs, r⟩ := r; exact .inr (.inl ⟨vs, R.gh.rdT hs, by rw [r.isEmpty]⟩)
  · next k =>
    split at h
    · next xs e =>
      cases h
      obtain ⟨a, hm, rfl⟩ := r
      obtain ⟨vs, hv, r⟩ := R.cel k a _ hm e
      exact .inl ⟨vs, SqL.of hv, by rw [r.isEmpty]⟩
    · cases h
  · cases h
theorem dt_val (ha : DE X e ua) (he : ∀ whole, isTrue e X.env whole = (do let v ← whole; standAt e.pos; holding [v] (truthy v)) := by intro _; rfl) : DT X e (uTru ua) := by
  obtain ⟨ta, pa, sa⟩ := ha.ex
  refine ⟨fun W σ H Q => ta W σ H fun x H' => ∃ k, TruV X.K x H' k ∧ Q k H', fun W tk => pt_truth (pa W tk) he, ?_⟩
  intro W σ H sl ce G m Qd Ed Qv R w h k
  refine sa W σ H sl ce G m _ Ed _ R w h fun x ce1 G1 m1 v H1 R1 s1 r1 h1 => ?_
  split at h1
  · next b e => exact ⟨b, truthD_ok R1.toRelS r1 e, k b ce1 G1 m1 H1 R1 s1 h1⟩
  · exact h1.elim
def uNotT (ua : UT) : UT := fun sl ce Q E => ua sl ce (fun b ce1 => Q (!b) ce1) E
def uAndT (ua ub : UT) : UT := fun sl ce Q E => ua sl ce (fun b ce1 => match b with
  | true => ub sl ce1 Q E
  | false => Q false ce1) E
def uOrT (ua ub : UT) : UT := fun sl ce Q E => ua sl ce (fun b ce1 => match b with
  | true => Q true ce1
  | false => ub sl ce1 Q E) E
section
variable {tA tB : UT}
theorem dt_not (ha : DT X a tA) : DT X (.UnaryOp .Not a pos) (uNotT tA) := by
  obtain ⟨ta, pa, sa⟩ := ha.ex
  refine ⟨_, fun W tk => pt_not (pa W tk), ?_⟩
  intro W σ H sl ce G m Qd Ed Qv R w h k
  exact sa W σ H sl ce G m _ Ed _ R w h fun b ce1 G1 m1 H1 R1 s1 h1 => k _ ce1 G1 m1 H1 R1 s1 h1
theorem dw_and1 (ha : DT X a tA) : DW X (.BoolOp .And [a] pos) tA := by
  obtain ⟨ta, pa, sa⟩ := ha.ex
  exact ⟨_, fun W tk => pw_and1 (pa W tk), sa⟩
theorem dw_or1 (ha : DT X a tA) : DW X (.BoolOp .Or [a] pos) tA := by
  obtain ⟨ta, pa, sa⟩ := ha.ex
  exact ⟨_, fun W tk => pw_or1 (pa W tk), sa⟩
theorem dw_and {rest : List Expr} (ha : DT X a tA) (hb : DW X (.BoolOp .And (b :: rest) pos) tB) : DW X (.BoolOp .And (a :: b :: rest) pos) (uAndT tA tB) := by
  obtain ⟨ta, pa, sa⟩ := ha.ex
  obtain ⟨tb, pb, sb⟩ := hb.ex
  refine ⟨_, fun W tk => pw_and (pa W tk) (pb W tk), ?_⟩
  intro W σ H sl ce G m Qd Ed Qv R w h k
  refine sa W σ H sl ce G m _ Ed _ R w h fun b ce1 G1 m1 H1 R1 s1 h1 => ?_
  cases b with
  | true => exact iteT (sb W σ H1 sl ce1 G1 m1 _ Ed _ R1 (w.step s1) h1 fun b ce2 G2 m2 H2 R2 s2 h2 => k b ce2 G2 m2 H2 R2 (s1.trans s2) h2)
  | false => exact iteF (k false ce1 G1 m1 H1 R1 s1 h1)
theorem dw_or {rest : List Expr} (ha : DT X a tA) (hb : DW X (.BoolOp .Or (b :: rest) pos) tB) : DW X (.BoolOp .Or (a :: b :: rest) pos) (uOrT tA tB) := by
  obtain ⟨ta, pa, sa⟩ := ha.ex
  obtain ⟨tb, pb, sb⟩ := hb.ex
  refine ⟨_, fun W tk => pw_or (pa W tk) (pb W tk), ?_⟩
  intro W σ H sl ce G m Qd Ed Qv R w h k
  refine sa W σ H sl ce G m _ Ed _ R w h fun b ce1 G1 m1 H1 R1 s1 h1 => ?_
  cases b with
  | true => exact iteT (k true ce1 G1 m1 H1 R1 s1 h1)
  | false => exact iteF (sb W σ H1 sl ce1 G1 m1 _ Ed _ R1 (w.step s1) h1 fun b ce2 G2 m2 H2 R2 s2 h2 => k b ce2 G2 m2 H2 R2 (s1.trans s2) h2)
theorem DW.dt (h : DW X a tA) : DT X a tA := by
  obtain ⟨ta, pa, sa⟩ := h.ex
  exact ⟨ta, fun W tk => (pa W tk).pt, sa⟩
def uIfE (t : UT) (ua ub : UE) : UE := fun sl ce Q E => t sl ce (fun b ce1 => match b with
  | true => ua sl ce1 Q E
  | false => ub sl ce1 Q E) E
theorem de_ifExp (hc : DT X c tA) (ha : DE X a ua) (hb : DE X b ub) : DE X (.IfExp c a b pos) (uIfE tA ua ub) := by
  obtain ⟨tc, pc, sc⟩ := hc.ex
  obtain ⟨ta, pa, sa⟩ := ha.ex
  obtain ⟨tb, pb, sb⟩ := hb.ex
  refine ⟨_, fun W tk => pe_ifExp (pc W tk) (pa W tk) (pb W tk), ?_⟩
  intro W σ H sl ce G m Qd Ed Qv R w h k
  refine sc W σ H sl ce G m _ Ed _ R w h fun b ce1 G1 m1 H1 R1 s1 h1 => ?_
  cases b with
  | true => exact iteT (sa W σ H1 sl ce1 G1 m1 _ Ed _ R1 (w.step s1) h1 fun d ce2 G2 m2 v H2 R2 s2 r2 h2 => k d ce2 G2 m2 v H2 R2 (s1.trans s2) r2 h2)
  | false => exact iteF (sb W σ H1 sl ce1 G1 m1 _ Ed _ R1 (w.step s1) h1 fun d ce2 G2 m2 v H2 R2 s2 r2 h2 => k d ce2 G2 m2 v H2 R2 (s1.trans s2) r2 h2)
end
/-! ### and, or, not as values (all but the last are bools) -/
def uAndV (ua ub : UE) : UE := fun sl ce Q E => ua sl ce (fun x ce1 => match x with
  | .d (.bl true) => ub sl ce1 Q E
  | .d (.bl false) => Q (.d (.bl false)) ce1
  | _ => False) E
def uOrV (ua ub : UE) : UE := fun sl ce Q E => ua sl ce (fun x ce1 => match x with
  | .d (.bl true) => Q (.d (.bl true)) ce1
  | .d (.bl false) => ub sl ce1 Q E
  | _ => False) E
def uNotV (ua : UE) : UE := fun sl ce Q E => ua sl ce (fun x ce1 => match x with
  | .d (.bl b) => Q (.d (.bl (!b))) ce1
  | _ => False) E
theorem de_one {op} (h : DE X a ua) : DE X (.BoolOp op [a] pos) ua := by
  obtain ⟨ta, pa, sa⟩ := h.ex
  exact ⟨ta, fun W tk => pe_one (pa W tk), sa⟩
theorem de_and {rest : List Expr} (ha : DE X a ua) (hb : DE X (.BoolOp .And (b :: rest) pos) ub) : DE X (.BoolOp .And (a :: b :: rest) pos) (uAndV ua ub) := by
  obtain ⟨ta, pa, sa⟩ := ha.ex
  obtain ⟨tb, pb, sb⟩ := hb.ex
  refine ⟨_, fun W tk => pe_and (pa W tk) (pb W tk), ?_⟩
  intro W σ H sl ce G m Qd Ed Qv R w h k
  refine sa W σ H sl ce G m _ Ed _ R w h fun x ce1 G1 m1 v H1 R1 s1 r1 h1 => ?_
  split at h1
  · exact ⟨true, r1, iteT (sb W σ H1 sl ce1 G1 m1 _ Ed _ R1 (w.step s1) h1 fun d ce2 G2 m2 v H2 R2 s2 r2 h2 => k d ce2 G2 m2 v H2 R2 (s1.trans s2) r2 h2)⟩
  · exact ⟨false, r1, iteF (k (.d (.bl false)) ce1 G1 m1 _ H1 R1 s1 rfl h1)⟩
  · exact h1.elim
theorem de_or {rest : List Expr} (ha : DE X a ua) (hb : DE X (.BoolOp .Or (b :: rest) pos) ub) : DE X (.BoolOp .Or (a :: b :: rest) pos) (uOrV ua ub) := by
  obtain ⟨ta, pa, sa⟩ := ha.ex
  obtain ⟨tb, pb, sb⟩ := hb.ex
  refine ⟨_, fun W tk => pe_or (pa W tk) (pb W tk), ?_⟩
  intro W σ H sl ce G m Qd Ed Qv R w h k
  refine sa W σ H sl ce G m _ Ed _ R w h fun x ce1 G1 m1 v H1 R1 s1 r1 h1 => ?_
  split at h1
  · exact ⟨true, r1, iteT (k (.d (.bl true)) ce1 G1 m1 _ H1 R1 s1 rfl h1)⟩
  · exact ⟨false, r1, iteF (sb W σ H1 sl ce1 G1 m1 _ Ed _ R1 (w.step s1) h1 fun d ce2 G2 m2 v H2 R2 s2 r2 h2 => k d ce2 G2 m2 v H2 R2 (s1.trans s2) r2 h2)⟩
  · exact h1.elim
theorem de_not (ha : DE X a ua) : DE X (.UnaryOp .Not a pos) (uNotV ua) := by
  obtain ⟨ta, pa, sa⟩ := ha.ex
  refine ⟨_, fun W tk => pe_not (pa W tk), ?_⟩
  intro W σ H sl ce G m Qd Ed Qv R w h k
  refine sa W σ H sl ce G m _ Ed _ R w h fun x ce1 G1 m1 v H1 R1 s1 r1 h1 => ?_
  split at h1
  · next b => exact ⟨b, r1, k (.d (.bl (!b))) ce1 G1 m1 _ H1 R1 s1 rfl h1⟩
  · exact h1.elim
end
end DL

namespace DL
open PySem L2 PyProof.Rows
section
variable {X : Cx}
/-! ### what a sequence holds -/
def seqL (ce : Ce) : T → Option (List T)
  | .d (.lst xs) => some (xs.map T.d)
  | .cel k => match ce[k]? with
    | some (.lst xs) => some xs
    | _ => none
  | _ => none
theorem seqL_ok {K : PySem.W.Frag} {H : Hp} {ce : Ce} {G : Hp} {m : List Addr} (R : RelS K H ce G m) {d : T} {v : V} {xs : List T} (r : RepT K m G d v) (h : seqL ce d = some xs) : ∃ a vs, v = .ref a ∧ SqL K H a vs ∧ RepTL K m G xs vs := by
  unfold seqL at h
  split at h
  · cases h
    obtain ⟨a, vs, rfl, hs, r⟩ := r
    exact ⟨a, vs, rfl, R.gh.rdL hs, toT r⟩
  · next k =>
    obtain ⟨a, hm, rfl⟩ := r
    split at h
    · next ys e =>
      cases h
      obtain ⟨vs, hv, r⟩ := R.cel k a _ hm e
      exact ⟨a, vs, rfl, SqL.of hv, r⟩
    · cases h
  · cases h
/-! ### + - * // % ** -/
theorem op_catL : OpR X (binaryOp .Add) (fun x y H Q => ∃ l b xs zs, x = .ref l ∧ y = .ref b ∧ SqL X.K H l xs ∧ SqL X.K H b zs ∧ xs.length + zs.length ≤ sizeLine ∧ ∀ p, H p = none → Q (.ref p) (upd H p (.lst (xs ++ zs)))) := by
  intro pins s σ H x y v u Q I rx ry h
  obtain ⟨l, b, xs, zs, rfl, rfl, hH, hB, hz, q⟩ := h
  cases rx
  cases ry
  obtain ⟨its, r, hl, _⟩ := I.list hH
  obtain ⟨its2, r2, hl2, _⟩ := I.list hB
  obtain ⟨⟨cls, dd, data, sl⟩, ho, hc, n, hd⟩ := hl.isList
  obtain ⟨⟨cls2, dd2, data2, sl2⟩, ho2, hc2, n2, hd2⟩ := hl2.isList
  simp only at hc hd hc2 hd2
  subst hc hd hc2 hd2
  have hsz : its.length + its2.length ≤ sizeLine := by rw [← r.length, ← r2.length]; exact hz
  refine concat_meets ⟨_, ho, rfl⟩ ⟨_, ho2, rfl⟩ noFill_list_add seq_list_add PySem.F.slot_list_add PySem.F.entry_list_add (PySem.F.args_list_add_2 _ _) (list_addW l b its.toArray its2.toArray n n2 dd dd2 sl sl2 (by simpa using hsz)) ⟨ho, ho2, ?_⟩
  have ea : its.toArray ++ its2.toArray = (its ++ its2).toArray := by simp
  rw [ea]
  exact ⟨.ref _, _, I.lnew (t' := s.toks) (r.append r2) (by rw [List.length_append]; exact hz), rfl, q _ I.fresh⟩
def oAdd : O2 := fun x y ce Q => match x, y with
  | .d (.int i), .d (.int j) => Q (.d (.int (i + j))) ce
  | .d (.str a), .d (.str b) => a.length + b.length ≤ sizeLine ∧ Q (.d (.str (a ++ b))) ce
  | .d (.tup xs), .d (.tup ys) => xs.length + ys.length ≤ sizeLine ∧ Q (.d (.tup (xs ++ ys))) ce
  | .d (.lst xs), .d (.lst ys) => xs.length + ys.length ≤ sizeLine ∧ Q (.d (.lst (xs ++ ys))) ce
  | x, y => match seqL ce x, seqL ce y with
    | some xs, some ys => match unT xs, unT ys with
      | some xs, some ys => xs.length + ys.length ≤ sizeLine ∧ Q (.d (.lst (xs ++ ys))) ce
      | _, _ => False
    | _, _ => False
theorem od_add : OpD X (binaryOp .Add) oAdd := by
  refine ⟨_, (op_add.or op_add_str).or ((op_catA).or op_catL), fun H ce G m Qd Qv x y v u R rx ry h k => ?_⟩
  unfold oAdd at h
  split at h
  · next i j => cases rx; cases ry; exact .inl (.inl ⟨i, j, rfl, rfl, k (.d (.int (i + j))) ce G m _ H R .refl rfl h⟩)
  · next a b => cases rx; cases ry; exact .inl (.inr ⟨a, b, rfl, rfl, h.1, k (.d (.str (a ++ b))) ce G m _ H R .refl rfl h.2⟩)
  · next xs ys =>
    obtain ⟨a, vs, rfl, ha, ra⟩ := rx
    obtain ⟨b, ws, rfl, hb, rb⟩ := ry
    refine .inr (.inl ⟨a, b, vs, ws, rfl, rfl, R.gh.rdT ha, R.gh.rdT hb, by rw [ra.length, rb.length]; exact h.1, fun e => ?_, fun e1 e2 => ?_, fun e1 e2 p hp => ?_⟩)
    · subst e
      have : xs = [] := by have := ra.length; simpa using this.symm
      subst this
      exact k (.d (.tup ys)) ce G m _ H R .refl ⟨b, ws, rfl, hb, rb⟩ h.2
    · subst e2
      have : ys = [] := by have := rb.length; simpa using this.symm
      subst this
      exact k (.d (.tup (xs ++ []))) ce G m _ H R .refl ⟨a, vs, rfl, ha, by rw [List.append_nil]; exact ra⟩ h.2
    · obtain ⟨R2, s2⟩ := R.laid (.tup (vs ++ ws)) hp
      exact k (.d (.tup (xs ++ ys))) ce _ m _ _ R2 s2 ⟨p, _, rfl, SqT.of upd_same, RepL.mono s2.gg _ _ (ra.append rb)⟩ h.2
  · next xs ys =>
    obtain ⟨a, vs, rfl, ha, ra⟩ := rx
    obtain ⟨b, ws, rfl, hb, rb⟩ := ry
    refine .inr (.inr ⟨a, b, vs, ws, rfl, rfl, R.gh.rdL ha, R.gh.rdL hb, by rw [ra.length, rb.length]; exact h.1, fun p hp => ?_⟩)
    obtain ⟨R2, s2⟩ := R.laid (.lst (vs ++ ws)) hp
    exact k (.d (.lst (xs ++ ys))) ce _ m _ _ R2 s2 ⟨p, _, rfl, SqL.of upd_same, RepL.mono s2.gg _ _ (ra.append rb)⟩ h.2
  · split at h
    · next xs ys hx hy =>
      split at h
      · next xs' ys' ux uy =>
        obtain ⟨a, vs, rfl, ha, ra⟩ := seqL_ok R rx hx
        obtain ⟨b, ws, rfl, hb, rb⟩ := seqL_ok R ry hy
        have ra' := unT_ok ra ux
        have rb' := unT_ok rb uy
        refine .inr (.inr ⟨a, b, vs, ws, rfl, rfl, ha, hb, by rw [ra'.length, rb'.length]; exact h.1, fun p hp => ?_⟩)
        obtain ⟨R2, s2⟩ := R.laid (.lst (vs ++ ws)) hp
        exact k (.d (.lst (xs' ++ ys'))) ce _ m _ _ R2 s2 ⟨p, _, rfl, SqL.of upd_same, RepL.mono s2.gg _ _ (ra'.append rb')⟩ h.2
      · exact h.elim
    · exact h.elim
def oInt (C : Int → Int → Prop) (g : Int → Int → D) : O2 := fun x y ce Q => match x, y with
  | .d (.int i), .d (.int j) => C i j ∧ Q (.d (g i j)) ce
  | _, _ => False
theorem od_int {f : Value → Value → Sem Value} {C : Int → Int → Prop} {gV : Int → Int → V} {g : Int → Int → D} (ho : OpR X f (rI C gV)) (hg : ∀ i j K G, Rep K G (g i j) (gV i j)) : OpD X f (oInt C g) := by
  refine ⟨_, ho, fun H ce G m Qd Qv x y v u R rx ry h k => ?_⟩
  unfold oInt at h
  split at h
  · next i j => cases rx; cases ry; exact ⟨i, j, rfl, rfl, h.1, k (.d (g i j)) ce G m _ H R .refl (hg i j _ _) h.2⟩
  · exact h.elim
def oInt0 (g : Int → Int → D) : O2 := fun x y ce Q => match x, y with
  | .d (.int i), .d (.int j) => Q (.d (g i j)) ce
  | _, _ => False
theorem od_int0 {f : Value → Value → Sem Value} {gV : Int → Int → V} {g : Int → Int → D} (ho : OpR X f (rI0 gV)) (hg : ∀ i j K G, Rep K G (g i j) (gV i j)) : OpD X f (oInt0 g) := by
  refine ⟨_, ho, fun H ce G m Qd Qv x y v u R rx ry h k => ?_⟩
  unfold oInt0 at h
  split at h
  · next i j => cases rx; cases ry; exact ⟨i, j, rfl, rfl, k (.d (g i j)) ce G m _ H R .refl (hg i j _ _) h⟩
  · exact h.elim
def oSub : O2 := oInt0 fun i j => .int (i - j)
def oMul : O2 := oInt CMul fun i j => .int (i * j)
def oFdiv : O2 := oInt CDiv fun i j => .int (i / j)
def oMod : O2 := oInt (fun _ j => 0 < j) fun i j => .int (i % j)
def oPow : O2 := oInt CPow fun i j => .int (i ^ j.toNat)
theorem od_sub : OpD X (binaryOp .Sub) oSub := od_int0 op_sub fun _ _ _ _ => rfl
theorem od_mul : OpD X (binaryOp .Mult) oMul := od_int op_mul fun _ _ _ _ => rfl
theorem od_fdiv : OpD X (binaryOp .FloorDiv) oFdiv := od_int op_fdiv fun _ _ _ _ => rfl
theorem od_mod : OpD X (binaryOp .Mod) oMod := od_int op_mod fun _ _ _ _ => rfl
theorem od_pow : OpD X (binaryOp .Pow) oPow := od_int op_pow fun _ _ _ _ => rfl
/-! ### < <= > >= -/
def oCmp (ci : Int → Int → Bool) (cs : Str → Str → Bool) : O2 := fun x y ce Q => match x, y with
  | .d (.int i), .d (.int j) => Q (.d (.bl (ci i j))) ce
  | .d (.str a), .d (.str b) => Q (.d (.bl (cs a b))) ce
  | _, _ => False
theorem od_cmp {f : Value → Value → Sem Value} {ci : Int → Int → Bool} {cs : Str → Str → Bool} (h1 : OpR X f (rI0 fun i j => .bl (ci i j))) (h2 : OpR X f (fun x y H Q => ∃ i j, x = .str i ∧ y = .str j ∧ Q (.bl (cs i j)) H)) : OpD X f (oCmp ci cs) := by
  refine ⟨_, h1.or h2, fun H ce G m Qd Qv x y v u R rx ry h k => ?_⟩
  unfold oCmp at h
  split at h
  · next i j => cases rx; cases ry; exact .inl ⟨i, j, rfl, rfl, k (.d (.bl (ci i j))) ce G m _ H R .refl rfl h⟩
  · next i j => cases rx; cases ry; exact .inr ⟨i, j, rfl, rfl, k (.d (.bl (cs i j))) ce G m _ H R .refl rfl h⟩
  · exact h.elim
def ltS (a b : Str) : Bool := decide (a.cps.toList < b.cps.toList)
def oLt : O2 := oCmp (fun i j => decide (i < j)) ltS
theorem od_lt : OpD X (compareOp .Lt) oLt := od_cmp op_lt op_lt_str
def oLe : O2 := oInt0 fun i j => .bl (decide (i ≤ j))
def oGt : O2 := oInt0 fun i j => .bl (decide (j < i))
def oGe : O2 := oInt0 fun i j => .bl (decide (j ≤ i))
theorem od_le : OpD X (compareOp .LtE) oLe := od_int0 op_le fun _ _ _ _ => rfl
theorem od_gt : OpD X (compareOp .Gt) oGt := od_int0 op_gt fun _ _ _ _ => rfl
theorem od_ge : OpD X (compareOp .GtE) oGe := od_int0 op_ge fun _ _ _ _ => rfl
/-! ### == and != of scalars and of data at any depth -/
mutual
def pyD : D → Option PyData
  | .non => some .none
  | .bl b => some (.bool b)
  | .int i => some (.int i)
  | .str x => some (.str x)
  | .tup xs => match pyDs xs with
    | some ds => some (.tuple ds)
    | none => none
  | .lst xs => match pyDs xs with
    | some ds => some (.list ds)
    | none => none
  | _ => none
def pyDs : List D → Option (List PyData)
  | [] => some []
  | x :: xs => match pyD x, pyDs xs with
    | some d, some ds => some (d :: ds)
    | _, _ => none
end
mutual
theorem pyD_ok {K : PySem.W.Frag} {H : Hp} {G : Hp} (g : Gs G H) : ∀ (d : D) (v : V) (p : PyData), Rep K G d v → pyD d = some p → Dp K H v p
  | .non, v, p, r, h => by cases r; cases h; exact .non
  | .bl b, v, p, r, h => by cases r; cases h; exact .bl b
  | .int i, v, p, r, h => by cases r; cases h; exact .int i
  | .str x, v, p, r, h => by cases r; cases h; exact .str x
  | .tup xs, v, p, ⟨a, vs, e, hs, r⟩, h => by
    subst e
    unfold pyD at h
    cases q : pyDs xs with
    | none => rw [q] at h; cases h
    | some ds => rw [q] at h; cases h; exact .tup (g.rdT hs) (pyDs_ok g xs vs ds r q)
  | .lst xs, v, p, ⟨a, vs, e, hs, r⟩, h => by
    subst e
    unfold pyD at h
    cases q : pyDs xs with
    | none => rw [q] at h; cases h
    | some ds => rw [q] at h; cases h; exact .lst (g.rdL hs) (pyDs_ok g xs vs ds r q)
  | .dic _, v, p, r, h => nomatch h
  | .ins _ _, v, p, r, h => nomatch h
  | .exc _ _ _ _, v, p, r, h => nomatch h
  | .raw _, v, p, r, h => nomatch h
theorem pyDs_ok {K : PySem.W.Frag} {H : Hp} {G : Hp} (g : Gs G H) : ∀ (ds : List D) (vs : List V) (ps : List PyData), RepL K G ds vs → pyDs ds = some ps → DpAll K H vs ps
  | [], vs, ps, r, h => by cases r; cases h; exact .nil
  | d :: ds, vs, ps, ⟨v, t, e, r, rs⟩, h => by
    subst e
    unfold pyDs at h
    cases q : pyD d with
    | none => rw [q] at h; cases h
    | some p =>
      cases q2 : pyDs ds with
      | none => rw [q, q2] at h; cases h
      | some qs => rw [q, q2] at h; cases h; exact .cons (pyD_ok g d v p r q) (pyDs_ok g ds t qs rs q2)
end
def oEqB (neg : Bool) : O2 := fun x y ce Q => match x, y with
  | .d (.int i), .d (.int j) => Q (.d (.bl (neg != decide (i = j)))) ce
  | .d (.str i), .d (.str j) => Q (.d (.bl (neg != decide (i = j)))) ce
  | .d (.bl i), .d (.bl j) => Q (.d (.bl (neg != decide (i = j)))) ce
  | .d x, .d y => match pyD x, pyD y with
    | some d, some e => SeqAt.shaped d = true ∧ SeqAt.shaped e = true ∧ Q (.d (.bl (neg != PyData.eqv d e))) ce
    | _, _ => False
  | _, _ => False
theorem dec_bxor (b : Bool) : (false != b) = b := by cases b <;> rfl
theorem dec_nxor (b : Bool) : (true != b) = !b := by cases b <;> rfl
theorem decV_int (i j : Int) : decide (V.int i = V.int j) = decide (i = j) := by by_cases h : i = j <;> simp [h]
theorem decV_str (i j : Str) : decide (V.str i = V.str j) = decide (i = j) := by by_cases h : i = j <;> simp [h]
theorem decV_bl (i j : Bool) : decide (V.bl i = V.bl j) = decide (i = j) := by by_cases h : i = j <;> simp [h]
theorem od_eq (hu : X.A.units + 64 < cLine) : OpD X (compareOp .Eq) (oEqB false) := by
  refine ⟨_, op_eq.or (op_eqD hu), fun H ce G m Qd Qv x y v u R rx ry h k => ?_⟩
  unfold oEqB at h
  simp only [dec_bxor] at h
  split at h
  · next i j => cases rx; cases ry; exact .inl ⟨rfl, k (.d (.bl _)) ce G m _ H R .refl (by rw [decV_int]; rfl) h⟩
  · next i j => cases rx; cases ry; exact .inl ⟨rfl, k (.d (.bl _)) ce G m _ H R .refl (by rw [decV_str]; rfl) h⟩
  · next i j => cases rx; cases ry; exact .inl ⟨rfl, k (.d (.bl _)) ce G m _ H R .refl (by rw [decV_bl]; rfl) h⟩
  · next x y _ _ _ =>
    split at h
    · next d e h1 h2 => exact .inr ⟨d, e, pyD_ok R.gh _ _ _ rx h1, pyD_ok R.gh _ _ _ ry h2, h.1, h.2.1, k (.d (.bl (PyData.eqv d e))) ce G m _ H R .refl rfl h.2.2⟩
    · exact h.elim
  · exact h.elim
theorem od_ne (hu : X.A.units + 64 < cLine) : OpD X (compareOp .NotEq) (oEqB true) := by
  refine ⟨_, op_ne.or (op_neD hu), fun H ce G m Qd Qv x y v u R rx ry h k => ?_⟩
  unfold oEqB at h
  simp only [dec_nxor] at h
  split at h
  · next i j => cases rx; cases ry; exact .inl ⟨rfl, k (.d (.bl _)) ce G m _ H R .refl (by rw [decV_int]; rfl) h⟩
  · next i j => cases rx; cases ry; exact .inl ⟨rfl, k (.d (.bl _)) ce G m _ H R .refl (by rw [decV_str]; rfl) h⟩
  · next i j => cases rx; cases ry; exact .inl ⟨rfl, k (.d (.bl _)) ce G m _ H R .refl (by rw [decV_bl]; rfl) h⟩
  · next x y _ _ _ =>
    split at h
    · next d e h1 h2 => exact .inr ⟨d, e, pyD_ok R.gh _ _ _ rx h1, pyD_ok R.gh _ _ _ ry h2, h.1, h.2.1, k (.d (.bl (!PyData.eqv d e))) ce G m _ H R .refl rfl h.2.2⟩
    · exact h.elim
  · exact h.elim
/-! ### in, not in -/
def strsD : List T → Option (List Str)
  | [] => some []
  | .d (.str x) :: r => match strsD r with
    | some xs => some (x :: xs)
    | none => none
  | _ => none
theorem strsD_ok {K : PySem.W.Frag} {m : List Addr} {G : Hp} : ∀ {ds : List T} {vs : List V} {xs : List Str}, RepTL K m G ds vs → strsD ds = some xs → vs = xs.map V.str
  | [], vs, xs, r, h => by cases r; cases h; rfl
  | d :: ds, vs, xs, ⟨v, t, e, r, rs⟩, h => by
    unfold strsD at h
    split at h
    · next e0 => cases e0
    · next x r' e0 =>
      cases e0
      split at h
      · next ys q => cases h; cases r; rw [e, strsD_ok rs q]; rfl
      · cases h
    · cases h
theorem inV_strs (x : Str) : ∀ xs : List Str, inV (.str x) (xs.map V.str) = decide (x ∈ xs)
  | [] => rfl
  | y :: r => by
    have ih := inV_strs x r
    unfold inV at ih ⊢
    rw [List.map_cons, List.any_cons, ih]
    have e : eqV (V.str y) (V.str x) = decide (y = x) := by
      unfold eqV
      first | rfl | simp
    rw [e]
    by_cases h : y = x
    · subst h; simp
    · have h' : ¬ x = y := fun z => h z.symm
      simp [h, h']
theorem all_strs (xs : List Str) : (xs.map V.str).all flatV = true := by simp [flatV]
def seqB (ce : Ce) : T → Option (List T)
  | .d (.tup xs) => some (xs.map T.d)
  | d => seqL ce d
theorem seqB_ok {K : PySem.W.Frag} {H : Hp} {ce : Ce} {G : Hp} {m : List Addr} (R : RelS K H ce G m) {d : T} {v : V} {xs : List T} (r : RepT K m G d v) (h : seqB ce d = some xs) : ∃ a vs, v = .ref a ∧ (SqL K H a vs ∨ SqT K H a vs) ∧ RepTL K m G xs vs := by
  unfold seqB at h
  split at h
  · cases h
    obtain ⟨a, vs, rfl, hs, r⟩ := r
    exact ⟨a, vs, rfl, .inr (R.gh.rdT hs), toT r⟩
  · obtain ⟨a, vs, e, hs, r⟩ := seqL_ok R r h
    exact ⟨a, vs, e, .inl hs, r⟩
/-- a text in a list or tuple of texts; one sign in a text -/
def oIn (neg : Bool) : O2 := fun x y ce Q => match x, y with
  | .d (.str c), .d (.str z) => match c.cps.toList with
    | [n] => Q (.d (.bl (neg != decide (n ∈ z.cps.toList)))) ce
    | _ => False
  | .d (.str x), y => match seqB ce y with
    | some ds => match strsD ds with
      | some xs => Q (.d (.bl (neg != decide (x ∈ xs)))) ce
      | none => False
    | none => False
  | _, _ => False
theorem str_one {c : Str} {n : Nat} (h : c.cps.toList = [n]) : c = ⟨#[n]⟩ := by
  obtain ⟨⟨l⟩⟩ := c
  simp at h
  subst h
  rfl
theorem od_in : OpD X (compareOp .In) (oIn false) := by
  refine ⟨_, op_in_sign.or op_in_seq, fun H ce G m Qd Qv x y v u R rx ry h k => ?_⟩
  unfold oIn at h
  simp only [dec_bxor] at h
  split at h
  · next c z =>
    cases rx; cases ry
    split at h
    · next n e => exact .inl ⟨n, z, by rw [str_one e], rfl, k (.d (.bl _)) ce G m _ H R .refl rfl h⟩
    · exact h.elim
  · next x y _ =>
    cases rx
    split at h
    · next ds e =>
      split at h
      · next xs e2 =>
        obtain ⟨a, vs, rfl, hs, r⟩ := seqB_ok R ry e
        have ev := strsD_ok r e2
        subst ev
        exact .inr ⟨a, _, rfl, hs, rfl, all_strs xs, k (.d (.bl _)) ce G m _ H R .refl (by rw [inV_strs]; rfl) h⟩
      · exact h.elim
    · exact h.elim
  · exact h.elim
theorem od_notin : OpD X (compareOp .NotIn) (oIn true) := by
  refine ⟨_, op_notIn_sign.or op_notIn_seq, fun H ce G m Qd Qv x y v u R rx ry h k => ?_⟩
  unfold oIn at h
  simp only [dec_nxor] at h
  split at h
  · next c z =>
    cases rx; cases ry
    split at h
    · next n e => exact .inl ⟨n, z, by rw [str_one e], rfl, k (.d (.bl _)) ce G m _ H R .refl rfl h⟩
    · exact h.elim
  · next x y _ =>
    cases rx
    split at h
    · next ds e =>
      split at h
      · next xs e2 =>
        obtain ⟨a, vs, rfl, hs, r⟩ := seqB_ok R ry e
        have ev := strsD_ok r e2
        subst ev
        exact .inr ⟨a, _, rfl, hs, rfl, all_strs xs, k (.d (.bl _)) ce G m _ H R .refl (by rw [inV_strs]; rfl) h⟩
      · exact h.elim
    · exact h.elim
  · exact h.elim
/-- is None -/
def oIsN (neg : Bool) : O2 := fun x y ce Q => match y with
  | .d .non => match x with
    | .d .non => Q (.d (.bl (!neg))) ce
    | .d (.raw _) => False
    | _ => Q (.d (.bl neg)) ce
  | _ => False
theorem not_non {K : PySem.W.Frag} {m : List Addr} {G : Hp} {d : T} {v : V} (r : RepT K m G d v) (h : d ≠ .d .non) (h' : ∀ u, d ≠ .d (.raw u)) : v ≠ .non := by
  cases d with
  | cel b => obtain ⟨_, _, rfl⟩ := r; exact fun z => nomatch z
  | d d =>
    cases d with
    | non => exact absurd rfl h
    | raw u => exact absurd rfl (h' u)
    | bl b => cases r; exact fun z => nomatch z
    | int b => cases r; exact fun z => nomatch z
    | str b => cases r; exact fun z => nomatch z
    | tup b => obtain ⟨_, _, rfl, _⟩ := r; exact fun z => nomatch z
    | lst b => obtain ⟨_, _, rfl, _⟩ := r; exact fun z => nomatch z
    | dic b => obtain ⟨_, _, rfl, _⟩ := r; exact fun z => nomatch z
    | ins C b => obtain ⟨_, _, _, rfl, _⟩ := r; exact fun z => nomatch z
    | exc a b c d => obtain ⟨rfl, _⟩ := r; exact fun z => nomatch z
theorem od_is : OpD X (compareOp .Is) (oIsN false) := by
  refine ⟨_, op_isN, fun H ce G m Qd Qv x y v u R rx ry h k => ?_⟩
  unfold oIsN at h
  split at h
  · cases ry
    split at h
    · cases rx; exact ⟨rfl, k (.d (.bl true)) ce G m _ H R .refl rfl h⟩
    · exact h.elim
    · next n1 n2 => exact ⟨rfl, k (.d (.bl false)) ce G m _ H R .refl (by rw [decide_eq_false (not_non rx n1 n2)]; rfl) h⟩
  · exact h.elim
theorem od_isnot : OpD X (compareOp .IsNot) (oIsN true) := by
  refine ⟨_, op_notN, fun H ce G m Qd Qv x y v u R rx ry h k => ?_⟩
  unfold oIsN at h
  split at h
  · cases ry
    split at h
    · cases rx; exact ⟨rfl, k (.d (.bl false)) ce G m _ H R .refl rfl h⟩
    · exact h.elim
    · next n1 n2 => exact ⟨rfl, k (.d (.bl true)) ce G m _ H R .refl (by rw [decide_eq_false (not_non rx n1 n2)]; rfl) h⟩
  · exact h.elim
end
end DL

namespace DL
open PySem L2 PyProof.Rows
section
variable {X : Cx} {e a b : Expr} {es : List Expr} {ua ub : UE} {u : UA} {pos p p2 : Pos}
/-! ### x[i] -/
def IxD (X : Cx) (o : O2) : Prop := ∃ r : R2, IxR X r ∧ ∀ (H : Hp) (ce : Ce) (G : Hp) (m : List Addr) (Qd : T → Ce → Prop) (Qv : VK) (x y : T) (v u : V), RelS X.K H ce G m → RepT X.K m G x v → RepT X.K m G y u → o x y ce Qd →
  (∀ d ce' G' m' z H', RelS X.K H' ce' G' m' → Stp H m G H' m' G' → RepT X.K m' G' d z → Qd d ce' → Qv z H') → r v u H Qv
theorem de_ixD {o : O2} (ho : IxD X o) (ha : DE X a ua) (hb : DE X b ub) (hs : PlainIx b := by exact fun _ _ => rfl) : DE X (.Subscript a b pos) (uOp o ua ub) := by
  obtain ⟨ta, pa, sa⟩ := ha.ex
  obtain ⟨tb, pb, sb⟩ := hb.ex
  obtain ⟨r, pr, sr⟩ := ho
  exact ⟨_, fun W tk => pe_ix pr (pa W tk) (pb W tk) hs, semOp sa sb sr⟩
def oIx : O2 := fun x y ce Q => match x, y with
  | .d (.tup xs), .d (.int i) => match atI xs i with
    | some d => Q (.d d) ce
    | none => False
  | .d (.lst xs), .d (.int i) => match atI xs i with
    | some d => Q (.d d) ce
    | none => False
  | .d (.str z), .d (.int i) => match atI z.cps.toList i with
    | some c => z.length ≤ sizeLine ∧ Q (.d (.str ⟨#[c]⟩)) ce
    | none => False
  | .cel k, .d (.int i) => match ce[k]? with
    | some (.lst xs) => match atI xs i with
      | some d => Q d ce
      | none => False
    | _ => False
  | _, _ => False
theorem atI_rep {K : PySem.W.Frag} {G : Hp} {ds : List D} {vs : List V} {i : Int} {d : D} (r : RepL K G ds vs) (h : atI ds i = some d) : ∃ v, atI vs i = some v ∧ Rep K G d v := by
  unfold atI at h ⊢
  rw [r.length]
  cases q : ixN ds.length i with
  | none => rw [q] at h; cases h
  | some j => rw [q] at h; exact r.get h
theorem atI_repT {K : PySem.W.Frag} {m : List Addr} {G : Hp} {ds : List T} {vs : List V} {i : Int} {d : T} (r : RepTL K m G ds vs) (h : atI ds i = some d) : ∃ v, atI vs i = some v ∧ RepT K m G d v := by
  unfold atI at h ⊢
  rw [r.length]
  cases q : ixN ds.length i with
  | none => rw [q] at h; cases h
  | some j => rw [q] at h; exact r.get h
theorem id_seq : IxD X oIx := by
  refine ⟨_, ix_list.or (ix_tup.or ix_str), fun H ce G m Qd Qv x y v u R rx ry h k => ?_⟩
  unfold oIx at h
  split at h
  · next xs i =>
    split at h
    · next d q =>
      obtain ⟨a, vs, rfl, hs, r⟩ := rx
      cases ry
      obtain ⟨v, hv, rv⟩ := atI_rep r q
      exact .inr (.inl ⟨a, vs, i, v, rfl, rfl, R.gh.rdT hs, hv, k (.d d) ce G m _ H R .refl rv h⟩)
    · exact h.elim
  · next xs i =>
    split at h
    · next d q =>
      obtain ⟨a, vs, rfl, hs, r⟩ := rx
      cases ry
      obtain ⟨v, hv, rv⟩ := atI_rep r q
      exact .inl ⟨a, vs, i, v, rfl, rfl, R.gh.rdL hs, hv, k (.d d) ce G m _ H R .refl rv h⟩
    · exact h.elim
  · next z i =>
    split at h
    · next c q =>
      cases rx; cases ry
      exact .inr (.inr ⟨z, i, c, rfl, rfl, h.1, q, k (.d (.str ⟨#[c]⟩)) ce G m _ H R .refl rfl h.2⟩)
    · exact h.elim
  · next k' i =>
    split at h
    · next xs q0 =>
      split at h
      · next d q =>
        obtain ⟨a, hm, rfl⟩ := rx
        cases ry
        obtain ⟨vs, hs, r⟩ := R.cel k' a _ hm q0
        obtain ⟨v, hv, rv⟩ := atI_repT r q
        exact .inl ⟨a, vs, i, v, rfl, rfl, SqL.of hs, hv, k d ce G m _ H R .refl rv h⟩
      · exact h.elim
    · exact h.elim
  · exact h.elim
theorem de_ix (ha : DE X a ua) (hb : DE X b ub) (hs : PlainIx b := by exact fun _ _ => rfl) : DE X (.Subscript a b pos) (uOp oIx ua ub) := de_ixD id_seq ha hb hs
/-! ### x[a:b] -/
abbrev UO := Sl → Ce → (Option Int → Ce → Prop) → Ex1 → Prop
def SemO (K : PySem.W.Frag) (tf : WX → TO) (u : UO) : Prop := ∀ (W : WX) (σ : L2.St) (H : Hp) (sl : Sl) (ce : Ce) (G : Hp) (m : List Addr) (Qd : Option Int → Ce → Prop) (Ed : Ex1) (Qv : Option Int → Hp → Prop), Rel K σ H sl ce G m → Wish K W H m G Ed → u sl ce Qd Ed →
  (∀ b ce' G' m' H', Rel K σ H' sl ce' G' m' → Stp H m G H' m' G' → Qd b ce' → Qv b H') → tf W σ H Qv
structure DO (X : Cx) (e : Option Expr) (u : UO) : Prop where
  ex : ∃ tf : WX → TO, (∀ W, Takes X W → PO X e (tf W)) ∧ SemO X.K tf u
def uNoP : UO := fun _ ce Q _ => Q none ce
def uPart (ua : UE) : UO := fun sl ce Q E => ua sl ce (fun x ce1 => match x with
  | .d (.int i) => Q (some i) ce1
  | _ => False) E
theorem do_none : DO X none uNoP := ⟨_, fun _ _ => po_none, fun W σ H sl ce G m Qd Ed Qv R w h k => k none ce G m H R .refl h⟩
theorem do_some (ha : DE X e ua) : DO X (some e) (uPart ua) := by
  obtain ⟨ta, pa, sa⟩ := ha.ex
  refine ⟨_, fun W tk => po_some (pa W tk), fun W σ H sl ce G m Qd Ed Qv R w h k => ?_⟩
  refine sa W σ H sl ce G m _ Ed _ R w h fun x ce1 G1 m1 v H1 R1 s1 r1 h1 => ?_
  split at h1
  · next i => cases r1; exact ⟨i, rfl, k _ ce1 G1 m1 H1 R1 s1 h1⟩
  · exact h1.elim
def cutD {α : Type} (xs : List α) (lo hi : Option Int) : List α := (xs.drop (HT.sIx xs.length 0 lo)).take (HT.sIx xs.length xs.length hi - HT.sIx xs.length 0 lo)
theorem RepL.cut {K : PySem.W.Frag} {G : Hp} {ds : List D} {vs : List V} (r : RepL K G ds vs) (lo hi : Option Int) : RepL K G (cutD ds lo hi) (cutV vs lo hi) := by
  unfold cutD cutV
  rw [r.length]
  exact (r.drop _).take _
def uSlice (ua : UE) (ul uh : UO) : UE := fun sl ce Q E => ua sl ce (fun x ce1 => ul sl ce1 (fun lo ce2 => uh sl ce2 (fun hi ce3 => match x with
  | .d (.tup xs) => Q (.d (.tup (cutD xs lo hi))) ce3
  | .d (.lst xs) => Q (.d (.lst (cutD xs lo hi))) ce3
  | .d (.str z) => z.length ≤ sizeLine ∧ Q (.d (.str (cutS z lo hi))) ce3
  | _ => False) E) E) E
theorem de_slice {lo hi : Option Expr} {ul uh : UO} (ha : DE X a ua) (hl : DO X lo ul) (hh : DO X hi uh) : DE X (.Subscript a (.Slice lo hi none p2) pos) (uSlice ua ul uh) := by
  obtain ⟨ta, pa, sa⟩ := ha.ex
  obtain ⟨tl, pl, sl'⟩ := hl.ex
  obtain ⟨th, ph, sh⟩ := hh.ex
  refine ⟨_, fun W tk => pe_slice ((sl_tupA).or (sl_list.or sl_str)) (pa W tk) (pl W tk) (ph W tk), fun W σ H sl ce G m Qd Ed Qv R w h k => ?_⟩
  refine sa W σ H sl ce G m _ Ed _ R w h fun x ce1 G1 m1 v H1 R1 s1 r1 h1 => ?_
  refine sl' W σ H1 sl ce1 G1 m1 _ Ed _ R1 (w.step s1) h1 fun lo ce2 G2 m2 H2 R2 s2 h2 => ?_
  refine sh W σ H2 sl ce2 G2 m2 _ Ed _ R2 (w.step (s1.trans s2)) h2 fun hi ce3 G3 m3 H3 R3 s3 h3 => ?_
  have st := (s1.trans s2).trans s3
  have r3 := r1.mono (s2.trans s3).pre (s2.trans s3).gg
  split at h3
  · next xs =>
    obtain ⟨a, vs, rfl, hs, r⟩ := r3
    refine .inl ⟨a, vs, rfl, R3.gh.rdT hs, fun q => ?_, fun _ p hp => ?_⟩
    · refine k _ ce3 G3 m3 _ H3 R3 st (show RepT X.K m3 G3 (.d (.tup (cutD xs lo hi))) _ from ?_) h3
      refine ⟨a, vs, rfl, hs, ?_⟩
      have e : cutD xs lo hi = xs := by
        unfold cutD
        rw [← r.length, q.1, q.2, List.drop_zero, Nat.sub_zero, r.length]
        exact List.take_length
      rw [e]; exact r
    · obtain ⟨R4, s4⟩ := R3.toRelS.laid (.tup (cutV vs lo hi)) hp
      exact k (.d (.tup (cutD xs lo hi))) ce3 _ m3 _ _ (R3.step s4 R4) (st.trans s4) ⟨p, _, rfl, SqT.of upd_same, RepL.mono s4.gg _ _ (r.cut lo hi)⟩ h3
  · next xs =>
    obtain ⟨a, vs, rfl, hs, r⟩ := r3
    refine .inr (.inl ⟨a, vs, rfl, R3.gh.rdL hs, fun p hp => ?_⟩)
    obtain ⟨R4, s4⟩ := R3.toRelS.laid (.lst (cutV vs lo hi)) hp
    exact k (.d (.lst (cutD xs lo hi))) ce3 _ m3 _ _ (R3.step s4 R4) (st.trans s4) ⟨p, _, rfl, SqL.of upd_same, RepL.mono s4.gg _ _ (r.cut lo hi)⟩ h3
  · next z =>
    cases r3
    exact .inr (.inr ⟨z, rfl, h3.1, k (.d (.str (cutS z lo hi))) ce3 G3 m3 _ H3 R3 st rfl h3.2⟩)
  · exact h3.elim
/-! ### calls of built-ins -/
abbrev OC := List T → Ce → (T → Ce → Prop) → Prop
def CaD (X : Cx) (f : Value) (o : OC) : Prop := ∃ r : List V → Hp → VK → Prop, CallR X f r ∧ ∀ (H : Hp) (ce : Ce) (G : Hp) (m : List Addr) (Qd : T → Ce → Prop) (Qv : VK) (ts : List T) (vs : List V), RelS X.K H ce G m → RepTL X.K m G ts vs → o ts ce Qd →
  (∀ d ce' G' m' z H', RelS X.K H' ce' G' m' → Stp H m G H' m' G' → RepT X.K m' G' d z → Qd d ce' → Qv z H') → r vs H Qv
def uCB (o : OC) (u : UA) : UE := fun sl ce Q E => u sl ce (fun ts ce1 => o ts ce1 Q) E
theorem semCB {K : PySem.W.Frag} {ta : WX → TA} {r : List V → Hp → VK → Prop} {o : OC} (sa : SemA K ta u)
    (hr : ∀ (H : Hp) (ce : Ce) (G : Hp) (m : List Addr) (Qd : T → Ce → Prop) (Qv : VK) (ts : List T) (vs : List V), RelS K H ce G m → RepTL K m G ts vs → o ts ce Qd →
      (∀ d ce' G' m' z H', RelS K H' ce' G' m' → Stp H m G H' m' G' → RepT K m' G' d z → Qd d ce' → Qv z H') → r vs H Qv) : SemE K (fun W => tCB r (ta W)) (uCB o u) := by
  intro W σ H sl ce G m Qd Ed Qv R w h k
  refine sa W σ H sl ce G m _ Ed _ R w h fun ts ce1 G1 m1 vs H1 R1 s1 r1 h1 => ?_
  exact hr H1 ce1 G1 m1 Qd Qv ts vs R1.toRelS r1 h1 fun d ce' G' m' z H' R' s' r' q' => k d ce' G' m' z H' (R1.step s' R') (s1.trans s') r' q'
theorem de_callB {x : Str} {id : String} {o : OC} (hc : CaD X (.builtin id) o) (hm : X.mg x = none) (hv : bootBuiltins x = some (.builtin id)) (ha : DA X (e :: es) u) (hg : Gl X x := by rfl) (hn : x ≠ "__name__" := by decide) (hdb : (x == ("__debug__" : Str)) = false := by decide)
    (he : starEach (e :: es) X.env = (false, eval e X.env) :: starEach es X.env := by rfl) (hpl : (backTo pos (starEach es X.env)).any (·.1) = false := by rfl) : DE X (.Call (.Name x p) (e :: es) [] pos) (uCB o u) := by
  obtain ⟨ta, pa, sa⟩ := ha.ex
  obtain ⟨r, pr, sr⟩ := hc
  exact ⟨_, fun W tk => pe_callB pr hg hm hv (pa W tk) hn hdb he hpl, semCB sa sr⟩
theorem de_callTy {x : Str} {T : String} {o : OC} (hc : CaD X (.type T) o) (hm : X.mg x = none) (hv : bootBuiltins x = some (.type T)) (ha : DA X (e :: es) u) (hg : Gl X x := by rfl) (hn : x ≠ "__name__" := by decide) (hdb : (x == ("__debug__" : Str)) = false := by decide)
    (he : starEach (e :: es) X.env = (false, eval e X.env) :: starEach es X.env := by rfl) (hpl : (backTo pos (starEach es X.env)).any (·.1) = false := by rfl) : DE X (.Call (.Name x p) (e :: es) [] pos) (uCB o u) := by
  obtain ⟨ta, pa, sa⟩ := ha.ex
  obtain ⟨r, pr, sr⟩ := hc
  exact ⟨_, fun W tk => pe_callTy pr hg hm hv (pa W tk) hn hdb he hpl, semCB sa sr⟩
theorem RepTL.one' {K : PySem.W.Frag} {m : List Addr} {G : Hp} {t : T} {vs : List V} (r : RepTL K m G [t] vs) : ∃ v, vs = [v] ∧ RepT K m G t v := by
  obtain ⟨v, r', e, h, hr⟩ := r
  cases hr
  exact ⟨v, e, h⟩
theorem RepTL.two' {K : PySem.W.Frag} {m : List Addr} {G : Hp} {t t' : T} {vs : List V} (r : RepTL K m G [t, t'] vs) : ∃ v v', vs = [v, v'] ∧ RepT K m G t v ∧ RepT K m G t' v' := by
  obtain ⟨v, r', e, h, hr⟩ := r
  obtain ⟨v', rfl, h'⟩ := RepTL.one' hr
  exact ⟨v, v', e, h, h'⟩
/-- len of a text, a list, a tuple -/
def oLen : OC := fun ts ce Q => match ts with
  | [.d (.str z)] => z.length ≤ sizeLine ∧ Q (.d (.int z.length)) ce
  | [t] => match seqB ce t with
    | some xs => Q (.d (.int xs.length)) ce
    | none => False
  | _ => False
theorem cd_len : CaD X (.builtin "len") oLen := by
  refine ⟨_, call_len, fun H ce G m Qd Qv ts vs R r h k => ?_⟩
  unfold oLen at h
  split at h
  · next z =>
    obtain ⟨v, rfl, rv⟩ := RepTL.one' r
    cases rv
    exact ⟨_, _, rfl, ⟨h.1, rfl⟩, k (.d (.int z.length)) ce G m _ H R .refl rfl h.2⟩
  · next t _ =>
    split at h
    · next xs q =>
      obtain ⟨v, rfl, rv⟩ := RepTL.one' r
      obtain ⟨a, ws, rfl, hs, rs⟩ := seqB_ok R rv q
      refine ⟨_, xs.length, rfl, ?_, k (.d (.int xs.length)) ce G m _ H R .refl rfl h⟩
      rcases hs with hs | hs
      · exact .inl ⟨ws, hs, rs.length.symm⟩
      · exact .inr ⟨ws, hs, rs.length.symm⟩
    · exact h.elim
  · exact h.elim
def oInt1 : OC := fun ts ce Q => match ts with
  | [.d (.int i)] => Q (.d (.int i)) ce
  | _ => False
theorem cd_int : CaD X (.type "int") oInt1 := by
  refine ⟨_, call_int1, fun H ce G m Qd Qv ts vs R r h k => ?_⟩
  unfold oInt1 at h
  split at h
  · next i =>
    obtain ⟨v, rfl, rv⟩ := RepTL.one' r
    cases rv
    exact .inl ⟨i, rfl, k (.d (.int i)) ce G m _ H R .refl rfl h⟩
  · exact h.elim
def oMax2 : OC := fun ts ce Q => match ts with
  | [.d (.int i), .d (.int j)] => Q (.d (.int (if j > i then j else i))) ce
  | _ => False
theorem cd_max2 (hc : X.calm = true) : CaD X (.builtin "max") oMax2 := by
  refine ⟨_, call_max2 hc, fun H ce G m Qd Qv ts vs R r h k => ?_⟩
  unfold oMax2 at h
  split at h
  · next i j =>
    obtain ⟨v, v', rfl, rv, rv'⟩ := RepTL.two' r
    cases rv; cases rv'
    exact ⟨i, j, rfl, k (.d (.int (if j > i then j else i))) ce G m _ H R .refl rfl h⟩
  · exact h.elim
def blsD : List D → Option (List Bool)
  | [] => some []
  | .bl x :: r => match blsD r with
    | some xs => some (x :: xs)
    | none => none
  | _ => none
theorem blsD_ok {K : PySem.W.Frag} {G : Hp} : ∀ {ds : List D} {vs : List V} {xs : List Bool}, RepL K G ds vs → blsD ds = some xs → vs = xs.map V.bl
  | [], vs, xs, r, h => by cases r; cases h; rfl
  | d :: ds, vs, xs, ⟨v, t, e, r, rs⟩, h => by
    unfold blsD at h
    split at h
    · next e0 => cases e0
    · next x r' e0 =>
      cases e0
      split at h
      · next ys q => cases h; cases r; rw [e, blsD_ok rs q]; rfl
      · cases h
    · cases h
theorem blsD_map (xs : List Bool) : blsD (xs.map D.bl) = some xs := by
  induction xs with
  | nil => rfl
  | cons x r ih => simp [blsD, ih]
def oAll : OC := fun ts ce Q => match ts with
  | [.d (.lst xs)] => match blsD xs with
    | some bs => Q (.d (.bl (bs.all id))) ce
    | none => False
  | _ => False
theorem cd_all (hc : X.calm = true) : CaD X (.builtin "all") oAll := by
  refine ⟨_, cr_all hc, fun H ce G m Qd Qv ts vs R r h k => ?_⟩
  unfold oAll at h
  split at h
  · next xs =>
    split at h
    · next bs q =>
      obtain ⟨v, rfl, rv⟩ := RepTL.one' r
      obtain ⟨a, ws, rfl, hs, rs⟩ := rv
      have e := blsD_ok rs q
      subst e
      exact ⟨a, bs, rfl, R.gh.rdL hs, k (.d (.bl (bs.all id))) ce G m _ H R .refl rfl h⟩
    · exact h.elim
  · exact h.elim
/-- tuple(list), list(list or tuple): frozen, or as a cell -/
def oTuple : OC := fun ts ce Q => match ts with
  | [.d (.lst xs)] => Q (.d (.tup xs)) ce
  | [.d (.tup xs)] => Q (.d (.tup xs)) ce
  | [.cel k] => match ce[k]? with
    | some (.lst xs) => match unT xs with
      | some ds => Q (.d (.tup ds)) ce
      | none => False
    | _ => False
  | _ => False
theorem cd_tuple : CaD X (.type "tuple") oTuple := by
  refine ⟨_, call_tuple_of, fun H ce G m Qd Qv ts vs R r h k => ?_⟩
  unfold oTuple at h
  split at h
  · next xs =>
    obtain ⟨v, rfl, rv⟩ := RepTL.one' r
    obtain ⟨a, ws, rfl, hs, rs⟩ := rv
    refine ⟨a, ws, rfl, .inl ⟨R.gh.rdL hs, fun p hp => ?_⟩⟩
    obtain ⟨R2, s2⟩ := R.laid (.tup ws) hp
    exact k (.d (.tup xs)) ce _ m _ _ R2 s2 ⟨p, ws, rfl, SqT.of upd_same, RepL.mono s2.gg _ _ rs⟩ h
  · next xs =>
    obtain ⟨v, rfl, rv⟩ := RepTL.one' r
    obtain ⟨a, ws, rfl, hs, rs⟩ := rv
    exact ⟨a, ws, rfl, .inr ⟨R.gh.rdT hs, k (.d (.tup xs)) ce G m _ H R .refl ⟨a, ws, rfl, hs, rs⟩ h⟩⟩
  · next k' =>
    split at h
    · next xs q =>
      split at h
      · next ds q2 =>
        obtain ⟨v, rfl, rv⟩ := RepTL.one' r
        obtain ⟨a, hm, rfl⟩ := rv
        obtain ⟨ws, hs, rs⟩ := R.cel k' a _ hm q
        refine ⟨a, ws, rfl, .inl ⟨SqL.of hs, fun p hp => ?_⟩⟩
        obtain ⟨R2, s2⟩ := R.laid (.tup ws) hp
        exact k (.d (.tup ds)) ce _ m _ _ R2 s2 ⟨p, ws, rfl, SqT.of upd_same, RepL.mono s2.gg _ _ (unT_ok rs q2)⟩ h
      · exact h.elim
    · exact h.elim
  · exact h.elim
def oListC : OC := fun ts ce Q => match ts with
  | [t] => match seqB ce t with
    | some xs => Q (.cel ce.length) (ce ++ [.lst xs])
    | none => False
  | _ => False
theorem cd_listC : CaD X (.type "list") oListC := by
  refine ⟨_, call_list_of, fun H ce G m Qd Qv ts vs R r h k => ?_⟩
  unfold oListC at h
  split at h
  · next t =>
    split at h
    · next xs q =>
      obtain ⟨v, rfl, rv⟩ := RepTL.one' r
      obtain ⟨a, ws, rfl, hs, rs⟩ := seqB_ok R rv q
      refine ⟨a, ws, rfl, hs, fun p hp => ?_⟩
      obtain ⟨R2, s2⟩ := R.cell (o := .lst ws) (c := .lst xs) hp ⟨ws, upd_same, rs.mono (List.prefix_append m [p]) (Gg.refl _)⟩
      exact k (.cel ce.length) _ _ _ _ _ R2 s2 ⟨p, by rw [← R.len]; exact snoc_last, rfl⟩ h
    · exact h.elim
  · exact h.elim
def oList : OC := fun ts ce Q => match ts with
  | [t] => match seqB ce t with
    | some xs => match unT xs with
      | some ds => Q (.d (.lst ds)) ce
      | none => False
    | none => False
  | _ => False
theorem cd_list : CaD X (.type "list") oList := by
  refine ⟨_, call_list_of, fun H ce G m Qd Qv ts vs R r h k => ?_⟩
  unfold oList at h
  split at h
  · next t =>
    split at h
    · next xs q =>
      split at h
      · next ds q2 =>
        obtain ⟨v, rfl, rv⟩ := RepTL.one' r
        obtain ⟨a, ws, rfl, hs, rs⟩ := seqB_ok R rv q
        refine ⟨a, ws, rfl, hs, fun p hp => ?_⟩
        obtain ⟨R2, s2⟩ := R.laid (.lst ws) hp
        exact k (.d (.lst ds)) ce _ m _ _ R2 s2 ⟨p, ws, rfl, SqL.of upd_same, RepL.mono s2.gg _ _ (unT_ok rs q2)⟩ h
      · exact h.elim
    · exact h.elim
  · exact h.elim
end
end DL

namespace DL
open PySem L2
/-! ### isinstance -/
inductive Tg where
  | b (n : String) | o (C : Addr)
  deriving DecidableEq
def Tg.val : Tg → Value
  | .b n => .type n
  | .o C => .ref C
def tagOf (ce : Ce) : T → Option Tg
  | .d .non => some (.b "NoneType")
  | .d (.bl _) => some (.b "bool")
  | .d (.int _) => some (.b "int")
  | .d (.str _) => some (.b "str")
  | .d (.tup _) => some (.b "tuple")
  | .d (.lst _) => some (.b "list")
  | .d (.dic _) => some (.b "dict")
  | .d (.ins C _) => some (.o C)
  | .cel k => match ce[k]? with
    | some (.lst _) => some (.b "list")
    | some (.dic _) => some (.b "dict")
    | some (.ins C _) => some (.o C)
    | none => none
  | _ => none
def clsOf : D → Option Tg
  | .raw (.ty n) => some (.b n)
  | .raw (.ref C) => some (.o C)
  | _ => none
def knownT : List String := ["NoneType", "bool", "int", "str", "tuple", "list", "dict"]
def askedT : List String := ["bool", "int", "str", "tuple", "list", "dict"]
def isiT : Tg → Tg → Bool
  | .b a, .b c => a == c || (a == "bool" && c == "int")
  | .o C, .o C' => C == C'
  | _, _ => false
/-- what isinstance asks of the own classes Cs -/
structure IsiOk (K : PySem.W.Frag) (Cs : List Addr) : Prop where
  own : ∀ C ∈ Cs, Cls K C ∧ PySem.W.findIn K (.ref C) "__class__" = some (some (.builtin "object.__class__")) ∧ PySem.W.specialIn K (.builtin "object.__class__") "__get__" = some (some (.builtin "getset_descriptor.__get__")) ∧
    PySem.W.takesIn K (.builtin "object.__class__") = some true ∧ PySem.W.mroIn K C (.type "object") = some true
  kit : ∀ C ∈ Cs, (∀ n ∈ askedT, PySem.W.kitOne K (.ref C) (.type n) = some false) ∧ (∀ n ∈ knownT, PySem.W.kitOne K (.type n) (.ref C) = some false) ∧ ∀ C' ∈ Cs, PySem.W.kitOne K (.ref C) (.ref C') = some (C == C')
def okT (Cs : List Addr) : Tg → Bool
  | .b n => knownT.contains n
  | .o C => Cs.contains C
def okA (Cs : List Addr) : Tg → Bool
  | .b n => askedT.contains n
  | .o C => Cs.contains C
theorem kit_all : (knownT.all fun a => askedT.all fun c => decide (kitB a c = some (isiT (.b a) (.b c)))) = true := by decide +kernel
theorem isi_ok {K : PySem.W.Frag} {Cs : List Addr} (I : IsiOk K Cs) {t c : Tg} (ht : okT Cs t = true) (hc : okA Cs c = true) : PySem.W.kitOne K t.val c.val = some (isiT t c) := by
  cases t with
  | b a =>
    have ha : a ∈ knownT := by simpa [okT] using ht
    cases c with
    | b n =>
      have hn : n ∈ askedT := by simpa [okA] using hc
      have h := List.all_eq_true.mp (List.all_eq_true.mp kit_all a ha) n hn
      exact kit_ty (of_decide_eq_true h)
    | o C =>
      have hC : C ∈ Cs := by simpa [okA] using hc
      exact (I.kit C hC).2.1 a ha
  | o C =>
    have hC : C ∈ Cs := by simpa [okT] using ht
    cases c with
    | b n =>
      have hn : n ∈ askedT := by simpa [okA] using hc
      exact (I.kit C hC).1 n hn
    | o C' =>
      have hC' : C' ∈ Cs := by simpa [okA] using hc
      exact (I.kit C hC).2.2 C' hC'
theorem tyx_of {K : PySem.W.Frag} {Cs : List Addr} (I : IsiOk K Cs) {H : Hp} {ce : Ce} {G : Hp} {m : List Addr} (R : RelS K H ce G m) {t : T} {v : V} {g : Tg} (r : RepT K m G t v) (h : tagOf ce t = some g) (ho : okT Cs g = true) : TyX K H v g.val := by
  have ins : ∀ {a C dx : Addr} {fs : List (Str × V)}, H a = some (.ins C dx fs) → C ∈ Cs → TyX K H (.ref a) (.ref C) := fun e hC => let ⟨c, h1, h2, h3, h4⟩ := I.own _ hC; .base (.ins e c h1 h2 h3 h4)
  unfold tagOf at h
  split at h
  · cases h; cases r; exact .base .non
  · cases h; cases r; exact .base (.bl _)
  · cases h; cases r; exact .base (.int _)
  · cases h; cases r; exact .base (.str _)
  · cases h
    obtain ⟨a, vs, rfl, hs, _⟩ := r
    rcases R.gh.rdT hs with (e | ⟨o, e⟩) | ⟨o, its, n, e, c, _⟩
    · exact .base (.tup e)
    · exact .fTuple e
    · exact .kTuple e c
  · cases h
    obtain ⟨a, vs, rfl, hs, _⟩ := r
    rcases R.gh.rdL hs with (e | ⟨o, e⟩) | ⟨o, its, n, e, c, _⟩
    · exact .base (.lst e)
    · exact .base (.frz e)
    · exact .kList e c
  · cases h
    obtain ⟨a, vs, rfl, hs, _⟩ := r
    rcases R.gh _ _ hs with e | ⟨_, o, e⟩
    · exact .base (.dK e)
    · exact .fDict e
  · next C fs =>
    cases h
    obtain ⟨a, dx, vs, rfl, hs, _⟩ := r
    have hC : C ∈ Cs := by simpa [okT] using ho
    rcases R.gh _ _ hs with e | ⟨⟨_, q⟩, o, e⟩
    · exact ins e hC
    · cases q
  · next k =>
    obtain ⟨a, hm, rfl⟩ := r
    split at h
    · next xs q => cases h; obtain ⟨vs, e, _⟩ := R.cel k a _ hm q; exact .base (.lst e)
    · next xs q => cases h; obtain ⟨vs, e, _⟩ := R.cel k a _ hm q; exact .base (.dK e)
    · next C fs q =>
      cases h
      obtain ⟨dx, vs, e, _⟩ := R.cel k a _ hm q
      have hC : C ∈ Cs := by simpa [okT] using ho
      exact ins e hC
    · cases h
  · cases h
section
variable {X : Cx} {e a b : Expr} {es : List Expr} {ua ub : UE} {u : UA} {pos p p2 : Pos}
/-- isinstance(x, c); isinstance(x, (c1, c2, ..)) -/
def oIsi (Cs : List Addr) : OC := fun ts ce Q => match ts with
  | [t, .d (.tup cs)] => match tagOf ce t with
    | some g => okT Cs g = true ∧ match cs.mapM clsOf with
      | some us => us.all (okA Cs) = true ∧ Q (.d (.bl (us.any (isiT g)))) ce
      | none => False
    | none => False
  | [t, .d c] => match tagOf ce t, clsOf c with
    | some g, some u => okT Cs g = true ∧ okA Cs u = true ∧ Q (.d (.bl (isiT g u))) ce
    | _, _ => False
  | _ => False
theorem clsV_of {K : PySem.W.Frag} {G : Hp} {c : D} {v : V} {u : Tg} (r : Rep K G c v) (h : clsOf c = some u) : ClsV v u.val := by
  unfold clsOf at h
  split at h
  · cases h; cases r; exact .ty _
  · cases h; cases r; exact .own _
  · cases h
theorem clsVs_of {K : PySem.W.Frag} {G : Hp} : ∀ {cs : List D} {vs : List V} {us : List Tg}, RepL K G cs vs → cs.mapM clsOf = some us → Paired ClsV vs (us.map Tg.val)
  | [], vs, us, r, h => by cases r; simp at h; subst h; exact .nil
  | c :: cs, vs, us, ⟨v, t, e, r, rs⟩, h => by
    rw [List.mapM_cons] at h
    cases q : clsOf c with
    | none => rw [q] at h; cases h
    | some u =>
      cases q2 : cs.mapM clsOf with
      | none => rw [q, q2] at h; cases h
      | some us' =>
        rw [q, q2] at h
        cases h
        subst e
        exact .cons (clsV_of r q) (clsVs_of rs q2)
theorem kitAny_of {K : PySem.W.Frag} {Cs : List Addr} (I : IsiOk K Cs) {g : Tg} (hg : okT Cs g = true) : ∀ {us : List Tg}, us.all (okA Cs) = true → PySem.W.kitAny K g.val (us.map Tg.val) = some (us.any (isiT g))
  | [], _ => rfl
  | u :: us, h => by
    rw [List.all_cons, Bool.and_eq_true] at h
    rw [List.map_cons, List.any_cons]
    refine kitAny_cons (isi_ok I hg h.1) (fun e => ?_) (fun e => ?_)
    · rw [e, Bool.false_or]; exact kitAny_of I hg h.2
    · rw [e, Bool.true_or]
theorem call_isiS : CallR X (.builtin "isinstance") (fun xs H Q => ∃ (x : V) (tp : Addr) (cs : List V) (t : Value) (us : List Value) (b : Bool), xs = [x, .ref tp] ∧ SqT X.K H tp cs ∧ Paired ClsV cs us ∧ TyX X.K H x t ∧ PySem.W.kitAny X.K t us = some b ∧ Q (.bl b) H) := by
  intro pins s σ H xs us Q I r h
  obtain ⟨x, tp, cs, t, ws, b, rfl, hT, k, ty, e, q⟩ := h
  obtain ⟨u1, u2, rfl, r1, r2⟩ := vals2 r
  cases (show u2 = Value.ref tp from r2)
  obtain ⟨P, Z, p, hx⟩ := kit_of I r1 ty
  obtain ⟨its, rv, ⟨o, h1, h2, n, h3⟩, _⟩ := I.tuple hT
  have e3 := ClsV.all k rv
  subst e3
  obtain ⟨oc, od, dt, sl⟩ := o
  simp only at h2 h3
  subst h2 h3
  exact PySem.W.kia_tup Z I.kIn p h1 e hx fun tk => ⟨.bl b, H, I.tok tk, rfl, q⟩
theorem cd_isi {Cs : List Addr} (I : IsiOk X.K Cs) : CaD X (.builtin "isinstance") (oIsi Cs) := by
  refine ⟨_, call_isi.or call_isiS, fun H ce G m Qd Qv ts vs R r h k => ?_⟩
  unfold oIsi at h
  split at h
  · next t cs =>
    split at h
    · next g q =>
      obtain ⟨hg, h⟩ := h
      split at h
      · next us q2 =>
        obtain ⟨v, v', rfl, rv, rv'⟩ := RepTL.two' r
        obtain ⟨tp, ws, rfl, hs, rs⟩ := rv'
        exact .inr ⟨v, tp, ws, g.val, us.map Tg.val, us.any (isiT g), rfl, R.gh.rdT hs, clsVs_of rs q2, tyx_of I R rv q hg, kitAny_of I hg h.1, k (.d (.bl (us.any (isiT g)))) ce G m _ H R .refl rfl h.2⟩
      · exact h.elim
    · exact h.elim
  · next t c _ =>
    split at h
    · next g u q q2 =>
      obtain ⟨v, v', rfl, rv, rv'⟩ := RepTL.two' r
      exact .inl ⟨v, v', g.val, u.val, isiT g u, rfl, clsV_of rv' q2, tyx_of I R rv q h.1, isi_ok I h.1 h.2.1, k (.d (.bl (isiT g u))) ce G m _ H R .refl rfl h.2.2⟩
    · exact h.elim
  · exact h.elim
/-! ### calls of own defs -/
abbrev Phi := List T → Ce → (T → Ce → Prop) → (Exc → Ce → Prop) → Prop
def spD (K : PySem.W.Frag) (φ : Phi) : Sp := fun vs H Q E => ∃ (ce : Ce) (G : Hp) (m : List Addr) (ts : List T) (Qd : T → Ce → Prop) (Ed : Exc → Ce → Prop), RelS K H ce G m ∧ RepTL K m G ts vs ∧ φ ts ce Qd Ed ∧
  (∀ d ce' G' m' v H', RelS K H' ce' G' m' → Stp H m G H' m' G' → RepT K m' G' d v → Qd d ce' → Q v H') ∧
  (∀ x ce' G' m' cls dd H', RelS K H' ce' G' m' → Stp H m G H' m' G' → RepX K G' cls dd x → Ed x ce' → E cls dd H')
/-- the def at f keeps φ, called with so many arguments -/
def FnX (P : Program) (w : World) (K : PySem.W.Frag) (mg : Str → Option Value) (base : Heap) (k : Nat) (f : Addr) (φ : Phi) : Prop :=
  ∀ (A : Around) (outer : List Env) (s : Shared) (H : Hp) (us : List Value) (vs : List V) (Q : VK) (E : XK), Room k A → Env0 P w K mg base A outer s H → Vals vs us → spD K φ vs H Q E →
    codeAny (model P w) A (.call (.ref f) ⟨us, []⟩) (CR (L2.CX P w) outer P w H s Q E) s
theorem FnX.mono {P : Program} {w : World} {K : PySem.W.Frag} {mg : Str → Option Value} {base : Heap} {j k : Nat} {f : Addr} {φ : Phi} (F : FnX P w K mg base j f φ) (h : j ≤ k) : FnX P w K mg base k f φ :=
  fun A outer s H us vs Q E hr => F A outer s H us vs Q E (hr.mono h)
theorem fnX_of {P : Program} {w : World} {K : PySem.W.Frag} {mg : Str → Option Value} {base : Heap} {k : Nat} {f : Addr} {fd : FuncData} {ps : List Str} {φ : Phi} (F : FnOk P w K mg base (L2.CX P w) k f fd ps (spD K φ)) (hb : Binds K fd ps []) (hK : K.In base) : FnX P w K mg base k f φ := by
  intro A outer s H us vs Q E hr e0 r h
  have hl : us.length = ps.length := by rw [← r.length]; exact F.len _ _ _ _ h
  have b := hb s us (hK.keeps fun a o e => (e0.bs a o e).1) (by rw [List.append_nil]; exact hl)
  rw [List.append_nil] at b
  exact F.run A outer s H ⟨us, []⟩ us vs Q E hr e0 b r h
theorem run_X {pins : List (Addr × Obj)} {σ : St} {H : Hp} {s : Shared} {Q : VK} {us : List Value} {vs : List V} {k : Nat} {f : Addr} {φ : Phi} {E : XK} {A : Around} (F : FnX X.prog X.w X.K X.mg X.base k f φ) (hr : Room k A) (hA : Env0 X.prog X.w X.K X.mg X.base A X.stack s H)
    (hx : PassesAt (L2.CX X.prog X.w) X σ E) (I : Inv X pins σ H s) (r : Vals vs us) (h : spD X.K φ vs H Q E) : wpAny (model X.prog X.w) A (call (.ref f) us) (EP X pins σ Q) X.xe s := by
  refine wpAny_call (codeAny_mono (F A X.stack s H us vs Q E hr hA r h) fun r s' hq => ?_)
  cases r with
  | error e => exact hx pins H s e s' I hq
  | ok fl =>
    cases fl with
    | ret u => exact I.after hq
    | _ => exact hq.elim
def uCall (φ : Phi) (u : UA) : UE := fun sl ce Q E => u sl ce (fun ts ce1 => φ ts ce1 Q (fun x ce2 => E x sl ce2)) E
def tCallX (K : PySem.W.Frag) (φ : Phi) (W : WX) (t : TA) : TE := fun σ H Q => t σ H fun vs H1 => spD K φ vs H1 Q (WE W σ)
theorem semCall {K : PySem.W.Frag} {ta : WX → TA} {φ : Phi} (sa : SemA K ta u) : SemE K (fun W => tCallX K φ W (ta W)) (uCall φ u) := by
  intro W σ H sl ce G m Qd Ed Qv R w h k
  refine sa W σ H sl ce G m _ Ed _ R w h fun ts ce1 G1 m1 vs H1 R1 s1 r1 h1 => ?_
  refine ⟨ce1, G1, m1, ts, Qd, _, R1.toRelS, r1, h1, fun d ce' G' m' v H' R' s' r' q' => ?_, fun x ce' G' m' cls dd H' R' s' r' q' => ?_⟩
  · exact k d ce' G' m' v H' (R1.step s' R') (s1.trans s') r' q'
  · exact w cls dd σ H' x sl ce' G' m' (R1.step s' R') (s1.trans s') r' q'
theorem de_call {x : Str} {k : Nat} {f : Addr} {φ : Phi} (F : FnX X.prog X.w X.K X.mg X.base k f φ) (hr : Room k X.A) (hm : X.mg x = some (.ref f)) (hk : PySem.W.keepIn X.K (.ref f) = true) (ha : DA X (e :: es) u) (hg : Gl X x := by rfl)
    (hdb : (x == ("__debug__" : Str)) = false := by decide) (he : starEach (e :: es) X.env = (false, eval e X.env) :: starEach es X.env := by rfl) (hpl : (backTo pos (starEach es X.env)).any (·.1) = false := by rfl) : DE X (.Call (.Name x p) (e :: es) [] pos) (uCall φ u) := by
  obtain ⟨ta, pa, sa⟩ := ha.ex
  refine ⟨fun W => tCallX X.K φ W (ta W), fun W tk => ⟨fun pins s σ H Q I h => ?_⟩, semCall sa⟩
  refine wpAny_Call_Name_kw (ld_glob I hg hm ?_ hdb)
  refine PySem.W.callWith_K (h₀ := X.base) I.ok.mod.kin hk (thn ((pa W tk).run pos pins s σ H _ I h) fun us s1 ⟨vs, H1, I1, r, q⟩ => ⟨I1.kIn, ?_⟩) he hpl
  exact run_X F hr I1.env0 (passAt tk σ) I1 r q
theorem semNil {K : PySem.W.Frag} : SemA K (fun _ => tNil) uNil := fun W σ H sl ce G m Qd Ed Qv R w h k => k [] ce G m [] H R .refl rfl h
theorem de_call0 {x : Str} {k : Nat} {f : Addr} {φ : Phi} (F : FnX X.prog X.w X.K X.mg X.base k f φ) (hr : Room k X.A) (hm : X.mg x = some (.ref f)) (hk : PySem.W.keepIn X.K (.ref f) = true) (hg : Gl X x := by rfl)
    (hdb : (x == ("__debug__" : Str)) = false := by decide) : DE X (.Call (.Name x p) [] [] pos) (uCall φ uNil) := by
  refine ⟨fun W => tCallX X.K φ W tNil, fun W tk => ⟨fun pins s σ H Q I h => ?_⟩, semCall semNil⟩
  refine wpAny_Call_Name_kw (ld_glob I hg hm ?_ hdb)
  exact PySem.W.callWith_K0 I.kIn hk (run_X (us := []) F hr I.env0 (passAt tk σ) I .nil h)
/-! ### C(..) of an own class -/
def sameCells (ce1 ce3 : Ce) : Prop := ce3 = ce1 ∨ (ce3.length = ce1.length ∧ ce3.all (cellB ce1.length) = true)
def uMake (C : Addr) (φ : Phi) (u : UA) : UE := fun sl ce Q E => u sl ce (fun ts ce1 => φ (.cel ce1.length :: ts) (ce1 ++ [.ins C []]) (fun v ce2 => v = .d .non ∧ ∃ ce3 fs, ce2 = ce3 ++ [.ins C fs] ∧ sameCells ce1 ce3 ∧ match unF fs with
  | some ds => Q (.d (.ins C ds)) ce3
  | none => False) (fun x ce2 => ∃ ce3 junk, ce2 = ce3 ++ junk ∧ sameCells ce1 ce3 ∧ E x sl ce3)) E
def tMakeX (K : PySem.W.Frag) (C : Addr) (φ : Phi) (W : WX) (t : TA) : TE := fun σ H Q => t σ H fun vs H1 => ∀ x dx, H1 x = none → H1 dx = none → dx ≠ x → spD K φ (.ref x :: vs) (upd (upd H1 dx (.own x)) x (.ins C dx [])) (fun v H2 => v = .non ∧ Q (.ref x) H2) (WE W σ)
theorem sameCells.all {K : PySem.W.Frag} {H : Hp} {ce1 ce3 : Ce} {G : Hp} {m : List Addr} (R : RelS K H ce1 G m) (h : sameCells ce1 ce3) : ce3.length = ce1.length ∧ ce3.all (cellB ce1.length) = true := by
  rcases h with rfl | h
  · exact ⟨rfl, R.tops⟩
  · exact h
theorem take_of_pre {m1 m2 : List Addr} (h : m1 <+: m2) : m2.take m1.length = m1 := by
  obtain ⟨t, rfl⟩ := h
  simp
theorem semMake {K : PySem.W.Frag} {ta : WX → TA} {C : Addr} {φ : Phi} (sa : SemA K ta u) : SemE K (fun W => tMakeX K C φ W (ta W)) (uMake C φ u) := by
  intro W σ H sl ce G m Qd Ed Qv R w h k
  refine sa W σ H sl ce G m _ Ed _ R w h fun ts ce1 G1 m1 vs H1 R1 s1 r1 h1 => ?_
  intro x dx hx hdx ne
  obtain ⟨Ra, sa1⟩ := R1.toRelS.beside (.own x) hdx
  have hx' : upd H1 dx (.own x) x = none := by rw [upd_ne (Ne.symm ne)]; exact hx
  obtain ⟨Rb, sb⟩ := Ra.cell (o := .ins C dx []) (c := .ins C []) hx' ⟨dx, [], upd_same, rfl⟩
  have sab := sa1.trans sb
  have fin : ∀ {ce3 junk : Ce} {G2 : Hp} {m2 : List Addr} {H2 : Hp}, RelS K H2 (ce3 ++ junk) G2 m2 → Stp (upd (upd H1 dx (.own x)) x (.ins C dx [])) (m1 ++ [x]) G1 H2 m2 G2 → sameCells ce1 ce3 → RelS K H2 ce3 G2 m1 ∧ Stp H1 m1 G1 H2 m1 G2 := by
    intro ce3 junk G2 m2 H2 R2 s2 sc
    obtain ⟨hl, ha⟩ := sc.all R1.toRelS
    have pre : m1 <+: m2 := (sab.trans s2).pre
    have e1 : (ce3 ++ junk).take ce1.length = ce3 := by rw [← hl]; simp
    have R3 := R2.less ce1.length (by simp; omega) (by rw [e1]; exact ha)
    rw [e1, ← R1.len, take_of_pre pre] at R3
    exact ⟨R3, ⟨fun a o hh hn => (sab.trans s2).keep a o hh hn, List.prefix_refl m1, fun a h => .inl h, (sab.trans s2).gg, (sab.trans s2).stay, (sab.trans s2).gnew⟩⟩
  refine ⟨ce1 ++ [.ins C []], G1, m1 ++ [x], .cel ce1.length :: ts, _, _, Rb, ⟨_, _, rfl, ⟨x, by rw [← R1.len]; exact snoc_last, rfl⟩, r1.mono sab.pre sab.gg⟩, h1, fun d ce' G' m' v H' R' s' r' q' => ?_, fun y ce' G' m' cls dd H' R' s' r' q' => ?_⟩
  · obtain ⟨rfl, ce3, fs, rfl, sc, q⟩ := q'
    obtain ⟨R3, s3⟩ := fin R' s' sc
    obtain ⟨hl, ha⟩ := sc.all R1.toRelS
    refine ⟨r', ?_⟩
    split at q
    · next ds qf =>
      have hmx : m'[ce3.length]? = some x := by
        rw [hl, ← R1.len]
        exact pre_get s'.pre snoc_last
      obtain ⟨dx', ws, hH, rf⟩ := R'.cel ce3.length x (.ins C fs) hmx (by simp)
      have gx : G' x = none := R'.out x (List.mem_of_getElem? hmx)
      have nx : x ∉ m1 := R1.toRelS.nmem hx
      obtain ⟨R4, g4⟩ := R3.freeze hH nx gx
      have s4 : Stp H1 m1 G1 H' m1 (upd G' x (.ins C dx' ws)) := ⟨s3.keep, s3.pre, s3.new, s3.gg.trans g4, s3.stay, fun a u h => by
        by_cases e : a = x
        · subst e; exact .inr hx
        · rw [upd_ne e] at h; exact s3.gnew a u h⟩
      exact k (.d (.ins C ds)) ce3 _ m1 _ H' (R1.step s4 R4) (s1.trans s4) ⟨x, dx', ws, rfl, upd_same, RepF.mono g4 _ _ (unF_ok rf qf)⟩ q
    · exact q.elim
  · obtain ⟨ce3, junk, rfl, sc, q⟩ := q'
    obtain ⟨R3, s3⟩ := fin R' s' sc
    exact w cls dd σ H' y sl ce3 G' m1 (R1.step s3 R3) (s1.trans s3) r' q
theorem run_makeX {pins : List (Addr × Obj)} {σ : St} {H : Hp} {s : Shared} {Q : VK} {us : List Value} {vs : List V} {C f : Addr} {k : Nat} {φ : Phi} {E : XK} (M : Mk X.K C f) (F : FnX X.prog X.w X.K X.mg X.base k f φ) (hr : Room (k + 1) X.A)
    (hx : PassesAt (L2.CX X.prog X.w) X σ E) (I : Inv X pins σ H s) (r : Vals vs us)
    (h : ∀ x dx, H x = none → H dx = none → dx ≠ x → spD X.K φ (.ref x :: vs) (upd (upd H dx (.own x)) x (.ins C dx [])) (fun v H2 => v = .non ∧ Q (.ref x) H2) E) :
    wpAny (model X.prog X.w) X.A (call (.ref C) us) (EP X pins σ Q) X.xe s := by
  have hq := h (s.heap.objs.size + 1) s.heap.objs.size (I.hok.fresh (Nat.le_succ _)) (I.hok.fresh (Nat.le_refl _)) (Nat.ne_of_lt (Nat.lt_succ_self _))
  have I2 := Inv.made (C := C) I
  have r2 : Vals (V.ref (s.heap.objs.size + 1) :: vs) (Value.ref (s.heap.objs.size + 1) :: us) := .cons rfl r
  refine wpAny_call (make_map (f := f) I.kIn M.makes M.init (beq_iff_eq.mp M.fn) (codeAny_mono (F _ X.stack _ _ (Value.ref (s.heap.objs.size + 1) :: us) _ _ E (hr.make C us []) (I2.env0.make C us []) r2 hq) fun r s' hq' => ?_))
  cases r with
  | error e => exact hx pins _ _ e s' I2 hq'
  | ok fl =>
    cases fl with
    | ret u =>
      obtain ⟨v, H', I3, rv, ev, q3⟩ := I2.after hq'
      subst ev
      exact ⟨rv, ⟨V.ref (s.heap.objs.size + 1), H', I3, rfl, q3⟩⟩
    | next => exact False.elim hq'
    | brk => exact False.elim hq'
    | cont => exact False.elim hq'
theorem de_make {x : Str} {k : Nat} {C f : Addr} {φ : Phi} (M : Mk X.K C f) (F : FnX X.prog X.w X.K X.mg X.base k f φ) (hr : Room (k + 1) X.A) (hm : X.mg x = some (.ref C)) (ha : DA X (e :: es) u) (hg : Gl X x := by rfl)
    (hdb : (x == ("__debug__" : Str)) = false := by decide) (he : starEach (e :: es) X.env = (false, eval e X.env) :: starEach es X.env := by rfl) (hpl : (backTo pos (starEach es X.env)).any (·.1) = false := by rfl) : DE X (.Call (.Name x p) (e :: es) [] pos) (uMake C φ u) := by
  obtain ⟨ta, pa, sa⟩ := ha.ex
  refine ⟨fun W => tMakeX X.K C φ W (ta W), fun W tk => ⟨fun pins s σ H Q I h => ?_⟩, semMake sa⟩
  refine wpAny_Call_Name_kw (ld_glob I hg hm ?_ hdb)
  refine PySem.W.callWith_K (h₀ := X.base) I.ok.mod.kin M.kp (thn ((pa W tk).run pos pins s σ H _ I h) fun us s1 ⟨vs, H1, I1, r, q⟩ => ⟨I1.kIn, ?_⟩) he hpl
  exact run_makeX M F hr (passAt tk σ) I1 r q
/-! ### fields -/
def insOf (ce : Ce) : T → Option (Addr × List (Str × T))
  | .d (.ins C fs) => some (C, fs.map fun p => (p.1, .d p.2))
  | .cel k => match ce[k]? with
    | some (.ins C fs) => some (C, fs)
    | _ => none
  | _ => none
theorem toTK {K : PySem.W.Frag} {m : List Addr} {G : Hp} : ∀ {fs : List (Str × D)} {ws : List (Str × V)}, RepF K G fs ws → RepTK K m G (fs.map fun p => (p.1, T.d p.2)) ws
  | [], _, h => h
  | (k, d) :: ds, _, ⟨v, r, e, h, hr⟩ => ⟨v, r, e, h, toTK hr⟩
theorem insOf_ok {K : PySem.W.Frag} {H : Hp} {ce : Ce} {G : Hp} {m : List Addr} (R : RelS K H ce G m) {t : T} {v : V} {C : Addr} {fs : List (Str × T)} (r : RepT K m G t v) (h : insOf ce t = some (C, fs)) : ∃ a dx ws, v = .ref a ∧ H a = some (.ins C dx ws) ∧ RepTK K m G fs ws := by
  unfold insOf at h
  split at h
  · cases h
    obtain ⟨a, dx, ws, rfl, hs, r⟩ := r
    rcases R.gh _ _ hs with e | ⟨⟨_, q⟩, _⟩
    · exact ⟨a, dx, ws, rfl, e, toTK r⟩
    · cases q
  · next k =>
    obtain ⟨a, hm, rfl⟩ := r
    split at h
    · next C' fs' q =>
      cases h
      obtain ⟨dx, ws, e, r⟩ := R.cel k a _ hm q
      exact ⟨a, dx, ws, rfl, e, r⟩
    · cases h
  · cases h
def uFld (C : Addr) (f : Str) (ua : UE) : UE := fun sl ce Q E => ua sl ce (fun x ce1 => match insOf ce1 x with
  | some (C', fs) => C' = C ∧ match fs.lookup f with
    | some d => Q d ce1
    | none => False
  | none => False) E
theorem de_fld {C : Addr} {f : Str} (ha : DE X e ua) (c : Cls X.K C) (n : NoAttr X.K C f) (hb : attributeBase e f X.env (eval e X.env) = eval e X.env := by rfl) : DE X (.Attribute e f pos) (uFld C f ua) := by
  obtain ⟨ta, pa, sa⟩ := ha.ex
  refine ⟨_, fun W tk => pe_fld (pa W tk) hb, fun W σ H sl ce G m Qd Ed Qv R w h k => ?_⟩
  refine sa W σ H sl ce G m _ Ed _ R w h fun x ce1 G1 m1 v H1 R1 s1 r1 h1 => ?_
  split at h1
  · next C' fs q =>
    obtain ⟨rfl, h1⟩ := h1
    split at h1
    · next d q2 =>
      obtain ⟨a, dx, ws, rfl, e, r⟩ := insOf_ok R1.toRelS r1 q
      obtain ⟨v, l, rv⟩ := r.lookup q2
      exact ⟨a, C', dx, ws, v, rfl, e, c, n, l, k d ce1 G1 m1 v H1 R1 s1 rv h1⟩
    · exact h1.elim
  · exact h1.elim
end
end DL

namespace PySem.NeX
open PySem.W PySem.Calls PyProof.Rows
theorem one_slot : Slot "object" "__ne__" "object.__ne__" :=
  .of (owner := "object") (n := "__ne__") (by rw [typeLookup_type, builtinLookup_eq_fast]; kernel_rfl) (by decide +kernel) (by decide +kernel) (by decide +kernel)
    (by first | exact .inl (by decide +kernel) | exact .inr (by decide +kernel)) (by rw [isSubtype_type]; kernel_rfl)
section
variable {prog : Program} {w : World} {A : Around} {E : Value → Shared → Prop} {s : Shared} {K : Frag} {x y C f : Addr} {ox oy : Obj} {od oe : Option Obj} {Q : Value → Shared → Prop}
theorem ne_entry (hu : A.units < cLine) (X : K.In s.heap) (I : W.InstAt s.heap x ox C od) (heq : findIn K (.ref C) "__eq__" = some (some (.ref f))) (hf : isFn K (.ref f) = true) {b : Value} {Q : Fin → Shared → Prop}
    (h : wpAny (model prog w) A (call (.ref f) [.ref x, b]) (fun v s' => ∃ r, v = .bool r ∧ Q (.done (.ret (.bool (!r)))) s') E s) : wpAny (model prog w) A (Builtin.«object.__ne__» ⟨[.ref x, b], []⟩) Q E s := by
  unfold Builtin.«object.__ne__»
  refine wpAny_bind (m := slotArgs "__ne__" 1 _) (wpAny_pure ?_)
  refine wpAny_bind (wpAny_cRoomFor hu ?_)
  refine wpAny_bind (ifBound_K X I heq hf (wpAny_mono h (fun v s' hv => ?_) fun _ _ e => e))
  obtain ⟨r, rfl, q⟩ := hv
  show wpAny _ _ (truthy (.bool r) >>= fun b => ret (.bool (!b))) _ _ _
  exact wpAny_bind (wpAny_pure (wpAny_pure q))
theorem ne_own (hu : A.units + 1 < cLine) (X : K.In s.heap) (I : W.InstAt s.heap x ox C od) (J : W.InstAt s.heap y oy C oe) (hne : findIn K (.ref C) "__ne__" = some (some (.builtin "object.__ne__")))
    (heq : findIn K (.ref C) "__eq__" = some (some (.ref f))) (hf : isFn K (.ref f) = true) (hob : mroIn K C (.type "object") = some true)
    (h : wpAny (model prog w) A.in1 (call (.ref f) [.ref x, .ref y]) (fun v s' => ∃ r, v = .bool r ∧ Q (.bool (!r)) s') E s) : wpAny (model prog w) A (richCompare .NotEq (.ref x) (.ref y)) Q E s := by
  have one : wpAny (model prog w) A (tryCompare (.ref x) "__ne__" (.ref y)) (fun r s' => ∃ v, r = some v ∧ Q v s') E s := by
    unfold tryCompare
    refine wpAny_bind ?_
    simp only [callSpecialIfBound?, bindSpecialIfBound?]
    refine wpAny_holding (wpAny_bind (wpAny_bind (wpAny_bind (I.type.here ((looks_findIn X hne).here ?_)))))
    refine wpAny_bind (wpAny_askSetting (wpAny_ite ?_))
    have sub : W.Looks (model prog w) s.heap (isInstance (.ref x) (.type "object")) true := I.type.andThen (looks_mroIn X hob)
    have fin0 : wpAny (model prog w) A (call (.builtin "object.__ne__") [.ref x, .ref y]) (fun v s' => ∃ b, v = .bool b ∧ Q (.bool b) s') E s := by
      refine wpAny_call (codeAny_call_builtin one_slot.plain F.cmpEntry_ne (@W.check_slot (model prog w) _ _ s "object.__ne__" "object" "__ne__" (.ref x) [.ref y] [] _ F.cmpKind_ne F.cmpSplit_ne sub (F.cmpArgs_ne _ _) ?_))
      exact ne_entry (A := A.in1) (by show A.units + 1 < cLine; exact hu) X I heq hf (wpAny_mono h (fun v s' ⟨r, e, q⟩ => ⟨r, e, ⟨_, rfl, q⟩⟩) fun _ _ e => e)
    have fin : wpAny (model prog w) A (call (.builtin "object.__ne__") ([.ref x] ++ [.ref y]) >>= fun v => pure (some v)) (fun a s' => wpAny (model prog w) A (match a with
        | some Value.notImplemented => pure none
        | none => pure none
        | some v => pure (some v)) (fun r s' => ∃ v, r = some v ∧ Q v s') E s') E s :=
      wpAny_bind (wpAny_mono fin0 (fun v s' ⟨b, e, q⟩ => by subst e; exact wpAny_pure (wpAny_pure ⟨_, rfl, q⟩)) fun _ _ h' => h')
    split
    · exact wpAny_bind (wpAny_of_eq (one_slot.bind _) (wpAny_pure (by exact fin)))
    · exact wpAny_tryCatch (wpAny_bind (wpAny_of_eq (one_slot.bind _) (wpAny_pure (by exact fin))))
  unfold richCompare
  simp only [oneThing_ref]
  refine wpAny_holding (wpAny_bind (wpAny_cRoomFor (Nat.lt_of_succ_lt hu) ?_))
  refine wpAny_bind (I.type.here (wpAny_bind (J.type.here ?_)))
  rw [show (Value.ref C != Value.ref C) = false from by simp]
  simp only [Bool.false_eq_true, if_false]
  refine wpAny_bind (wpAny_pure ?_)
  simp only [Bool.false_eq_true, if_false]
  refine wpAny_bind (wpAny_mono one (fun r s' z => ?_) fun _ _ e => e)
  obtain ⟨v, rfl, hq⟩ := z
  exact wpAny_pure hq
end
end PySem.NeX
namespace DL
open PySem L2
section
variable {X : Cx} {e a b : Expr} {es : List Expr} {ua ub : UE} {u : UA} {pos p p2 apos : Pos} {C f g : Addr} {k : Nat} {φ : Phi}
/-- nothing is raised -/
def EF : XK := fun _ _ _ => False
theorem passF {σ : St} : PassesAt (L2.CX X.prog X.w) X σ EF := fun _ _ _ _ _ _ h => by
  obtain ⟨_, _, _, _, _, _, _, _, _, _, _, _, z⟩ := h
  exact z.elim
theorem cx_false {outer : List Env} {H : Hp} {s : Shared} {e : Value} {s' : Shared} {P : Program} {w : World} (h : L2.CX P w outer H s EF e s') : False := by
  obtain ⟨_, _, _, _, _, _, _, _, _, _, _, _, z⟩ := h
  exact z
/-- the call of φ from values, nothing raised -/
theorem spD_call {K : PySem.W.Frag} {H : Hp} {ce : Ce} {G : Hp} {m : List Addr} {ts : List T} {vs : List V} {Qd : T → Ce → Prop} {Qv : VK} {E : XK} (R : RelS K H ce G m) (r : RepTL K m G ts vs) (h : φ ts ce Qd (fun _ _ => False))
    (k : ∀ d ce' G' m' z H', RelS K H' ce' G' m' → Stp H m G H' m' G' → RepT K m' G' d z → Qd d ce' → Qv z H') : spD K φ vs H Qv E :=
  ⟨ce, G, m, ts, Qd, _, R, r, h, k, fun _ _ _ _ _ _ _ _ _ _ z => z.elim⟩
/-! ### a property -/
def tPropX (K : PySem.W.Frag) (C : Addr) (φ : Phi) (ta : TE) : TE := fun σ H Q => ta σ H fun x H1 => ∃ a dx fs, x = .ref a ∧ H1 a = some (.ins C dx fs) ∧ spD K φ [.ref a] H1 Q EF
def uProp (C : Addr) (φ : Phi) (ua : UE) : UE := fun sl ce Q E => ua sl ce (fun x ce1 => match insOf ce1 x with
  | some (C', _) => C' = C ∧ φ [x] ce1 Q (fun _ _ => False)
  | none => False) E
theorem de_prop {n : Str} {pa : Addr} (ha : DE X e ua) (c : Cls X.K C) (hp : PropOf X.K C n pa g) (F : FnX X.prog X.w X.K X.mg X.base k g φ) (hr : Room (k + 1) X.A) (hab : attributeBase e n X.env (eval e X.env) = eval e X.env := by rfl) : DE X (.Attribute e n pos) (uProp C φ ua) := by
  obtain ⟨ta, pa, sa⟩ := ha.ex
  refine ⟨fun W => tPropX X.K C φ (ta W), fun W tk => ⟨fun pins s σ H Q I h => ?_⟩, fun W σ H sl ce G m Qd Ed Qv R w h k => ?_⟩
  · refine attr_of hab (thn ((pa W tk).run pins s σ H _ I h) fun u s1 ⟨x, H1, I1, rx, a, dx, fs, ex, ea, q⟩ => ?_)
    subst ex
    obtain rfl : u = Value.ref a := rx
    obtain ⟨mA, O, _, _, _, _⟩ := ins_get I1.hok ea
    obtain ⟨od, J, _⟩ := O.look
    obtain ⟨rest, hrec⟩ := hp.rec_
    have I2 := I1.tok (s1.toks + 1)
    have hc : (PySem.W.clsIn X.K C).isSome = true := by
      obtain ⟨cd, hc, _⟩ := PySem.W.any_some c.hd
      rw [hc]
      rfl
    refine PySem.W.get_bind I1.kIn J (PySem.W.plainGet_of (c.get n)).1 (PySem.W.findObj_data hc hp.at_ hp.get hp.tak) (PySem.W.plainGet_of (c.get n)).2 (wpAny_call (PySem.W.prop_get (s := { s1 with toks := s1.toks + 1 }) I1.kIn hrec ?_))
    refine codeAny_mono (F X.A.in1 X.stack { s1 with toks := s1.toks + 1 } H1 [.ref a] [.ref a] Q EF hr.in1 I2.env0.in1 (.cons rfl .nil) q) fun r s' hq => ?_
    cases r with
    | error er => exact (cx_false hq).elim
    | ok fl =>
      cases fl with
      | ret u =>
        obtain ⟨v, H', I3, rv, q3⟩ := I2.after hq
        show wpAny _ _ (handedOut u) _ _ _
        rw [PySem.W.handedOut_of (handed_of rv)]
        exact wpAny_pure ⟨v, H', I3, rv, q3⟩
      | _ => exact hq.elim
  · refine sa W σ H sl ce G m _ Ed _ R w h fun x ce1 G1 m1 v H1 R1 s1 r1 h1 => ?_
    split at h1
    · next C' fs q =>
      obtain ⟨rfl, h1⟩ := h1
      obtain ⟨a, dx, ws, rfl, e, r⟩ := insOf_ok R1.toRelS r1 q
      refine ⟨a, dx, ws, rfl, e, spD_call (ts := [x]) R1.toRelS ⟨_, _, rfl, r1, rfl⟩ h1 fun d ce' G' m' z H' R' s' r' q' => ?_⟩
      exact k d ce' G' m' z H' (R1.step s' R') (s1.trans s') r' q'
    · exact h1.elim
/-! ### o.m(e, ..) -/
def tMethX (K : PySem.W.Frag) (C : Addr) (n : Str) (φ : Phi) (W : WX) (ta : TE) (t : TA) : TE := fun σ H Q => ta σ H fun x H1 => ∃ a dx fs, x = .ref a ∧ H1 a = some (.ins C dx fs) ∧ fs.lookup n = none ∧ t σ H1 fun vs H2 => spD K φ (.ref a :: vs) H2 Q (WE W σ)
def uMeth (C : Addr) (n : Str) (φ : Phi) (ua : UE) (u : UA) : UE := fun sl ce Q E => ua sl ce (fun x ce1 => match insOf ce1 x with
  | some (C', fs) => C' = C ∧ fs.lookup n = none ∧ u sl ce1 (fun ts ce2 => φ (x :: ts) ce2 Q (fun x ce3 => E x sl ce3)) E
  | none => False) E
theorem RepTK.none {K : PySem.W.Frag} {m : List Addr} {G : Hp} : ∀ {fs : List (Str × T)} {ws : List (Str × V)} {f : Str}, RepTK K m G fs ws → fs.lookup f = .none → ws.lookup f = .none
  | [], _, f, h, _ => by cases h; rfl
  | (k, c) :: fs, _, f, ⟨v, r, e, h, hr⟩, hi => by
    subst e
    rw [List.lookup_cons] at hi ⊢
    cases q : (f == k) with
    | true => rw [q] at hi; cases hi
    | false => rw [q] at hi; exact RepTK.none hr hi
theorem semMeth {K : PySem.W.Frag} {n : Str} {ta : WX → TE} {t : WX → TA} (sa : SemE K ta ua) (st : SemA K t u) : SemE K (fun W => tMethX K C n φ W (ta W) (t W)) (uMeth C n φ ua u) := by
  intro W σ H sl ce G m Qd Ed Qv R w h k
  refine sa W σ H sl ce G m _ Ed _ R w h fun x ce1 G1 m1 v H1 R1 s1 r1 h1 => ?_
  split at h1
  · next C' fs q =>
    obtain ⟨rfl, hn, h1⟩ := h1
    obtain ⟨a, dx, ws, rfl, e, r⟩ := insOf_ok R1.toRelS r1 q
    refine ⟨a, dx, ws, rfl, e, r.none hn, ?_⟩
    refine st W σ H1 sl ce1 G1 m1 _ Ed _ R1 (w.step s1) h1 fun ts ce2 G2 m2 vs H2 R2 s2 r2 h2 => ?_
    refine ⟨ce2, G2, m2, x :: ts, Qd, _, R2.toRelS, ⟨_, _, rfl, r1.mono s2.pre s2.gg, r2⟩, h2, fun d ce' G' m' v H' R' s' r' q' => ?_, fun y ce' G' m' cls dd H' R' s' r' q' => ?_⟩
    · exact k d ce' G' m' v H' (R2.step s' R') ((s1.trans s2).trans s') r' q'
    · exact w cls dd σ H' y sl ce' G' m' (R2.step s' R') ((s1.trans s2).trans s') r' q'
  · exact h1.elim
theorem de_meth {n : Str} {pl : Sem Bool} (ho : DE X a ua) (c : Cls X.K C) (hm : Meth X.K C n f) (F : FnX X.prog X.w X.K X.mg X.base k f φ) (hr : Room k X.A) (ha : DA X (e :: es) u)
    (hst : starEach (e :: es) X.env = (false, eval e X.env) :: starEach es X.env := by rfl) (hpl : (backTo pos (starEach es X.env)).any (·.1) = false := by rfl)
    (ht : eval (.Call (.Attribute a n apos) (e :: es) [] pos) X.env = (do
      let ov ← eval a X.env
      standAt apos.atName
      let (f, first) ← holding [ov] (getMethod ov n pl)
      callWith pos f first (backTo pos (starEach (e :: es) X.env)) (backToKw pos (keywordEach [] X.env))) := by rfl) :
    DE X (.Call (.Attribute a n apos) (e :: es) [] pos) (uMeth C n φ ua u) := by
  obtain ⟨ta, pa, sa⟩ := ho.ex
  obtain ⟨t, pt, st⟩ := ha.ex
  refine ⟨fun W => tMethX X.K C n φ W (ta W) (t W), fun W tk => ⟨fun pins s σ H Q I h => ?_⟩, semMeth sa st⟩
  refine PySem.W.methodCall_KW (pl := pl) (thn ((pa W tk).run pins s σ H _ I h) fun u s1 ⟨x, H1, I1, rx, a, dx, fs, ex, ea, l, q⟩ => ?_) ht
  subst ex
  obtain rfl : u = Value.ref a := rx
  refine getmeth_ok I1 ea c hm l ?_
  refine PySem.W.callWith_K (first := [.ref a]) (h₀ := X.base) I.ok.mod.kin hm.kp (thn ((pt W tk).run pos pins s1 σ H1 _ I1 q) fun us s2 ⟨vs, H2, I2, r, q2⟩ => ⟨I2.kIn, ?_⟩) hst hpl
  exact run_X (us := .ref a :: us) (vs := .ref a :: vs) F hr I2.env0 (passAt tk σ) I2 (.cons rfl r) q2
theorem de_meth0 {n : Str} {pl : Sem Bool} (ho : DE X a ua) (c : Cls X.K C) (hm : Meth X.K C n f) (F : FnX X.prog X.w X.K X.mg X.base k f φ) (hr : Room k X.A)
    (ht : eval (.Call (.Attribute a n apos) [] [] pos) X.env = (do
      let ov ← eval a X.env
      standAt apos.atName
      let (f, first) ← holding [ov] (getMethod ov n pl)
      callWith pos f first (backTo pos (starEach [] X.env)) (backToKw pos (keywordEach [] X.env))) := by rfl) :
    DE X (.Call (.Attribute a n apos) [] [] pos) (uMeth C n φ ua uNil) := by
  obtain ⟨ta, pa, sa⟩ := ho.ex
  refine ⟨fun W => tMethX X.K C n φ W (ta W) tNil, fun W tk => ⟨fun pins s σ H Q I h => ?_⟩, semMeth sa semNil⟩
  refine PySem.W.methodCall_KW (pl := pl) (thn ((pa W tk).run pins s σ H _ I h) fun u s1 ⟨x, H1, I1, rx, a, dx, fs, ex, ea, l, q⟩ => ?_) ht
  subst ex
  obtain rfl : u = Value.ref a := rx
  refine getmeth_ok I1 ea c hm l ?_
  exact PySem.W.callWith_K0 (first := [.ref a]) I1.kIn hm.kp (run_X (us := [.ref a]) (vs := [.ref a]) F hr I1.env0 (passAt tk σ) I1 (.cons rfl .nil) q)
/-! ### len(o), e in o, o[e], o == o', o != o', by own defs -/
theorem inst_of {pins : List (Addr × Obj)} {σ : St} {H : Hp} {s : Shared} (I : Inv X pins σ H s) {a dx : Addr} {fs : List (Str × V)} (ea : H a = some (.ins C dx fs)) : ∃ ox od, PySem.W.InstAt s.heap a ox C od := by
  obtain ⟨mA, O, _, _, _, _⟩ := ins_get I.hok ea
  obtain ⟨od, J, _⟩ := O.look
  exact ⟨_, _, J⟩
def oLenO (C : Addr) (φ : Phi) : OC := fun ts ce Q => match ts with
  | [t] => match insOf ce t with
    | some (C', _) => C' = C ∧ φ [t] ce (fun v ce' => match v with
      | .d (.int n) => (0 ≤ n ∧ n < 2 ^ 63) ∧ Q (.d (.int n)) ce'
      | _ => False) (fun _ _ => False)
    | none => False
  | _ => False
theorem cd_lenO (hs : PySem.W.findIn X.K (.ref C) "__len__" = some (some (.ref f))) (hf : PySem.W.isFn X.K (.ref f) = true) (F : FnX X.prog X.w X.K X.mg X.base k f φ) (hr : Room (k + 1) X.A) : CaD X (.builtin "len") (oLenO C φ) := by
  refine ⟨fun xs H Q => ∃ a dx fs, xs = [.ref a] ∧ H a = some (.ins C dx fs) ∧ spD X.K φ [.ref a] H (fun v H' => ∃ n, v = .int n ∧ (0 ≤ n ∧ n < 2 ^ 63) ∧ Q (.int n) H') EF, fun pins s σ H xs us Q I r h => ?_, fun H ce G m Qd Qv ts vs R r h k => ?_⟩
  · obtain ⟨a, dx, fs, rfl, ea, q⟩ := h
    obtain ⟨u, rfl, ru⟩ := vals1 r
    obtain rfl : u = Value.ref a := ru
    obtain ⟨ox, od, J⟩ := inst_of I ea
    obtain ⟨m, hF⟩ := I.fr
    refine PySem.W.len_K hF I.ok.mod.kin J hs hf (wpAny_mono (run_X (A := X.A.in1) (us := [.ref a]) (vs := [.ref a]) F hr.in1 I.env0.in1 passF I (.cons rfl .nil) q) (fun w s' z => ?_) fun _ _ x => x)
    obtain ⟨v, H', I', rv, n, rfl, hn, q⟩ := z
    obtain ⟨t, rfl⟩ := rv
    exact ⟨hn, ⟨.int n, H', I'.tok _, ⟨_, rfl⟩, q⟩⟩
  · unfold oLenO at h
    split at h
    · next t =>
      split at h
      · next C' fs q =>
        obtain ⟨rfl, h⟩ := h
        obtain ⟨v, rfl, rv⟩ := RepTL.one' r
        obtain ⟨a, dx, ws, rfl, e, _⟩ := insOf_ok R rv q
        refine ⟨a, dx, ws, rfl, e, spD_call R r h fun d ce' G' m' z H' R' s' r' q' => ?_⟩
        split at q'
        · next n => exact ⟨n, r', q'.1, k (.d (.int n)) ce' G' m' _ H' R' s' rfl q'.2⟩
        · exact q'.elim
      · exact h.elim
    · exact h.elim
def oInO (C : Addr) (φ : Phi) (neg : Bool) : O2 := fun x y ce Q => match insOf ce y with
  | some (C', _) => C' = C ∧ φ [y, x] ce (fun v ce' => match v with
    | .d (.bl b) => Q (.d (.bl (neg != b))) ce'
    | _ => False) (fun _ _ => False)
  | none => False
theorem truthy_bool {M : Model} {A : Around} {E : Value → Shared → Prop} {s : Shared} {b : Bool} {Q : Bool → Shared → Prop} (h : Q b s) : wpAny M A (truthy (.bool b)) Q E s := wpAny_pure h
theorem inO_aux {hd : Bool → V} (F : FnX X.prog X.w X.K X.mg X.base k f φ) (H : Hp) (ce : Ce) (G : Hp) (m : List Addr) (Qd : T → Ce → Prop) (Qv : VK) (x y : T) (v u : V) (R : RelS X.K H ce G m) (rx : RepT X.K m G x v) (ry : RepT X.K m G y u) {neg : Bool} (h : oInO C φ neg x y ce Qd)
    (kk : ∀ d ce' G' m' z H', RelS X.K H' ce' G' m' → Stp H m G H' m' G' → RepT X.K m' G' d z → Qd d ce' → Qv z H') :
    ∃ a dx fs, u = .ref a ∧ H a = some (.ins C dx fs) ∧ spD X.K φ [.ref a, v] H (fun z H' => ∃ b, z = .bl b ∧ Qv (.bl (neg != b)) H') EF := by
  unfold oInO at h
  split at h
  · next C' fs q =>
    obtain ⟨rfl, h⟩ := h
    obtain ⟨a, dx, ws, rfl, e, _⟩ := insOf_ok R ry q
    refine ⟨a, dx, ws, rfl, e, spD_call (ts := [y, x]) R ⟨_, _, rfl, ry, _, _, rfl, rx, rfl⟩ h fun d ce' G' m' z H' R' s' r' q' => ?_⟩
    split at q'
    · next b => exact ⟨b, r', kk (.d (.bl (neg != b))) ce' G' m' _ H' R' s' rfl q'⟩
    · exact q'.elim
  · exact h.elim
theorem od_inO (hs : PySem.W.findIn X.K (.ref C) "__contains__" = some (some (.ref f))) (hf : PySem.W.isFn X.K (.ref f) = true) (F : FnX X.prog X.w X.K X.mg X.base k f φ) (hr : Room k X.A) : OpD X (compareOp .In) (oInO C φ false) := by
  refine ⟨fun x y H Q => ∃ a dx fs, y = .ref a ∧ H a = some (.ins C dx fs) ∧ spD X.K φ [.ref a, x] H (fun v H' => ∃ b, v = .bl b ∧ Q (.bl (false != b)) H') EF, fun pins s σ H x y v u Q I rx ry h => ?_, fun H ce G m Qd Qv x y v u R rx ry h kk => inO_aux (hd := .bl) F H ce G m Qd Qv x y v u R rx ry h kk⟩
  obtain ⟨a, dx, fs, rfl, ea, q⟩ := h
  obtain rfl : u = Value.ref a := ry
  obtain ⟨ox, od, J⟩ := inst_of I ea
  obtain ⟨m, hF⟩ := I.fr
  refine PySem.W.in_K hF I.ok.mod.kin J hs hf (wpAny_mono (run_X (us := [.ref a, v]) (vs := [.ref a, x]) F hr I.env0 passF I (.cons rfl (.cons rx .nil)) q) (fun w s' z => ?_) fun _ _ x => x)
  obtain ⟨z, H', I', rz, b, rfl, q⟩ := z
  obtain rfl : w = Value.bool b := rz
  exact truthy_bool ⟨.bl (false != b), H', I', by rw [dec_bxor]; rfl, q⟩
theorem od_notinO (hs : PySem.W.findIn X.K (.ref C) "__contains__" = some (some (.ref f))) (hf : PySem.W.isFn X.K (.ref f) = true) (F : FnX X.prog X.w X.K X.mg X.base k f φ) (hr : Room k X.A) : OpD X (compareOp .NotIn) (oInO C φ true) := by
  refine ⟨fun x y H Q => ∃ a dx fs, y = .ref a ∧ H a = some (.ins C dx fs) ∧ spD X.K φ [.ref a, x] H (fun v H' => ∃ b, v = .bl b ∧ Q (.bl (true != b)) H') EF, fun pins s σ H x y v u Q I rx ry h => ?_, fun H ce G m Qd Qv x y v u R rx ry h kk => inO_aux (hd := .bl) F H ce G m Qd Qv x y v u R rx ry h kk⟩
  obtain ⟨a, dx, fs, rfl, ea, q⟩ := h
  obtain rfl : u = Value.ref a := ry
  obtain ⟨ox, od, J⟩ := inst_of I ea
  obtain ⟨m, hF⟩ := I.fr
  refine PySem.W.notIn_K hF I.ok.mod.kin J hs hf (wpAny_mono (run_X (us := [.ref a, v]) (vs := [.ref a, x]) F hr I.env0 passF I (.cons rfl (.cons rx .nil)) q) (fun w s' z => ?_) fun _ _ x => x)
  obtain ⟨z, H', I', rz, b, rfl, q⟩ := z
  obtain rfl : w = Value.bool b := rz
  exact truthy_bool ⟨.bl (true != b), H', I', by rw [dec_nxor]; rfl, q⟩
def uGetO (C : Addr) (φ : Phi) (ua ub : UE) : UE := fun sl ce Q E => ua sl ce (fun x ce1 => ub sl ce1 (fun y ce2 => match insOf ce2 x with
  | some (C', _) => C' = C ∧ φ [x, y] ce2 Q (fun x ce3 => E x sl ce3)
  | none => False) E) E
theorem de_getO (hs : PySem.W.findIn X.K (.ref C) "__getitem__" = some (some (.ref f))) (hfn : PySem.W.fnIn X.K f = true) (hf : PySem.W.isFn X.K (.ref f) = true) (F : FnX X.prog X.w X.K X.mg X.base k f φ) (hr : Room (k + 1) X.A) (ha : DE X a ua) (hb : DE X b ub)
    (hsl : ∀ x i, subscripted b true (.ref x) i = runValue (.builtin "lifetime.subscript" ⟨[.ref x, i], []⟩) := by intros; with_unfolding_all rfl) : DE X (.Subscript a b pos) (uGetO C φ ua ub) := by
  obtain ⟨ta, pa, sa⟩ := ha.ex
  obtain ⟨tb, pb, sb⟩ := hb.ex
  refine ⟨fun W σ H Q => ta W σ H fun x H1 => tb W σ H1 fun y H2 => ∃ a dx fs, x = .ref a ∧ H2 a = some (.ins C dx fs) ∧ spD X.K φ [.ref a, y] H2 Q (WE W σ), fun W tk => ⟨fun pins s σ H Q I h => ?_⟩, fun W σ H sl ce G m Qd Ed Qv R w h k => ?_⟩
  · refine PyProof.Rows.Subscript_ (binT (pa W tk) (pb W tk) I h fun v u s2 x y H2 I2 rx ry q => ?_)
    obtain ⟨a, dx, fs, rfl, ea, q⟩ := q
    obtain rfl : v = Value.ref a := rx
    obtain ⟨ox, od, J⟩ := inst_of I2 ea
    obtain ⟨m, hF⟩ := I2.fr
    exact PySem.W.sub_K hF I2.ok.mod.kin J hs hfn hf (run_X (A := X.A.in1) (us := [.ref a, u]) (vs := [.ref a, y]) F hr.in1 I2.env0.in1 (passAt tk σ) I2 (.cons rfl (.cons ry .nil)) q) (hsl _ _)
  · refine sa W σ H sl ce G m _ Ed _ R w h fun x ce1 G1 m1 v H1 R1 s1 r1 h1 => ?_
    refine sb W σ H1 sl ce1 G1 m1 _ Ed _ R1 (w.step s1) h1 fun y ce2 G2 m2 u H2 R2 s2 r2 h2 => ?_
    split at h2
    · next C' fs q =>
      obtain ⟨rfl, h2⟩ := h2
      have r1' := r1.mono s2.pre s2.gg
      obtain ⟨a, dx, ws, rfl, e, _⟩ := insOf_ok R2.toRelS r1' q
      refine ⟨a, dx, ws, rfl, e, ce2, G2, m2, [x, y], Qd, _, R2.toRelS, ⟨_, _, rfl, r1', _, _, rfl, r2, rfl⟩, h2, fun d ce' G' m' v H' R' s' r' q' => ?_, fun z ce' G' m' cls dd H' R' s' r' q' => ?_⟩
      · exact k d ce' G' m' v H' (R2.step s' R') ((s1.trans s2).trans s') r' q'
      · exact w cls dd σ H' z sl ce' G' m' (R2.step s' R') ((s1.trans s2).trans s') r' q'
    · exact h2.elim
def oEqO (C : Addr) (φ : Phi) (neg : Bool) : O2 := fun x y ce Q => match insOf ce x, insOf ce y with
  | some (C', _), some (C'', _) => C' = C ∧ C'' = C ∧ φ [x, y] ce (fun v ce' => match v with
    | .d (.bl b) => Q (.d (.bl (neg != b))) ce'
    | _ => False) (fun _ _ => False)
  | _, _ => False
theorem eqO_aux (H : Hp) (ce : Ce) (G : Hp) (m : List Addr) (Qd : T → Ce → Prop) (Qv : VK) (x y : T) (v u : V) (R : RelS X.K H ce G m) (rx : RepT X.K m G x v) (ry : RepT X.K m G y u) {neg : Bool} (h : oEqO C φ neg x y ce Qd)
    (kk : ∀ d ce' G' m' z H', RelS X.K H' ce' G' m' → Stp H m G H' m' G' → RepT X.K m' G' d z → Qd d ce' → Qv z H') :
    ∃ a dx fs b dy gs, v = .ref a ∧ u = .ref b ∧ H a = some (.ins C dx fs) ∧ H b = some (.ins C dy gs) ∧ spD X.K φ [.ref a, .ref b] H (fun z H' => ∃ b, z = .bl b ∧ Qv (.bl (neg != b)) H') EF := by
  unfold oEqO at h
  split at h
  · next C' fs C'' gs q q2 =>
    obtain ⟨rfl, rfl, h⟩ := h
    obtain ⟨a, dx, ws, rfl, e, _⟩ := insOf_ok R rx q
    obtain ⟨b, dy, ws', rfl, e', _⟩ := insOf_ok R ry q2
    refine ⟨a, dx, ws, b, dy, ws', rfl, rfl, e, e', spD_call (ts := [x, y]) R ⟨_, _, rfl, rx, _, _, rfl, ry, rfl⟩ h fun d ce' G' m' z H' R' s' r' q' => ?_⟩
    split at q'
    · next b => exact ⟨b, r', kk (.d (.bl (neg != b))) ce' G' m' _ H' R' s' rfl q'⟩
    · exact q'.elim
  · exact h.elim
theorem od_eqO (hs : PySem.W.findIn X.K (.ref C) "__eq__" = some (some (.ref f))) (hf : PySem.W.isFn X.K (.ref f) = true) (F : FnX X.prog X.w X.K X.mg X.base k f φ) (hr : Room k X.A) : OpD X (compareOp .Eq) (oEqO C φ false) := by
  refine ⟨fun x y H Q => ∃ a dx fs b dy gs, x = .ref a ∧ y = .ref b ∧ H a = some (.ins C dx fs) ∧ H b = some (.ins C dy gs) ∧ spD X.K φ [.ref a, .ref b] H (fun z H' => ∃ b, z = .bl b ∧ Q (.bl (false != b)) H') EF, fun pins s σ H x y v u Q I rx ry h => ?_, fun H ce G m Qd Qv x y v u R rx ry h kk => eqO_aux H ce G m Qd Qv x y v u R rx ry h kk⟩
  obtain ⟨a, dx, fs, b, dy, gs, rfl, rfl, ea, eb, q⟩ := h
  obtain rfl : v = Value.ref a := rx
  obtain rfl : u = Value.ref b := ry
  obtain ⟨ox, od, J⟩ := inst_of I ea
  obtain ⟨oy, oe, J'⟩ := inst_of I eb
  obtain ⟨m, hF⟩ := I.fr
  show wpAny _ _ (richCompare .Eq (.ref a) (.ref b)) _ _ _
  refine PySem.W.cmp_K (op := .Eq) (tb := .ref C) hr.units0 hF I.ok.mod.kin J J'.type (by simp [PySem.W.notFirst]) hs hf (wpAny_mono (run_X (us := [.ref a, .ref b]) (vs := [.ref a, .ref b]) F hr I.env0 passF I (.cons rfl (.cons rfl .nil)) q) (fun w s' z => ?_) fun _ _ x => x)
  obtain ⟨z, H', I', rz, t, rfl, q⟩ := z
  obtain rfl : w = Value.bool t := rz
  exact ⟨.bl (false != t), H', I', by rw [dec_bxor]; rfl, q⟩
theorem od_neO (hs : PySem.W.findIn X.K (.ref C) "__eq__" = some (some (.ref f))) (hne : PySem.W.findIn X.K (.ref C) "__ne__" = some (some (.builtin "object.__ne__"))) (hob : PySem.W.mroIn X.K C (.type "object") = some true) (hf : PySem.W.isFn X.K (.ref f) = true) (F : FnX X.prog X.w X.K X.mg X.base k f φ) (hr : Room (k + 1) X.A) : OpD X (compareOp .NotEq) (oEqO C φ true) := by
  refine ⟨fun x y H Q => ∃ a dx fs b dy gs, x = .ref a ∧ y = .ref b ∧ H a = some (.ins C dx fs) ∧ H b = some (.ins C dy gs) ∧ spD X.K φ [.ref a, .ref b] H (fun z H' => ∃ b, z = .bl b ∧ Q (.bl (true != b)) H') EF, fun pins s σ H x y v u Q I rx ry h => ?_, fun H ce G m Qd Qv x y v u R rx ry h kk => eqO_aux H ce G m Qd Qv x y v u R rx ry h kk⟩
  obtain ⟨a, dx, fs, b, dy, gs, rfl, rfl, ea, eb, q⟩ := h
  obtain rfl : v = Value.ref a := rx
  obtain rfl : u = Value.ref b := ry
  obtain ⟨ox, od, J⟩ := inst_of I ea
  obtain ⟨oy, oe, J'⟩ := inst_of I eb
  show wpAny _ _ (richCompare .NotEq (.ref a) (.ref b)) _ _ _
  refine PySem.NeX.ne_own (hu_of hr) I.kIn J J' hne hs hf hob (wpAny_mono (run_X (A := X.A.in1) (us := [.ref a, .ref b]) (vs := [.ref a, .ref b]) F hr.in1 I.env0.in1 passF I (.cons rfl (.cons rfl .nil)) q) (fun w s' z => ?_) fun _ _ x => x)
  obtain ⟨z, H', I', rz, t, rfl, q⟩ := z
  obtain rfl : w = Value.bool t := rz
  exact ⟨t, rfl, ⟨.bl (true != t), H', I', by rw [dec_nxor]; rfl, q⟩⟩
end
end DL

namespace DL
open PySem L2
/-! ### statements -/
structure DEnds where
  nx : Sl → Ce → Prop
  rt : T → Ce → Prop
  ex : Ex1
  bk : Sl → Ce → Prop := fun _ _ => False
  ct : Sl → Ce → Prop := fun _ _ => False
abbrev US := DEnds → Sl → Ce → Prop
/-- D follows where N does -/
structure Cv (K : PySem.W.Frag) (H : Hp) (m : List Addr) (G : Hp) (N : DEnds) (D : Ends) : Prop where
  nx : ∀ σ' H' sl' ce' G' m', Rel K σ' H' sl' ce' G' m' → Stp H m G H' m' G' → N.nx sl' ce' → D.nx σ' H'
  rt : ∀ t v H' ce' G' m', RelS K H' ce' G' m' → Stp H m G H' m' G' → RepT K m' G' t v → N.rt t ce' → D.rt v H'
  bk : ∀ σ' H' sl' ce' G' m', Rel K σ' H' sl' ce' G' m' → Stp H m G H' m' G' → N.bk sl' ce' → D.bk σ' H'
  ct : ∀ σ' H' sl' ce' G' m', Rel K σ' H' sl' ce' G' m' → Stp H m G H' m' G' → N.ct sl' ce' → D.ct σ' H'
theorem Cv.step {K : PySem.W.Frag} {H H1 : Hp} {m m1 : List Addr} {G G1 : Hp} {N : DEnds} {D : Ends} (c : Cv K H m G N D) (s : Stp H m G H1 m1 G1) : Cv K H1 m1 G1 N D :=
  ⟨fun σ' H' sl' ce' G' m' R s' => c.nx σ' H' sl' ce' G' m' R (s.trans s'), fun t v H' ce' G' m' R s' => c.rt t v H' ce' G' m' R (s.trans s'),
   fun σ' H' sl' ce' G' m' R s' => c.bk σ' H' sl' ce' G' m' R (s.trans s'), fun σ' H' sl' ce' G' m' R s' => c.ct σ' H' sl' ce' G' m' R (s.trans s')⟩
def SemS (K : PySem.W.Frag) (tf : WX → TS) (u : US) : Prop := ∀ (W : WX) (σ : St) (H : Hp) (sl : Sl) (ce : Ce) (G : Hp) (m : List Addr) (N : DEnds) (D : Ends), Rel K σ H sl ce G m → Wish K W H m G N.ex → u N sl ce → Cv K H m G N D → tf W D σ H
structure DS (X : Cx) (st : Stmt) (u : US) : Prop where
  ex : ∃ tf : WX → TS, (∀ W, Takes X W → PS X st (tf W)) ∧ SemS X.K tf u
structure DSs (X : Cx) (st : List Stmt) (u : US) : Prop where
  ex : ∃ tf : WX → TS, (∀ W, Takes X W → PSs X st (tf W)) ∧ SemS X.K tf u
section
variable {X : Cx} {e a b c : Expr} {ua ub : UE} {ut : UT} {u : UA} {us us' : US} {st : Stmt} {rest : List Stmt} {pos : Pos}
def uNext : US := fun N sl ce => N.nx sl ce
def uSeq (u v : US) : US := fun N sl ce => u { N with nx := v N } sl ce
theorem dss_nil : DSs X [] uNext := ⟨fun _ => tNext, fun _ _ => pss_nil, fun W σ H sl ce G m N D R w h c => c.nx σ H sl ce G m R .refl h⟩
theorem dss_one (h : DS X st us) : DSs X [st] us := by
  obtain ⟨t, p, s⟩ := h.ex
  exact ⟨t, fun W tk => pss_one (p W tk), s⟩
theorem dss_cons (h : DS X st us) (h2 : DSs X rest us') : DSs X (st :: rest) (uSeq us us') := by
  obtain ⟨t, p, s⟩ := h.ex
  obtain ⟨t2, p2, s2⟩ := h2.ex
  refine ⟨fun W => tSeq (t W) (t2 W), fun W tk => pss_cons (p W tk) (p2 W tk), fun W σ H sl ce G m N D R w h c => ?_⟩
  refine s W σ H sl ce G m { N with nx := us' N } { D with nx := t2 W D } R w h ⟨fun σ' H' sl' ce' G' m' R' s' h' => ?_, c.rt, c.bk, c.ct⟩
  exact s2 W σ' H' sl' ce' G' m' N D R' (w.step s') h' (c.step s')
theorem ds_pass : DS X (.Pass pos) uNext := ⟨fun _ => tNext, fun _ _ => ps_pass, fun W σ H sl ce G m N D R w h c => c.nx σ H sl ce G m R .refl h⟩
def uBreak : US := fun N sl ce => N.bk sl ce
def uCont : US := fun N sl ce => N.ct sl ce
theorem ds_break : DS X (.Break pos) uBreak := ⟨fun _ => tBreak, fun _ _ => ps_break, fun W σ H sl ce G m N D R w h c => c.bk σ H sl ce G m R .refl h⟩
theorem ds_continue : DS X (.Continue pos) uCont := ⟨fun _ => tCont, fun _ _ => ps_continue, fun W σ H sl ce G m N D R w h c => c.ct σ H sl ce G m R .refl h⟩
def uDrop (ua : UE) : US := fun N sl ce => ua sl ce (fun _ ce1 => N.nx sl ce1) N.ex
theorem ds_expr (ha : DE X e ua) (hs : swapsWith e none pos.line X.env = pure false := by rfl) : DS X (.Expr e pos) (uDrop ua) := by
  obtain ⟨t, p, s⟩ := ha.ex
  refine ⟨_, fun W tk => ps_expr (p W tk) hs, fun W σ H sl ce G m N D R w h c => ?_⟩
  exact s W σ H sl ce G m _ N.ex _ R w h fun d ce' G' m' v H' R' s' r' h' => c.nx σ H' sl ce' G' m' R' s' h'
def uRet (ua : UE) : US := fun N sl ce => ua sl ce (fun t ce1 => N.rt t ce1) N.ex
theorem ds_ret (ha : DE X e ua) : DS X (.Return (some e) pos) (uRet ua) := by
  obtain ⟨t, p, s⟩ := ha.ex
  refine ⟨_, fun W tk => ps_ret (p W tk), fun W σ H sl ce G m N D R w h c => ?_⟩
  exact s W σ H sl ce G m _ N.ex _ R w h fun d ce' G' m' v H' R' s' r' h' => c.rt d v H' ce' G' m' R'.toRelS s' r' h'
def uIf (ut : UT) (u v : US) : US := fun N sl ce => ut sl ce (fun b ce1 => match b with
  | true => u N sl ce1
  | false => v N sl ce1) N.ex
theorem ds_if {bs cs : List Stmt} (hc : DT X c ut) (ha : DSs X bs us) (hb : DSs X cs us') : DS X (.If c bs cs pos) (uIf ut us us') := by
  obtain ⟨t, p, s⟩ := hc.ex
  obtain ⟨t1, p1, s1⟩ := ha.ex
  obtain ⟨t2, p2, s2⟩ := hb.ex
  refine ⟨_, fun W tk => ps_if (p W tk) (p1 W tk) (p2 W tk), fun W σ H sl ce G m N D R w h c => ?_⟩
  refine s W σ H sl ce G m _ N.ex _ R w h fun b ce' G' m' H' R' s' h' => ?_
  cases b with
  | true => exact iteT (s1 W σ H' sl ce' G' m' N D R' (w.step s') h' (c.step s'))
  | false => exact iteF (s2 W σ H' sl ce' G' m' N D R' (w.step s') h' (c.step s'))
/-! ### targets -/
abbrev UG := T → Sl → Ce → (Sl → Ce → Prop) → Prop
def SemG (K : PySem.W.Frag) (js : List Nat) (g : TG) (u : UG) : Prop := ∀ (σ : St) (H : Hp) (sl : Sl) (ce : Ce) (G : Hp) (m : List Addr) (Qd : Sl → Ce → Prop) (Qs : St → Hp → Prop) (t : T) (v : V), Rel K σ H sl ce G m → RepT K m G t v → u t sl ce Qd →
  (∀ σ' sl' ce', Rel K σ' H sl' ce' G m → (∀ vs : List Nat, (∀ j ∈ js, j ∈ vs) → wipe σ' vs = wipe σ vs) → Qd sl' ce' → Qs σ' H) → g v σ H Qs
structure DG (X : Cx) (tg : Expr) (js : List Nat) (u : UG) : Prop where
  ex : ∃ g : TG, PG X tg g ∧ SemG X.K js g u
abbrev UGs := List T → Sl → Ce → (Sl → Ce → Prop) → Prop
def SemGs (K : PySem.W.Frag) (js : List Nat) (g : TGs) (u : UGs) : Prop := ∀ (σ : St) (H : Hp) (sl : Sl) (ce : Ce) (G : Hp) (m : List Addr) (Qd : Sl → Ce → Prop) (Qs : St → Hp → Prop) (ts : List T) (vs : List V), Rel K σ H sl ce G m → RepTL K m G ts vs → u ts sl ce Qd →
  (∀ σ' sl' ce', Rel K σ' H sl' ce' G m → (∀ vs : List Nat, (∀ j ∈ js, j ∈ vs) → wipe σ' vs = wipe σ vs) → Qd sl' ce' → Qs σ' H) → g vs σ H Qs
structure DGs (X : Cx) (es : List Expr) (js : List Nat) (u : UGs) : Prop where
  ex : ∃ g : TGs, PGs X es g ∧ SemGs X.K js g u
def ugName (i : Nat) : UG := fun t sl ce Q => Q (sl.set i (some t)) ce
theorem Rel.set {K : PySem.W.Frag} {σ : St} {H : Hp} {sl : Sl} {ce : Ce} {G : Hp} {m : List Addr} (R : Rel K σ H sl ce G m) (i : Nat) {t : T} {v : V} (r : RepT K m G t v) : Rel K (σ.set i (some v)) H (sl.set i (some t)) ce G m :=
  { R.toRelS with
    sln := by simp [R.sln]
    sls := fun j d h => by
      by_cases e : i = j
      · subst e
        have hj : i < sl.length := by
          by_cases q : i < sl.length
          · exact q
          · rw [List.getElem?_eq_none (by simp; omega)] at h; cases h
        rw [List.getElem?_set_self hj] at h
        cases h
        exact ⟨v, by rw [List.getElem?_set_self (by rw [R.sln]; exact hj)], r⟩
      · rw [List.getElem?_set_ne e] at h
        rw [List.getElem?_set_ne e]
        exact R.sls j d h }
theorem wipe_set {σ : St} {i : Nat} {x : Option V} : ∀ {vs : List Nat}, i ∈ vs → wipe (σ.set i x) vs = wipe σ vs := by
  intro vs hi
  apply List.ext_getElem?
  intro j
  by_cases hj : j ∈ vs
  · have : ∀ (τ : St) (ws : List Nat), j ∈ ws → (wipe τ ws)[j]? = if j < τ.length then some none else none := by
      intro τ ws
      induction ws with
      | nil => intro h; cases h
      | cons w ws ih =>
        intro h
        show ((wipe τ ws).set w none)[j]? = _
        by_cases e : w = j
        · subst e
          by_cases q : w < τ.length
          · rw [List.getElem?_set_self (by rw [wipe_length]; exact q), if_pos q]
          · rw [List.getElem?_eq_none (by simp [wipe_length]; omega), if_neg q]
        · rw [List.getElem?_set_ne e]
          exact ih ((List.mem_cons.mp h).resolve_left (Ne.symm e))
    rw [this _ _ hj, this _ _ hj]; simp
  · rw [wipe_out hj, wipe_out hj, List.getElem?_set_ne (show i ≠ j from fun e => hj (e ▸ hi))]
theorem dg_name (i : Nat) {x : Str} (hN : X.N.Nodup) (hi : X.N[i]? = some x := by rfl) (hx : Loc X.env.scope x := by first | exact Or.inl rfl | exact Or.inr rfl) (hf : X.fn x = true ∨ X.env.scope.names.lookup x = some .local := by first | exact .inl rfl | exact .inr rfl | assumption) : DG X (.Name x pos) [i] (ugName i) :=
  ⟨_, pg_name hN hi hx hf, fun σ H sl ce G m Qd Qs t v R r h k => k _ _ ce (R.set i r) (fun vs hv => wipe_set (hv i (by simp))) h⟩
def ugNil : UGs := fun ts sl ce Q => match ts with
  | [] => Q sl ce
  | _ => False
def ugCons (g : UG) (gs : UGs) : UGs := fun ts sl ce Q => match ts with
  | t :: r => g t sl ce fun sl1 ce1 => gs r sl1 ce1 Q
  | [] => False
theorem dgs_nil : DGs X [] [] ugNil := by
  refine ⟨_, pgs_nil, fun σ H sl ce G m Qd Qs ts vs R r h k => ?_⟩
  unfold ugNil at h
  split at h
  · cases r; exact ⟨rfl, k σ sl ce R (fun _ _ => rfl) h⟩
  · exact h.elim
theorem dgs_cons {es : List Expr} {js js' : List Nat} {g : UG} {gs : UGs} (h1 : DG X e js g) (h2 : DGs X es js' gs) (hs : (assignEach (e :: es) X.env).map (·.2) = assign e X.env :: (assignEach es X.env).map (·.2) := by rfl) : DGs X (e :: es) (js ++ js') (ugCons g gs) := by
  obtain ⟨t1, p1, s1⟩ := h1.ex
  obtain ⟨t2, p2, s2⟩ := h2.ex
  refine ⟨_, pgs_cons p1 p2 hs, fun σ H sl ce G m Qd Qs ts vs R r h k => ?_⟩
  unfold ugCons at h
  split at h
  · next t ts' =>
    obtain ⟨v, vs', rfl, rv, rs⟩ := r
    refine ⟨v, vs', rfl, s1 σ H sl ce G m _ _ t v R rv h fun σ' sl' ce' R' w' h' => ?_⟩
    refine s2 σ' H sl' ce' G m _ _ ts' vs' R' rs h' fun σ2 sl2 ce2 R2 w2 h2 => ?_
    exact k σ2 sl2 ce2 R2 (fun vs hv => (w2 vs fun j hj => hv j (List.mem_append_right _ hj)).trans (w' vs fun j hj => hv j (List.mem_append_left _ hj))) h2
  · exact h.elim
def ugTup (n : Nat) (gs : UGs) : UG := fun t sl ce Q => match t with
  | .d (.tup ds) => ds.length = n ∧ gs (ds.map T.d) sl ce Q
  | _ => False
theorem dg_tup {es : List Expr} {k n : Nat} {js : List Nat} {gs : UGs} (h : DGs X es js gs) (hc : X.calm = true := by rfl) (hn : (assignEach es X.env).length = n := by rfl) (hst : (assignEach es X.env).findIdx? (·.1) = none := by rfl) : DG X (.Tuple es k pos) js (ugTup n gs) := by
  obtain ⟨t, p, s⟩ := h.ex
  refine ⟨_, pg_tup hc p hn hst, fun σ H sl ce G m Qd Qs t v R r h k => ?_⟩
  unfold ugTup at h
  split at h
  · next ds =>
    obtain ⟨a, vs, rfl, hs, rs⟩ := r
    exact ⟨a, vs, rfl, R.gh.rdT hs, by rw [rs.length]; exact h.1, s σ H sl ce G m Qd Qs _ vs R (toT rs) h.2 k⟩
  · exact h.elim
def uAsg (ua : UE) (ug : UG) : US := fun N sl ce => ua sl ce (fun t ce1 => ug t sl ce1 N.nx) N.ex
theorem ds_asg {tg : Expr} {js : List Nat} {ug : UG} (he : DE X e ua) (hg : DG X tg js ug) (hs : swapsWithSole [tg] e pos.line X.env = pure false := by rfl) (hw : swappedStores [tg] e X.env = pure none := by rfl)
    (h1 : (assignEach [tg] X.env).map (·.2) = [assign tg X.env] := by rfl) : DS X (.Assign [tg] e pos) (uAsg ua ug) := by
  obtain ⟨t, p, s⟩ := he.ex
  obtain ⟨t2, p2, s2⟩ := hg.ex
  refine ⟨_, fun W tk => ps_asg (p W tk) p2 hs hw h1, fun W σ H sl ce G m N D R w h c => ?_⟩
  refine s W σ H sl ce G m _ N.ex _ R w h fun d ce' G' m' v H' R' s' r' h' => ?_
  exact s2 σ H' sl ce' G' m' _ _ d v R' r' h' fun σ' sl' ce2 R2 _ h2 => c.nx σ' H' sl' ce2 G' m' R2 s' h2
theorem ds_set (i : Nat) {x : Str} {pos' : Pos} (hN : X.N.Nodup) (he : DE X e ua) (hi : X.N[i]? = some x := by rfl) (hx : Loc X.env.scope x := by first | exact Or.inl rfl | exact Or.inr rfl) (hs : swapsWith e (some (.Name x pos')) pos.line X.env = pure false := by rfl) (hf : X.fn x = true ∨ X.env.scope.names.lookup x = some .local := by first | exact .inl rfl | exact .inr rfl | assumption) :
    DS X (.Assign [.Name x pos'] e pos) (uAsg ua (ugName i)) := by
  obtain ⟨t, p, s⟩ := he.ex
  refine ⟨_, fun W tk => ps_set (i := i) hN hi hx (p W tk) hs hf, fun W σ H sl ce G m N D R w h c => ?_⟩
  exact s W σ H sl ce G m _ N.ex _ R w h fun d ce' G' m' v H' R' s' r' h' => c.nx _ H' _ ce' G' m' (R'.set i r') s' h'
/-- a, b = e1, e2 -/
def uPar (i j : Nat) (u : UA) : US := fun N sl ce => u sl ce (fun ts ce1 => match ts with
  | [t, t'] => N.nx ((sl.set i (some t)).set j (some t')) ce1
  | _ => False) N.ex
theorem ds_par (i j : Nat) {x y : Str} {px py pt : Pos} {kt k2 pt2} (hN : X.N.Nodup) (ha : DA X [a, b] u) (hc : X.calm = true := by rfl) (hi : X.N[i]? = some x := by rfl) (hj : X.N[j]? = some y := by rfl) (hij : i ≠ j := by decide)
    (hx : X.env.scope.names.lookup x = some .local := by rfl) (hy : X.env.scope.names.lookup y = some .local := by rfl)
    (hw : swappedStores [.Tuple [.Name x px, .Name y py] kt pt] (.Tuple [a, b] k2 pt2) X.env = pure (some [x, y]) := by rfl)
    (hs : swapsWithSole [.Tuple [.Name x px, .Name y py] kt pt] (.Tuple [a, b] k2 pt2) pos.line X.env = pure false := by rfl) : DS X (.Assign [.Tuple [.Name x px, .Name y py] kt pt] (.Tuple [a, b] k2 pt2) pos) (uPar i j u) := by
  obtain ⟨t, p, s⟩ := ha.ex
  refine ⟨_, fun W tk => ps_par hc hN hi hj hij hx hy (p W tk) hw hs, fun W σ H sl ce G m N D R w h c => ?_⟩
  refine s W σ H sl ce G m _ N.ex _ R w h fun ts ce' G' m' vs H' R' s' r' h' => ?_
  split at h'
  · next t t' =>
    obtain ⟨v, v', rfl, rv, rv'⟩ := RepTL.two' r'
    exact ⟨v, v', rfl, c.nx _ H' _ ce' G' m' ((R'.set i rv).set j rv') s' h'⟩
  · exact h'.elim
/-! ### self.f = e, self a cell -/
def uStF (C : Addr) (f : Str) (uo ua : UE) : US := fun N sl ce => ua sl ce (fun t ce1 => uo sl ce1 (fun o ce2 => match o with
  | .cel k => match ce2[k]? with
    | some (.ins C' fs) => C' = C ∧ fs.length < 1000 ∧ N.nx sl (ce2.set k (.ins C (putD f t fs)))
    | _ => False
  | _ => False) N.ex) N.ex
theorem ds_fld {C : Addr} {f : Str} {uo : UE} {pos' : Pos} (c : Cls X.K C) (n : NoAttr X.K C f) (ho : DE X a uo) (he : DE X e ua) (hs : swapsWith e (some (.Attribute a f pos')) pos.line X.env = pure false := by rfl) : DS X (.Assign [.Attribute a f pos'] e pos) (uStF C f uo ua) := by
  obtain ⟨t1, p1, s1⟩ := ho.ex
  obtain ⟨t, p, s⟩ := he.ex
  refine ⟨_, fun W tk => ps_fld (p1 W tk) (p W tk) hs, fun W σ H sl ce G m N D R w h cv => ?_⟩
  refine s W σ H sl ce G m _ N.ex _ R w h fun t ce1 G1 m1 v H1 R1 sp r1 h1 => ?_
  refine s1 W σ H1 sl ce1 G1 m1 _ N.ex _ R1 (w.step sp) h1 fun o ce2 G2 m2 ov H2 R2 sp2 r2 h2 => ?_
  split at h2
  · next k =>
    split at h2
    · next C' fs q =>
      obtain ⟨rfl, hl, h2⟩ := h2
      obtain ⟨ad, hm, rfl⟩ := r2
      obtain ⟨dx, ws, hH, rf⟩ := R2.cel k ad _ hm q
      refine ⟨ad, C', dx, ws, rfl, hH, c, n, by rw [rf.length]; exact hl, ?_⟩
      have rt := r1.mono sp2.pre sp2.gg
      obtain ⟨R3, s3⟩ := R2.toRelS.write (o := .ins C' dx (putF f v ws)) (c := .ins C' (putD f t fs)) hm ⟨dx, _, upd_same, rf.put rt⟩
      exact cv.nx σ _ sl _ G2 m2 (R2.step s3 R3) ((sp.trans sp2).trans s3) h2
    · exact h2.elim
  · exact h2.elim
/-! ### xs[i] = e, xs a cell -/
def uStI (uo ui ua : UE) : US := fun N sl ce => ua sl ce (fun t ce1 => uo sl ce1 (fun o ce2 => ui sl ce2 (fun i ce3 => match o, i with
  | .cel k, .d (.int n) => match ce3[k]? with
    | some (.lst xs) => match ixN xs.length n with
      | some j => N.nx sl (ce3.set k (.lst (xs.set j t)))
      | none => False
    | _ => False
  | _, _ => False) N.ex) N.ex) N.ex
theorem ds_setI {uo ui : UE} {pos' : Pos} (ho : DE X a uo) (hi : DE X b ui) (he : DE X e ua) (hs : swapsWithSole [.Subscript a b pos'] e pos.line X.env = pure false := by rfl) (hw : swappedStores [.Subscript a b pos'] e X.env = pure none := by rfl)
    (h1 : (assignEach [.Subscript a b pos'] X.env).map (·.2) = [assign (.Subscript a b pos') X.env] := by rfl)
    (ha : ∀ v, assign (.Subscript a b pos') X.env v = (do
      let ov ← holding [v] (eval a X.env)
      let iv ← holding [v, ov] (eval b X.env)
      standAt pos'
      holding [v, ov, iv] (setItem ov iv v)
      release [v, ov, iv] []) := by intro _; rfl) : DS X (.Assign [.Subscript a b pos'] e pos) (uStI uo ui ua) := by
  obtain ⟨t1, p1, s1⟩ := ho.ex
  obtain ⟨t2, p2, s2⟩ := hi.ex
  obtain ⟨t, p, s⟩ := he.ex
  refine ⟨_, fun W tk => ps_asg (p W tk) (pg_sub (p1 W tk) (p2 W tk) set_list ha) hs hw h1, fun W σ H sl ce G m N D R w h cv => ?_⟩
  refine s W σ H sl ce G m _ N.ex _ R w h fun t ce1 G1 m1 v H1 R1 sp r1 h1 => ?_
  refine s1 W σ H1 sl ce1 G1 m1 _ N.ex _ R1 (w.step sp) h1 fun o ce2 G2 m2 ov H2 R2 sp2 r2 h2 => ?_
  refine s2 W σ H2 sl ce2 G2 m2 _ N.ex _ R2 (w.step (sp.trans sp2)) h2 fun i ce3 G3 m3 iv H3 R3 sp3 r3 h3 => ?_
  split at h3
  · next k n =>
    split at h3
    · next xs q =>
      split at h3
      · next j q2 =>
        obtain ⟨ad, hm, rfl⟩ := r2.mono sp3.pre sp3.gg
        cases r3
        obtain ⟨vs, hH, rv⟩ := R3.cel k ad _ hm q
        refine ⟨ad, vs, n, j, rfl, rfl, hH, by rw [rv.length]; exact q2, ?_⟩
        have rt := r1.mono (sp2.trans sp3).pre (sp2.trans sp3).gg
        obtain ⟨R4, s4⟩ := R3.toRelS.write (o := .lst (vs.set j v)) (c := .lst (xs.set j t)) hm ⟨_, upd_same, rv.set j rt⟩
        exact cv.nx σ _ sl _ G3 m3 (R3.step s4 R4) (((sp.trans sp2).trans sp3).trans s4) h3
      · exact h3.elim
    · exact h3.elim
  · exact h3.elim
/-! ### xs.append(e), xs.pop(i), xs a cell -/
def uBM (ua : UE) (u : UA) (o : Nat → List T → List T → Ce → (T → Ce → Prop) → Prop) : UE := fun sl ce Q E => ua sl ce (fun x ce1 => match x with
  | .cel k => match ce1[k]? with
    | some (.lst _) => u sl ce1 (fun ts ce2 => match ce2[k]? with
      | some (.lst xs) => o k xs ts ce2 Q
      | _ => False) E
    | _ => False
  | _ => False) E
def oApp : Nat → List T → List T → Ce → (T → Ce → Prop) → Prop := fun k xs ts ce Q => match ts with
  | [t] => xs.length < sizeLine ∧ Q (.d .non) (ce.set k (.lst (xs ++ [t])))
  | _ => False
theorem de_append {e0 : Expr} {apos cpos : Pos} (ho : DE X a ua) (ha : DA X [e0] u) (hpe : ∀ {to : TE} {t : TA}, PE X a to → PA X [e0] t → PE X (.Call (.Attribute a "append" apos) [e0] [] cpos) (tBM X.K "list" rAppend to t) := by exact fun h1 h2 => pe_bm PySem.F.plainAttrs_list PySem.F.slot_list_append PySem.F.type_list_append mt_append h1 h2) :
    DE X (.Call (.Attribute a "append" apos) [e0] [] cpos) (uBM ua u oApp) := by
  obtain ⟨t1, p1, s1⟩ := ho.ex
  obtain ⟨t2, p2, s2⟩ := ha.ex
  refine ⟨_, fun W tk => hpe (p1 W tk) (p2 W tk), fun W σ H sl ce G m Qd Ed Qv R w h k => ?_⟩
  refine s1 W σ H sl ce G m _ Ed _ R w h fun x ce1 G1 m1 v H1 R1 sp1 r1 h1 => ?_
  split at h1
  · next kk =>
    split at h1
    · next xs0 q0 =>
      obtain ⟨ad, hmk, rfl⟩ := r1
      obtain ⟨ys0, hH0, _⟩ := R1.cel kk ad _ hmk q0
      refine ⟨.inl ⟨rfl, ys0, SqL.of hH0⟩, ?_⟩
      refine s2 W σ H1 sl ce1 G1 m1 _ Ed _ R1 (w.step sp1) h1 fun ts ce2 G2 m2 vs H2 R2 sp2 r2 h2 => ?_
      split at h2
      · next xs q =>
        have hm2 := pre_get sp2.pre hmk
        obtain ⟨ys, hH, ry⟩ := R2.cel kk ad _ hm2 q
        unfold oApp at h2
        split at h2
        · next t =>
          obtain ⟨v, rfl, rv⟩ := RepTL.one' r2
          refine ⟨ad, ys, v, rfl, rfl, hH, by rw [ry.length]; exact h2.1, ?_⟩
          obtain ⟨R3, s3⟩ := R2.toRelS.write (o := .lst (ys ++ [v])) (c := .lst (xs ++ [t])) hm2 ⟨_, upd_same, ry.append (RepTL.one rv)⟩
          exact k (.d .non) _ G2 m2 _ _ (R2.step s3 R3) ((sp1.trans sp2).trans s3) rfl h2.2
        · exact h2.elim
      · exact h2.elim
    · exact h1.elim
  · exact h1.elim
def oPopAt : Nat → List T → List T → Ce → (T → Ce → Prop) → Prop := fun k xs ts ce Q => match ts with
  | [.d (.int i)] => match ixN xs.length i with
    | some j => match xs[j]? with
      | some t => (-(2 ^ 63) ≤ i ∧ i < 2 ^ 63) ∧ Q t (ce.set k (.lst (xs.eraseIdx j)))
      | none => False
    | none => False
  | _ => False
theorem de_popAt {e0 : Expr} {apos cpos : Pos} (ho : DE X a ua) (ha : DA X [e0] u) (hpe : ∀ {to : TE} {t : TA}, PE X a to → PA X [e0] t → PE X (.Call (.Attribute a "pop" apos) [e0] [] cpos) (tBM X.K "list" rPopAt to t) := by exact fun h1 h2 => pe_bm PySem.F.plainAttrs_list PySem.F.slot_list_pop PySem.F.type_list_pop mt_popAt h1 h2) :
    DE X (.Call (.Attribute a "pop" apos) [e0] [] cpos) (uBM ua u oPopAt) := by
  obtain ⟨t1, p1, s1⟩ := ho.ex
  obtain ⟨t2, p2, s2⟩ := ha.ex
  refine ⟨_, fun W tk => hpe (p1 W tk) (p2 W tk), fun W σ H sl ce G m Qd Ed Qv R w h k => ?_⟩
  refine s1 W σ H sl ce G m _ Ed _ R w h fun x ce1 G1 m1 v H1 R1 sp1 r1 h1 => ?_
  split at h1
  · next kk =>
    split at h1
    · next xs0 q0 =>
      obtain ⟨ad, hmk, rfl⟩ := r1
      obtain ⟨ys0, hH0, _⟩ := R1.cel kk ad _ hmk q0
      refine ⟨.inl ⟨rfl, ys0, SqL.of hH0⟩, ?_⟩
      refine s2 W σ H1 sl ce1 G1 m1 _ Ed _ R1 (w.step sp1) h1 fun ts ce2 G2 m2 vs H2 R2 sp2 r2 h2 => ?_
      split at h2
      · next xs q =>
        have hm2 := pre_get sp2.pre hmk
        obtain ⟨ys, hH, ry⟩ := R2.cel kk ad _ hm2 q
        unfold oPopAt at h2
        split at h2
        · next i =>
          split at h2
          · next j qj =>
            split at h2
            · next t qt =>
              obtain ⟨v, rfl, rv⟩ := RepTL.one' r2
              cases rv
              obtain ⟨y, hy, ryt⟩ := ry.get qt
              obtain ⟨hsq, hj, hlo, hhi⟩ := ixN_seq qj
              refine ⟨ad, ys, i, j, y, rfl, rfl, hH, h2.1.1, h2.1.2, by rw [ry.length]; exact hsq, hy, ?_⟩
              · obtain ⟨R3, s3⟩ := R2.toRelS.write (o := .lst (ys.eraseIdx j)) (c := .lst (xs.eraseIdx j)) hm2 ⟨_, upd_same, ry.erase j⟩
                exact k t _ G2 m2 _ _ (R2.step s3 R3) ((sp1.trans sp2).trans s3) ryt h2.2
            · exact h2.elim
          · exact h2.elim
        · exact h2.elim
      · exact h2.elim
    · exact h1.elim
  · exact h1.elim
end
end DL

namespace DL
open PySem L2
/-! ### what is walked -/
abbrev UI := Sl → Ce → (List T → Ce → Prop) → Ex1 → Prop
/-- J gives the items, while the state goes on from (G, m) -/
def ItOk (K : PySem.W.Frag) (J : It) (items : List T) (G : Hp) (m : List Addr) : Prop := ∃ (Gd : Hp → Prop) (Y : Nat → Hp → V → Hp → Prop), Walk J items.length Gd Y ∧
  (∀ H' ce' G' m', RelS K H' ce' G' m' → Gg G G' → m <+: m' → Gd H') ∧
  (∀ i x H1 H2 ce1 G1 m1, RelS K H1 ce1 G1 m1 → Gg G G1 → m <+: m1 → i < items.length → Y i H1 x H2 → ∃ G2 t, RelS K H2 ce1 G2 m1 ∧ Stp H1 m1 G1 H2 m1 G2 ∧ items[i]? = some t ∧ RepT K m1 G2 t x)
structure DI (X : Cx) (tg iter : Expr) (u : UI) : Prop where
  ex : ∃ wf : WX → TI, (∀ W, Takes X W → PI X tg iter (wf W)) ∧ ∀ (W : WX) (σ : St) (H : Hp) (sl : Sl) (ce : Ce) (G : Hp) (m : List Addr) (Ri : List T → Ce → Prop) (Ed : Ex1) (R : It → Hp → Prop), Rel X.K σ H sl ce G m → Wish X.K W H m G Ed → u sl ce Ri Ed →
    (∀ J items ce' G' m' H', Rel X.K σ H' sl ce' G' m' → Stp H m G H' m' G' → ItOk X.K J items G' m' → Ri items ce' → R J H') → wf W σ H R
def loopD (ug : UG) (ub : US) (N : DEnds) : List T → Sl → Ce → Prop
  | [], sl, ce => N.nx sl ce
  | t :: r, sl, ce => ug t sl ce fun sl1 ce1 => ub { N with nx := loopD ug ub N r, ct := loopD ug ub N r, bk := N.nx } sl1 ce1
def uFor (ui : UI) (ug : UG) (ub : US) : US := fun N sl ce => ui sl ce (fun items ce1 => loopD ug ub N items sl ce1) N.ex
section
variable {X : Cx} {e a b c tg iter : Expr} {ua ub : UE} {ut : UT} {u : UA} {us us' : US} {ui : UI} {ug : UG} {js : List Nat} {pos p : Pos}
theorem drop_at {α : Type} {l : List α} {i : Nat} {t : α} (h : l[i]? = some t) : l.drop i = t :: l.drop (i + 1) := by
  obtain ⟨hi, e⟩ := List.getElem?_eq_some_iff.mp h
  rw [List.drop_eq_getElem_cons hi, e]
theorem ds_for {body : List Stmt} (hp : PassesOwn (model X.prog X.w) X.A X.env X.xe) (hi : DI X tg iter ui) (hg : DG X tg js ug) (hb : DSs X body us) (hc : X.calm = true := by rfl) (hs : ∀ x, foldedSetIterable iter X.env x = pure x := by intro _; rfl) : DS X (.For tg iter body [] pos) (uFor ui ug us) := by
  obtain ⟨wf, pi, si⟩ := hi.ex
  obtain ⟨g, pg, sg⟩ := hg.ex
  obtain ⟨t, pb, sb⟩ := hb.ex
  refine ⟨fun W => tFor (wf W) g (t W), fun W tk => ps_for hp hc (pi W tk) pg (pb W tk) hs, fun W σ H sl ce G m N D R w h cv => ?_⟩
  refine si W σ H sl ce G m _ N.ex _ R w h fun J items ce1 G1 m1 H1 R1 s1 io h1 => ?_
  obtain ⟨Gd, Y, wk, hG, hY⟩ := io
  refine for_it (D := D) wk (fun i σ' H' => ∃ sl' ce' G' m', Rel X.K σ' H' sl' ce' G' m' ∧ Stp H1 m1 G1 H' m' G' ∧ loopD ug us N (items.drop i) sl' ce') ⟨sl, ce1, G1, m1, R1, .refl, h1⟩ (fun i σ' H' _ ⟨sl', ce', G', m', R', s', _⟩ => hG H' ce' G' m' R'.toRelS s'.gg s'.pre) ?_ ?_
  · rintro i x σ' H' H2 hi ⟨sl', ce', G', m', R', s', h'⟩ y
    obtain ⟨G2, tt, R2, s2, et, rt⟩ := hY i x H' H2 ce' G' m' R'.toRelS s'.gg s'.pre hi y
    rw [drop_at et] at h'
    refine sg σ' H2 sl' ce' G2 m' _ _ tt x (R'.step s2 R2) rt h' fun σ3 sl3 ce3 R3 _ h3 => ?_
    have st3 := (s1.trans s').trans s2
    refine sb W σ3 H2 sl3 ce3 G2 m' { N with nx := loopD ug us N (items.drop (i + 1)), ct := loopD ug us N (items.drop (i + 1)), bk := N.nx } _ R3 (w.step st3) h3 ⟨?_, ?_, ?_, ?_⟩
    · exact fun σ4 H4 sl4 ce4 G4 m4 R4 s4 h4 => ⟨sl4, ce4, G4, m4, R4, (s'.trans s2).trans s4, h4⟩
    · exact fun t v H4 ce4 G4 m4 R4 s4 r4 h4 => cv.rt t v H4 ce4 G4 m4 R4 (st3.trans s4) r4 h4
    · exact fun σ4 H4 sl4 ce4 G4 m4 R4 s4 h4 => cv.nx σ4 H4 sl4 ce4 G4 m4 R4 (st3.trans s4) h4
    · exact fun σ4 H4 sl4 ce4 G4 m4 R4 s4 h4 => ⟨sl4, ce4, G4, m4, R4, (s'.trans s2).trans s4, h4⟩
  · rintro σ' H' ⟨sl', ce', G', m', R', s', h'⟩
    rw [List.drop_length] at h'
    exact cv.nx σ' H' sl' ce' G' m' R' (s1.trans s') h'
/-! ### while -/
def uWhile (ut : UT) (ub : US) : US := fun N sl ce => ∃ V : Nat → Sl → Ce → Prop, (∃ n, V n sl ce) ∧ ∀ n sl ce, V n sl ce → ut sl ce (fun b ce1 => match b with
  | true => ub { N with nx := fun sl' ce' => ∃ n', n' < n ∧ V n' sl' ce', ct := fun sl' ce' => ∃ n', n' < n ∧ V n' sl' ce', bk := N.nx } sl ce1
  | false => N.nx sl ce1) N.ex
theorem ds_while {body : List Stmt} (hp : PassesOwn (model X.prog X.w) X.A X.env X.xe) (hc : DT X c ut) (hb : DSs X body us) : DS X (.While c body [] pos) (uWhile ut us) := by
  obtain ⟨tc, pc, sc⟩ := hc.ex
  obtain ⟨t, pb, sb⟩ := hb.ex
  refine ⟨fun W => tWhile (tc W) (t W), fun W tk => ps_while hp (pc W tk) (pb W tk), fun W σ H sl ce G m N D R w h cv => ?_⟩
  obtain ⟨V, ⟨n0, h0⟩, hs⟩ := h
  refine ⟨fun n σ' H' => ∃ sl' ce' G' m', Rel X.K σ' H' sl' ce' G' m' ∧ Stp H m G H' m' G' ∧ V n sl' ce', ⟨n0, sl, ce, G, m, R, .refl, h0⟩, ?_⟩
  rintro n σ' H' ⟨sl', ce', G', m', R', s', hv⟩
  refine sc W σ' H' sl' ce' G' m' _ N.ex _ R' (w.step s') (hs n sl' ce' hv) fun b ce2 G2 m2 H2 R2 s2 h2 => ?_
  have st := s'.trans s2
  cases b with
  | true =>
    refine iteT ⟨fun σ3 H3 => ∃ n', n' < n ∧ ∃ sl' ce' G' m', Rel X.K σ3 H3 sl' ce' G' m' ∧ Stp H m G H3 m' G' ∧ V n' sl' ce', fun σ3 H3 z => z, ?_⟩
    refine sb W σ' H2 sl' ce2 G2 m2 { N with nx := fun sl' ce' => ∃ n', n' < n ∧ V n' sl' ce', ct := fun sl' ce' => ∃ n', n' < n ∧ V n' sl' ce', bk := N.nx } _ R2 (w.step st) h2 ⟨?_, ?_, ?_, ?_⟩
    · exact fun σ4 H4 sl4 ce4 G4 m4 R4 s4 ⟨n', hn, h4⟩ => ⟨n', hn, sl4, ce4, G4, m4, R4, st.trans s4, h4⟩
    · exact fun t v H4 ce4 G4 m4 R4 s4 r4 h4 => cv.rt t v H4 ce4 G4 m4 R4 (st.trans s4) r4 h4
    · exact fun σ4 H4 sl4 ce4 G4 m4 R4 s4 h4 => cv.nx σ4 H4 sl4 ce4 G4 m4 R4 (st.trans s4) h4
    · exact fun σ4 H4 sl4 ce4 G4 m4 R4 s4 ⟨n', hn, h4⟩ => ⟨n', hn, sl4, ce4, G4, m4, R4, st.trans s4, h4⟩
  | false => exact iteF (cv.nx σ' H2 sl' ce2 G2 m2 R2 st h2)
/-! ### lists, tuples, texts, ranges -/
theorem stp_same {H : Hp} {m : List Addr} {G : Hp} : Stp H m G H m G := .refl
theorem ItOk.seqL {K : PySem.W.Frag} {a : Addr} {vs : List V} {ds : List D} {G : Hp} {m : List Addr} (hs : SqL K G a vs) (r : RepL K G ds vs) : ItOk K (Itl K a) (ds.map T.d) G m := by
  refine ⟨fun H => SqL K H a vs, YAt vs, ?_, fun H' ce' G' m' R g _ => R.gh.rdL (g.sqL hs), fun i x H1 H2 ce1 G1 m1 R g p hi y => ?_⟩
  · have w := walk_list (K := K) (a := a) (xs := vs)
    rw [List.length_map, ← r.length]; exact w
  · obtain ⟨rfl, hx⟩ := y
    rw [List.length_map] at hi
    obtain ⟨v, hv, rv⟩ := r.get (List.getElem?_eq_getElem hi)
    rw [hx] at hv; cases hv
    exact ⟨G1, .d ds[i], R, .refl, by rw [List.getElem?_map, List.getElem?_eq_getElem hi]; rfl, Rep.mono g _ _ rv⟩
theorem ItOk.seqT {K : PySem.W.Frag} {a : Addr} {vs : List V} {ds : List D} {G : Hp} {m : List Addr} (hs : SqT K G a vs) (r : RepL K G ds vs) : ItOk K (Itt K a) (ds.map T.d) G m := by
  refine ⟨fun H => SqT K H a vs, YAt vs, ?_, fun H' ce' G' m' R g _ => R.gh.rdT (g.sqT hs), fun i x H1 H2 ce1 G1 m1 R g p hi y => ?_⟩
  · have w := walk_tup (K := K) (a := a) (xs := vs)
    rw [List.length_map, ← r.length]; exact w
  · obtain ⟨rfl, hx⟩ := y
    rw [List.length_map] at hi
    obtain ⟨v, hv, rv⟩ := r.get (List.getElem?_eq_getElem hi)
    rw [hx] at hv; cases hv
    exact ⟨G1, .d ds[i], R, .refl, by rw [List.getElem?_map, List.getElem?_eq_getElem hi]; rfl, Rep.mono g _ _ rv⟩
def uiL (ua : UE) : UI := fun sl ce Q E => ua sl ce (fun x ce1 => match x with
  | .d (.lst ds) => Q (ds.map T.d) ce1
  | _ => False) E
def uiT (ua : UE) : UI := fun sl ce Q E => ua sl ce (fun x ce1 => match x with
  | .d (.tup ds) => Q (ds.map T.d) ce1
  | _ => False) E
def signs (z : Str) : List T := z.cps.toList.map fun c => .d (.str ⟨#[c]⟩)
def uiS (ua : UE) : UI := fun sl ce Q E => ua sl ce (fun x ce1 => match x with
  | .d (.str z) => Q (signs z) ce1
  | _ => False) E
theorem di_list (ha : DE X e ua) : DI X tg e (uiL ua) := by
  obtain ⟨ta, pa, sa⟩ := ha.ex
  refine ⟨_, fun W tk => pi_list (pa W tk), fun W σ H sl ce G m Ri Ed R Rl w h k => ?_⟩
  refine sa W σ H sl ce G m _ Ed _ Rl w h fun x ce1 G1 m1 v H1 R1 s1 r1 h1 => ?_
  split at h1
  · next ds =>
    obtain ⟨a, vs, rfl, hs, r⟩ := r1
    exact ⟨a, rfl, ⟨vs, R1.gh.rdL hs⟩, k _ _ ce1 G1 m1 H1 R1 s1 (ItOk.seqL hs r) h1⟩
  · exact h1.elim
theorem di_tup (ha : DE X e ua) : DI X tg e (uiT ua) := by
  obtain ⟨ta, pa, sa⟩ := ha.ex
  refine ⟨_, fun W tk => pi_tup (pa W tk), fun W σ H sl ce G m Ri Ed R Rl w h k => ?_⟩
  refine sa W σ H sl ce G m _ Ed _ Rl w h fun x ce1 G1 m1 v H1 R1 s1 r1 h1 => ?_
  split at h1
  · next ds =>
    obtain ⟨a, vs, rfl, hs, r⟩ := r1
    exact ⟨a, rfl, ⟨vs, R1.gh.rdT hs⟩, k _ _ ce1 G1 m1 H1 R1 s1 (ItOk.seqT hs r) h1⟩
  · exact h1.elim
theorem di_str (ha : DE X e ua) : DI X tg e (uiS ua) := by
  obtain ⟨ta, pa, sa⟩ := ha.ex
  refine ⟨_, fun W tk => pi_str (pa W tk), fun W σ H sl ce G m Ri Ed R Rl w h k => ?_⟩
  refine sa W σ H sl ce G m _ Ed _ Rl w h fun x ce1 G1 m1 v H1 R1 s1 r1 h1 => ?_
  split at h1
  · next z =>
    cases r1
    refine ⟨z, rfl, k _ (signs z) ce1 G1 m1 H1 R1 s1 ⟨fun _ => True, (fun i H v H' => H' = H ∧ ∃ c, z.cps[i]? = some c ∧ v = .str ⟨#[c]⟩), ?_, fun _ _ _ _ _ _ _ => trivial, fun i x H1 H2 ce1 G1 m1 R g p hi y => ?_⟩ h1⟩
    · have w := walk_str (z := z)
      have e : (signs z).length = z.cps.size := by simp [signs]
      rw [e]; exact w
    · obtain ⟨rfl, c, hc, rfl⟩ := y
      exact ⟨G1, .d (.str ⟨#[c]⟩), R, .refl, by simp [signs, hc], rfl⟩
  · exact h1.elim
def uiR1 (u : UA) : UI := fun sl ce Q E => u sl ce (fun ts ce1 => match ts with
  | [.d (.int j)] => (-(2 ^ 62) ≤ j ∧ j < 2 ^ 62) ∧ Q ((List.range j.toNat).map fun (i : Nat) => .d (.int i)) ce1
  | _ => False) E
theorem ItOk.range {K : PySem.W.Frag} {lo : Int} {n : Nat} {G : Hp} {m : List Addr} : ItOk K (Itr lo n) ((List.range n).map fun (i : Nat) => .d (.int (lo + i))) G m := by
  refine ⟨fun _ => True, YFn fun i => .int (lo + i), ?_, fun _ _ _ _ _ _ _ => trivial, fun i x H1 H2 ce1 G1 m1 R g p hi y => ?_⟩
  · have w := walk_range (lo := lo) (n := n)
    rw [List.length_map, List.length_range]; exact w
  · obtain ⟨rfl, rfl⟩ := y
    rw [List.length_map, List.length_range] at hi
    exact ⟨G1, .d (.int (lo + i)), R, .refl, by rw [List.getElem?_map, List.getElem?_range hi]; rfl, rfl⟩
theorem di_range1 (ha : DA X [a] u) (hm : X.mg "range" = none) (hg : Gl X "range" := by rfl) (hs : starEach [a] X.env = [(false, eval a X.env)] := by rfl) : DI X tg (.Call (.Name "range" p) [a] [] pos) (uiR1 u) := by
  obtain ⟨ta, pa, sa⟩ := ha.ex
  refine ⟨_, fun W tk => pi_range1 hg hm (pa W tk) hs, fun W σ H sl ce G m Ri Ed R Rl w h k => ?_⟩
  refine sa W σ H sl ce G m _ Ed _ Rl w h fun ts ce1 G1 m1 vs H1 R1 s1 r1 h1 => ?_
  split at h1
  · next j =>
    obtain ⟨v, rfl, rv⟩ := RepTL.one' r1
    cases rv
    refine ⟨j, rfl, h1.1.1, h1.1.2, k _ _ ce1 G1 m1 H1 R1 s1 ItOk.range ?_⟩
    have e : ((List.range j.toNat).map fun (i : Nat) => T.d (.int (0 + i))) = (List.range j.toNat).map fun (i : Nat) => T.d (.int i) := by
      congr 1; funext i; rw [Int.zero_add]
    rw [e]; exact h1.2
  · exact h1.elim
/-! ### zip of two tuples -/
def zipD (xs ys : List D) : List T := (xs.zip ys).map fun p => .d (.tup [p.1, p.2])
def uiZ (u : UA) : UI := fun sl ce Q E => u sl ce (fun ts ce1 => match ts with
  | [.d (.tup xs), .d (.tup ys)] => Q (zipD xs ys) ce1
  | [.d (.lst xs), .d (.lst ys)] => Q (zipD xs ys) ce1
  | _ => False) E
theorem ItOk.pair {K : PySem.W.Frag} {J : It} {fx fy : Nat → Option V} {gx gy : Nat → Option D} {Gd : Hp → Prop} {items : List T} {G : Hp} {m : List Addr} (w : Walk J items.length Gd (YPair fx fy))
    (hG : ∀ H' ce' G' m', RelS K H' ce' G' m' → Gg G G' → m <+: m' → Gd H') (hx : ∀ i x, fx i = some x → ∃ d, gx i = some d ∧ Rep K G d x) (hy : ∀ i x, fy i = some x → ∃ d, gy i = some d ∧ Rep K G d x)
    (hi : ∀ (i : Nat) d d', i < items.length → gx i = some d → gy i = some d' → items[i]? = some (.d (.tup [d, d']))) : ItOk K J items G m := by
  refine ⟨Gd, _, w, hG, fun i x H1 H2 ce1 G1 m1 R g p hlt y => ?_⟩
  obtain ⟨T, x, y, rfl, hT, rfl, ex, ey⟩ := y
  obtain ⟨d, gd, rd⟩ := hx i x ex
  obtain ⟨d', gd', rd'⟩ := hy i y ey
  obtain ⟨R2, s2⟩ := R.laid (.tup [x, y]) hT
  exact ⟨_, .d (.tup [d, d']), R2, s2, hi i d d' hlt gd gd', ⟨T, _, rfl, SqT.of upd_same, ⟨_, _, rfl, Rep.mono (g.trans s2.gg) _ _ rd, _, _, rfl, Rep.mono (g.trans s2.gg) _ _ rd', rfl⟩⟩⟩
theorem zipD_get (xs ys : List D) (i : Nat) (d d' : D) (h : xs[i]? = some d) (h' : ys[i]? = some d') : (zipD xs ys)[i]? = some (.d (.tup [d, d'])) := by
  unfold zipD
  rw [List.getElem?_map, List.getElem?_zip_eq_some (z := (d, d')) |>.mpr ⟨h, h'⟩]; rfl
theorem RepL.back {K : PySem.W.Frag} {G : Hp} {ds : List D} {vs : List V} (r : RepL K G ds vs) {i : Nat} {v : V} (h : vs[i]? = some v) : ∃ d, ds[i]? = some d ∧ Rep K G d v := by
  have hl := (List.getElem?_eq_some_iff.mp h).1
  rw [r.length] at hl
  obtain ⟨v', e, hr⟩ := r.get (List.getElem?_eq_getElem hl)
  rw [h] at e
  cases e
  exact ⟨_, List.getElem?_eq_getElem hl, hr⟩
theorem walk_zipT {K : PySem.W.Frag} {a b : Addr} {xs ys : List V} {n : Nat} (hn : n = min xs.length ys.length) : Walk (RZ.ItzT K a b) n (fun H => SqT K H a xs ∧ SqT K H b ys) (YPair (fun i => xs[i]?) (fun i => ys[i]?)) := by
  subst hn
  refine ⟨fun i H hi ⟨h1, h2⟩ => ?_, fun H ⟨h1, h2⟩ => ?_, fun i H v H' hi ⟨h1, h2⟩ y => ?_⟩
  · have l1 : i < xs.length := by omega
    have l2 : i < ys.length := by omega
    exact ⟨xs, ys, xs[i], ys[i], h1, h2, List.getElem?_eq_getElem l1, List.getElem?_eq_getElem l2⟩
  · exact ⟨xs, ys, h1, h2, by omega⟩
  · obtain ⟨T, x, y, e1, e2, e3, e4, e5⟩ := y
    exact ⟨T, x, y, e1, e2, e3, e4 xs h1, e5 ys h2⟩
theorem di_zip {e2 : Expr} {tpos : Pos} {elts : List Expr} {kk : Nat} (ha : DA X [e, e2] u) (hm : X.mg "zip" = none) (hg : Gl X "zip" := by rfl)
    (hs : starEach [e, e2] X.env = (false, eval e X.env) :: starEach [e2] X.env := by rfl) (hpl : (backTo pos (starEach [e2] X.env)).any (·.1) = false := by rfl) : DI X (.Tuple elts kk tpos) (.Call (.Name "zip" p) [e, e2] [] pos) (uiZ u) := by
  obtain ⟨ta, pa, sa⟩ := ha.ex
  refine ⟨_, fun W tk => RZ.pi_zipA hg hm (pa W tk) hs hpl, fun W σ H sl ce G m Ri Ed R Rl w h k => ?_⟩
  refine sa W σ H sl ce G m _ Ed _ Rl w h fun ts ce1 G1 m1 vs H1 R1 s1 r1 h1 => ?_
  split at h1
  · next xs ys =>
    obtain ⟨v, v', rfl, rv, rv'⟩ := RepTL.two' r1
    obtain ⟨a, vs, rfl, ha, ra⟩ := rv
    obtain ⟨b, ws, rfl, hb, rb⟩ := rv'
    refine ⟨a, b, vs, ws, rfl, .inr ⟨R1.gh.rdT ha, R1.gh.rdT hb, k _ _ ce1 G1 m1 H1 R1 s1 (ItOk.pair (gx := fun i => xs[i]?) (gy := fun i => ys[i]?) (walk_zipT (xs := vs) (ys := ws) ?_) (fun H' ce' G' m' R g _ => ⟨R.gh.rdT (g.sqT ha), R.gh.rdT (g.sqT hb)⟩) (fun i x e => ra.back e) (fun i x e => rb.back e) (fun i d d' _ h h' => zipD_get xs ys i d d' h h')) h1⟩⟩
    simp [zipD, ra.length, rb.length]
  · next xs ys =>
    obtain ⟨v, v', rfl, rv, rv'⟩ := RepTL.two' r1
    obtain ⟨a, vs, rfl, ha, ra⟩ := rv
    obtain ⟨b, ws, rfl, hb, rb⟩ := rv'
    refine ⟨a, b, vs, ws, rfl, .inl ⟨R1.gh.rdL ha, R1.gh.rdL hb, k _ _ ce1 G1 m1 H1 R1 s1 (ItOk.pair (gx := fun i => xs[i]?) (gy := fun i => ys[i]?) (walk_zip (xs := vs) (ys := ws) ?_) (fun H' ce' G' m' R g _ => ⟨R.gh.rdL (g.sqL ha), R.gh.rdL (g.sqL hb)⟩) (fun i x e => ra.back e) (fun i x e => rb.back e) (fun i d d' _ h h' => zipD_get xs ys i d d' h h')) h1⟩⟩
    simp [zipD, ra.length, rb.length]
  · exact h1.elim
/-! ### list comprehensions -/
theorem RelS.side (R : RelS K H ce G m) {p : Addr} (o : HO) (hg : G p = none) (hm : p ∉ m) : RelS K (upd H p o) ce G m := by
  refine ⟨fun a u h => ?_, R.nd, R.len, R.out, fun k a c hk hc => ?_⟩
  · have ne : a ≠ p := fun e => by subst e; rw [hg] at h; cases h
    rw [upd_ne ne]; exact R.gh a u h
  · have ne : a ≠ p := fun e => hm (e ▸ List.mem_of_getElem? hk)
    exact (R.cel k a c hk hc).mono (List.prefix_refl m) (Gg.refl G) (fun o h => by rw [upd_ne ne]; exact h)
structure DTs (X : Cx) (es : List Expr) (u : UT) : Prop where
  ex : ∃ tf : WX → TT, (∀ W, Takes X W → PTs X es (tf W)) ∧ SemT X.K tf u
def uYes : UT := fun _ ce Q _ => Q true ce
theorem dts_nil : DTs X [] uYes := ⟨fun _ => tYes, fun _ _ => pts_nil, fun W σ H sl ce G m Qd Ed Qv R w h k => k true ce G m H R .refl h⟩
theorem dts_one (h : DT X c ut) : DTs X [c] ut := by
  obtain ⟨t, p, s⟩ := h.ex
  exact ⟨t, fun W tk => pts_one (p W tk), s⟩
def wipeD (sl : Sl) : List Nat → Sl
  | [] => sl
  | v :: vs => (wipeD sl vs).set v none
def E0D : Ex1 := fun _ _ _ => False
def compD (ug : UG) (ut : UT) (ue : UE) (sl : Sl) (Q : List D → Ce → Prop) : List T → List D → Ce → Prop
  | [], acc, ce => Q acc ce
  | t :: r, acc, ce => ug t sl ce fun sl1 ce1 => ut sl1 ce1 (fun b ce2 => match b with
    | true => ue sl1 ce2 (fun y ce3 => match y with
      | .d d => compD ug ut ue sl Q r (acc ++ [d]) ce3
      | _ => False) E0D
    | false => compD ug ut ue sl Q r acc ce2) E0D
def uLc (ui : UI) (ug : UG) (ut : UT) (ue : UE) (vs : List Nat) : UE := fun sl ce Q E => ui sl ce (fun items ce1 => items.length < 1000000 ∧ compD ug ut ue (wipeD sl vs) (fun acc ce2 => Q (.d (.lst acc)) ce2) items [] ce1) E
theorem Rel.wipe {K : PySem.W.Frag} {σ : St} {H : Hp} {sl : Sl} {ce : Ce} {G : Hp} {m : List Addr} (R : Rel K σ H sl ce G m) : ∀ vs : List Nat, Rel K (wipe σ vs) H (wipeD sl vs) ce G m
  | [] => R
  | v :: vs => by
    have R' := R.wipe vs
    exact { R.toRelS with
      sln := by show ((L2.wipe σ vs).set v none).length = ((wipeD sl vs).set v none).length; simp [R'.sln]
      sls := fun j d h => by
        have h' : ((wipeD sl vs).set v none)[j]? = some (some d) := h
        by_cases e : v = j
        · subst e
          by_cases q : v < (wipeD sl vs).length
          · rw [List.getElem?_set_self q] at h'; cases h'
          · rw [List.getElem?_eq_none (by simp; omega)] at h'; cases h'
        · rw [List.getElem?_set_ne e] at h'
          show ∃ v', ((L2.wipe σ vs).set v none)[j]? = some (some v') ∧ _
          rw [List.getElem?_set_ne e]
          exact R'.sls j d h' }
def WF : WX := fun _ _ _ _ => False
theorem wishF {K : PySem.W.Frag} {H : Hp} {m : List Addr} {G : Hp} : Wish K WF H m G E0D := fun _ _ _ _ _ _ _ _ _ _ _ _ z => z
theorem takesF {X : Cx} : Takes X WF := fun _ _ x => by
  obtain ⟨_, _, _, _, _, _, _, _, _, _, _, _, _, _, _, _, z⟩ := x
  exact z.elim
theorem semLc {K : PySem.W.Frag} {ue : UE} {vs : List Nat} {wf : WX → TI} {g : TG} {tt : WX → TT} {te : WX → TE} (hv : ∀ j ∈ js, j ∈ vs)
    (si : ∀ (W : WX) (σ : St) (H : Hp) (sl : Sl) (ce : Ce) (G : Hp) (m : List Addr) (Ri : List T → Ce → Prop) (Ed : Ex1) (R : It → Hp → Prop), Rel K σ H sl ce G m → Wish K W H m G Ed → ui sl ce Ri Ed →
      (∀ J items ce' G' m' H', Rel K σ H' sl ce' G' m' → Stp H m G H' m' G' → ItOk K J items G' m' → Ri items ce' → R J H') → wf W σ H R)
    (sg : SemG K js g ug) (st : SemT K tt ut) (se : SemE K te ue) : SemE K (fun W => tLc (wf W) g (tt WF) (te WF) vs) (uLc ui ug ut ue vs) := by
  intro W σ H sl ce G m Qd Ed Qv R w h k
  refine si W σ H sl ce G m _ Ed _ R w h fun J items ce1 G1 m1 H1 R1 s1 io h1 => ?_
  obtain ⟨hlen, h1⟩ := h1
  obtain ⟨Gd, Y, wk, hG, hY⟩ := io
  intro Dl hD
  obtain ⟨R0, s0⟩ := R1.toRelS.beside (.lst []) hD
  refine lc_it wk (fun i H' => ∃ ce' G' m' accV accD, RelS K H' ce' G' m' ∧ Stp H1 m1 G1 H' m' G' ∧ H' Dl = some (.lst accV) ∧ Dl ∉ m' ∧ G' Dl = none ∧ RepL K G' accD accV ∧ accD.length ≤ i ∧
      compD ug ut ue (wipeD sl vs) (fun acc ce2 => Qd (.d (.lst acc)) ce2) (items.drop i) accD ce') ?_ ?_ ?_ ?_
  · exact ⟨ce1, G1, m1, [], [], R0, s0, upd_same, R1.toRelS.nmem hD, R1.gh.fresh hD, rfl, Nat.le_refl _, h1⟩
  · rintro i H' _ ⟨ce', G', m', accV, accD, R', s', _⟩
    exact hG H' ce' G' m' R' s'.gg s'.pre
  · rintro i x H' H2 hi ⟨ce', G', m', accV, accD, R', s', hDl, nD, gDl, ra, la, h'⟩ y
    obtain ⟨G2, t, R2, s2, et, rt⟩ := hY i x H' H2 ce' G' m' R' s'.gg s'.pre hi y
    rw [drop_at et] at h'
    have stp2 : Stp H1 m1 G1 H2 m' G2 := s'.trans s2
    have gout : ∀ {H6 m6 G6}, Stp H' m' G' H6 m6 G6 → G6 Dl = none := fun {H6 m6 G6} q => by
      cases e : G6 Dl with
      | none => rfl
      | some u => rcases q.gnew Dl u e with z | z
                  · rw [gDl] at z; cases z
                  · rw [hDl] at z; cases z
    have hDl2 : H2 Dl = some (.lst accV) := s2.keep _ _ hDl nD
    have Rw : Rel K (wipe σ vs) H2 (wipeD sl vs) ce' G2 m' := (R1.wipe vs).step stp2 R2
    refine sg _ H2 _ ce' G2 m' _ _ t x Rw rt h' fun σ3 sl3 ce3 R3 hw h3 => ⟨?_, ?_⟩
    · rw [hw vs hv]
      have idem : ∀ (ws : List Nat), wipe (wipe σ vs) ws = wipe (wipe σ vs) ws := fun _ => rfl
      apply List.ext_getElem?
      intro j
      by_cases hj : j ∈ vs
      · have : ∀ (τ : St) (ws : List Nat), j ∈ ws → (wipe τ ws)[j]? = if j < τ.length then some none else none := by
          intro τ ws
          induction ws with
          | nil => intro h; cases h
          | cons w ws ih =>
            intro h
            show ((wipe τ ws).set w none)[j]? = _
            by_cases e : w = j
            · subst e
              by_cases q : w < τ.length
              · rw [List.getElem?_set_self (by rw [wipe_length]; exact q), if_pos q]
              · rw [List.getElem?_eq_none (by simp [wipe_length]; omega), if_neg q]
            · rw [List.getElem?_set_ne e]
              exact ih ((List.mem_cons.mp h).resolve_left (Ne.symm e))
        rw [this _ _ hj, this _ _ hj, wipe_length]
      · rw [wipe_out hj]
    refine st WF σ3 H2 sl3 ce3 G2 m' _ E0D _ R3 wishF h3 fun b ce4 G4 m4 H4 R4 s4 h4 => ?_
    have stp4 := stp2.trans s4
    have hDl4 : H4 Dl = some (.lst accV) := s4.keep _ _ hDl2 nD
    have nD4 : Dl ∉ m4 := fun q => (s4.new Dl q).elim nD fun z => by rw [hDl2] at z; cases z
    cases b with
    | true =>
      refine iteT (se WF σ3 H4 sl3 ce4 G4 m4 _ E0D _ R4 wishF h4 fun y ce5 G5 m5 yv H5 R5 s5 r5 h5 => ?_)
      have stp5 := stp4.trans s5
      have hDl5 : H5 Dl = some (.lst accV) := s5.keep _ _ hDl4 nD4
      have nD5 : Dl ∉ m5 := fun q => (s5.new Dl q).elim nD4 fun z => by rw [hDl4] at z; cases z
      split at h5
      · next d =>
        have gD5 : G5 Dl = none := gout ((s2.trans s4).trans s5)
        refine ⟨accV, hDl5, by rw [ra.length]; have : sizeLine = 16777216 := sizeLine_eq; omega, ?_⟩
        refine ⟨ce5, G5, m5, accV ++ [yv], accD ++ [d], R5.toRelS.side _ gD5 nD5, ⟨fun a o ha hn => ?_, stp5.pre, stp5.new, stp5.gg, fun a h => upd_stay a (stp5.stay a h), stp5.gnew⟩, upd_same, nD5, gD5, (RepL.mono ((s2.trans s4).trans s5).gg _ _ ra).append (RepL.one r5), by simp; omega, h5⟩
        have ne : a ≠ Dl := fun q => by subst q; rw [hD] at ha; cases ha
        rw [upd_ne ne]; exact stp5.keep a o ha hn
      · exact h5.elim
    | false =>
      have gD4 : G4 Dl = none := gout (s2.trans s4)
      exact iteF ⟨ce4, G4, m4, accV, accD, R4.toRelS, stp4, hDl4, nD4, gD4, RepL.mono (s2.trans s4).gg _ _ ra, by omega, h4⟩
  · rintro H' ⟨ce', G', m', accV, accD, R', s', hDl, nD, gDl, ra, la, h'⟩
    rw [List.drop_length] at h'
    obtain ⟨R2, g2⟩ := R'.freeze hDl nD gDl
    have stp2 : Stp H1 m1 G1 H' m' (upd G' Dl (.lst accV)) := ⟨s'.keep, s'.pre, s'.new, s'.gg.trans g2, s'.stay, fun a u h => by
      by_cases e : a = Dl
      · subst e; exact .inr hD
      · rw [upd_ne e] at h; exact s'.gnew a u h⟩
    exact k (.d (.lst accD)) ce' _ m' _ H' (R1.step stp2 R2) (s1.trans stp2) ⟨Dl, accV, rfl, SqL.of upd_same, RepL.mono g2 _ _ ra⟩ h'
end
end DL

namespace DL
open PySem L2
/-! ### the transformers that say just what u says -/
def canE (K : PySem.W.Frag) (u : UE) (W : WX) : TE := fun σ H Qv => ∃ (sl : Sl) (ce : Ce) (G : Hp) (m : List Addr) (Qd : T → Ce → Prop) (Ed : Ex1), Rel K σ H sl ce G m ∧ Wish K W H m G Ed ∧ u sl ce Qd Ed ∧
  ∀ d ce' G' m' v H', Rel K σ H' sl ce' G' m' → Stp H m G H' m' G' → RepT K m' G' d v → Qd d ce' → Qv v H'
def canT (K : PySem.W.Frag) (u : UT) (W : WX) : TT := fun σ H Qv => ∃ (sl : Sl) (ce : Ce) (G : Hp) (m : List Addr) (Qd : Bool → Ce → Prop) (Ed : Ex1), Rel K σ H sl ce G m ∧ Wish K W H m G Ed ∧ u sl ce Qd Ed ∧
  ∀ b ce' G' m' H', Rel K σ H' sl ce' G' m' → Stp H m G H' m' G' → Qd b ce' → Qv b H'
def canG (K : PySem.W.Frag) (js : List Nat) (u : UG) : TG := fun v σ H Qs => ∃ (sl : Sl) (ce : Ce) (G : Hp) (m : List Addr) (Qd : Sl → Ce → Prop) (t : T), Rel K σ H sl ce G m ∧ RepT K m G t v ∧ u t sl ce Qd ∧
  ∀ σ' sl' ce', Rel K σ' H sl' ce' G m → (∀ vs : List Nat, (∀ j ∈ js, j ∈ vs) → wipe σ' vs = wipe σ vs) → Qd sl' ce' → Qs σ' H
section
variable {X : Cx} {e a b c tg iter elt : Expr} {es ifs : List Expr} {ua ub ue : UE} {ut : UT} {u : UA} {us us' : US} {ui : UI} {ug : UG} {js : List Nat} {pos p : Pos}
theorem DE.can (h : DE X e ua) {W : WX} (tk : Takes X W) : PE X e (canE X.K ua W) := by
  obtain ⟨t, pe, s⟩ := h.ex
  refine ⟨fun pins sh σ H Q I hh => ?_⟩
  obtain ⟨sl, ce, G, m, Qd, Ed, R, w, hu, k⟩ := hh
  exact (pe W tk).run pins sh σ H Q I (s W σ H sl ce G m Qd Ed Q R w hu k)
theorem semCanE {K : PySem.W.Frag} : SemE K (canE K ua) ua := fun W σ H sl ce G m Qd Ed Qv R w h k => ⟨sl, ce, G, m, Qd, Ed, R, w, h, k⟩
theorem DTs.can (h : DTs X ifs ut) {W : WX} (tk : Takes X W) : PTs X ifs (canT X.K ut W) := by
  obtain ⟨t, pe, s⟩ := h.ex
  refine ⟨fun pins sh σ H Q I hh => ?_⟩
  obtain ⟨sl, ce, G, m, Qd, Ed, R, w, hu, k⟩ := hh
  exact (pe W tk).run pins sh σ H Q I (s W σ H sl ce G m Qd Ed Q R w hu k)
theorem semCanT {K : PySem.W.Frag} : SemT K (canT K ut) ut := fun W σ H sl ce G m Qd Ed Qv R w h k => ⟨sl, ce, G, m, Qd, Ed, R, w, h, k⟩
theorem DG.can (h : DG X tg js ug) : PG X tg (canG X.K js ug) := by
  obtain ⟨g, pg, s⟩ := h.ex
  refine ⟨fun pins sh σ H v u Q I r hh => ?_⟩
  obtain ⟨sl, ce, G, m, Qd, t, R, rt, hu, k⟩ := hh
  exact pg.run pins sh σ H v u Q I r (s σ H sl ce G m Qd Q t v R rt hu k)
theorem semCanG {K : PySem.W.Frag} : SemG K js (canG K js ug) ug := fun σ H sl ce G m Qd Qs t v R r h k => ⟨sl, ce, G, m, Qd, t, R, r, h, k⟩
theorem de_lc {scope : Scope} {own : List (Str × Nat)} (hN : X.N.Nodup) (hi : DI X tg iter ui) (ok : BlkOk X.N X.env.scope scope own)
    (hg : ∀ (s : Shared) (H : Hp) (C : Addr) (cl : List (Str × Addr)) (fp : List Addr), DG (X.blk s H scope (compEnvC scope cl C X.env) fp) tg js ug) (ht : ∀ (s : Shared) (H : Hp) (C : Addr) (cl : List (Str × Addr)) (fp : List Addr), DTs (X.blk s H scope (compEnvC scope cl C X.env) fp) ifs ut)
    (he : ∀ (s : Shared) (H : Hp) (C : Addr) (cl : List (Str × Addr)) (fp : List Addr), DE (X.blk s H scope (compEnvC scope cl C X.env) fp) elt ue) (hv : ∀ j ∈ js, j ∈ own.map (·.2) := by decide) (hc : X.calm = true := by rfl) (hs : ∀ x, foldedSetIterable iter X.env x = pure x := by intro _; rfl) :
    DE X (.ListComp elt [⟨tg, iter, ifs, 0⟩] scope pos) (uLc ui ug ut ue (own.map (·.2))) := by
  obtain ⟨wf, pi, si⟩ := hi.ex
  refine ⟨fun W => tLc (wf W) (canG X.K js ug) (canT X.K ut WF) (canE X.K ue WF) (own.map (·.2)), fun W tk => pe_lc (g := canG X.K js ug) (tt := canT X.K ut WF) (te := canE X.K ue WF) hc hN (pi W tk) ok (fun s H C cl fp => (hg s H C cl fp).can) (fun s H C cl fp => (ht s H C cl fp).can takesF) (fun s H C cl fp => (he s H C cl fp).can takesF) hs, semLc hv si semCanG semCanT semCanE⟩
theorem ds_setLc (i : Nat) {y : Str} {py spos : Pos} {scope : Scope} {own : List (Str × Nat)} (hN : X.N.Nodup) (hi : DI X tg iter ui) (ok : BlkOk X.N X.env.scope scope own)
    (hg : ∀ (s : Shared) (H : Hp) (C : Addr) (cl : List (Str × Addr)) (fp : List Addr), DG (X.blk s H scope (compEnvC scope cl C X.env) fp) tg js ug) (ht : ∀ (s : Shared) (H : Hp) (C : Addr) (cl : List (Str × Addr)) (fp : List Addr), DTs (X.blk s H scope (compEnvC scope cl C X.env) fp) ifs ut)
    (he : ∀ (s : Shared) (H : Hp) (C : Addr) (cl : List (Str × Addr)) (fp : List Addr), DE (X.blk s H scope (compEnvC scope cl C X.env) fp) elt ue) (hy : X.N[i]? = some y := by rfl) (hyl : X.env.scope.names.lookup y = some .local := by rfl)
    (hsw : swapsWith (.ListComp elt [⟨tg, iter, ifs, 0⟩] scope pos) (some (.Name y py)) spos.line X.env = pure true := by exact sw_true rfl rfl rfl (by decide +kernel))
    (hv : ∀ j ∈ js, j ∈ own.map (·.2) := by decide) (hc : X.calm = true := by rfl) (hs : ∀ x, foldedSetIterable iter X.env x = pure x := by intro _; rfl) :
    DS X (.Assign [.Name y py] (.ListComp elt [⟨tg, iter, ifs, 0⟩] scope pos) spos) (uAsg (uLc ui ug ut ue (own.map (·.2))) (ugName i)) := by
  obtain ⟨wf, pi, si⟩ := hi.ex
  refine ⟨_, fun W tk => ps_setLc (i := i) (g := canG X.K js ug) (tt := canT X.K ut WF) (te := canE X.K ue WF) hc hN hy hyl hsw (pi W tk) ok (fun s H C cl fp => (hg s H C cl fp).can) (fun s H C cl fp => (ht s H C cl fp).can takesF) (fun s H C cl fp => (he s H C cl fp).can takesF) hs, fun W σ H sl ce G m N D R w h cv => ?_⟩
  exact semLc hv si semCanG semCanT semCanE W σ H sl ce G m _ N.ex _ R w h fun d ce' G' m' v H' R' s' r' h' => cv.nx _ H' _ ce' G' m' (R'.set i r') s' h'
end
/-! ### enumerate of a tuple -/
section
open PySem.W PyProof.Rows
theorem meets_enumerate_newT (l : Addr) (items : Array Value) :
    Meets (Builtin.«enumerate.__new__» ⟨[.type "enumerate", .ref l], []⟩) (fun _ R s => s.heap.IsTuple l items ∧
      R (.ok (.ret (.ref (s.heap.push { cls := .type "tuple_iterator", data := .fields #[.ref l, .int 0 0] }).objs.size)))
        { s with heap := (s.heap.push { cls := .type "tuple_iterator", data := .fields #[.ref l, .int 0 0] }).push { cls := .type "enumerate", data := .fields #[.none, .bool false, .ref s.heap.objs.size, rawInt 0, .none, .none] } }) :=
  .of_wp fun prog w A R s h => by
    obtain ⟨hp, g, d, tk, os⟩ := s; obtain ⟨hL, h⟩ := h
    have hsub := sub_enumerate
    have q1 : ∀ {A' : Around} {E : Value → Shared → Prop} {Q : Value → Shared → Prop}, Q (.ref hp.objs.size) ⟨hp.push { cls := .type "tuple_iterator", data := .fields #[.ref l, .int 0 0] }, g, d, tk, os⟩ → wpAny (model prog w) A' (pyIter (.ref l)) Q E ⟨hp, g, d, tk, os⟩ :=
      fun q => wpAny_pyIter_tuple hL q
    wp_walk using q1
    refine wpAny_stack_any fun st => wpAny_pure ?_
    split
    · rename_i c _ _ _ _ _
      cases (c == Value.type "enumerate")
      · wp_walk using q1
        exact ⟨_, rfl, h⟩
      · wp_walk using q1
        exact ⟨_, rfl, h⟩
    · wp_walk using q1
      exact ⟨_, rfl, h⟩
variable {prog : Program} {w : World} {A : Around} {E : Value → Shared → Prop} {s : Shared}
theorem call_enumerate_tuple {l : Addr} {items : Array Value} {Q : Value → Shared → Prop} (hL : s.heap.IsTuple l items)
    (h : ∀ h', IsEnum h' (s.heap.objs.size + 1) s.heap.objs.size 0 .none → h'.IsTupleIter s.heap.objs.size l 0 → h'.objs.size = s.heap.objs.size + 2 →
      (∀ b o, s.heap.get? b = some o → h'.get? b = some o) → Q (.ref (s.heap.objs.size + 1)) { s with heap := h' }) :
    wpAny (model prog w) A (call (.type "enumerate") [.ref l]) Q E s := by
  refine callType_new F.called_enumerate (by decide) (F.typeCall_enumerate_1 _) (F.newCall_enumerate_1 _) (fun obj => F.args_object_init_2 obj _) F.entry_enumerate_new
    (meets_enumerate_newT l items) ⟨hL, ?_⟩
  have hz : (s.heap.push { cls := .type "tuple_iterator", data := .fields #[.ref l, .int 0 0] }).objs.size = s.heap.objs.size + 1 := Heap.size_push ..
  show _ ∧ _
  rw [hz]
  have he : IsEnum ((s.heap.push { cls := .type "tuple_iterator", data := .fields #[.ref l, .int 0 0] }).push
      { cls := .type "enumerate", data := .fields #[.none, .bool false, .ref s.heap.objs.size, rawInt 0, .none, .none] }) (s.heap.objs.size + 1) s.heap.objs.size 0 .none := by
    have := Heap.get?_push_size (s.heap.push { cls := .type "tuple_iterator", data := .fields #[.ref l, .int 0 0] })
      (o := { cls := .type "enumerate", data := .fields #[.none, .bool false, .ref s.heap.objs.size, rawInt 0, .none, .none] }) rfl
    rw [hz] at this; exact this
  refine ⟨⟨_, he, rfl⟩, h _ he ⟨_, Heap.get?_push_of_some _ (Heap.get?_push_size _ rfl), rfl, rfl⟩ (by rw [Heap.size_push, hz]) fun b o x => Heap.get?_push_of_some _ (Heap.get?_push_of_some _ x)⟩
end
section
open PySem.W PyProof.Rows
theorem enumT_end {prog : Program} {w : World} {A : Around} {E : Value → Shared → Prop} {s : Shared} {e it l : Addr} {i : Nat} {items : Array Value} {old : Value} {Q : Option Value → Shared → Prop} (hh : A.handled = none)
    (he : IsEnum s.heap e it i old) (hit : s.heap.IsTupleIter it l i) (hl : s.heap.IsTuple l items) (hx : items[i]? = none)
    (hQ : ∀ h', Heap.ExtBut it s.heap h' → Q none { s with heap := h' }) : wpAny (model prog w) A (pyNext (.ref e)) Q E s := by
  have hT : s.TypeIs (.ref e) "enumerate" := ⟨_, he, rfl⟩
  unfold pyNext
  refine wpAny_bind (wpAny_attempt (wpAny_callSpecial?_slot (name := Str.ofString "__next__") hT F.slot_enumerate_next
    (wpAny_call_entry F.slot_enumerate_next hT F.entry_enumerate_next ?_ (F.args_enumerate_next_1 _))))
  show wpAny _ _ (field (.ref e) 2 >>= _) _ _ _
  refine wpAny_bind (wpAny_field he rfl (x := .ref it) rfl ?_)
  refine wpAny_bind (wpAny_nextOf_tuple_end hh hit hl hx fun h' x he' hx' => ?_)
  obtain ⟨o, ho, hc⟩ := hx'
  refine wpAny_bind (wpAny_isInstance (T := "StopIteration") (b := true) ⟨o, ho, hc⟩ isSubtype_stop ?_)
  exact wpAny_pure (hQ _ he')
def IteT (K : PySem.W.Frag) (a : Addr) : It :=
  ⟨fun i H => ∃ (xs : List V) (x : V), SqT K H a xs ∧ xs[i]? = some x, fun i H v H' => ∃ T x, v = .ref T ∧ H T = none ∧ H' = upd H T (.tup [.int (i : Nat), x]) ∧ ∀ xs, SqT K H a xs → xs[i]? = some x, fun i H => ∃ xs : List V, SqT K H a xs ∧ xs.length ≤ i⟩
theorem turn_enumT {P : Program} {w : World} {K : PySem.W.Frag} {elts : List Expr} {kk : Nat} {tpos : Pos} (a e it : Addr) (hae : a ≠ e) (hai : a ≠ it) :
    Turn P w K (.Tuple elts kk tpos) (IteT K a) [e, it] e (fun i h => (∃ old, IsEnum h e it ((i : Nat) : Int) old) ∧ h.IsTupleIter it a i ∧ e ≠ it) where
  mem := by simp
  obj := fun i h st b hb => by
    obtain ⟨⟨old, he⟩, ⟨o, ho, hc, hd⟩, _⟩ := st
    have e' : b = e ∨ b = it := by simpa using hb
    rcases e' with z | z
    · rw [z]; exact ⟨_, he, fun v q => nomatch q⟩
    · rw [z]; exact ⟨o, ho, fun v q => by rw [hd] at q; cases q⟩
  keep := fun i h h' st k => let ⟨⟨old, he⟩, hi, hne⟩ := st; ⟨⟨old, k e (by simp) _ he⟩, hi.at fun o q => k it (by simp) o q, hne⟩
  item := by
    intro X hP hw hK hc i pins s σ H E I hf st hg
    subst hP hw hK
    obtain ⟨⟨old, he⟩, hit, hne⟩ := st
    obtain ⟨xs, x, hq, hx⟩ := hg
    obtain ⟨its, rv, p, hz⟩ := I.tuple hq
    obtain ⟨u, hu, ru⟩ := rv.get hx
    have hel : e < s.heap.objs.size := Heap.lt_size he
    have hil : it < s.heap.objs.size := by obtain ⟨_, q, _⟩ := hit; exact Heap.lt_size q
    have htup : s.heap.IsTuple a its.toArray := p
    have Dr := Draws.tuple (prog := X.prog) (w := X.w) (A := X.A.in1) (show X.A.in1.handled = none from I.ok.hd hc) it a hai its.toArray
    have hlt : i < its.toArray.size := by
      have := (List.getElem?_eq_some_iff.mp hu).1
      simpa using this
    refine wpAny_pyNext_enum_itemD Dr he ⟨hit, htup⟩ hlt hne (by simp; exact ⟨hne, Ne.symm hae⟩) fun x' h' tk px ho hst' hT hsz hk => ?_
    have ex : x' = u := by
      have : its.toArray[i]? = some u := by simpa using hu
      rw [px] at this; exact Option.some.inj this
    subst ex
    refine ⟨_, rfl, wpAny_letOwnedTupleGo_enum (s := { s with heap := h', toks := tk + 1 }) ho fun h'' he' sb => ?_⟩
    have hT2 : h''.get? s.heap.objs.size = some { cls := .type "tuple", data := .seq #[.int i tk, x'] } := (sb.2 _ (Nat.ne_of_gt hel)).trans hT
    have new : ObjOk X.prog X.w (upd H s.heap.objs.size (.tup [.int (i : Nat), x])) h'' s.heap.objs.size (.tup [.int (i : Nat), x]) :=
      ⟨by show 2 ≤ sizeLine; decide, [.int i tk, x'], .cons ⟨_, rfl⟩ (.cons ru .nil), ⟨_, hT2, rfl, _, rfl⟩⟩
    have I1 : Inv X pins σ (upd H s.heap.objs.size (.tup [.int (i : Nat), x])) { s with heap := h'', toks := tk + 1 } :=
      I.turnedNew (ch := [e, it]) (fun b ob hb q => (sb.2 b (fun z => hb (by simp [z]))).trans (hk b ob (fun z => hb (by simp [z])) (fun z => hb (by simp [z])) q)) hf (Nat.le_refl _) new
    refine ⟨.ref s.heap.objs.size, _, I1, rfl, ⟨_, x, rfl, I.hok.fresh (Nat.le_refl _), rfl, fun ys hy => by rw [I.tuple_inj hy hq]; exact hx⟩, ⟨⟨x', ?_⟩, hst'.1.at fun o q => (sb.2 it (Ne.symm hne)).trans q, hne⟩, fun b hb => ?_⟩
    · have e1 : ((i + 1 : Nat) : Int) = (i : Int) + 1 := by omega
      rw [e1]; exact he'
    · have hb' : b < s.heap.objs.size := by
        have e' : b = e ∨ b = it := by simpa using hb
        rcases e' with z | z
        · rw [z]; exact hel
        · rw [z]; exact hil
      have hbn : b ≠ s.heap.objs.size := Nat.ne_of_lt hb'
      rw [upd_ne hbn]
      exact (hf b hb).1
  done := by
    intro X hP hw hK hc i pins s σ H E I hf st hg
    subst hP hw hK
    obtain ⟨⟨old, he⟩, hit, hne⟩ := st
    obtain ⟨xs, hq, hx⟩ := hg
    obtain ⟨its, rv, p, hz⟩ := I.tuple hq
    obtain ⟨f0, f1, f2, f3, f4, f5⟩ := hf it (by simp)
    have hl := rv.length
    exact enumT_end (I.ok.hd hc) he hit p (by simp; omega) fun h' eb => ⟨rfl, I.turned (t' := s.toks) (fun b o hb q => eb b o hb q) f0 f1 f3 f4 f5⟩
  self := fun A i s Q E st h => let ⟨⟨_, he⟩, _⟩ := st; wpAny_pyIter_enum he h
theorem walk_enumT {K : PySem.W.Frag} {a : Addr} {xs : List V} : Walk (IteT K a) xs.length (fun H => SqT K H a xs) (YPair (fun i => some (.int (i : Nat))) (fun i => xs[i]?)) := by
  refine ⟨fun i H hi h1 => ⟨xs, xs[i], h1, List.getElem?_eq_getElem hi⟩, fun H h1 => ⟨xs, h1, Nat.le_refl _⟩, fun i H v H' hi h1 y => ?_⟩
  obtain ⟨T, x, e1, e2, e3, e4⟩ := y
  exact ⟨T, _, x, e1, e2, e3, rfl, e4 xs h1⟩
variable {X : Cx} {e : Expr} {u : UA} {pos p : Pos}
theorem pi_enumT {ta : TA} {tpos : Pos} {elts : List Expr} {kk : Nat} (hg : Gl X "enumerate") (hm : X.mg "enumerate" = none) (ha : PA X [e] ta) (hs : starEach [e] X.env = [(false, eval e X.env)] := by rfl) :
    PI X (.Tuple elts kk tpos) (.Call (.Name "enumerate" p) [e] [] pos) (fun σ H R => ta σ H fun vs H1 => ∃ a xs, vs = [.ref a] ∧ SqT X.K H1 a xs ∧ R (IteT X.K a) H1) := by
  refine ⟨fun pins s σ H R I h => ?_⟩
  refine Call_ (ld_blt I hg hm boot_enumerate (PyProof.Rows.callWith_type1 (thn (ha.run pos pins s σ H _ I h) fun us s1 ⟨vs, H1, I1, r1, q1⟩ => ?_) hs rfl))
  obtain ⟨a, xs, ex, hq, q⟩ := q1
  subst ex
  cases r1 with
  | cons r rr =>
    cases rr
    cases r
    obtain ⟨its, rv, p', hz⟩ := I1.tuple hq
    have hal : a < s1.heap.objs.size := by obtain ⟨o, q, _⟩ := p'; exact Heap.lt_size q
    refine call_enumerate_tuple p' fun h' he hit hsz hk => wpAny_pyIter_enum he ?_
    have I2 : Inv X pins σ H1 { s1 with heap := h' } := I1.kept (t' := s1.toks) hk
    refine ⟨s1.heap.objs.size + 1, [s1.heap.objs.size + 1, s1.heap.objs.size], _, _, H1, rfl, I2, turn_enumT a (s1.heap.objs.size + 1) s1.heap.objs.size (Nat.ne_of_lt (Nat.lt_succ_of_lt hal)) (Nat.ne_of_lt hal), ⟨⟨.none, he⟩, hit, Nat.succ_ne_self _⟩, fun b hb => ?_, q⟩
    have e' : b = s1.heap.objs.size + 1 ∨ b = s1.heap.objs.size := by simpa using hb
    have hle : s1.heap.objs.size ≤ b := by
      rcases e' with z | z
      · rw [z]; exact Nat.le_add_right _ _
      · rw [z]; exact Nat.le_refl _
    exact I1.fpOk hle (I1.hok.fresh hle)
def enumD (xs : List D) : List T := (List.range xs.length).map fun (i : Nat) => .d (.tup [.int i, xs.getD i .non])
def uiE (u : UA) : UI := fun sl ce Q E => u sl ce (fun ts ce1 => match ts with
  | [.d (.tup xs)] => Q (enumD xs) ce1
  | _ => False) E
theorem enumD_get (xs : List D) (i : Nat) (d d' : D) (hi : i < (enumD xs).length) (h : some (D.int (i : Nat)) = some d) (h' : xs[i]? = some d') : (enumD xs)[i]? = some (.d (.tup [d, d'])) := by
  cases h
  unfold enumD at hi ⊢
  rw [List.length_map, List.length_range] at hi
  rw [List.getElem?_map, List.getElem?_range hi]
  show some (T.d (.tup [.int i, xs.getD i .non])) = _
  rw [List.getD_eq_getElem?_getD, h']
  rfl
theorem PI.or {tg it : Expr} {w w' : TI} (h : PI X tg it w) (h' : PI X tg it w') : PI X tg it (fun σ H R => w σ H R ∨ w' σ H R) := ⟨fun pins s σ H R I q => q.elim (h.run pins s σ H R I) (h'.run pins s σ H R I)⟩
theorem di_enum {tpos : Pos} {elts : List Expr} {kk : Nat} (ha : DA X [e] u) (hm : X.mg "enumerate" = none) (hg : Gl X "enumerate" := by rfl) (hs : starEach [e] X.env = [(false, eval e X.env)] := by rfl) : DI X (.Tuple elts kk tpos) (.Call (.Name "enumerate" p) [e] [] pos) (uiE u) := by
  obtain ⟨ta, pa, sa⟩ := ha.ex
  refine ⟨fun W σ H R => ta W σ H fun vs H1 => ∃ a xs, vs = [.ref a] ∧ SqT X.K H1 a xs ∧ R (IteT X.K a) H1, fun W tk => pi_enumT hg hm (pa W tk) hs, fun W σ H sl ce G m Ri Ed R Rl w h k => ?_⟩
  refine sa W σ H sl ce G m _ Ed _ Rl w h fun ts ce1 G1 m1 vs H1 R1 s1 r1 h1 => ?_
  split at h1
  · next xs =>
    obtain ⟨v, rfl, rv⟩ := RepTL.one' r1
    obtain ⟨a, vs, rfl, ha, ra⟩ := rv
    refine ⟨a, vs, rfl, R1.gh.rdT ha, k _ _ ce1 G1 m1 H1 R1 s1 (ItOk.pair (fx := fun i => some (.int (i : Nat))) (fy := fun i => vs[i]?) (gx := fun i => some (.int (i : Nat))) (gy := fun i => xs[i]?) (Gd := fun H => SqT X.K H a vs) ?_ (fun H' ce' G' m' R g _ => R.gh.rdT (g.sqT ha)) (fun i x e => ⟨_, rfl, by cases e; rfl⟩) (fun i x e => ra.back e) (fun i d d' hi h h' => enumD_get xs i d d' hi h h')) h1⟩
    have w := walk_enumT (K := X.K) (a := a) (xs := vs)
    have e : (enumD xs).length = vs.length := by simp [enumD, ra.length]
    rw [e]; exact w
  · exact h1.elim
end
end DL

namespace DL
open PySem L2
/-! ### a def by its body -/
def startD (N : List Str) (ts : List T) : Sl := ts.map some ++ List.replicate (N.length - ts.length) none
/-- behind a def: its own cells are let go -/
def Rt (n : Nat) (Q : T → Ce → Prop) : T → Ce → Prop := fun t ce' => ∃ ce0 junk, ce' = ce0 ++ junk ∧ n ≤ ce0.length ∧ topB ce0.length t = true ∧ ce0.all (cellB ce0.length) = true ∧ Q t ce0
def Rx (n : Nat) (E : Exc → Ce → Prop) : Ex1 := fun x _ ce' => ∃ ce0 junk, ce' = ce0 ++ junk ∧ n ≤ ce0.length ∧ ce0.all (cellB ce0.length) = true ∧ E x ce0
theorem Rt.same {ce : Ce} {Q : T → Ce → Prop} {t : T} (hce : ce.all (cellB ce.length) = true) (ht : topB ce.length t = true) (h : Q t ce) : Rt ce.length Q t ce := ⟨ce, [], by simp, Nat.le_refl _, ht, hce, h⟩
theorem Rt.drop {ce junk : Ce} {Q : T → Ce → Prop} {t : T} (hce : ce.all (cellB ce.length) = true) (ht : topB ce.length t = true) (h : Q t ce) : Rt ce.length Q t (ce ++ junk) := ⟨ce, junk, rfl, Nat.le_refl _, ht, hce, h⟩
theorem Rx.same {ce : Ce} {E : Exc → Ce → Prop} {x : Exc} {sl : Sl} (hce : ce.all (cellB ce.length) = true) (h : E x ce) : Rx ce.length E x sl ce := ⟨ce, [], by simp, Nat.le_refl _, hce, h⟩
theorem Rx.drop {ce junk : Ce} {E : Exc → Ce → Prop} {x : Exc} {sl : Sl} (hce : ce.all (cellB ce.length) = true) (h : E x ce) : Rx ce.length E x sl (ce ++ junk) := ⟨ce, junk, rfl, Nat.le_refl _, hce, h⟩
theorem RelS.cut {K : PySem.W.Frag} {H H' : Hp} {ce ce0 junk : Ce} {G G' : Hp} {m m' : List Addr} (R : RelS K H ce G m) (R' : RelS K H' (ce0 ++ junk) G' m') (s : Stp H m G H' m' G') (hn : ce.length ≤ ce0.length) (ha : ce0.all (cellB ce0.length) = true) : RelS K H' ce0 G' (m'.take ce0.length) ∧ Stp H m G H' (m'.take ce0.length) G' := by
  have e1 : (ce0 ++ junk).take ce0.length = ce0 := by simp
  have R3 := R'.less ce0.length (by simp) (by rw [e1]; exact ha)
  rw [e1] at R3
  refine ⟨R3, ⟨s.keep, ?_, fun a h => s.new a (List.mem_of_mem_take h), s.gg, s.stay, s.gnew⟩⟩
  obtain ⟨t, rfl⟩ := s.pre
  rw [List.take_append, List.take_of_length_le (by rw [R.len]; exact hn)]
  exact List.prefix_append _ _
theorem rel_start {K : PySem.W.Frag} {H : Hp} {ce : Ce} {G : Hp} {m : List Addr} {N : List Str} {ts : List T} {vs : List V} (R : RelS K H ce G m) (r : RepTL K m G ts vs) : Rel K (L2.start N vs) H (startD N ts) ce G m :=
  { R with
    sln := by simp [L2.start, startD, r.length]
    sls := fun i d h => by
      unfold startD at h
      unfold L2.start
      by_cases q : i < ts.length
      · rw [List.getElem?_append_left (by simpa using q), List.getElem?_map] at h
        cases e : ts[i]? with
        | none => rw [e] at h; cases h
        | some t =>
          rw [e] at h
          cases h
          obtain ⟨v, hv, rv⟩ := r.get e
          refine ⟨v, ?_, rv⟩
          rw [List.getElem?_append_left (by rw [List.length_map, r.length]; exact q), List.getElem?_map, hv]; rfl
      · rw [List.getElem?_append_right (by simpa using q)] at h
        rw [List.getElem?_replicate] at h
        split at h <;> cases h }
section
variable {P : Program} {w : World} {K : PySem.W.Frag} {mg : Str → Option Value} {base : Heap}
theorem fnK {x qual : Str} {st : Stmt} {f : Addr} {fd : FuncData} {N ps : List Str} {k : Nat} {φ : Phi} (F : Fun K x qual st f fd) (S : FnScope N ps (defScope st)) (len : ∀ ts ce Q E, φ ts ce Q E → ts.length = ps.length)
    (body : ∃ us : US, (∀ (cdv : Value) (A : Around) (outer : List Env) (s : Shared) (H : Hp) (E : XK), Room k (A.deeper (PyProof.Rows.envOfC qual (defScope st) s.heap.objs.size f cdv)) →
        PassesOwn (model P w) (cxOf (L2.CX P w) P w K mg base N qual (defScope st) f cdv A outer s H E).A (cxOf (L2.CX P w) P w K mg base N qual (defScope st) f cdv A outer s H E).env (cxOf (L2.CX P w) P w K mg base N qual (defScope st) f cdv A outer s H E).xe →
        DSs (cxOf (L2.CX P w) P w K mg base N qual (defScope st) f cdv A outer s H E) (defBody st) us) ∧
      ∀ ts ce Q E, ce.all (cellB ce.length) = true → φ ts ce Q E → us { nx := fun _ ce' => Rt ce.length Q (.d .non) ce', rt := Rt ce.length Q, ex := Rx ce.length E } (startD N ts) ce) : FnOk P w K mg base (L2.CX P w) (k + 1) f fd ps (spD K φ) := by
  obtain ⟨us, hd, sem⟩ := body
  refine F.okX S (fun vs H Q E h => ?_) fun cdv A outer s H vs Q E hr h => ?_
  · obtain ⟨ce, G, m, ts, Qd, Ed, R, r, hφ, _⟩ := h
    rw [r.length]; exact len ts ce Qd Ed hφ
  · obtain ⟨ce, G, m, ts, Qd, Ed, R, r, hφ, kq, ke⟩ := h
    obtain ⟨tf, pf, sf⟩ := (hd cdv A outer s H E hr (passes_of rfl)).ex
    refine ⟨tf (fun cls d _ H => E cls d H), pf _ (takes_of rfl rfl rfl rfl), ?_⟩
    refine sf _ (L2.start N vs) H (startD N ts) ce G m _ _ (rel_start R r) ?_ (sem ts ce Qd Ed R.tops hφ) ⟨?_, ?_, ?_, ?_⟩
    · intro cls dd σ' H' x sl' ce' G' m' R' s' rx hx
      obtain ⟨ce0, junk, rfl, hn, ha, hE⟩ := hx
      obtain ⟨R2, s2⟩ := R.cut R'.toRelS s' hn ha
      exact ke x ce0 G' _ cls dd H' R2 s2 rx hE
    · intro σ' H' sl' ce' G' m' R' s' hx
      obtain ⟨ce0, junk, rfl, hn, ht, ha, hQ⟩ := hx
      obtain ⟨R2, s2⟩ := R.cut R'.toRelS s' hn ha
      exact kq (.d .non) ce0 G' _ .non H' R2 s2 rfl hQ
    · intro t v H' ce' G' m' R' s' rt hx
      obtain ⟨ce0, junk, rfl, hn, ht, ha, hQ⟩ := hx
      obtain ⟨R2, s2⟩ := R.cut R' s' hn ha
      exact kq t ce0 G' _ v H' R2 s2 (rt.less (by rw [R'.len]; simp) ht) hQ
    · exact fun _ _ _ _ _ _ _ _ z => z.elim
    · exact fun _ _ _ _ _ _ _ _ z => z.elim
theorem fnD {x qual : Str} {st : Stmt} {f : Addr} {fd : FuncData} {N ps : List Str} {k : Nat} {φ : Phi} (F : Fun K x qual st f fd) (S : FnScope N ps (defScope st)) (hb : Binds K fd ps []) (hK : K.In base) (len : ∀ ts ce Q E, φ ts ce Q E → ts.length = ps.length)
    (body : ∃ us : US, (∀ (cdv : Value) (A : Around) (outer : List Env) (s : Shared) (H : Hp) (E : XK), Room k (A.deeper (PyProof.Rows.envOfC qual (defScope st) s.heap.objs.size f cdv)) →
        PassesOwn (model P w) (cxOf (L2.CX P w) P w K mg base N qual (defScope st) f cdv A outer s H E).A (cxOf (L2.CX P w) P w K mg base N qual (defScope st) f cdv A outer s H E).env (cxOf (L2.CX P w) P w K mg base N qual (defScope st) f cdv A outer s H E).xe →
        DSs (cxOf (L2.CX P w) P w K mg base N qual (defScope st) f cdv A outer s H E) (defBody st) us) ∧
      ∀ ts ce Q E, ce.all (cellB ce.length) = true → φ ts ce Q E → us { nx := fun _ ce' => Rt ce.length Q (.d .non) ce', rt := Rt ce.length Q, ex := Rx ce.length E } (startD N ts) ce) : FnX P w K mg base (k + 1) f φ := fnX_of (fnK F S len body) hb hK
end
/-! ### raise -/
abbrev UX := Sl → Ce → (Exc → Ce → Prop) → Ex1 → Prop
structure DMk (X : Cx) (e : Expr) (u : UX) : Prop where
  ex : ∃ tf : WX → St → Hp → XK → Prop, (∀ W, Takes X W → PMk X e (tf W)) ∧ ∀ (W : WX) (σ : St) (H : Hp) (sl : Sl) (ce : Ce) (G : Hp) (m : List Addr) (Qd : Exc → Ce → Prop) (Ed : Ex1) (Qv : XK), Rel X.K σ H sl ce G m → Wish X.K W H m G Ed → u sl ce Qd Ed →
    (∀ x ce' G' m' cls dd H', Rel X.K σ H' sl ce' G' m' → Stp H m G H' m' G' → RepX X.K G' cls dd x → Qd x ce' → Qv cls dd H') → tf W σ H Qv
section
variable {X : Cx} {e a b c : Expr} {ua ub : UE} {ut : UT} {u : UA} {us us' : US} {ux : UX} {pos p : Pos}
def uRaise (ux : UX) : US := fun N sl ce => ux sl ce (fun x ce1 => N.ex x sl ce1) N.ex
theorem ds_raise (he : DMk X e ux) (hc : X.calm = true := by rfl) : DS X (.Raise (some e) none pos) (uRaise ux) := by
  obtain ⟨t, pm, sm⟩ := he.ex
  refine ⟨fun W _ σ H => t W σ H fun cls d H' => W cls d σ H', fun W tk => ps_raise hc tk (pm W tk), fun W σ H sl ce G m N D R w h cv => ?_⟩
  exact sm W σ H sl ce G m _ N.ex _ R w h fun x ce' G' m' cls dd H' R' s' r' q' => w cls dd σ H' x sl ce' G' m' R' s' r' q'
/-- an own class without __init__, made with a text -/
theorem dmk_own {x m : Str} {j : Nat} {p2 : Pos} {C : Addr} {B newId initId : String} {bmB : List Value} (F : ExcBaseFacts B newId initId bmB) (q : PySem.W.excIn X.K C bmB newId = true) (gC : X.mg x = some (.ref C)) (kC : PySem.W.keepIn X.K (.ref C) = true) (r : Raises X (.ref C)) (hg : Gl X x := by rfl)
    (hdb : (x == ("__debug__" : Str)) = false := by decide) : DMk X (.Call (.Name x p) [.Constant (.str m) j p2] [] pos) (fun _ ce Q _ => Q ⟨.ref C, []⟩ ce) := by
  refine ⟨_, fun W tk => pmk_own F q gC kC r hg hdb, fun W σ H sl ce G m Qd Ed Qv R w h k => ?_⟩
  exact k ⟨.ref C, []⟩ ce G m (.ref C) none H R .refl ⟨rfl, rfl⟩ h
/-! ### try .. except -/
def canS (K : PySem.W.Frag) (u : US) (W : WX) : TS := fun D σ H => ∃ (sl : Sl) (ce : Ce) (G : Hp) (m : List Addr) (N : DEnds), Rel K σ H sl ce G m ∧ Wish K W H m G N.ex ∧ u N sl ce ∧ Cv K H m G N D
theorem DSs.can {sts : List Stmt} (h : DSs X sts us) {W : WX} (tk : Takes X W) : PSs X sts (canS X.K us W) := by
  obtain ⟨t, pe, s⟩ := h.ex
  refine ⟨fun pins sh σ H D I hh => ?_⟩
  obtain ⟨sl, ce, G, m, N, R, w, hu, cv⟩ := hh
  exact (pe W tk).run pins sh σ H D I (s W σ H sl ce G m N D R w hu cv)
def excD (a : Addr) (d : Option Addr) (x : Exc) : D := match d with
  | some dd => .exc a dd x.cls x.fs
  | none => .raw (.ref a)
theorem excD_rep {K : PySem.W.Frag} {G : Hp} {a : Addr} {cls : Value} {d : Option Addr} {x : Exc} (r : RepX K G cls d x) : Rep K G (excD a d x) (.ref a) := by
  unfold excD
  split
  · next dd => exact ⟨rfl, r.2⟩
  · rfl
theorem Rel.unset {K : PySem.W.Frag} {σ : St} {H : Hp} {sl : Sl} {ce : Ce} {G : Hp} {m : List Addr} (R : Rel K σ H sl ce G m) (i : Nat) : Rel K (σ.set i none) H (sl.set i none) ce G m :=
  { R.toRelS with
    sln := by simp [R.sln]
    sls := fun j d h => by
      by_cases e : i = j
      · subst e
        by_cases q : i < sl.length
        · rw [List.getElem?_set_self q] at h; cases h
        · rw [List.getElem?_eq_none (by simp; omega)] at h; cases h
      · rw [List.getElem?_set_ne e] at h
        rw [List.getElem?_set_ne e]
        exact R.sls j d h }
/-- try: body except C as n: suite (n in slot i); exm tells which exceptions are the clause's -/
def uTryA (exm : Value → Option Bool) (i : Nat) (ub : US) (usu : Addr → Value → Option Addr → US) : US := fun N sl ce => ub { N with ex := fun x sl' ce' => match exm x.cls with
  | some true => ∀ a d, (d = none → x.fs = []) → usu a x.cls d { nx := fun sl2 ce2 => N.nx (sl2.set i none) ce2, rt := N.rt, ex := E0D, bk := fun sl2 ce2 => N.bk (sl2.set i none) ce2, ct := fun sl2 ce2 => N.ct (sl2.set i none) ce2 } (sl'.set i (some (.d (excD a d x)))) ce'
  | some false => N.ex x sl' ce'
  | none => False } sl ce
theorem ds_tryAs (i : Nat) {body : List Stmt} {b₀ : Stmt} {suite : List Stmt} {x n : Str} {c : Value} {np pos' : Pos} {exm : Value → Option Bool} {usu : Addr → Value → Option Addr → US} (hN : X.N.Nodup) (hc : Names X x c) (hx : ∀ cls b, exm cls = some b → PySem.W.exmOne X.K cls c = some b)
    (hb : ∀ (pn : List (Addr × Obj)) (xe : Value → Shared → Prop), PassesOwn (model X.prog X.w) X.A X.env xe → DSs (X.tr pn xe) body us)
    (hsu : ∀ (a : Addr) (oe : Obj) (cls : Value) (d : Option Addr) (pn : List (Addr × Obj)), Zc cls d oe → (∃ vs, oe.data = .fields vs) → DSs (X.suite a ((a, oe) :: pn)) (b₀ :: suite) (usu a cls d))
    (hi : X.N[i]? = some n := by rfl) (hln : X.env.kindOf n = some .local := by rfl) (hs : X.stack = X.env :: X.outer := by rfl) (hf : X.env.frame = some X.env.locals := by rfl) :
    DS X (.Try body [.ExceptHandler (some (.Name x np)) (some n) (b₀ :: suite) pos'] [] [] pos) (uTryA exm i us usu) := by
  refine ⟨fun W D σ H => canS X.K us (wAs X.K c i (fun a cls d => canS X.K (usu a cls d) WF) W D) D σ H, fun W tk => ps_try_as (tb := fun W => canS X.K us W) (ts := fun a cls d => canS X.K (usu a cls d) WF) hs hf hN hi hln hc tk (fun W' pn xe tk' po => (hb pn xe po).can tk') (fun a oe cls d pn hz hf => (hsu a oe cls d pn hz hf).can takesF), fun W σ H sl ce G m N D R w h cv => ?_⟩
  refine ⟨sl, ce, G, m, _, R, ?_, h, ⟨cv.nx, cv.rt, cv.bk, cv.ct⟩⟩
  intro cls dd σ' H' y sl' ce' G' m' R' s' rx hy
  have ec : y.cls = cls := rx.1
  dsimp only at hy
  split at hy
  · next e =>
    refine ⟨true, hx cls true (by rw [← ec]; exact e), fun _ a ha => ?_, fun q => Bool.noConfusion q⟩
    have hn : dd = none → y.fs = [] := fun q => by
      have := rx.2
      rw [q] at this
      exact this
    have h2 := hy a dd hn
    rw [ec] at h2
    refine ⟨_, ce', G', m', _, R'.set i (t := .d (excD a dd y)) (v := .ref a) (excD_rep rx), wishF, h2, ⟨?_, ?_, ?_, ?_⟩⟩
    · exact fun σ4 H4 sl4 ce4 G4 m4 R4 s4 h4 => cv.nx _ H4 _ ce4 G4 m4 (R4.unset i) (s'.trans s4) h4
    · exact fun t v H4 ce4 G4 m4 R4 s4 r4 h4 => cv.rt t v H4 ce4 G4 m4 R4 (s'.trans s4) r4 h4
    · exact fun σ4 H4 sl4 ce4 G4 m4 R4 s4 h4 => cv.bk _ H4 _ ce4 G4 m4 (R4.unset i) (s'.trans s4) h4
    · exact fun σ4 H4 sl4 ce4 G4 m4 R4 s4 h4 => cv.ct _ H4 _ ce4 G4 m4 (R4.unset i) (s'.trans s4) h4
  · next e =>
    refine ⟨false, hx cls false (by rw [← ec]; exact e), fun q => Bool.noConfusion q, fun _ => ?_⟩
    exact w cls dd σ' H' y sl' ce' G' m' R' s' rx hy
  · exact hy.elim
/-- try: body except C: suite -/
def uTryO (exm : Value → Option Bool) (ub : US) (usu : US) : US := fun N sl ce => ub { N with ex := fun x sl' ce' => match exm x.cls with
  | some true => usu { N with ex := E0D } sl' ce'
  | some false => N.ex x sl' ce'
  | none => False } sl ce
theorem ds_tryOnly {body : List Stmt} {b₀ : Stmt} {suite : List Stmt} {x : Str} {c : Value} {np pos' : Pos} {exm : Value → Option Bool} (hc : Names X x c) (hx : ∀ cls b, exm cls = some b → PySem.W.exmOne X.K cls c = some b)
    (hb : ∀ (pn : List (Addr × Obj)) (xe : Value → Shared → Prop), PassesOwn (model X.prog X.w) X.A X.env xe → DSs (X.tr pn xe) body us)
    (hsu : ∀ (a : Addr) (oe : Obj) (cls : Value) (d : Option Addr) (pn : List (Addr × Obj)), Zc cls d oe → (∃ vs, oe.data = .fields vs) → DSs (X.suite a ((a, oe) :: pn)) (b₀ :: suite) us')
    (hs : X.stack = X.env :: X.outer := by rfl) (hf : X.env.frame = some X.env.locals := by rfl) :
    DS X (.Try body [.ExceptHandler (some (.Name x np)) none (b₀ :: suite) pos'] [] [] pos) (uTryO exm us us') := by
  refine ⟨fun W D σ H => canS X.K us (wOnly X.K c (fun a cls d => canS X.K us' WF) W D) D σ H, fun W tk => ps_try_only (tb := fun W => canS X.K us W) (ts := fun a cls d => canS X.K us' WF) hs hf hc tk (fun W' pn xe tk' po => (hb pn xe po).can tk') (fun a oe cls d pn hz hf => (hsu a oe cls d pn hz hf).can takesF), fun W σ H sl ce G m N D R w h cv => ?_⟩
  refine ⟨sl, ce, G, m, _, R, ?_, h, ⟨cv.nx, cv.rt, cv.bk, cv.ct⟩⟩
  intro cls dd σ' H' y sl' ce' G' m' R' s' rx hy
  have ec : y.cls = cls := rx.1
  dsimp only at hy
  split at hy
  · next e =>
    refine ⟨true, hx cls true (by rw [← ec]; exact e), fun _ a ha => ?_, fun q => Bool.noConfusion q⟩
    exact ⟨sl', ce', G', m', _, R', wishF, hy, ⟨(cv.step s').nx, (cv.step s').rt, (cv.step s').bk, (cv.step s').ct⟩⟩
  · next e =>
    refine ⟨false, hx cls false (by rw [← ec]; exact e), fun q => Bool.noConfusion q, fun _ => ?_⟩
    exact w cls dd σ' H' y sl' ce' G' m' R' s' rx hy
  · exact hy.elim
/-- e.f of a caught error -/
def uXf (a : Addr) (cls : Value) (d : Option Addr) (C : Addr) (n : Str) (ua : UE) : UE := fun sl ce Q E => ua sl ce (fun t ce1 => match t with
  | .d (.exc a' dd _ fs) => a' = a ∧ cls = .ref C ∧ d = some dd ∧ match fs.lookup n with
    | some v => Q (.d v) ce1
    | none => False
  | _ => False) E
theorem de_xf {ad C : Addr} {oe : Obj} {cls : Value} {d : Option Addr} {pn : List (Addr × Obj)} {n : Str} (TT : XfC X.K C) (hno : PySem.W.findIn X.K (.ref C) n = some none) (hz : Zc cls d oe) (hf : ∃ vs, oe.data = .fields vs) (he : DE (X.suite ad ((ad, oe) :: pn)) e ua) (hb : attributeBase e n X.env (eval e X.env) = eval e X.env := by rfl) :
    DE (X.suite ad ((ad, oe) :: pn)) (.Attribute e n pos) (uXf ad cls d C n ua) := by
  obtain ⟨t, pe, s⟩ := he.ex
  refine ⟨_, fun W tk => pe_xf TT hno hz hf (pe W tk) hb, fun W σ H sl ce G m Qd Ed Qv R w h k => ?_⟩
  refine s W σ H sl ce G m _ Ed _ R w h fun x ce1 G1 m1 v H1 R1 s1 r1 h1 => ?_
  split at h1
  · next a' dd cls' fs =>
    obtain ⟨rfl, rfl, rfl, h1⟩ := h1
    split at h1
    · next y q =>
      obtain ⟨rfl, ws, hg, rf⟩ := r1
      obtain ⟨v, hv, rv⟩ := rf.lookup q
      have hH : H1 dd = some (.xd ws) := by
        rcases R1.gh _ _ hg with z | ⟨⟨_, q⟩, _⟩
        · exact z
        · cases q
      exact ⟨rfl, rfl, dd, ws, v, rfl, hH, hv, k (.d y) ce1 G1 m1 v H1 R1 s1 rv h1⟩
    · exact h1.elim
  · exact h1.elim
end
end DL

namespace PySem.KX
open PySem.W PySem.HandSPX
section
variable {M : Model} {A : Around} {E : Value → Shared → Prop} {h : Heap} {g : Array GenState} {d : Drawn} {t : Nat} {os : OsState}
variable {nm q : Str} {C N : Addr} {bs bm bmB : List Value} {hdct : Bool} {sn : List Str} {sub : List Value} {ab : Bool} {col : Option Bool} {dd : Option Addr} {k0 k1 k2 k3 k5 : Option Value} {B newId initId : String}
theorem check_new_kw (F : ExcBaseFacts B newId initId bmB) (hT : ∀ X : String, bm.contains (.type X) = bmB.contains (.type X)) {kw : List (Str × Value)} {Q : Unit → Shared → Prop}
    (hC : h.get? C = some (excClassObj nm q C N bs bm hdct sn sub ab col dd k0 k1 k2 k3 k5 newId)) (hq : Q () ⟨h, g, d, t, os⟩) : wpAny M A (checkBuiltinCall newId ⟨[.ref C], kw⟩) Q E ⟨h, g, d, t, os⟩ := by
  have hcont : (Value.ref C :: bm).contains (.type B) = true := by rw [List.contains_cons, hT, F.hasB, Bool.or_true]
  have hstar := F.noStar
  simp only [checkBuiltinCall, F.newKind, F.newSplit, F.newRow]
  repeat (first | refine wpAny_loadPart_at hC ?_ | (refine wpAny_isSubtype_exc hC ?_; rw [hcont]) | refine wpAny_staticBase_exc hC ?_ | refine wpAny_madeBy_exc hC ?_ | simp only [bne_self_eq_false, Bool.false_eq_true, if_false] | wp_step)
  exact hq
end
end PySem.KX

namespace PySem.KX
open PySem.W PySem.HandSPX PySem.Calls PyProof.Rows
section
variable {prog : Program} {w : World} {A : Around} {E : Value → Shared → Prop} {R : Result → Shared → Prop} {h : Heap} {g : Array GenState} {d : Drawn} {t : Nat} {os : OsState}
variable {nm q : Str} {C N : Addr} {bs bm bmB : List Value} {hdct : Bool} {sn : List Str} {sub : List Value} {ab : Bool} {col : Option Bool} {dd : Option Addr} {k0 k1 k2 k3 k5 : Option Value} {B newId initId : String} {kw : List (Str × Value)}
theorem new_kw (F : ExcBaseFacts B newId initId bmB) (hT : ∀ X : String, bm.contains (.type X) = bmB.contains (.type X))
    (hC : h.get? C = some (excClassObj nm q C N bs bm hdct sn sub ab col dd k0 k1 k2 k3 k5 newId))
    (hq : R (.ok (.ret (.ref (h.objs.size + 1)))) ⟨(h.push (kdv_tup [])).push (excO C h.objs.size), g, d, t, os⟩) :
    codeAny (model prog w) A (.builtin newId ⟨[.ref C], kw⟩) R ⟨h, g, d, t, os⟩ := by
  have hends := F.ends
  have cB : (Value.ref C :: bm).contains (.type B) = true := by rw [List.contains_cons, hT, F.hasB, Bool.or_true]
  have cA : (Value.ref C :: bm).contains (.type "AttributeError") = false := by rw [List.contains_cons, hT, F.noAttr]; rfl
  have cN : (Value.ref C :: bm).contains (.type "NameError") = false := by rw [List.contains_cons, hT, F.noName]; rfl
  refine codeAny_builtinAt F.entry ?_
  unfold Builtin.«BaseException.__new__»
  refine wpAt_bind ?_
  show wpAt _ _ _ (stack >>= _) _ _ _
  refine wpAt_bind (wpAt_stack fun p below => wpAt_of_wpAny ?_)
  wp_walk
  refine wpAt_of_wpAny ?_
  rw [F.owner]
  repeat (first | with_reducible refine wpAny_madeHere_exc F.canon hC ?_ | with_reducible refine wpAny_loadPart_at hC ?_ | (with_reducible refine wpAny_isSubtype_exc hC ?_; first | rw [cB] | rw [cA] | rw [cN]) | wp_step)
  show R _ _
  rw [Heap.size_push]
  exact hq
theorem type_call_kw (F : ExcBaseFacts B newId initId bmB) (hT : ∀ X : String, bm.contains (.type X) = bmB.contains (.type X)) {fI : Addr} {Q : Fin → Shared → Prop}
    (hC : h.get? C = some (excClassObj nm q C N bs bm hdct sn sub ab col dd k0 k1 k2 k3 k5 newId))
    (hi : W.Looks (model prog w) h (typeLookup (.ref C) "__init__") (some (.ref fI))) (hb : ∀ self, W.Looks (model prog w) h (bindSpecial (.ref fI) self) (.ref fI, [self]))
    (hq : codeAny (model prog w) A (.call (.ref fI) ⟨[.ref (h.objs.size + 1)], kw⟩)
      (fun r s' => match r with | .ok (.ret v) => v = .none ∧ Q (.done (.ret (.ref (h.objs.size + 1)))) s' | .ok _ => False | .error e => E e s')
      ⟨(h.push (kdv_tup [])).push (excO C h.objs.size), g, d, t, os⟩) :
    wpAny (model prog w) A (Builtin.«type.__call__» ⟨[.ref C], kw⟩) Q E ⟨h, g, d, t, os⟩ := by
  repeat (first | with_reducible refine wpAny_loadPart_at hC ?_ | with_reducible refine wpAny_madeBy_exc hC ?_ | wp_step)
  refine codeAny_call_builtin_code (Code.quiet_builtin _ F.quiet) (check_new_kw F hT hC ?_)
  refine new_kw F hT hC ?_
  show wpAny _ _ _ _ _ _
  have k : ∀ b o, h.get? b = some o → ((h.push (kdv_tup [])).push (excO C h.objs.size)).get? b = some o := fun b o e => Heap.get?_push_of_some _ (Heap.get?_push_of_some _ e)
  have hC₁ := k _ _ hC
  have hget : ((h.push (kdv_tup [])).push (excO C h.objs.size)).get? (h.objs.size + 1) = some (excO C h.objs.size) := by heap_get
  have cC : (Value.ref C :: bm).contains (.ref C) = true := by simp
  have i1 := hi.keeps k
  have b1 := (hb (.ref (h.objs.size + 1))).keeps k
  unfold isInstance
  repeat (first | with_reducible refine wpAny_loadPart_at hget ?_ | (with_reducible refine wpAny_isSubtype_exc hC₁ ?_; rw [cC]) | wp_step)
  show wpAny _ _ (typeLookup (.ref C) _) _ _ _
  refine i1.at ?_
  refine wpAny_holding (wpAny_bind (b1.at ?_))
  refine wpAny_bind (wpAny_call (codeAny_mono hq fun r s' z => ?_))
  rcases r with e | (v | _ | _ | _) <;> first | exact z | exact z.elim | skip
  obtain ⟨rfl, z⟩ := z
  first
    | exact wpAny_pure (wpAny_pure z)
    | (wp_walk; exact z)
theorem call_kw (F : ExcBaseFacts B newId initId bmB) (hT : ∀ X : String, bm.contains (.type X) = bmB.contains (.type X)) {fI : Addr}
    (hC : h.get? C = some (excClassObj nm q C N bs bm hdct sn sub ab col dd k0 k1 k2 k3 k5 newId))
    (hi : W.Looks (model prog w) h (typeLookup (.ref C) "__init__") (some (.ref fI))) (hb : ∀ self, W.Looks (model prog w) h (bindSpecial (.ref fI) self) (.ref fI, [self]))
    (hq : codeAny (model prog w) (A.under (.builtin "type.__call__" ⟨[.ref C], kw⟩)) (.call (.ref fI) ⟨[.ref (h.objs.size + 1)], kw⟩) (W.InitBack (h.objs.size + 1) R)
      ⟨(h.push (kdv_tup [])).push (excO C h.objs.size), g, d, t, os⟩) :
    codeAny (model prog w) A (.call (.ref C) ⟨[], kw⟩) R ⟨h, g, d, t, os⟩ := by
  have f1 := tc_lookup
  have f2 := tc_bind (.ref C)
  have hTy : (⟨h, g, d, t, os⟩ : Shared).TypeIs (.ref C) "type" := ⟨_, hC, rfl⟩
  refine codeAny_of_tree ?_
  show wpAny _ _ (callAny (.ref C) _) _ _ _
  repeat (any_goals (first | assumption | with_reducible refine wpAny_loadPart_at hC ?_ | wp_step))
  refine ⟨rfl, ?_⟩
  refine codeAny_call_builtin_at (Code.quiet_builtin _ (by decide +kernel)) entry_typeCall (wpAny_check_type_call_sub hC (type_call_kw F hT hC hi hb ?_))
  refine codeAny_mono hq fun r s' z => ?_
  rcases r with e | (v | _ | _ | _) <;> exact z
/-- ValueError.__init__ bound to e, called: the args are laid anew -/
theorem call_bwV {u e t0 : Addr} {rest : List Value} {Q : Value → Shared → Prop}
    (hC : h.get? C = some (excClassObj nm q C N bs bm hdct sn sub ab col dd k0 k1 k2 k3 k5 "ValueError.__new__")) (he : h.get? e = some (excO C t0)) (hu : h.get? u = some (kxs_mw "ValueError.__init__" e)) (hrest : rest.length ≤ sizeLine)
    (hq : ∀ h' t1, (∀ b o, b ≠ e → h.get? b = some o → h'.get? b = some o) → h'.get? e = some (excO C t1) → Q .none ⟨h', g, d, t, os⟩) :
    wpAny (model prog w) A (call (.ref u) rest) Q E ⟨h, g, d, t, os⟩ := by
  refine wpAny_call (codeAny_of_tree ?_)
  show wpAny _ A.in1 (callAny (.ref u) ⟨rest, []⟩) _ _ _
  simp only [callAny]
  refine wpAny_bind (wpAny_load hu ?_)
  simp only [kxs_mw, show (Value.type "method-wrapper" == Value.type "method" || Value.type "method-wrapper" == Value.type "builtin_function_or_method" || Value.type "method-wrapper" == Value.type "method-wrapper") = true by decide, if_true]
  refine W.KFB.if_so (by decide) ?_
  refine wpAny_bind (ESX.check_bound F.excBase_ValueError hC he rfl ?_)
  refine wpAny_bind (wpAny_pure (wpAny_pure ?_))
  refine ⟨Code.quiet_builtin _ (by decide +kernel), codeAny_builtin F.excBase_ValueError.initEntry ?_⟩
  rw [Around.under_plainId F.excBase_ValueError.init.plain _]
  wp_walk
  refine hq _ h.objs.size (fun b o hb ho => ?_) ?_
  · rw [Heap.get?_update_other _ _ (Ne.symm hb)]
    exact Heap.get?_push_of_some _ ho
  · rw [Heap.get?_update_self _ (Heap.get?_push_of_some _ he) rfl]
    rfl
end
section
open Builtin Builtin.ObjectAttr
variable {prog : Program} {w : World} {A : Around} {E : Value → Shared → Prop} {R : Result → Shared → Prop} {hp : Heap} {g : Array GenState} {d : Drawn} {t : Nat} {os : OsState}
/-- self.name = v where the exception has its dict -/
theorem osaV_old {K : W.Frag} {name : Str} {tk : Tok} {v : Value} {x C dx : Addr} {fv : Array Value} {cd : ClassData} {m0 : Str → Option Value} {nl : List Str}
    (X : K.In hp) (hx : hp.get? x = some { cls := .ref C, dict := some dx, data := .fields fv }) (hns : hp.Ns1 dx m0) (hw : Within m0 nl) (hz : nl.length ≤ 1000) (hcd : W.clsIn K C = some cd) (hm : refsVE cd.mro = true) (hh : cd.hasDict = true)
    (ha : W.findIn K (.ref C) name = some none)
    (hq : ∀ h' tk', (∀ b o, b ≠ dx → hp.get? b = some o → h'.get? b = some o) → h'.Ns1 dx (fun y => if y = name then some v else m0 y) → R (.ok (.ret .none)) ⟨h', g, d, tk', os⟩) :
    codeAny (model prog w) A (.call (.builtin "object.__setattr__") ⟨[.ref x, .str name tk, v], []⟩) R ⟨hp, g, d, t, os⟩ := by
  obtain ⟨oD, esD, epD, hoD, hdD, _⟩ := hns.count hw
  have I : W.InstAt hp x { cls := .ref C, dict := some dx, data := .fields fv } C (some oD) := ⟨hx, rfl, rfl, hoD⟩
  have SF := F.store_object
  have ne := refsVE_ne hm
  have hob : cd.mro.contains (.type "object") = true := (refsVE_contains "object" _ hm).trans (by decide +kernel)
  have sub : W.Looks (model prog w) hp (isInstance (.ref x) (.type "object")) true := I.type.andThen (W.looks_mroIn X (by unfold W.mroIn; rw [hcd, Option.bind_some, if_neg (by rw [ne]; decide), hob]))
  refine codeAny_call_builtin SF.slot.plain SF.entry (@W.check_slot (model prog w) _ _ ⟨hp, g, d, t, os⟩ "object.__setattr__" "object" "__setattr__" (.ref x) [.str name tk, v] [] _ SF.kind SF.split sub (SF.args (.ref x) (.str name tk) v) ?_)
  have mr : W.Looks (model prog w) hp (mroOf (.ref C)) cd.mro := (W.looks_clsIn X hcd).andThen .now
  have L3 : W.Looks (model prog w) hp (storeTaker? none) none := .now
  have hcls : W.Looks (model prog w) hp (classData C) cd := W.looks_clsIn X hcd
  rw [W.osa_eq, refuse_eq]
  refine wpAny_bind (wpAny_bind (I.type.at (wpAny_bind (mr.at ?_))))
  rw [refsVE_pass _ _ hm]
  refine wpAny_pure (wpAny_bind (I.type.at (wpAny_bind ((W.looks_findIn X ha).at (wpAny_bind (L3.at ?_))))))
  show wpAny _ _ (storeInOwnDict (.ref x) (.ref C) (.str name tk) name v false) _ _ _
  obtain ⟨nm, bs, mro, ns, qn, hd, sn, sb, ab, col, del⟩ := cd
  dsimp only at hh
  subst hh
  unfold storeInOwnDict ownDictForStores
  repeat (first | with_reducible refine ESX.store_in_old hns hw hz ?_ | with_reducible refine wpAny_loadPart_at hx ?_ | with_reducible refine hcls.at ?_ | wp_step)
  intro h' tk' hn' hs
  exact hq h' tk' (fun b o hb ho => (hs.2 b hb).trans ho) hn'
end
end PySem.KX

namespace PySem.KX
open PySem.W PySem.HandSPX PySem.Calls PyProof.Rows
/-- super().__init__(txt) -/
def sStmt (p0 p1 p2 p3 p4 p5 : Pos) (txt : Str) (j : Nat) : Stmt := .Expr (.Call (.Attribute (.Call (.Name "super" p0) [] [] p1) "__init__" p2) [.Constant (.str txt) j p3] [] p4) p5
/-- self.n = n -/
def fStmt (n : Str) (q1 q2 q3 q4 : Pos) : Stmt := .Assign [.Attribute (.Name "self" q1) n q2] (.Name n q3) q4
/-- what the written part tells of an exception's class -/
structure XCls (P : Program) (K : Frag) (mg : Str → Option Value) (C fI : Addr) (ns : List Str) : Prop where
  cls : ∃ nm q N bs bm sn sub ab col dd k0 k1 k2 k3 k5, K.lookup C = some (excClassObj nm q C N bs bm true sn sub ab col dd k0 k1 k2 k3 k5 "ValueError.__new__") ∧ refsVE bm = true
  sa : findIn K (.ref C) "__setattr__" = some (some (.builtin "object.__setattr__"))
  noN : ∀ n ∈ ns, findIn K (.ref C) n = some none
  iC : findIn K (.ref C) "__init__" = some (some (.ref fI))
  tC : typeIn K (.ref fI) = some (.type "function")
  sup : ks_superIn K C C "__init__" = some (some (.builtin "ValueError.__init__"))
  third : nsIn K cStatics "thirdparty.any" = some none
  exV : subIn K (.ref C) (.type "ValueError") = some true
  self : mroIn K C (.ref C) = some true
  mgs : mg "super" = none
  top : (P.main.scope.names.lookup ("super" : Str)).isSome = false
/-- its __init__ -/
structure XFn (P : Program) (K : Frag) (C fI : Addr) (qual : Str) (params : Arguments) (body : List Stmt) (scope : Scope) (dV kV doc pm : Value) (an : Option Addr) (cda : Addr) (ct : Value) (cc : Addr) : Prop where
  fn : ∃ oc od osl, K.lookup fI = some ⟨oc, od, .func (ksFn "__init__" qual params body scope dV kV doc pm an (.ref cda) ct cc), osl⟩
  code : codeIn K (.ref cda) qual = true
  file : ∃ ccl cdd vs ccs file tf, K.lookup cda = some ⟨ccl, cdd, .fields vs, ccs⟩ ∧ vs[2]? = some (.str file tf) ∧ ((P.main.file : Str) == file) = true
  cell : ∃ cl cld csl, K.lookup cc = some ⟨cl, cld, .cell (some (.ref C)), csl⟩
  head : ∃ ar, (params.posonlyargs ++ params.args).head? = some ar ∧ ar.arg = "self"
  ks : scope.names.lookup ("super" : Str) = some .globalImplicit
  kc : scope.names.lookup ("__class__" : Str) = some .free
  ka : scope.names.lookup ("self" : Str) = some .local
  nocell : ∀ x ∈ scope.names, x.2 ≠ .cell
  co : scope.isCoroutine = false
  gen : scope.isGenerator = false
  kd : scope.kind = .function
section
variable {P : Program} {w : World} {A : Around} {E : Value → Shared → Prop} {R : Result → Shared → Prop} {K : Frag} {mg : Str → Option Value} {C fI : Addr} {ns : List Str} {qual : Str} {params : Arguments} {body : List Stmt} {scope : Scope} {dV kV doc pm : Value} {an : Option Addr} {cda : Addr} {ct : Value} {cc : Addr}
theorem kept_but {h h' : Heap} {x : Addr} (X : K.In h) (hx : K.lookup x = none) (k : ∀ b o, b ≠ x → h.get? b = some o → h'.get? b = some o) : K.In h' := fun a o e =>
  k a o (fun z => by rw [z, hx] at e; cases e) (X a o e)
theorem txt_size (v : Value) : [v].length ≤ sizeLine := by
  rw [sizeLine_eq]
  exact (by decide : 1 ≤ 16777216)
theorem at_meth {M : Model} {A : Around} {E : Value → Shared → Prop} {s : Shared} {c : Code} {env : Env} {o e : Expr} {name : Str} {apos pos : Pos} {Q : Value → Shared → Prop} (hs : starEach [e] env = [(false, eval e env)]) (hline : (apos.endLine == pos.line) = true)
    (h : _root_.PySem.wpAt M A c (attributeBase o name env (eval o env)) (fun ov s₁ => ∀ pl, wpAny M A (getMethod ov name pl) (fun fx s₂ => wpAny M A (callWith pos fx.1 fx.2 [(false, eval e env)] []) Q E s₂) E s₁) E s) :
    _root_.PySem.wpAt M A c (eval (.Call (.Attribute o name apos) [e] [] pos) env) Q E s := by
  rw [arm_eval_Call]
  refine wpAt_bind (wpAt_mono h (fun ov s₁ h₁ => wpAt_of_wpAny ?_) fun _ _ x => x)
  refine wpAny_bind (wpAny_standAt ?_)
  rw [hs]
  have hform : methodCallForm ([e].length + ([] : List Keyword).length) (backTo pos [(false, eval e env)]) (backToKw pos (keywordEach [] env)) = true := rfl
  have hpos : methodCallPos true o env apos pos = pure pos := by unfold methodCallPos; simp [hline]
  unfold methodCall
  rw [hform]
  refine wpAny_bind (wpAny_holding (wpAny_mono (h₁ _) (fun fx s₂ h₂ => ?_) fun _ _ x => x))
  exact wpAny_bind (wpAny_of_eq hpos h₂)
/-- super().__init__(txt), run -/
theorem run_super {s : Shared} {L x t0 : Addr} {m mb : Str → Option Value} {body0 : List Stmt} {Q : Flow → Shared → Prop} {p0 p1 p2 p3 p4 p5 : Pos} {txt : Str} {j : Nat} (hline : (p2.endLine == p4.line) = true) (T : XCls P K mg C fI ns) (Fn : XFn P K C fI qual params body scope dV kV doc pm an cda ct cc)
    (X : K.In s.heap) (hg : s.heap.Ns mainGlobals mg) (hb : s.heap.Ns builtinsNs mb) (hbs : mb "super" = some (.type "super")) (hn : s.heap.Ns L m) (hv : m "self" = some (.ref x)) (hx : s.heap.get? x = some (excO C t0)) (hxL : x ≠ L) (hnx : K.lookup x = none)
    (hq : ∀ h' tk t1, (∀ b o, b ≠ x → s.heap.get? b = some o → h'.get? b = some o) → h'.get? x = some (excO C t1) → Q .next { s with heap := h', toks := tk }) :
    _root_.PySem.wpAt (model P w) A (.func body0 (ksEnv qual scope L fI (.ref cda) cc)) (exec (sStmt p0 p1 p2 p3 p4 p5 txt j) (ksEnv qual scope L fI (.ref cda) cc)) Q E s := by
  obtain ⟨oc, od, osl, hfn⟩ := Fn.fn
  obtain ⟨ccl, cdd, vs, ccs, file, tf, hcda, hvs, hfile⟩ := Fn.file
  obtain ⟨cl, cld, csl, hcell⟩ := Fn.cell
  obtain ⟨ar, hp, har⟩ := Fn.head
  obtain ⟨nm, q, N, bs, bm, sn, sub, ab, col, dd, k0, k1, k2, k3, k5, hC, hbm⟩ := T.cls
  obtain ⟨hh, g, d, t, os⟩ := s
  have hCx : x ≠ C := fun z => by rw [z, hC] at hnx; cases hnx
  have I : InstAt hh x (excO C t0) C none := ⟨hx, rfl, rfl, trivial⟩
  have hI : Looks (model P w) hh (isInstance (.ref x) (.type "ValueError")) true := I.type.andThen (looks_subIn X T.exV)
  unfold sStmt
  refine ks_wpAt_Expr_any (at_meth (by rfl) hline ?_) (by unfold interactive; rw [show (ksEnv qual scope L fI (.ref cda) cc).scope.kind = .function from Fn.kd]; rfl)
  refine ks_wpAt_super_base (env := ksEnv qual scope L fI (.ref cda) cc) Fn.ks Fn.kc (by decide) rfl (X _ _ hfn) rfl hp rfl (X _ _ hcda) rfl hvs hfile T.top ?_
  refine ks_loadName_global Fn.kd Fn.ks (loadGlobal_builtin (env := ksEnv qual scope L fI (.ref cda) cc) hg T.mgs hb hbs ⟨rfl, ?_⟩)
  refine wpAny_loadName_free Fn.kd Fn.kc rfl ⟨_, X _ _ hcell, rfl⟩ ?_
  rw [har]
  refine wpAny_loadName_local Fn.kd Fn.ka hn hv ?_
  refine ks_wpAny_isType_cls (X _ _ hC) rfl ⟨rfl, ?_⟩
  refine ks_wpAny_call_super (X _ _ hC) rfl hx rfl (fun c e => by cases e) (looks_mroIn X T.self) (fun h1 e1 k1' pl => ?_)
  have X1 : K.In h1 := X.keeps k1'
  have hx1 := k1' _ _ hx
  have I1 : InstAt h1 x (excO C t0) C none := ⟨hx1, rfl, rfl, trivial⟩
  have hsup := T.sup
  unfold ks_superIn at hsup
  cases hcl : clsIn K C with
  | none => rw [hcl] at hsup; cases hsup
  | some cd =>
    rw [hcl, Option.bind_some] at hsup
    refine kxs_getMethod kxs_ValueError e1 (looks_opaque X1 T.third) (l₀ := cd.mro) (fun A Q E s k q => wpAny_bind ((looks_clsIn X1 hcl) A _ E s k (wpAny_pure q))) rfl X1 hsup (hI.keeps k1') hCx (by decide) ?_
    have k2' : ∀ b o, h1.get? b = some o → (h1.push (kxs_mw "ValueError.__init__" x)).get? b = some o := fun b o e => Heap.get?_push_of_some _ e
    have hu : (h1.push (kxs_mw "ValueError.__init__" x)).get? h1.objs.size = some (kxs_mw "ValueError.__init__" x) := Heap.get?_push_at rfl rfl
    refine kxs_callWith (i := "ValueError.__init__") (x := x) rfl (evalArgs_plain ?_)
    refine Calls.spliced_cons (Calls.Constant_str ?_)
    refine Calls.spliced_nil ⟨hu, ?_⟩
    refine call_bwV (k2' _ _ (X1 _ _ hC)) (k2' _ _ hx1) hu (txt_size _) fun h3 t1 k3 e3 => ?_
    exact hq h3 _ t1 (fun b o hb e => k3 b o hb (k2' b o (k1' b o e))) e3
end
end PySem.KX

namespace PySem.KX
open PySem.W PySem.HandSPX PySem.Calls PyProof.Rows
structure InitEnd (h h' : Heap) (x C dx t1 : Addr) (m : Str → Option Value) : Prop where
  keep : ∀ b o, b ≠ x → h.get? b = some o → h'.get? b = some o
  obj : h'.get? x = some { cls := .ref C, dict := some dx, data := .fields #[.ref t1, .none, .none, .none, .bool false, .none] }
  dbig : h.objs.size ≤ dx
  dne : dx ≠ x
  ns : h'.Ns1 dx m
structure OwnMade (h h' : Heap) (e C d : Addr) (m : Str → Option Value) : Prop where
  keep : ∀ b o, h.get? b = some o → h'.get? b = some o
  new : h.objs.size ≤ e
  obj : ∃ oe vs, h'.get? e = some oe ∧ oe.cls = .ref C ∧ oe.dict = some d ∧ oe.data = .fields vs ∧ vs[1]? = some .none
  dbig : h.objs.size ≤ d
  dne : d ≠ e
  ns : h'.Ns1 d m
section
variable {P : Program} {w : World} {A : Around} {E : Value → Shared → Prop} {R : Result → Shared → Prop} {K : Frag} {mg : Str → Option Value} {C fI : Addr} {ns : List Str} {qual : Str} {params : Arguments} {body : List Stmt} {scope : Scope} {dV kV doc pm : Value} {an : Option Addr} {cda : Addr} {ct : Value} {cc : Addr}
theorem ld_own {M : Model} {s : Shared} {L : Addr} {m : Str → Option Value} {n : Str} {v : Value} {pos : Pos} {Q : Value → Shared → Prop} (hk : scope.kind = .function) (hl : scope.names.lookup n = some .local) (hn : s.heap.Ns L m) (hv : m n = some v) (hd : (n == ("__debug__" : Str)) = false) (h : Q v s) :
    wpAny M A (eval (.Name n pos) (ksEnv qual scope L fI (.ref cda) cc)) Q E s := wpAny_Name (wpAny_loadName_local hk hl hn hv h) hd
/-- self.n = n, the first one -/
theorem run_first {s : Shared} {L x t0 : Addr} {m : Str → Option Value} {Q : Flow → Shared → Prop} {n : Str} {v : Value} {q1 q2 q3 q4 : Pos} (T : XCls P K mg C fI ns) (hk : scope.kind = .function) (ka : scope.names.lookup ("self" : Str) = some .local) (kn : scope.names.lookup n = some .local) (hmem : n ∈ ns) (hd : (n == ("__debug__" : Str)) = false)
    (X : K.In s.heap) (hn : s.heap.Ns L m) (hv : m "self" = some (.ref x)) (hvn : m n = some v) (hx : s.heap.get? x = some (excO C t0))
    (hq : ∀ h' tk dx, (∀ b o, b ≠ x → s.heap.get? b = some o → h'.get? b = some o) → s.heap.objs.size ≤ dx → dx ≠ x → h'.get? x = some { cls := .ref C, dict := some dx, data := .fields #[.ref t0, .none, .none, .none, .bool false, .none] } →
      h'.Ns1 dx (fun y => if y = n then some v else none) → Q .next { s with heap := h', toks := tk }) :
    wpAny (model P w) A (exec (fStmt n q1 q2 q3 q4) (ksEnv qual scope L fI (.ref cda) cc)) Q E s := by
  obtain ⟨nm, q, N, bs, bm, sn, sub, ab, col, dd, k0, k1, k2, k3, k5, hC, hbm⟩ := T.cls
  have hcl : clsIn K C = some { name := nm, bases := bs, mro := .ref C :: bm, ns := N, qualname := q, hasDict := true, slotNames := sn, subclasses := sub, abstract := ab, collection := col, hasDel := false } := by unfold clsIn; rw [hC] <;> rfl
  unfold fStmt
  refine plainObj_wpAny_Assign_Attribute ?_
  refine ld_own hk kn hn hvn hd (ld_own hk ka hn hv (by decide) ?_)
  refine set_plain X (ox := excO C t0) (od := none) ⟨hx, rfl, rfl, trivial⟩ T.sa ?_
  exact exc_osa X hx hcl (show refsVE (.ref C :: bm) = true from hbm) rfl (T.noN n hmem) fun h' tk dx k d1 d2 e ns' => hq h' tk dx k d1 d2 e ns'
/-- .. a further one -/
theorem run_more {s : Shared} {L x t0 dx : Addr} {m m0 : Str → Option Value} {nl : List Str} {Q : Flow → Shared → Prop} {n : Str} {v : Value} {q1 q2 q3 q4 : Pos} (T : XCls P K mg C fI ns) (hk : scope.kind = .function) (ka : scope.names.lookup ("self" : Str) = some .local) (kn : scope.names.lookup n = some .local) (hmem : n ∈ ns) (hd : (n == ("__debug__" : Str)) = false)
    (X : K.In s.heap) (hn : s.heap.Ns L m) (hv : m "self" = some (.ref x)) (hvn : m n = some v) (hx : s.heap.get? x = some { cls := .ref C, dict := some dx, data := .fields #[.ref t0, .none, .none, .none, .bool false, .none] })
    (hns : s.heap.Ns1 dx m0) (hw : Within m0 nl) (hz : nl.length ≤ 1000)
    (hq : ∀ h' tk, (∀ b o, b ≠ dx → s.heap.get? b = some o → h'.get? b = some o) → h'.Ns1 dx (fun y => if y = n then some v else m0 y) → Q .next { s with heap := h', toks := tk }) :
    wpAny (model P w) A (exec (fStmt n q1 q2 q3 q4) (ksEnv qual scope L fI (.ref cda) cc)) Q E s := by
  obtain ⟨nm, q, N, bs, bm, sn, sub, ab, col, dd, k0, k1, k2, k3, k5, hC, hbm⟩ := T.cls
  have hcl : clsIn K C = some { name := nm, bases := bs, mro := .ref C :: bm, ns := N, qualname := q, hasDict := true, slotNames := sn, subclasses := sub, abstract := ab, collection := col, hasDel := false } := by unfold clsIn; rw [hC] <;> rfl
  obtain ⟨oD, esD, epD, hoD, hdD, _⟩ := hns.count hw
  unfold fStmt
  refine plainObj_wpAny_Assign_Attribute ?_
  refine ld_own hk kn hn hvn hd (ld_own hk ka hn hv (by decide) ?_)
  refine set_plain X (ox := { cls := .ref C, dict := some dx, data := .fields #[.ref t0, .none, .none, .none, .bool false, .none] }) (od := some oD) ⟨hx, rfl, rfl, hoD⟩ T.sa ?_
  exact osaV_old X hx hns hw hz hcl (show refsVE (.ref C :: bm) = true from hbm) rfl (T.noN n hmem) fun h' tk k ns' => hq h' tk k ns'
/-- what a call of __init__ needs -/
structure XCall (P : Program) (K : Frag) (mg : Str → Option Value) (s : Shared) (A : Around) (C x t0 : Addr) : Prop where
  kin : K.In s.heap
  lim : s.heap.NoLimit
  glob : s.heap.Ns mainGlobals mg
  blt : ∃ mb, s.heap.Ns builtinsNs mb ∧ mb "super" = some (.type "super")
  obj : s.heap.get? x = some (excO C t0)
  nx : K.lookup x = none
  room : A.depth < recursionLimit
theorem init1 {s : Shared} {x t0 : Addr} {n : Str} {v : Value} {p0 p1 p2 p3 p4 p5 q1 q2 q3 q4 : Pos} {txt : Str} {j : Nat} (hline : (p2.endLine == p4.line) = true) (T : XCls P K mg C fI ns)
    (Fn : XFn P K C fI qual params [sStmt p0 p1 p2 p3 p4 p5 txt j, fStmt n q1 q2 q3 q4] scope dV kV doc pm an cda ct cc) (Y : XCall P K mg s A C x t0) (kn : scope.names.lookup n = some .local) (hmem : n ∈ ns) (hd : (n == ("__debug__" : Str)) = false) (hself : n ≠ "self")
    (hbind : BindsTo s (ksFn "__init__" qual params [sStmt p0 p1 p2 p3 p4 p5 txt j, fStmt n q1 q2 q3 q4] scope dV kV doc pm an (.ref cda) ct cc) ⟨[.ref x], [(n, v)]⟩ [("self", .ref x), (n, v)])
    (hq : ∀ h' tk dx t1, InitEnd s.heap h' x C dx t1 (fun y => if y = n then some v else none) → R (.ok (.ret .none)) { s with heap := h', toks := tk }) :
    codeAny (model P w) A (.call (.ref fI) ⟨[.ref x], [(n, v)]⟩) R s := by
  obtain ⟨oc, od, osl, hfn⟩ := Fn.fn
  obtain ⟨mb, hb, hbs⟩ := Y.blt
  have X := Y.kin
  refine ks_codeAny_call_defAt (fd := ksFn "__init__" qual params [sStmt p0 p1 p2 p3 p4 p5 txt j, fStmt n q1 q2 q3 q4] scope dV kV doc pm an (.ref cda) ct cc) (binds := [("self", .ref x), (n, v)]) Y.room (X _ _ hfn) rfl Y.lim (codeRec_of X Fn.code) rfl hbind Fn.nocell ?_ (fun h₀ hns₀ k₀ => ?_) Fn.co Fn.gen Fn.kd
  · intro z hz
    rcases List.mem_cons.mp hz with rfl | hz
    · exact Fn.ka
    · rcases List.mem_cons.mp hz with rfl | hz
      · exact kn
      · cases hz
  have hxL : x ≠ s.heap.objs.size := Nat.ne_of_lt (Heap.lt_size Y.obj)
  have m1 : (fun y => List.lookup y ([("self", .ref x), (n, v)] : List (Str × Value)).reverse) "self" = some (.ref x) := by
    have e : (("self" : Str) == n) = false := by simpa using (Ne.symm hself)
    simp [List.lookup, e]
  have m2 : (fun y => List.lookup y ([("self", .ref x), (n, v)] : List (Str × Value)).reverse) n = some v := by simp [List.lookup]
  refine ks_wpAt_execs_cons ?_
  refine run_super (s := { s with heap := h₀, toks := s.toks + 2 }) (L := s.heap.objs.size) hline T Fn (X.keeps k₀) (Y.glob.keeps k₀) (hb.keeps k₀) hbs hns₀ m1 (k₀ _ _ Y.obj) hxL Y.nx fun h1 tk1 t1 k1 e1 => ?_
  show _root_.PySem.wpAt _ _ _ (execs _ _) _ _ _
  refine wpAt_of_wpAny (wpAny_execs_cons ?_)
  have n1 : h1.Ns s.heap.objs.size _ := hns₀.at (fun o e => k1 _ o (Ne.symm hxL) e)
  refine run_first (s := { s with heap := h1, toks := tk1 }) (L := s.heap.objs.size) T Fn.kd Fn.ka kn hmem hd (kept_but (X.keeps k₀) Y.nx k1) n1 m1 m2 e1 fun h2 tk2 dx k2 d1 d2 e2 ns2 => ?_
  show wpAny _ _ (execs _ _) _ _ _
  refine wpAny_execs_nil (hq h2 tk2 dx t1 ⟨fun b o hb e => k2 b o hb (k1 b o hb (k₀ b o e)), e2, ?_, d2, ns2⟩)
  exact Nat.le_of_lt (Nat.lt_of_lt_of_le n1.lt d1)
theorem init2 {s : Shared} {x t0 : Addr} {n n' : Str} {v v' : Value} {p0 p1 p2 p3 p4 p5 q1 q2 q3 q4 r1 r2 r3 r4 : Pos} {txt : Str} {j : Nat} (hline : (p2.endLine == p4.line) = true) (T : XCls P K mg C fI ns)
    (Fn : XFn P K C fI qual params [sStmt p0 p1 p2 p3 p4 p5 txt j, fStmt n q1 q2 q3 q4, fStmt n' r1 r2 r3 r4] scope dV kV doc pm an cda ct cc) (Y : XCall P K mg s A C x t0) (kn : scope.names.lookup n = some .local) (kn' : scope.names.lookup n' = some .local) (hmem : n ∈ ns) (hmem' : n' ∈ ns) (hd : (n == ("__debug__" : Str)) = false) (hd' : (n' == ("__debug__" : Str)) = false) (hself : n ≠ "self") (hself' : n' ≠ "self") (hnn : n ≠ n')
    (hbind : BindsTo s (ksFn "__init__" qual params [sStmt p0 p1 p2 p3 p4 p5 txt j, fStmt n q1 q2 q3 q4, fStmt n' r1 r2 r3 r4] scope dV kV doc pm an (.ref cda) ct cc) ⟨[.ref x], [(n, v), (n', v')]⟩ [("self", .ref x), (n, v), (n', v')])
    (hq : ∀ h' tk dx t1, InitEnd s.heap h' x C dx t1 (fun y => if y = n' then some v' else if y = n then some v else none) → R (.ok (.ret .none)) { s with heap := h', toks := tk }) :
    codeAny (model P w) A (.call (.ref fI) ⟨[.ref x], [(n, v), (n', v')]⟩) R s := by
  obtain ⟨oc, od, osl, hfn⟩ := Fn.fn
  obtain ⟨mb, hb, hbs⟩ := Y.blt
  have X := Y.kin
  refine ks_codeAny_call_defAt (fd := ksFn "__init__" qual params [sStmt p0 p1 p2 p3 p4 p5 txt j, fStmt n q1 q2 q3 q4, fStmt n' r1 r2 r3 r4] scope dV kV doc pm an (.ref cda) ct cc) (binds := [("self", .ref x), (n, v), (n', v')]) Y.room (X _ _ hfn) rfl Y.lim (codeRec_of X Fn.code) rfl hbind Fn.nocell ?_ (fun h₀ hns₀ k₀ => ?_) Fn.co Fn.gen Fn.kd
  · intro z hz
    rcases List.mem_cons.mp hz with rfl | hz
    · exact Fn.ka
    · rcases List.mem_cons.mp hz with rfl | hz
      · exact kn
      · rcases List.mem_cons.mp hz with rfl | hz
        · exact kn'
        · cases hz
  have hxL : x ≠ s.heap.objs.size := Nat.ne_of_lt (Heap.lt_size Y.obj)
  have m1 : (fun y => List.lookup y ([("self", .ref x), (n, v), (n', v')] : List (Str × Value)).reverse) "self" = some (.ref x) := by
    have e : (("self" : Str) == n) = false := by simpa using (Ne.symm hself)
    have e' : (("self" : Str) == n') = false := by simpa using (Ne.symm hself')
    simp [List.lookup, e, e']
  have m2 : (fun y => List.lookup y ([("self", .ref x), (n, v), (n', v')] : List (Str × Value)).reverse) n = some v := by
    have e : (n == n') = false := by simpa using hnn
    simp [List.lookup, e]
  have m3 : (fun y => List.lookup y ([("self", .ref x), (n, v), (n', v')] : List (Str × Value)).reverse) n' = some v' := by simp [List.lookup]
  refine ks_wpAt_execs_cons ?_
  refine run_super (s := { s with heap := h₀, toks := s.toks + 3 }) (L := s.heap.objs.size) hline T Fn (X.keeps k₀) (Y.glob.keeps k₀) (hb.keeps k₀) hbs hns₀ m1 (k₀ _ _ Y.obj) hxL Y.nx fun h1 tk1 t1 k1 e1 => ?_
  show _root_.PySem.wpAt _ _ _ (execs _ _) _ _ _
  refine wpAt_of_wpAny (wpAny_execs_cons ?_)
  have X1 : K.In h1 := kept_but (X.keeps k₀) Y.nx k1
  have n1 : h1.Ns s.heap.objs.size _ := hns₀.at (fun o e => k1 _ o (Ne.symm hxL) e)
  refine run_first (s := { s with heap := h1, toks := tk1 }) (L := s.heap.objs.size) T Fn.kd Fn.ka kn hmem hd X1 n1 m1 m2 e1 fun h2 tk2 dx k2 d1 d2 e2 ns2 => ?_
  show wpAny _ _ (execs _ _) _ _ _
  refine wpAny_execs_cons ?_
  have hdL : dx ≠ s.heap.objs.size := Nat.ne_of_gt (Nat.lt_of_lt_of_le n1.lt d1)
  have n2 : h2.Ns s.heap.objs.size _ := n1.at (fun o e => k2 _ o (Ne.symm hxL) e)
  have X2 : K.In h2 := kept_but X1 Y.nx k2
  refine run_more (s := { s with heap := h2, toks := tk2 }) (L := s.heap.objs.size) (nl := [n]) T Fn.kd Fn.ka kn' hmem' hd' X2 n2 m1 m3 e2 ns2 (Within.cons n v Within.nil) (by show 1 ≤ 1000; decide) fun h3 tk3 k3 ns3 => ?_
  show wpAny _ _ (execs _ _) _ _ _
  have big : s.heap.objs.size ≤ dx := Nat.le_of_lt (Nat.lt_of_lt_of_le n1.lt d1)
  refine wpAny_execs_nil (hq h3 tk3 dx t1 ⟨fun b o hb e => ?_, k3 _ _ (Ne.symm d2) e2, big, d2, ns3⟩)
  exact k3 b o (Nat.ne_of_lt (Nat.lt_of_lt_of_le (Heap.lt_size e) big)) (k2 b o hb (k1 b o hb (k₀ b o e)))
/-- the class, called with keywords -/
theorem made {s : Shared} {kw : List (Str × Value)} {m : Str → Option Value} (T : XCls P K mg C fI ns) (X : K.In s.heap) (hlim : s.heap.NoLimit) (hg : s.heap.Ns mainGlobals mg) (hb : ∃ mb, s.heap.Ns builtinsNs mb ∧ mb "super" = some (.type "super")) (hroom : A.depth + 1 < recursionLimit)
    (hin : ∀ (s' : Shared) (A' : Around) (R' : Result → Shared → Prop) (x t0 : Addr), XCall P K mg s' A' C x t0 → (∀ h' tk dx t1, InitEnd s'.heap h' x C dx t1 m → R' (.ok (.ret .none)) { s' with heap := h', toks := tk }) → codeAny (model P w) A' (.call (.ref fI) ⟨[.ref x], kw⟩) R' s')
    (hq : ∀ h' tk e d, OwnMade s.heap h' e C d m → R (.ok (.ret (.ref e))) { s with heap := h', toks := tk }) :
    codeAny (model P w) A (.call (.ref C) ⟨[], kw⟩) R s := by
  obtain ⟨nm, q, N, bs, bm, sn, sub, ab, col, dd, k0, k1, k2, k3, k5, hC, hbm⟩ := T.cls
  obtain ⟨hp, g, dr, tk, os⟩ := s
  have k : ∀ b o, hp.get? b = some o → ((hp.push (kdv_tup [])).push (excO C hp.objs.size)).get? b = some o := fun b o e => Heap.get?_push_of_some _ (Heap.get?_push_of_some _ e)
  have hget : ((hp.push (kdv_tup [])).push (excO C hp.objs.size)).get? (hp.objs.size + 1) = some (excO C hp.objs.size) := by heap_get
  have hnx : K.lookup (hp.objs.size + 1) = none := by
    cases e : K.lookup (hp.objs.size + 1) with
    | none => rfl
    | some o =>
      have z : hp.get? (hp.objs.size + 1) = some o := X _ _ e
      exact absurd (Nat.lt_of_succ_lt (Heap.lt_size z)) (Nat.lt_irrefl _)
  obtain ⟨mb, hb1, hb2⟩ := hb
  refine call_kw F.excBase_ValueError (fun X => refsVE_contains X bm hbm) (X _ _ hC) (looks_findIn X T.iC) (fun self => bind_fn X self T.tC) ?_
  refine hin ⟨(hp.push (kdv_tup [])).push (excO C hp.objs.size), g, dr, tk, os⟩ _ _ (hp.objs.size + 1) hp.objs.size ⟨X.keeps k, hlim.keeps k, hg.keeps k, ⟨mb, hb1.keeps k, hb2⟩, hget, hnx, hroom⟩ fun h' tk' dx t1 ⟨k', hx, dn, dne, hns⟩ => ?_
  have old : ∀ b o, hp.get? b = some o → h'.get? b = some o := fun b o e => k' b o (Nat.ne_of_lt (Nat.lt_succ_of_lt (Heap.lt_size e))) (k b o e)
  have z : hp.objs.size + 1 + 1 ≤ dx := by
    first
      | (simpa only [Heap.size_push] using dn)
      | exact dn
      | (have q := dn; rw [Heap.size_push, Heap.size_push] at q; exact q)
  exact ⟨rfl, hq h' tk' (hp.objs.size + 1) dx ⟨old, Nat.le_succ _, ⟨_, _, hx, rfl, rfl, rfl, rfl⟩, Nat.le_trans (Nat.le_trans (Nat.le_succ _) (Nat.le_succ _)) z, dne, hns⟩⟩
end
end PySem.KX

namespace DL
open PySem L2 PySem.KX
/-! ### values by keywords -/
structure DK (X : Cx) (kws : List Keyword) (u : UA) : Prop where
  ex : ∃ tf : WX → TA, (∀ W, Takes X W → PK X kws (tf W)) ∧ SemA X.K tf u
section
variable {X : Cx} {e : Expr} {ua : UE} {ur u : UA} {kws : List Keyword} {nm : Option Str} {p pos kpos : Pos}
theorem dk_nil : DK X [] uNil := ⟨fun _ => tNil, fun _ _ => pk_nil, fun W σ H sl ce G m Qd Ed Qv R w h k => k [] ce G m [] H R .refl rfl h⟩
theorem dk_cons (ha : DE X e ua) (hr : DK X kws ur) : DK X (⟨nm, e, kpos⟩ :: kws) (uCons ua ur) := by
  obtain ⟨ta, pa, sa⟩ := ha.ex
  obtain ⟨tr, pr, sr⟩ := hr.ex
  refine ⟨fun W => tCons (ta W) (tr W), fun W tk => pk_cons (pa W tk) (pr W tk), fun W σ H sl ce G m Qd Ed Qv R w h k => ?_⟩
  refine sa W σ H sl ce G m _ Ed _ R w h fun d ce1 G1 m1 v H1 R1 s1 r1 h1 => ?_
  refine sr W σ H1 sl ce1 G1 m1 _ Ed _ R1 (w.step s1) h1 fun ds ce2 G2 m2 vs H2 R2 s2 r2 h2 => ?_
  exact k (d :: ds) ce2 G2 m2 (v :: vs) H2 R2 (s1.trans s2) ⟨v, vs, rfl, r1.mono s2.pre s2.gg, r2⟩ h2
end
/-- an own exception that is made by keywords -/
structure XMk (P : Program) (w : World) (K : PySem.W.Frag) (mg : Str → Option Value) (C : Addr) (ns : List Str) : Prop where
  kC : PySem.W.keepIn K (.ref C) = true
  exC : PySem.W.subIn K (.ref C) (.type "BaseException") = some true
  tyC : PySem.W.typeIn K (.ref C) = some (.type "type")
  ex : ∃ fI, XCls P K mg C fI ns ∧ ∀ us : List Value, us.length = ns.length → ∃ m : Str → Option Value, (∀ vs, Vals vs us → ∀ f, RelO (List.lookup f (ns.zip vs)) (m f)) ∧
    ∀ (s' : Shared) (A' : Around) (R' : Result → Shared → Prop) (x t0 : Addr), XCall P K mg s' A' C x t0 → (∀ h' tk dx t1, InitEnd s'.heap h' x C dx t1 m → R' (.ok (.ret .none)) { s' with heap := h', toks := tk }) → codeAny (model P w) A' (.call (.ref fI) ⟨[.ref x], ns.zip us⟩) R' s'
section
variable {X : Cx} {kws : List Keyword} {u : UA} {p pos : Pos} {x : Str} {C : Addr} {ns : List Str}
def tMkK (C : Addr) (ns : List Str) (ta : TA) : St → Hp → XK → Prop := fun σ H Q => ta σ H fun vs H1 => vs.length = ns.length ∧ ∀ d, H1 d = none → Q (.ref C) (some d) (upd H1 d (.xd (ns.zip vs)))
theorem pmk_kw {ta : TA} {k : Nat} (T : XMk X.prog X.w X.K X.mg C ns) (gC : X.mg x = some (.ref C)) (hr : Room k X.A) (ha : PK X kws ta) (hnm : (backToKw pos (keywordEach kws X.env)).filterMap (·.1) = ns := by rfl) (hall : (backToKw pos (keywordEach kws X.env)).all (·.1.isSome) = true := by rfl)
    (hpl : ((backTo pos (starEach [] X.env)).any (·.1) || (backToKw pos (keywordEach kws X.env)).any (·.1.isNone)) = false := by rfl) (hg : Gl X x := by rfl) (hdb : (x == ("__debug__" : Str)) = false := by decide) : PMk X (.Call (.Name x p) [] kws pos) (tMkK C ns ta) := by
  intro pins s σ H Q I h
  obtain ⟨fI, Tc, hin⟩ := T.ex
  refine wpAny_Call_Name_kw (ld_glob I hg gC ?_ hdb)
  refine PySem.W.callWith_KW0 (h₀ := X.base) I.ok.mod.kin T.kC hall (thn (ha.run pos pins s σ H _ I h) fun us s1 hh => ?_) hpl
  obtain ⟨vs, H1, I1, r1, hl, q1⟩ := hh
  refine ⟨I1.kIn, ?_⟩
  rw [hnm]
  show wpAny _ _ (call (.ref C) [] (ns.zip us)) _ _ _
  have hlen : us.length = ns.length := by rw [← r1.length]; exact hl
  obtain ⟨mf, hrel, hrun⟩ := hin us hlen
  have hlim := I1.nolimit
  obtain ⟨mb, b1, b2⟩ := I1.mod.blt
  have hglob := I1.mod.glob.keeps I1.bk
  have hblt := b1.keeps I1.bk
  obtain ⟨hp, g, dr, tk, os⟩ := s1
  refine wpAny_call (made Tc I1.kIn hlim hglob ⟨mb, hblt, (b2 "super" (by decide)).trans (by first | rfl | kernel_rfl)⟩ (by have := hr.dp; omega) hrun fun h' tk' e d M => ?_)
  show MkP X pins σ Q (.ref e) ⟨h', g, dr, tk', os⟩
  obtain ⟨oe, fv, hoe, hc, hd, hdat, h1⟩ := M.obj
  have hns := M.ns
  obtain ⟨G', g1, g2⟩ := restrict h' fun b => decide (b ≠ e)
  have gk : ∀ b, b ≠ e → G'.get? b = h'.get? b := fun b hb => g1 b (decide_eq_true hb)
  have ge : G'.get? e = none := g2 e (by simp)
  have old : ∀ b o, hp.get? b = some o → G'.get? b = some o := fun b o q => (gk b (Nat.ne_of_lt (Nat.lt_of_lt_of_le (Heap.lt_size q) M.new))).trans (M.keep b o q)
  have ob : ObjOk X.prog X.w (upd H1 d (.xd (ns.zip vs))) G' d (.xd (ns.zip vs)) := ⟨_, hns.at (fun o q => (gk d M.dne).trans q), hrel vs r1⟩
  have J : Inv X pins σ (upd H1 d (.xd (ns.zip vs))) ⟨G', g, dr, tk', os⟩ := I1.laid (t' := tk') old M.dbig ob
  refine ⟨e, oe, fv, ⟨G', g, dr, tk', os⟩, _, .ref C, some d, rfl, J, fun b o q => ?_, ge, hoe, ⟨hc, hd⟩, hdat, h1, ?_, rfl, I1.bare, raises_own T.exC T.tyC, q1 d (I1.hok.fresh M.dbig)⟩
  · by_cases hb : b = e
    · have q' : G'.get? b = some o := q
      rw [hb, ge] at q'; cases q'
    · exact (gk b hb).symm.trans q
  · rw [upd_ne (Ne.symm M.dne)]
    exact I1.hok.fresh M.new
theorem repF_zip {K : PySem.W.Frag} {G : Hp} : ∀ {ns : List Str} {ds : List D} {vs : List V}, RepL K G ds vs → RepF K G (ns.zip ds) (ns.zip vs)
  | [], _, _, _ => by simp [RepF]
  | n :: ns, [], vs, r => by
    have e : vs = [] := r
    subst e
    simp [RepF]
  | n :: ns, d :: ds, vs, r => by
    obtain ⟨v, r', e, rv, rr⟩ := r
    subst e
    exact ⟨v, _, rfl, rv, repF_zip rr⟩
/-- x(n=e, ..) -/
def uMkK (C : Addr) (ns : List Str) (u : UA) : UX := fun sl ce Q E => u sl ce (fun ts ce1 => match unT ts with
  | some ds => ds.length = ns.length ∧ Q ⟨.ref C, ns.zip ds⟩ ce1
  | none => False) E
theorem dmk_kw {k : Nat} (T : XMk X.prog X.w X.K X.mg C ns) (gC : X.mg x = some (.ref C)) (hr : Room k X.A) (hk : DK X kws u) (hnm : (backToKw pos (keywordEach kws X.env)).filterMap (·.1) = ns := by rfl) (hall : (backToKw pos (keywordEach kws X.env)).all (·.1.isSome) = true := by rfl)
    (hpl : ((backTo pos (starEach [] X.env)).any (·.1) || (backToKw pos (keywordEach kws X.env)).any (·.1.isNone)) = false := by rfl) (hg : Gl X x := by rfl) (hdb : (x == ("__debug__" : Str)) = false := by decide) : DMk X (.Call (.Name x p) [] kws pos) (uMkK C ns u) := by
  obtain ⟨t, pk, sk⟩ := hk.ex
  refine ⟨fun W => tMkK C ns (t W), fun W tk => pmk_kw T gC hr (pk W tk) hnm hall hpl hg hdb, fun W σ H sl ce G m Qd Ed Qv R w h k => ?_⟩
  refine sk W σ H sl ce G m _ Ed _ R w h fun ts ce1 G1 m1 vs H1 R1 s1 r1 h1 => ?_
  cases q : unT ts with
  | none => simp only [q] at h1
  | some ds =>
    simp only [q] at h1
    obtain ⟨hl, hQ⟩ := h1
    have rl := unT_ok r1 q
    refine ⟨by rw [rl.length, hl], fun d hd => ?_⟩
    obtain ⟨R2, s2⟩ := R1.toRelS.laid (.xd (ns.zip vs)) hd
    refine k ⟨.ref C, ns.zip ds⟩ ce1 _ m1 (.ref C) (some d) _ (R1.step s2 R2) (s1.trans s2) ⟨rfl, _, upd_same, ?_⟩ hQ
    exact RepF.mono s2.gg _ _ (repF_zip rl)
end
end DL

namespace DL
open PySem L2 PySem.KX He
/-! ### an exception's class by a Bool -/
def clsB (K : PySem.W.Frag) (C : Addr) : Bool := match K.lookup C with
  | some ⟨.type "type", _, .cls cd, sl⟩ => (match cd.mro, sl.toList with
    | .ref C' :: bm, [_, _, _, _, some (.builtin n), _] => C' == C && n == "ValueError.__new__" && !cd.hasDel && cd.hasDict && HandSPX.refsVE bm
    | _, _ => false)
  | _ => false
theorem clsB_ok {K : PySem.W.Frag} {C : Addr} (q : clsB K C = true) : ∃ nm q N bs bm sn sub ab col dd k0 k1 k2 k3 k5, K.lookup C = some (excClassObj nm q C N bs bm true sn sub ab col dd k0 k1 k2 k3 k5 "ValueError.__new__") ∧ HandSPX.refsVE bm = true := by
  unfold clsB at q
  split at q
  · rename_i dd cd sl ho
    split at q
    · rename_i C' bm k0 k1 k2 k3 n k5 hm hs
      simp only [Bool.and_eq_true, beq_iff_eq, Bool.not_eq_true'] at q
      obtain ⟨⟨⟨⟨rfl, rfl⟩, hdel⟩, hdi⟩, ht⟩ := q
      obtain ⟨nm, bs, mro, ns, qn, hd, sn, sub, ab, col, del⟩ := cd
      dsimp only at hm hdel hdi
      subst hm hdel hdi
      have hsl : sl = #[k0, k1, k2, k3, some (.builtin "ValueError.__new__"), k5] := by
        obtain ⟨l⟩ := sl
        simp only at hs
        rw [hs]
      subst hsl
      exact ⟨nm, qn, ns, bs, bm, sn, sub, ab, col, dd, k0, k1, k2, k3, k5, ho, ht⟩
    · cases q
  · cases q
/-- an exception with its own __init__ -/
structure XcD where
  cls : Str
  qual : Str
  params : Arguments
  body : List Stmt
  scope : Scope
  ns : List Str
abbrev FnV : Type := Option (Str × Str × Arguments × FuncBody × Scope × Addr × List Str × Addr)
def fnV (K : PySem.W.Frag) (f : Addr) : FnV := match K.lookup f with
  | some ⟨_, _, .func fd, _⟩ => some (fd.name, fd.qualname, fd.params, fd.body, fd.scope, fd.globals, fd.closure.map (·.1), fd.builtins)
  | _ => none
def XcD.val (d : XcD) : FnV := some ("__init__", d.qual, d.params, .stmts d.body, d.scope, mainGlobals, ["__class__"], builtinsNs)
def fileB (K : PySem.W.Frag) (file : Str) (cda : Addr) : Bool := match K.lookup cda with
  | some ⟨_, _, .fields vs, _⟩ => (match (vs[2]? : Option Value) with
    | some (Value.str f _) => file == f
    | _ => false)
  | _ => false
def cellB' (K : PySem.W.Frag) (C cc : Addr) : Bool := match K.lookup cc with
  | some ⟨_, _, .cell (some (.ref D)), _⟩ => D == C
  | _ => false
def initB (K : PySem.W.Frag) (file qual : Str) (C f : Addr) : Bool := match K.lookup f with
  | some ⟨_, _, .func fd, _⟩ => (match fd.code, fd.closure with
    | .ref cda, [(_, cc)] => PySem.W.codeIn K (.ref cda) qual && fileB K file cda && cellB' K C cc && fd.defaults == .none && fd.kwdefaults == .none
    | _, _ => false)
  | _ => false
def XcD.ok (file : Str) (K : PySem.W.Frag) (d : XcD) : Bool :=
  clsB K (ga K d.cls) && eqO (PySem.W.findIn K (.ref (ga K d.cls)) "__setattr__") (some (some (.builtin "object.__setattr__"))) && (d.ns.all fun n => eqO (PySem.W.findIn K (.ref (ga K d.cls)) n) (some none)) &&
  eqO (PySem.W.findIn K (.ref (ga K d.cls)) "__init__") (some (some (.ref (ma K (ga K d.cls) "__init__")))) && decide (PySem.W.typeIn K (.ref (ma K (ga K d.cls) "__init__")) = some (.type "function")) &&
  eqO (PySem.W.ks_superIn K (ga K d.cls) (ga K d.cls) "__init__") (some (some (.builtin "ValueError.__init__"))) && eqO (PySem.W.nsIn K cStatics "thirdparty.any") (some none) &&
  decide (PySem.W.subIn K (.ref (ga K d.cls)) (.type "ValueError") = some true) && decide (PySem.W.mroIn K (ga K d.cls) (.ref (ga K d.cls)) = some true) && eqO (PySem.W.nsIn K mainGlobals "super") (some none) &&
  PySem.W.keepIn K (.ref (ga K d.cls)) && decide (PySem.W.subIn K (.ref (ga K d.cls)) (.type "BaseException") = some true) && decide (PySem.W.typeIn K (.ref (ga K d.cls)) = some (.type "type")) &&
  initB K file d.qual (ga K d.cls) (ma K (ga K d.cls) "__init__")
/-- the text of __init__, in general -/
structure XTx (d : XcD) : Prop where
  head : ∃ ar, (d.params.posonlyargs ++ d.params.args).head? = some ar ∧ ar.arg = "self"
  ks : d.scope.names.lookup ("super" : Str) = some .globalImplicit
  kc : d.scope.names.lookup ("__class__" : Str) = some .free
  ka : d.scope.names.lookup ("self" : Str) = some .local
  nocell : ∀ x ∈ d.scope.names, x.2 ≠ .cell
  co : d.scope.isCoroutine = false
  gen : d.scope.isGenerator = false
  kd : d.scope.kind = .function
theorem xfn_of {P : Program} {K : PySem.W.Frag} {d : XcD} {C f : Addr} (T : XTx d) (e : fnV K f = d.val) (q : initB K P.main.file d.qual C f = true) :
    ∃ doc pm an cda ct cc, XFn P K C f d.qual d.params d.body d.scope .none .none doc pm an cda ct cc := by
  unfold initB at q
  unfold fnV at e
  split at q
  · rename_i oc od fd osl ho
    rw [ho] at e
    split at q
    · rename_i cda nn cc h1 h2
      obtain ⟨n1, n2, n3, n4, n5, n6, n7, n8, n9, n10, n11, n12, n13, n14, n15⟩ := fd
      have e2 : (some (n1, n2, n3, n4, n5, n6, n7.map (·.1), n15) : FnV) = (some (("__init__" : Str), d.qual, d.params, FuncBody.stmts d.body, d.scope, mainGlobals, [("__class__" : Str)], builtinsNs) : FnV) := e
      simp only [Option.some.injEq, Prod.mk.injEq] at e2
      dsimp only at h1 h2 q
      subst h1 h2
      simp only [Bool.and_eq_true, beq_iff_eq] at q
      obtain ⟨⟨⟨⟨q1, q2⟩, q3⟩, q4⟩, q5⟩ := q
      obtain ⟨a1, a2, a3, a4, a5, a6, a7, a8⟩ := e2
      have a7' : nn = "__class__" := by simpa using a7
      subst a1 a2 a3 a4 a5 a6 a7' a8 q4 q5
      refine ⟨n10, n11, n12, cda, n14, cc, ⟨oc, od, osl, ho⟩, q1, ?_, ?_, T.head, T.ks, T.kc, T.ka, T.nocell, T.co, T.gen, T.kd⟩
      · unfold fileB at q2
        split at q2
        · rename_i c1 c2 vs c3 hl
          split at q2
          · rename_i fl tf hv
            exact ⟨c1, c2, vs, c3, fl, tf, hl, hv, q2⟩
          · cases q2
        · cases q2
      · unfold cellB' at q3
        split at q3
        · rename_i c1 c2 D c3 hl
          have eD : D = C := beq_iff_eq.mp q3
          subst eD
          exact ⟨c1, c2, c3, hl⟩
        · cases q3
    · cases q
  · cases q
theorem relO_1 {n : Str} {v : V} {v' : Value} (r : RelV v v') (f : Str) : RelO (List.lookup f [(n, v)]) (if f = n then some v' else none) := by
  by_cases hw : f = n
  · subst hw
    rw [if_pos rfl]
    have q : List.lookup f [(f, v)] = some v := by simp [List.lookup]
    rw [q]; exact r
  · rw [if_neg hw]
    have qw : (f == n) = false := by simpa using hw
    have q2 : List.lookup f [(n, v)] = none := by simp [List.lookup, qw]
    rw [q2]; trivial
theorem relO_2 {n n' : Str} {v w : V} {v' w' : Value} (hnn : n ≠ n') (r : RelV v v') (r' : RelV w w') (f : Str) : RelO (List.lookup f [(n, v), (n', w)]) (if f = n' then some w' else if f = n then some v' else none) := by
  by_cases hw : f = n'
  · subst hw
    rw [if_pos rfl]
    have e : (f == n) = false := by simpa using (Ne.symm hnn)
    have q : List.lookup f [(n, v), (f, w)] = some w := by simp [List.lookup, e]
    rw [q]; exact r'
  · rw [if_neg hw]
    have qw : (f == n') = false := by simpa using hw
    have q2 : List.lookup f [(n, v), (n', w)] = List.lookup f [(n, v)] := by simp [List.lookup, qw]
    rw [q2]
    exact relO_1 r f
section
variable {P : Program} {w : World} {K : PySem.W.Frag} {mg : Str → Option Value} {base : Heap}
theorem xc_cls {d : XcD} (X : K.In base) (G : base.Ns mainGlobals mg) (c : d.ok P.main.file K = true) (top : (P.main.scope.names.lookup ("super" : Str)).isSome = false) :
    XCls P K mg (ga K d.cls) (ma K (ga K d.cls) "__init__") d.ns ∧ PySem.W.keepIn K (.ref (ga K d.cls)) = true ∧ PySem.W.subIn K (.ref (ga K d.cls)) (.type "BaseException") = some true ∧ PySem.W.typeIn K (.ref (ga K d.cls)) = some (.type "type") ∧ initB K P.main.file d.qual (ga K d.cls) (ma K (ga K d.cls) "__init__") = true := by
  unfold XcD.ok at c
  simp only [Bool.and_eq_true, decide_eq_true_eq, List.all_eq_true] at c
  obtain ⟨⟨⟨⟨⟨⟨⟨⟨⟨⟨⟨⟨⟨c1, c2⟩, c3⟩, c4⟩, c5⟩, c6⟩, c7⟩, c8⟩, c9⟩, c10⟩, c11⟩, c12⟩, c13⟩, c14⟩ := c
  exact ⟨⟨clsB_ok c1, eqO_ok c2, fun n hn => eqO_ok (c3 n hn), eqO_ok c4, c5, eqO_ok c6, eqO_ok c7, c8, c9, PySem.W.mg_none_of X G (eqO_ok c10), top⟩, c11, c12, c13, c14⟩
theorem xmk1 {d : XcD} {n : Str} {p0 p1 p2 p3 p4 p5 q1 q2 q3 q4 : Pos} {txt : Str} {j : Nat} (T : XTx d) (X : K.In base) (G : base.Ns mainGlobals mg) (c : d.ok P.main.file K = true) (top : (P.main.scope.names.lookup ("super" : Str)).isSome = false) (e : fnV K (ma K (ga K d.cls) "__init__") = d.val)
    (hns : d.ns = [n]) (hb : d.body = [sStmt p0 p1 p2 p3 p4 p5 txt j, fStmt n q1 q2 q3 q4]) (hline : (p2.endLine == p4.line) = true) (kn : d.scope.names.lookup n = some .local) (hd : (n == ("__debug__" : Str)) = false) (hself : n ≠ "self")
    (hbind : ∀ (s : Shared) (x v doc pm : Value) (an : Option Addr) (cda : Addr) (ct : Value) (cc : Addr), BindsTo s (PySem.W.ksFn "__init__" d.qual d.params d.body d.scope .none .none doc pm an (.ref cda) ct cc) ⟨[x], [(n, v)]⟩ [("self", x), (n, v)]) :
    XMk P w K mg (ga K d.cls) [n] := by
  obtain ⟨h1, h2, h3, h4, h5⟩ := xc_cls X G c top
  rw [hns] at h1
  obtain ⟨doc, pm, an, cda, ct, cc, Fn⟩ := xfn_of T e h5
  refine ⟨h2, h3, h4, _, h1, fun us hl => ?_⟩
  match us, hl with
  | [v], _ =>
    refine ⟨fun y => if y = n then some v else none, fun vs r f => ?_, fun s' A' R' x t0 Y hq => ?_⟩
    · cases r with
      | cons rv rn => cases rn; exact relO_1 rv f
    · have hbd := hbind s' (.ref x) v doc pm an cda ct cc
      rw [hb] at Fn hbd
      exact init1 hline h1 Fn Y kn (List.mem_singleton.mpr rfl) hd hself hbd hq
theorem xmk2 {d : XcD} {n n' : Str} {p0 p1 p2 p3 p4 p5 q1 q2 q3 q4 r1 r2 r3 r4 : Pos} {txt : Str} {j : Nat} (T : XTx d) (X : K.In base) (G : base.Ns mainGlobals mg) (c : d.ok P.main.file K = true) (top : (P.main.scope.names.lookup ("super" : Str)).isSome = false) (e : fnV K (ma K (ga K d.cls) "__init__") = d.val)
    (hns : d.ns = [n, n']) (hb : d.body = [sStmt p0 p1 p2 p3 p4 p5 txt j, fStmt n q1 q2 q3 q4, fStmt n' r1 r2 r3 r4]) (hline : (p2.endLine == p4.line) = true) (kn : d.scope.names.lookup n = some .local) (kn' : d.scope.names.lookup n' = some .local) (hd : (n == ("__debug__" : Str)) = false) (hd' : (n' == ("__debug__" : Str)) = false) (hself : n ≠ "self") (hself' : n' ≠ "self") (hnn : n ≠ n')
    (hbind : ∀ (s : Shared) (x v v' doc pm : Value) (an : Option Addr) (cda : Addr) (ct : Value) (cc : Addr), BindsTo s (PySem.W.ksFn "__init__" d.qual d.params d.body d.scope .none .none doc pm an (.ref cda) ct cc) ⟨[x], [(n, v), (n', v')]⟩ [("self", x), (n, v), (n', v')]) :
    XMk P w K mg (ga K d.cls) [n, n'] := by
  obtain ⟨h1, h2, h3, h4, h5⟩ := xc_cls X G c top
  rw [hns] at h1
  obtain ⟨doc, pm, an, cda, ct, cc, Fn⟩ := xfn_of T e h5
  refine ⟨h2, h3, h4, _, h1, fun us hl => ?_⟩
  match us, hl with
  | [v, v'], _ =>
    refine ⟨fun y => if y = n' then some v' else if y = n then some v else none, fun vs r f => ?_, fun s' A' R' x t0 Y hq => ?_⟩
    · cases r with
      | cons rv rn => cases rn with
        | cons rw' rn => cases rn; exact relO_2 hnn rv rw' f
    · have hbd := hbind s' (.ref x) v v' doc pm an cda ct cc
      rw [hb] at Fn hbd
      exact init2 hline h1 Fn Y kn kn' (by simp) (by simp) hd hd' hself hself' hnn hbd hq
end
/-! ### getters of properties -/
def pgA (K : PySem.W.Frag) (C n : Str) : Addr × Addr := match PySem.W.findIn K (.ref (ga K C)) n with
  | some (some (.ref p)) => (match PySem.W.recIn K p "property" with
    | some (.ref g :: _) => (p, g)
    | _ => (p, 0))
  | _ => (0, 0)
def recB (K : PySem.W.Frag) (p g : Addr) : Bool := match PySem.W.recIn K p "property" with
  | some (.ref g' :: _) => g' == g
  | _ => false
theorem recB_ok {K : PySem.W.Frag} {p g : Addr} (h : recB K p g = true) : ∃ rest, PySem.W.recIn K p "property" = some (.ref g :: rest) := by
  unfold recB at h
  split at h
  · rename_i g' rest e
    have := beq_iff_eq.mp h
    subst this
    exact ⟨rest, e⟩
  · cases h
def propB (K : PySem.W.Frag) (C n : Str) : Bool := eqO (PySem.W.findIn K (.ref (ga K C)) n) (some (some (.ref (pgA K C n).1))) && eqO (PySem.W.specialIn K (.ref (pgA K C n).1) "__get__") (some (some (.builtin "property.__get__"))) &&
  decide (PySem.W.takesIn K (.ref (pgA K C n).1) = some true) && recB K (pgA K C n).1 (pgA K C n).2
theorem propB_ok {K : PySem.W.Frag} {C n : Str} (h : propB K C n = true) : PropOf K (ga K C) n (pgA K C n).1 (pgA K C n).2 := by
  unfold propB at h
  simp only [Bool.and_eq_true, decide_eq_true_eq] at h
  obtain ⟨⟨⟨h1, h2⟩, h3⟩, h4⟩ := h
  exact ⟨eqO_ok h1, eqO_ok h2, h3, recB_ok h4⟩
/-- a def at an address that is found otherwise -/
def fnA (K : PySem.W.Frag) (f : Addr) : FnW := match K.lookup f with
  | some ⟨_, _, .func fd, _⟩ => some (fd.name, fd.qualname, fd.params, fd.body, fd.scope, fd.globals, fd.closure, fd.builtins)
  | _ => none
structure GeD where
  cls : Str
  name : Str
  qual : Str
  params : Arguments
  body : List Stmt
  scope : Scope
def GeD.val (d : GeD) : FnW := some (d.name, d.qual, d.params, .stmts d.body, d.scope, mainGlobals, [], builtinsNs)
def GeD.ok (K : PySem.W.Frag) (d : GeD) : Bool := propB K d.cls d.name && (PySem.W.keepIn K (.ref (pgA K d.cls d.name).2) && (match K.lookup (pgA K d.cls d.name).2 with
  | some ⟨_, _, .func fd, _⟩ => PySem.W.codeIn K fd.code d.qual && (dflB K fd.defaults [] && kwdB K fd.kwdefaults [])
  | _ => false))
theorem GeD.funD {K : PySem.W.Frag} {d : GeD} (e : fnA K (pgA K d.cls d.name).2 = d.val) (c : d.ok K = true) : PropOf K (ga K d.cls) d.name (pgA K d.cls d.name).1 (pgA K d.cls d.name).2 ∧ ∃ fd, FunD K d.name d.qual d.params d.body d.scope [] [] (pgA K d.cls d.name).2 fd := by
  obtain ⟨pp, c⟩ := ba c
  obtain ⟨kp, c2⟩ := ba c
  refine ⟨propB_ok pp, ?_⟩
  unfold fnA at e
  cases q : K.lookup (pgA K d.cls d.name).2 with
  | none =>
    rw [q] at c2
    cases c2
  | some o =>
    obtain ⟨oc, od, dt, osl⟩ := o
    rw [q] at c2 e
    cases dt with
    | func fd =>
      obtain ⟨n1, n2, n3, n4, n5, n6, n7, n8, n9, n10, n11, n12, n13, n14, n15⟩ := fd
      have e2 : (some (n1, n2, n3, n4, n5, n6, n7, n15) : FnW) = some (d.name, d.qual, d.params, .stmts d.body, d.scope, mainGlobals, [], builtinsNs) := e
      simp only [Option.some.injEq, Prod.mk.injEq] at e2
      obtain ⟨h1, h2, h3, h4, h5, h6, h7, h8⟩ := e2
      subst h1 h2 h3 h4 h5 h6 h7 h8
      have c3 : (PySem.W.codeIn K n13 d.qual && (dflB K n8 [] && kwdB K n9 [])) = true := c2
      obtain ⟨k1, k2⟩ := ba c3
      obtain ⟨k3, k4⟩ := ba k2
      exact ⟨_, ⟨oc, od, n8, n9, n10, n11, n12, n13, n14, osl, rfl, q, k1, dflB_ok k3, kwdB_ok k4⟩, kp⟩
    | _ => cases c2
/-! ### more facts -/
inductive Fb where
  | fnIn (C m : Str)
  | obj (C : Str)
  | ne (C : Str)
  | xf (C : Str)
  | isi (Cs : List Str)
def isiB (K : PySem.W.Frag) (Cs : List Addr) : Bool := (Cs.all fun C => eqO (PySem.W.findIn K (.ref C) "__class__") (some (some (.builtin "object.__class__"))) && decide (PySem.W.mroIn K C (.type "object") = some true)) &&
  (Cs.all fun C => (askedT.all fun n => decide (PySem.W.kitOne K (.ref C) (.type n) = some false)) && (knownT.all fun n => decide (PySem.W.kitOne K (.type n) (.ref C) = some false)) && (Cs.all fun C' => decide (PySem.W.kitOne K (.ref C) (.ref C') = some (C == C')))) &&
  eqO (PySem.W.specialIn K (.builtin "object.__class__") "__get__") (some (some (.builtin "getset_descriptor.__get__"))) && decide (PySem.W.takesIn K (.builtin "object.__class__") = some true)
theorem isiB_ok {K : PySem.W.Frag} {Cs : List Addr} (hc : ∀ C ∈ Cs, Cls K C) (h : isiB K Cs = true) : IsiOk K Cs := by
  unfold isiB at h
  simp only [Bool.and_eq_true, decide_eq_true_eq, List.all_eq_true] at h
  obtain ⟨⟨⟨h1, h2⟩, h3⟩, h4⟩ := h
  exact ⟨fun C hC => ⟨hc C hC, eqO_ok (h1 C hC).1, eqO_ok h3, h4, (h1 C hC).2⟩, fun C hC => ⟨(h2 C hC).1.1, (h2 C hC).1.2, (h2 C hC).2⟩⟩
def Fb.ok (K : PySem.W.Frag) : Fb → Bool
  | .fnIn C m => PySem.W.fnIn K (ma K (ga K C) m)
  | .obj C => decide (PySem.W.mroIn K (ga K C) (.type "object") = some true)
  | .ne C => eqO (PySem.W.findIn K (.ref (ga K C)) "__ne__") (some (some (.builtin "object.__ne__")))
  | .xf C => xfB K (ga K C)
  | .isi Cs => isiB K (Cs.map (ga K))
/-! ### the Hook -/
abbrev AlM : Type := Bool × List FnW × List FnV × List FnW
structure Tab where
  file : Str
  fa : List Fa
  fb : List Fb
  fn : List DefD
  xs : List XcD
  gs : List GeD
def asM (g : Addr → Option Obj) (n : Nat) : List Addr := He.asD g n ++ [cStatics]
def obsM (t : Tab) (K : PySem.W.Frag) : AlM :=
  ((t.fa.all fun f => f.ok K) && (t.fb.all fun f => f.ok K) && (t.fn.all fun d => d.ok K) && (t.xs.all fun d => d.ok t.file K) && (t.gs.all fun d => d.ok K), t.fn.map fun d => fnW K d.at_, t.xs.map fun d => fnV K (ma K (ga K d.cls) "__init__"), t.gs.map fun d => fnA K (pgA K d.cls d.name).2)
def valM (t : Tab) : AlM := (true, t.fn.map DefD.val, t.xs.map XcD.val, t.gs.map GeD.val)
def SaysM (t : Tab) (K : PySem.W.Frag) : Prop := obsM t K = valM t
def obsMG (n : Nat) (t : Tab) (g : Addr → Option Obj) : AlM := obsM t (frG g (asM g n))
def hookM (n : Nat) (t : Tab) : PySem.W.Hook where
  α := AlM
  obs := fun s => obsMG n t s.heap.get?
  val := fun _ => valM t
  says := fun _ h => ∃ K : PySem.W.Frag, K.In h ∧ SaysM t K
  of := fun _ _ e => ⟨_, frG_in, e⟩
  keeps := fun _ _ _ ⟨K, hK, c⟩ k => ⟨K, PySem.W.Frag.In.keeps hK k, c⟩
theorem obsMG_eq {n : Nat} {t : Tab} {g : Addr → Option Obj} {s : Shared} (h : ∀ a, g a = s.heap.get? a) : obsMG n t g = (hookM n t).obs s := by
  have e : g = s.heap.get? := funext h
  rw [e] <;> rfl
section
variable {t : Tab} {K : PySem.W.Frag}
theorem SaysM.bools (c : SaysM t K) : (t.fa.all fun f => f.ok K) = true ∧ (t.fb.all fun f => f.ok K) = true ∧ (t.fn.all fun d => d.ok K) = true ∧ (t.xs.all fun d => d.ok t.file K) = true ∧ (t.gs.all fun d => d.ok K) = true := by
  have c1 : ((t.fa.all fun f => f.ok K) && (t.fb.all fun f => f.ok K) && (t.fn.all fun d => d.ok K) && (t.xs.all fun d => d.ok t.file K) && (t.gs.all fun d => d.ok K)) = true := congrArg (fun z : AlM => z.1) c
  simp only [Bool.and_eq_true] at c1
  exact ⟨c1.1.1.1.1, c1.1.1.1.2, c1.1.1.2, c1.1.2, c1.2⟩
theorem SaysM.fact (c : SaysM t K) (i : Nat) {f : Fa} (h : t.fa[i]? = some f := by rfl) : f.ok K = true := List.all_eq_true.mp c.bools.1 f (List.mem_of_getElem? h)
theorem SaysM.fact2 (c : SaysM t K) (i : Nat) {f : Fb} (h : t.fb[i]? = some f := by rfl) : f.ok K = true := List.all_eq_true.mp c.bools.2.1 f (List.mem_of_getElem? h)
theorem SaysM.def_ (c : SaysM t K) (i : Nat) {d : DefD} (h : t.fn[i]? = some d := by rfl) : ∃ fd, FunD K d.name d.qual d.params d.body d.scope (d.dvs K) (d.kws K) (fAd K d.at_) fd := by
  have e : t.fn.map (fun d => fnW K d.at_) = t.fn.map DefD.val := congrArg (fun z : AlM => z.2.1) c
  have e2 : (t.fn.map fun d => fnW K d.at_)[i]? = (t.fn.map DefD.val)[i]? := by rw [e]
  rw [List.getElem?_map, List.getElem?_map, h] at e2
  exact DefD.funD (Option.some.inj e2) (List.all_eq_true.mp c.bools.2.2.1 d (List.mem_of_getElem? h))
theorem SaysM.xc (c : SaysM t K) (i : Nat) {d : XcD} (h : t.xs[i]? = some d := by rfl) : d.ok t.file K = true ∧ fnV K (ma K (ga K d.cls) "__init__") = d.val := by
  have e : t.xs.map (fun d => fnV K (ma K (ga K d.cls) "__init__")) = t.xs.map XcD.val := congrArg (fun z : AlM => z.2.2.1) c
  have e2 : (t.xs.map fun d => fnV K (ma K (ga K d.cls) "__init__"))[i]? = (t.xs.map XcD.val)[i]? := by rw [e]
  rw [List.getElem?_map, List.getElem?_map, h] at e2
  exact ⟨List.all_eq_true.mp c.bools.2.2.2.1 d (List.mem_of_getElem? h), Option.some.inj e2⟩
theorem SaysM.ge (c : SaysM t K) (i : Nat) {d : GeD} (h : t.gs[i]? = some d := by rfl) : PropOf K (ga K d.cls) d.name (pgA K d.cls d.name).1 (pgA K d.cls d.name).2 ∧ ∃ fd, FunD K d.name d.qual d.params d.body d.scope [] [] (pgA K d.cls d.name).2 fd := by
  have e : t.gs.map (fun d => fnA K (pgA K d.cls d.name).2) = t.gs.map GeD.val := congrArg (fun z : AlM => z.2.2.2) c
  have e2 : (t.gs.map fun d => fnA K (pgA K d.cls d.name).2)[i]? = (t.gs.map GeD.val)[i]? := by rw [e]
  rw [List.getElem?_map, List.getElem?_map, h] at e2
  exact GeD.funD (Option.some.inj e2) (List.all_eq_true.mp c.bools.2.2.2.2 d (List.mem_of_getElem? h))
end
/-! ### a def of the table -/
def mkD (x : Str) (st : Stmt) : DefD := ⟨(x, none), x, x, defArgs st, defBody st, defScope st, [], []⟩
def mkM (c x q : Str) (st : Stmt) : DefD := ⟨(c, some x), x, q, defArgs st, defBody st, defScope st, [], []⟩
def mkG (c x q : Str) (st : Stmt) : GeD := ⟨c, x, q, defArgs st, defBody st, defScope st⟩
def mkX (c q : Str) (st : Stmt) (ns : List Str) : XcD := ⟨c, q, defArgs st, defBody st, defScope st, ns⟩
theorem fun_of {K : PySem.W.Frag} {x qual : Str} {st : Stmt} {f : Addr} {fd : FuncData} (F : FunD K x qual (defArgs st) (defBody st) (defScope st) [] [] f fd) : Fun K x qual st f fd := by
  obtain ⟨oc, od, dV, kV, doc, pm, an, cdv, ct, osl, e, lk, hcd, df, _⟩ := F.ex
  have e2 : dV = .none := by
    rcases df with ⟨_, e⟩ | ⟨n, _⟩
    · exact e
    · exact absurd rfl n
  subst e2
  exact ⟨⟨oc, od, kV, doc, pm, an, cdv, ct, osl, e, lk, hcd⟩, F.kp⟩
/-! ### what is never reached -/
def uNever : UE := fun _ _ _ _ => False
def uNeverS : US := fun _ _ _ => False
section
variable {X : Cx} {e : Expr} {st : Stmt}
theorem de_never : DE X e uNever := ⟨fun _ _ _ _ => False, fun _ _ => ⟨fun _ _ _ _ _ _ h => h.elim⟩, fun _ _ _ _ _ _ _ _ _ _ _ _ h _ => h.elim⟩
theorem ds_never : DS X st uNeverS := ⟨fun _ _ _ _ => False, fun _ _ => ⟨fun _ _ _ _ _ _ h => h.elim⟩, fun _ _ _ _ _ _ _ _ _ _ _ h _ => h.elim⟩
end
theorem boot_isinstance' : bootBuiltins "isinstance" = some (.builtin "isinstance") := by decide +kernel
theorem boot_max' : bootBuiltins "max" = some (.builtin "max") := by decide +kernel
theorem boot_min' : bootBuiltins "min" = some (.builtin "min") := by decide +kernel
theorem boot_all' : bootBuiltins "all" = some (.builtin "all") := by decide +kernel
theorem boot_len' : bootBuiltins "len" = some (.builtin "len") := by decide +kernel
theorem boot_sorted' : bootBuiltins "sorted" = some (.builtin "sorted") := by decide +kernel
theorem boot_int' : bootBuiltins "int" = some (.type "int") := by decide +kernel
theorem boot_bool' : bootBuiltins "bool" = some (.type "bool") := by decide +kernel
theorem boot_str' : bootBuiltins "str" = some (.type "str") := by decide +kernel
theorem boot_list' : bootBuiltins "list" = some (.type "list") := by decide +kernel
theorem boot_tuple' : bootBuiltins "tuple" = some (.type "tuple") := by decide +kernel
theorem boot_dict' : bootBuiltins "dict" = some (.type "dict") := by decide +kernel
end DL

namespace DL
open PySem L2
/-! ### tests by comparisons -/
def uTB (ue : UE) : UT := fun sl ce Q E => ue sl ce (fun t ce1 => match t with
  | .d (.bl b) => Q b ce1
  | _ => False) E
section
variable {X : Cx} {e a b c : Expr} {ua ub uc : UE} {pos : Pos}
theorem semTB {K : PySem.W.Frag} {te : WX → TE} (s : SemE K te ua) : SemT K (fun W => tTest (te W)) (uTB ua) := by
  intro W σ H sl ce G m Qd Ed Qv R w h k
  refine s W σ H sl ce G m _ Ed _ R w h fun x ce1 G1 m1 v H1 R1 s1 r1 h1 => ?_
  split at h1
  · next b => cases r1; exact ⟨b, rfl, k b ce1 G1 m1 H1 R1 s1 h1⟩
  · exact h1.elim
theorem dt_cmp {op : CmpOp} {o : O2} (ho : OpD X (compareOp op) o) (ha : DE X a ua) (hb : DE X b ub) (hm : behindInMarks op b = false := by first | exact nomark _ | rfl) : DT X (.Compare a [op] [b] pos) (uTB (uOp o ua ub)) := by
  obtain ⟨ta, pa, sa⟩ := ha.ex
  obtain ⟨tb, pb, sb⟩ := hb.ex
  obtain ⟨r, pr, sr⟩ := ho
  exact ⟨_, fun W tk => pt_cmpR pr (pa W tk) (pb W tk) hm, semTB (semOp sa sb sr)⟩
theorem semChain {K : PySem.W.Frag} {ta tb tc : WX → TE} {r r' : R2} {o o' : O2} (sa : SemE K ta ua) (sb : SemE K tb ub) (sc : SemE K tc uc)
    (sr : ∀ (H : Hp) (ce : Ce) (G : Hp) (m : List Addr) (Qd : T → Ce → Prop) (Qv : VK) (x y : T) (v u : V), RelS K H ce G m → RepT K m G x v → RepT K m G y u → o x y ce Qd → (∀ d ce' G' m' z H', RelS K H' ce' G' m' → Stp H m G H' m' G' → RepT K m' G' d z → Qd d ce' → Qv z H') → r v u H Qv)
    (sr' : ∀ (H : Hp) (ce : Ce) (G : Hp) (m : List Addr) (Qd : T → Ce → Prop) (Qv : VK) (x y : T) (v u : V), RelS K H ce G m → RepT K m G x v → RepT K m G y u → o' x y ce Qd → (∀ d ce' G' m' z H', RelS K H' ce' G' m' → Stp H m G H' m' G' → RepT K m' G' d z → Qd d ce' → Qv z H') → r' v u H Qv) :
    SemE K (fun W => tChain r r' (ta W) (tb W) (tc W)) (uChain o o' ua ub uc) := by
  intro W σ H sl ce G m Qd Ed Qv R w h k
  refine sa W σ H sl ce G m _ Ed _ R w h fun x ce1 G1 m1 v H1 R1 s1 r1 h1 => ?_
  refine sb W σ H1 sl ce1 G1 m1 _ Ed _ R1 (w.step s1) h1 fun y ce2 G2 m2 u H2 R2 s2 r2 h2 => ?_
  refine sr H2 ce2 G2 m2 _ _ x y v u R2.toRelS (r1.mono s2.pre s2.gg) r2 h2 fun z ce3 G3 m3 zv H3 R3' s3 r3 q3 => ?_
  have R3 := R2.step s3 R3'
  split at q3
  · refine ⟨true, r3, ?_⟩
    refine iteT ?_
    refine sc W σ H3 sl ce3 G3 m3 _ Ed _ R3 (w.step ((s1.trans s2).trans s3)) q3 fun d ce4 G4 m4 dv H4 R4 s4 r4 h4 => ?_
    refine sr' H4 ce4 G4 m4 Qd Qv y d u dv R4.toRelS (r2.mono (s3.trans s4).pre (s3.trans s4).gg) r4 h4 fun d' ce' G' m' z' H' R' s' r' q' => ?_
    exact k d' ce' G' m' z' H' (R4.step s' R') ((((s1.trans s2).trans s3).trans s4).trans s') r' q'
  · refine ⟨false, r3, ?_⟩
    refine iteF ?_
    exact k (.d (.bl false)) ce3 G3 m3 _ H3 R3 ((s1.trans s2).trans s3) rfl q3
  · exact q3.elim
theorem dt_chain {op op' : CmpOp} {o o' : O2} (ho : OpD X (compareOp op) o) (ho' : OpD X (compareOp op') o') (ha : DE X a ua) (hb : DE X b ub) (hc : DE X c uc) (hm : lastMarks [op, op'] [b, c] = false := by with_unfolding_all rfl) : DT X (.Compare a [op, op'] [b, c] pos) (uTB (uChain o o' ua ub uc)) := by
  obtain ⟨ta, pa, sa⟩ := ha.ex
  obtain ⟨tb, pb, sb⟩ := hb.ex
  obtain ⟨tc, pc, sc⟩ := hc.ex
  obtain ⟨r, pr, sr⟩ := ho
  obtain ⟨r', pr', sr'⟩ := ho'
  exact ⟨fun W => tTest (tChain r r' (ta W) (tb W) (tc W)), fun W tk => pt_chain pr pr' (pa W tk) (pb W tk) (pc W tk) hm, semTB (semChain sa sb sc sr sr')⟩
/-- two lists, the new one a cell -/
def oAddC : O2 := fun x y ce Q => match seqL ce x, seqL ce y with
  | some xs, some ys => xs.length + ys.length ≤ sizeLine ∧ Q (.cel ce.length) (ce ++ [.lst (xs ++ ys)])
  | _, _ => False
theorem od_addC : OpD X (binaryOp .Add) oAddC := by
  refine ⟨_, op_catL, fun H ce G m Qd Qv x y v u R rx ry h k => ?_⟩
  unfold oAddC at h
  split at h
  · next xs ys hx hy =>
    obtain ⟨a, vs, rfl, ha, ra⟩ := seqL_ok R rx hx
    obtain ⟨b, ws, rfl, hb, rb⟩ := seqL_ok R ry hy
    refine ⟨a, b, vs, ws, rfl, rfl, ha, hb, by rw [ra.length, rb.length]; exact h.1, fun p hp => ?_⟩
    obtain ⟨R2, s2⟩ := R.cell (o := .lst (vs ++ ws)) (c := .lst (xs ++ ys)) hp ⟨vs ++ ws, upd_same, (ra.append rb).mono (List.prefix_append m [p]) (Gg.refl _)⟩
    exact k (.cel ce.length) _ _ _ _ _ R2 s2 ⟨p, by rw [← R.len]; exact snoc_last, rfl⟩ h.2
  · exact h.elim
end
/-! ### comprehensions without effects -/
theorem compD_fm {ug : UG} {ut : UT} {ue : UE} {sl : Sl} {Q : List D → Ce → Prop} {ce : Ce} (f : T → Option D) : ∀ (items : List T) (acc : List D), (∀ t ∈ items, ∀ k : Option D → Ce → Prop, k (f t) ce → ug t sl ce fun sl1 ce1 => ut sl1 ce1 (fun b ce2 => match b with
    | true => ue sl1 ce2 (fun y ce3 => match y with
      | .d d => k (some d) ce3
      | _ => False) E0D
    | false => k none ce2) E0D) → Q (acc ++ items.filterMap f) ce → compD ug ut ue sl Q items acc ce
  | [], acc, _, h => by simpa [compD] using h
  | t :: r, acc, hi, h => by
    unfold compD
    refine hi t List.mem_cons_self (fun o ce' => match o with
      | some d => compD ug ut ue sl Q r (acc ++ [d]) ce'
      | none => compD ug ut ue sl Q r acc ce') ?_
    cases e : f t with
    | none => exact compD_fm f r acc (fun t' h' => hi t' (List.mem_cons_of_mem _ h')) (by rw [List.filterMap_cons_none e] at h; exact h)
    | some d => exact compD_fm f r (acc ++ [d]) (fun t' h' => hi t' (List.mem_cons_of_mem _ h')) (by rw [List.filterMap_cons_some e] at h; simpa using h)
theorem uLc_fm {ui : UI} {ug : UG} {ut : UT} {ue : UE} {vs : List Nat} {sl : Sl} {ce : Ce} {Q : T → Ce → Prop} {E : Ex1} (items : List T) (f : T → Option D) (hi : ∀ R : List T → Ce → Prop, R items ce → ui sl ce R E) (hl : items.length < 1000000)
    (hb : ∀ t ∈ items, ∀ k : Option D → Ce → Prop, k (f t) ce → ug t (wipeD sl vs) ce fun sl1 ce1 => ut sl1 ce1 (fun b ce2 => match b with
      | true => ue sl1 ce2 (fun y ce3 => match y with
        | .d d => k (some d) ce3
        | _ => False) E0D
      | false => k none ce2) E0D) (hq : Q (.d (.lst (items.filterMap f))) ce) : uLc ui ug ut ue vs sl ce Q E :=
  hi _ ⟨hl, compD_fm f items [] hb hq⟩
end DL

namespace DL
open PySem L2
/-! ### the walk over a reading, by instances: what is left to be shown -/
class Wk (g : Prop) (g' : outParam Prop) : Prop where
  go : g' → g
class SetAt (sl : Sl) (i : Nat) (o : Option T) (sl' : outParam Sl) : Prop where
  eq : sl.set i o = sl'
class WipeAt (sl : Sl) (vs : List Nat) (sl' : outParam Sl) : Prop where
  eq : wipeD sl vs = sl'
class CellAt (ce : Ce) (k : Nat) (c : outParam Cell) : Prop where
  eq : ce[k]? = some c
class CellSet (ce : Ce) (k : Nat) (c : Cell) (ce' : outParam Ce) : Prop where
  eq : ce.set k c = ce'
class LenIs (ce : Ce) (n : outParam Nat) : Prop where
  eq : ce.length = n
class AppIs (ce : Ce) (c : Cell) (ce' : outParam Ce) : Prop where
  eq : ce ++ [c] = ce'
class UnT (ts : List T) (ds : outParam (List D)) : Prop where
  eq : unT ts = some ds
class SeqOf (ce : Ce) (t : T) (xs : outParam (List T)) : Prop where
  eq : seqB ce t = some xs
class TruIs (ce : Ce) (t : T) (b : outParam Bool) : Prop where
  eq : truthD ce t = some b
class TagIs (ce : Ce) (t : T) (g : outParam Tg) : Prop where
  eq : tagOf ce t = some g
class InsIs (ce : Ce) (t : T) (C : outParam Addr) (fs : outParam (List (Str × T))) : Prop where
  eq : insOf ce t = some (C, fs)
section
variable {a b : Option T} {sl sl' sl'' : Sl} {i j k n : Nat} {c d : Cell} {ce ce' ce'' : Ce} {o : Option T}
instance : SetAt (a :: sl) 0 o (o :: sl) := ⟨rfl⟩
instance [h : SetAt sl i o sl'] : SetAt (a :: sl) (i + 1) o (a :: sl') := ⟨by rw [List.set_cons_succ, h.eq]⟩
instance : WipeAt sl [] sl := ⟨rfl⟩
instance [h : WipeAt sl vs sl'] [h2 : SetAt sl' i none sl''] : WipeAt sl (i :: vs) sl'' := ⟨by show (wipeD sl vs).set i none = sl''; rw [h.eq, h2.eq]⟩
instance : LenIs [] 0 := ⟨rfl⟩
instance [h : LenIs ce n] : LenIs (c :: ce) (n + 1) := ⟨by rw [List.length_cons, h.eq]⟩
instance [h : LenIs ce n] : LenIs (ce ++ [c]) (n + 1) := ⟨by simp [h.eq]⟩
instance (priority := 10) : LenIs ce ce.length := ⟨rfl⟩
instance : AppIs [] c [c] := ⟨rfl⟩
instance [h : AppIs ce c ce'] : AppIs (d :: ce) c (d :: ce') := ⟨by rw [List.cons_append, h.eq]⟩
instance (priority := 10) : AppIs ce c (ce ++ [c]) := ⟨rfl⟩
instance : CellAt (c :: ce) 0 c := ⟨rfl⟩
instance [h : CellAt ce k c] : CellAt (d :: ce) (k + 1) c := ⟨by rw [List.getElem?_cons_succ]; exact h.eq⟩
instance (priority := 20) cellApp {m : Ce} [h : CellAt ce k c] : CellAt (ce ++ m) k c := ⟨by
  rw [List.getElem?_append_left (List.getElem?_eq_some_iff.mp h.eq).1]; exact h.eq⟩
instance (priority := 30) cellLast : CellAt (ce ++ [c]) ce.length c := ⟨by simp⟩
instance cellLast2 : CellAt (ce ++ [d] ++ [c]) (ce.length + 1) c := ⟨by simp⟩
instance : CellSet (d :: ce) 0 c (c :: ce) := ⟨rfl⟩
instance [h : CellSet ce k c ce'] : CellSet (d :: ce) (k + 1) c (d :: ce') := ⟨by rw [List.set_cons_succ, h.eq]⟩
instance (priority := 30) setLast : CellSet (ce ++ [d]) ce.length c (ce ++ [c]) := ⟨by simp⟩
instance (priority := 20) setApp {m : Ce} {c0 : Cell} [h0 : CellAt ce k c0] [h : CellSet ce k c ce'] : CellSet (ce ++ m) k c (ce' ++ m) := ⟨by
  rw [List.set_append_left _ _ (List.getElem?_eq_some_iff.mp h0.eq).1, h.eq]⟩
instance setLast2 : CellSet (ce ++ [d] ++ [c']) (ce.length + 1) c (ce ++ [d] ++ [c]) := ⟨by simp⟩
instance setMid : CellSet (ce ++ [d] ++ [c']) ce.length c (ce ++ [c] ++ [c']) := ⟨by simp⟩
instance : UnT [] [] := ⟨rfl⟩
instance {x : D} {ts : List T} {ds : List D} [h : UnT ts ds] : UnT (.d x :: ts) (x :: ds) := ⟨by simp [unT, h.eq]⟩
instance {xs : List D} : UnT (xs.map T.d) xs := ⟨unT_map xs⟩
instance {xs : List D} : SeqOf ce (.d (.tup xs)) (xs.map T.d) := ⟨rfl⟩
instance {xs : List D} : SeqOf ce (.d (.lst xs)) (xs.map T.d) := ⟨rfl⟩
instance {xs : List T} [h : CellAt ce k (.lst xs)] : SeqOf ce (.cel k) xs := ⟨by show (match ce[k]? with | some (.lst xs) => some xs | _ => none) = some xs; rw [h.eq]⟩
instance : TruIs ce (.d .non) false := ⟨rfl⟩
instance {b : Bool} : TruIs ce (.d (.bl b)) b := ⟨rfl⟩
instance {i : Int} : TruIs ce (.d (.int i)) (i != 0) := ⟨rfl⟩
instance {xs : List D} : TruIs ce (.d (.lst xs)) (!xs.isEmpty) := ⟨rfl⟩
instance {xs : List D} : TruIs ce (.d (.tup xs)) (!xs.isEmpty) := ⟨rfl⟩
instance {xs : List T} [h : CellAt ce k (.lst xs)] : TruIs ce (.cel k) (!xs.isEmpty) := ⟨by show (match ce[k]? with | some (.lst xs) => some (!xs.isEmpty) | _ => none) = _; rw [h.eq]⟩
instance : TagIs ce (.d .non) (.b "NoneType") := ⟨rfl⟩
instance {b : Bool} : TagIs ce (.d (.bl b)) (.b "bool") := ⟨rfl⟩
instance {i : Int} : TagIs ce (.d (.int i)) (.b "int") := ⟨rfl⟩
instance {i : Str} : TagIs ce (.d (.str i)) (.b "str") := ⟨rfl⟩
instance {xs : List D} : TagIs ce (.d (.tup xs)) (.b "tuple") := ⟨rfl⟩
instance {xs : List D} : TagIs ce (.d (.lst xs)) (.b "list") := ⟨rfl⟩
instance {C : Addr} {fs : List (Str × D)} : TagIs ce (.d (.ins C fs)) (.o C) := ⟨rfl⟩
instance {C : Addr} {fs : List (Str × D)} : InsIs ce (.d (.ins C fs)) C (fs.map fun p => (p.1, .d p.2)) := ⟨rfl⟩
instance {C : Addr} {fs : List (Str × T)} [h : CellAt ce k (.ins C fs)] : InsIs ce (.cel k) C fs := ⟨by show (match ce[k]? with | some (.ins C fs) => some (C, fs) | _ => none) = _; rw [h.eq]⟩
end
section
variable {g : Prop} {sl sl' sl'' : Sl} {ce ce' ce'' : Ce} {Q : T → Ce → Prop} {E : Ex1} {i j : Nat} {t t' : T} {ua ub uc : UE} {tA tB : UT} {u ur : UA} {us us' : US} {N : DEnds} {QA : List T → Ce → Prop} {QB : Bool → Ce → Prop} {x y : T}
instance (priority := 1) wk_self : Wk g g := ⟨id⟩
instance [h : Wk (Q t ce) g] : Wk (uVar 0 (some t :: sl) ce Q E) g := ⟨h.go⟩
instance {o : Option T} [h : Wk (uVar i sl ce Q E) g] : Wk (uVar (i + 1) (o :: sl) ce Q E) g := ⟨fun q => by
  have := h.go q
  unfold uVar at this ⊢
  rw [List.getElem?_cons_succ]
  exact this⟩
instance {d : D} [h : Wk (Q (.d d) ce) g] : Wk (uC d sl ce Q E) g := ⟨h.go⟩
instance [h : Wk (QA [] ce) g] : Wk (uNil sl ce QA E) g := ⟨h.go⟩
instance [h : Wk (ua sl ce (fun x ce1 => ur sl ce1 (fun xs ce2 => QA (x :: xs) ce2) E) E) g] : Wk (uCons ua ur sl ce QA E) g := ⟨h.go⟩
/-- what stands behind a display -/
def kTup (Q : T → Ce → Prop) (ts : List T) (ce : Ce) : Prop := match unT ts with
  | some ds => ds.length ≤ sizeLine ∧ Q (.d (.tup ds)) ce
  | none => False
def kLst (Q : T → Ce → Prop) (ts : List T) (ce : Ce) : Prop := match unT ts with
  | some ds => ds.length ≤ sizeLine ∧ Q (.d (.lst ds)) ce
  | none => False
instance [h : Wk (u sl ce (kTup Q) E) g] : Wk (uTup u sl ce Q E) g := ⟨h.go⟩
instance [h : Wk (u sl ce (kLst Q) E) g] : Wk (uLst u sl ce Q E) g := ⟨h.go⟩
theorem lit_size {α : Type} {l : List α} (h : l.length ≤ 1000) : l.length ≤ sizeLine := by rw [sizeLine_eq]; omega
class Short {α : Type} (l : List α) : Prop where
  le : l.length ≤ sizeLine
class ShortN {α : Type} (l : List α) (n : outParam Nat) : Prop where
  le : l.length = n
instance {α : Type} : ShortN ([] : List α) 0 := ⟨rfl⟩
instance {α : Type} {a : α} {l : List α} {n : Nat} [h : ShortN l n] : ShortN (a :: l) (n + 1) := ⟨by rw [List.length_cons, h.le]⟩
class Below (n b : Nat) : Prop where
  le : n ≤ b
instance {b : Nat} : Below 0 b := ⟨Nat.zero_le _⟩
instance {n b : Nat} [h : Below n b] : Below (n + 1) (b + 1) := ⟨Nat.succ_le_succ h.le⟩
theorem short_le {α : Type} {l : List α} {n : Nat} [h1 : ShortN l n] [h2 : Below n 64] : l.length ≤ sizeLine := lit_size (by rw [h1.le]; have := h2.le; omega)
instance (priority := 2000) {ts : List T} {ds : List D} {n : Nat} [h1 : UnT ts ds] [h2 : ShortN ds n] [h3 : Below n 64] [h : Wk (Q (.d (.tup ds)) ce) g] : Wk (kTup Q ts ce) g := ⟨fun q => by unfold kTup; rw [h1.eq]; exact ⟨short_le, h.go q⟩⟩
instance (priority := 2000) {ts : List T} {ds : List D} {n : Nat} [h1 : UnT ts ds] [h2 : ShortN ds n] [h3 : Below n 64] [h : Wk (Q (.d (.lst ds)) ce) g] : Wk (kLst Q ts ce) g := ⟨fun q => by unfold kLst; rw [h1.eq]; exact ⟨short_le, h.go q⟩⟩
instance {ts : List T} {ds : List D} [h1 : UnT ts ds] [h : Wk (Q (.d (.tup ds)) ce) g] : Wk (kTup Q ts ce) (ds.length ≤ sizeLine ∧ g) := ⟨fun q => by unfold kTup; rw [h1.eq]; exact ⟨q.1, h.go q.2⟩⟩
instance {ts : List T} {ds : List D} [h1 : UnT ts ds] [h : Wk (Q (.d (.lst ds)) ce) g] : Wk (kLst Q ts ce) (ds.length ≤ sizeLine ∧ g) := ⟨fun q => by unfold kLst; rw [h1.eq]; exact ⟨q.1, h.go q.2⟩⟩
def kLstC (Q : T → Ce → Prop) (ts : List T) (ce : Ce) : Prop := ts.length ≤ sizeLine ∧ Q (.cel ce.length) (ce ++ [.lst ts])
instance [h : Wk (u sl ce (kLstC Q) E) g] : Wk (uLstC u sl ce Q E) g := ⟨h.go⟩
instance (priority := 2000) {ts : List T} {n k : Nat} [h0 : ShortN ts k] [h3 : Below k 64] [h1 : LenIs ce n] [h2 : AppIs ce (.lst ts) ce'] [h : Wk (Q (.cel n) ce') g] : Wk (kLstC Q ts ce) g := ⟨fun q => ⟨short_le, by rw [h1.eq, h2.eq]; exact h.go q⟩⟩
instance {ts : List T} {n : Nat} [h1 : LenIs ce n] [h2 : AppIs ce (.lst ts) ce'] [h : Wk (Q (.cel n) ce') g] : Wk (kLstC Q ts ce) (ts.length ≤ sizeLine ∧ g) := ⟨fun q => ⟨q.1, by rw [h1.eq, h2.eq]; exact h.go q.2⟩⟩
instance {o : O2} [h : Wk (ua sl ce (fun x ce1 => ub sl ce1 (fun y ce2 => o x y ce2 Q) E) E) g] : Wk (uOp o ua ub sl ce Q E) g := ⟨h.go⟩
def kChain (o' : O2) (uc : UE) (sl : Sl) (y : T) (Q : T → Ce → Prop) (E : Ex1) (z : T) (ce3 : Ce) : Prop := match z with
  | .d (.bl true) => uc sl ce3 (fun w ce4 => o' y w ce4 Q) E
  | .d (.bl false) => Q (.d (.bl false)) ce3
  | _ => False
instance {o o' : O2} [h : Wk (ua sl ce (fun x ce1 => ub sl ce1 (fun y ce2 => o x y ce2 (kChain o' uc sl y Q E)) E) E) g] : Wk (uChain o o' ua ub uc sl ce Q E) g := ⟨h.go⟩
instance {o' : O2} [h : Wk (uc sl ce (fun w ce4 => o' y w ce4 Q) E) g] : Wk (kChain o' uc sl y Q E (.d (.bl true)) ce) g := ⟨h.go⟩
instance {o' : O2} [h : Wk (Q (.d (.bl false)) ce) g] : Wk (kChain o' uc sl y Q E (.d (.bl false)) ce) g := ⟨h.go⟩
/-- both ways -/
instance (priority := 50) {b : Bool} {g' : Prop} {o' : O2} [h : Wk (uc sl ce (fun w ce4 => o' y w ce4 Q) E) g] [h' : Wk (Q (.d (.bl false)) ce) g'] : Wk (kChain o' uc sl y Q E (.d (.bl b)) ce) ((b = true → g) ∧ (b = false → g')) := ⟨fun q => by
  cases b with
  | true => exact h.go (q.1 rfl)
  | false => exact h'.go (q.2 rfl)⟩
def kTru (QB : Bool → Ce → Prop) (d : T) (ce1 : Ce) : Prop := match truthD ce1 d with
  | some b => QB b ce1
  | none => False
instance [h : Wk (ua sl ce (kTru QB) E) g] : Wk (uTru ua sl ce QB E) g := ⟨h.go⟩
instance {b : Bool} [h1 : TruIs ce t b] [h : Wk (QB b ce) g] : Wk (kTru QB t ce) g := ⟨fun q => by unfold kTru; rw [h1.eq]; exact h.go q⟩
def kTB (QB : Bool → Ce → Prop) (t : T) (ce1 : Ce) : Prop := match t with
  | .d (.bl b) => QB b ce1
  | _ => False
instance [h : Wk (ua sl ce (kTB QB) E) g] : Wk (uTB ua sl ce QB E) g := ⟨h.go⟩
instance {b : Bool} [h : Wk (QB b ce) g] : Wk (kTB QB (.d (.bl b)) ce) g := ⟨h.go⟩
instance [h : Wk (tA sl ce (fun b ce1 => QB (!b) ce1) E) g] : Wk (uNotT tA sl ce QB E) g := ⟨h.go⟩
/-- what is done behind a test -/
def kIf (P1 P2 : Ce → Prop) (b : Bool) (ce : Ce) : Prop := match b with
  | true => P1 ce
  | false => P2 ce
instance {P1 P2 : Ce → Prop} [h : Wk (P1 ce) g] : Wk (kIf P1 P2 true ce) g := ⟨h.go⟩
instance {P1 P2 : Ce → Prop} [h : Wk (P2 ce) g] : Wk (kIf P1 P2 false ce) g := ⟨h.go⟩
instance {P1 P2 : Ce → Prop} {b : Bool} [h : Wk (kIf P2 P1 b ce) g] : Wk (kIf P1 P2 (!b) ce) g := ⟨fun q => by
  have := h.go q
  cases b <;> exact this⟩
theorem kIf_of {P1 P2 : Ce → Prop} {b : Bool} (h1 : b = true → P1 ce) (h2 : b = false → P2 ce) : kIf P1 P2 b ce := by
  cases b with
  | true => exact h1 rfl
  | false => exact h2 rfl
theorem kIf_t {P1 P2 : Ce → Prop} {b : Bool} (hb : b = true) (h1 : P1 ce) : kIf P1 P2 b ce := by subst hb; exact h1
theorem kIf_f {P1 P2 : Ce → Prop} {b : Bool} (hb : b = false) (h1 : P2 ce) : kIf P1 P2 b ce := by subst hb; exact h1
instance [h : Wk (tA sl ce (kIf (fun ce1 => tB sl ce1 QB E) (fun ce1 => QB false ce1)) E) g] : Wk (uAndT tA tB sl ce QB E) g := ⟨h.go⟩
instance [h : Wk (tA sl ce (kIf (fun ce1 => QB true ce1) (fun ce1 => tB sl ce1 QB E)) E) g] : Wk (uOrT tA tB sl ce QB E) g := ⟨h.go⟩
instance [h : Wk (tA sl ce (kIf (fun ce1 => ua sl ce1 Q E) (fun ce1 => ub sl ce1 Q E)) E) g] : Wk (uIfE tA ua ub sl ce Q E) g := ⟨h.go⟩
/-- what is done behind a value that must be a bool -/
def kBl (R : Bool → Ce → Prop) (x : T) (ce : Ce) : Prop := match x with
  | .d (.bl b) => R b ce
  | _ => False
instance {b : Bool} {R : Bool → Ce → Prop} [h : Wk (R b ce) g] : Wk (kBl R (.d (.bl b)) ce) g := ⟨h.go⟩
theorem and_go (h : ua sl ce (kBl (kIf (fun ce1 => ub sl ce1 Q E) (fun ce1 => Q (.d (.bl false)) ce1))) E) : uAndV ua ub sl ce Q E := by
  have e : uAndV ua ub sl ce Q E = ua sl ce (kBl (kIf (fun ce1 => ub sl ce1 Q E) (fun ce1 => Q (.d (.bl false)) ce1))) E := by
    unfold uAndV
    refine congrArg (fun f => ua sl ce f E) ?_
    funext x ce1
    cases x with
    | cel k => rfl
    | d d => cases d <;> first | rfl | (rename_i b; cases b <;> rfl)
  rw [e]
  exact h
theorem or_go (h : ua sl ce (kBl (kIf (fun ce1 => Q (.d (.bl true)) ce1) (fun ce1 => ub sl ce1 Q E))) E) : uOrV ua ub sl ce Q E := by
  have e : uOrV ua ub sl ce Q E = ua sl ce (kBl (kIf (fun ce1 => Q (.d (.bl true)) ce1) (fun ce1 => ub sl ce1 Q E))) E := by
    unfold uOrV
    refine congrArg (fun f => ua sl ce f E) ?_
    funext x ce1
    cases x with
    | cel k => rfl
    | d d => cases d <;> first | rfl | (rename_i b; cases b <;> rfl)
  rw [e]
  exact h
instance [h : Wk (ua sl ce (kBl (kIf (fun ce1 => ub sl ce1 Q E) (fun ce1 => Q (.d (.bl false)) ce1))) E) g] : Wk (uAndV ua ub sl ce Q E) g := ⟨fun q => and_go (h.go q)⟩
instance [h : Wk (ua sl ce (kBl (kIf (fun ce1 => Q (.d (.bl true)) ce1) (fun ce1 => ub sl ce1 Q E))) E) g] : Wk (uOrV ua ub sl ce Q E) g := ⟨fun q => or_go (h.go q)⟩
instance [h : Wk (ua sl ce (kBl (fun b ce1 => Q (.d (.bl (!b))) ce1)) E) g] : Wk (uNotV ua sl ce Q E) g := ⟨h.go⟩
/-! operators -/
instance {i j : Int} [h : Wk (Q (.d (.int (i + j))) ce) g] : Wk (oAdd (.d (.int i)) (.d (.int j)) ce Q) g := ⟨h.go⟩
instance {i j : Str} [h : Wk (Q (.d (.str (i ++ j))) ce) g] : Wk (oAdd (.d (.str i)) (.d (.str j)) ce Q) (i.length + j.length ≤ sizeLine ∧ g) := ⟨fun q => ⟨q.1, h.go q.2⟩⟩
instance {i j : List D} [h : Wk (Q (.d (.tup (i ++ j))) ce) g] : Wk (oAdd (.d (.tup i)) (.d (.tup j)) ce Q) (i.length + j.length ≤ sizeLine ∧ g) := ⟨fun q => ⟨q.1, h.go q.2⟩⟩
instance {i j : List D} [h : Wk (Q (.d (.lst (i ++ j))) ce) g] : Wk (oAdd (.d (.lst i)) (.d (.lst j)) ce Q) (i.length + j.length ≤ sizeLine ∧ g) := ⟨fun q => ⟨q.1, h.go q.2⟩⟩
instance addCel {k : Nat} {xs : List T} {i j : List D} [h1 : CellAt ce k (.lst xs)] [h2 : UnT xs i] [h : Wk (Q (.d (.lst (i ++ j))) ce) g] : Wk (oAdd (.cel k) (.d (.lst j)) ce Q) (i.length + j.length ≤ sizeLine ∧ g) := ⟨fun q => by
  have e : seqL ce (.cel k) = some xs := by
    unfold seqL
    simp only [h1.eq]
  unfold oAdd
  simp only [seqL, h1.eq, h2.eq, unT_map]
  exact ⟨q.1, h.go q.2⟩⟩
class SeqLs (ce : Ce) (t : T) (xs : outParam (List T)) : Prop where
  eq : seqL ce t = some xs
instance {xs : List D} : SeqLs ce (.d (.lst xs)) (xs.map T.d) := ⟨rfl⟩
instance {k : Nat} {xs : List T} [h : CellAt ce k (.lst xs)] : SeqLs ce (.cel k) xs := ⟨by
  unfold seqL
  simp only [h.eq]⟩
instance addC {xs ys : List T} {n : Nat} [h1 : SeqLs ce x xs] [h2 : SeqLs ce y ys] [h3 : LenIs ce n] [h4 : AppIs ce (.lst (xs ++ ys)) ce'] [h : Wk (Q (.cel n) ce') g] : Wk (oAddC x y ce Q) (xs.length + ys.length ≤ sizeLine ∧ g) := ⟨fun q => by
  unfold oAddC
  rw [h1.eq, h2.eq]
  exact ⟨q.1, by rw [h3.eq, h4.eq]; exact h.go q.2⟩⟩
instance {i j : Int} [h : Wk (Q (.d (.int (i - j))) ce) g] : Wk (oSub (.d (.int i)) (.d (.int j)) ce Q) g := ⟨h.go⟩
instance {i j : Int} [h : Wk (Q (.d (.int (i * j))) ce) g] : Wk (oMul (.d (.int i)) (.d (.int j)) ce Q) (CMul i j ∧ g) := ⟨fun q => ⟨q.1, h.go q.2⟩⟩
instance {i j : Int} [h : Wk (Q (.d (.int (i / j))) ce) g] : Wk (oFdiv (.d (.int i)) (.d (.int j)) ce Q) ((0 < j ∧ j < 1073741824) ∧ g) := ⟨fun q => ⟨q.1, h.go q.2⟩⟩
instance {i j : Int} [h : Wk (Q (.d (.int (i % j))) ce) g] : Wk (oMod (.d (.int i)) (.d (.int j)) ce Q) (0 < j ∧ g) := ⟨fun q => ⟨q.1, h.go q.2⟩⟩
instance {i j : Int} [h : Wk (Q (.d (.int (i ^ j.toNat))) ce) g] : Wk (oPow (.d (.int i)) (.d (.int j)) ce Q) (CPow i j ∧ g) := ⟨fun q => ⟨q.1, h.go q.2⟩⟩
instance {i j : Int} [h : Wk (Q (.d (.bl (decide (i < j)))) ce) g] : Wk (oLt (.d (.int i)) (.d (.int j)) ce Q) g := ⟨h.go⟩
instance {i j : Str} [h : Wk (Q (.d (.bl (ltS i j))) ce) g] : Wk (oLt (.d (.str i)) (.d (.str j)) ce Q) g := ⟨h.go⟩
instance {i j : Int} [h : Wk (Q (.d (.bl (decide (i ≤ j)))) ce) g] : Wk (oLe (.d (.int i)) (.d (.int j)) ce Q) g := ⟨h.go⟩
instance {i j : Int} [h : Wk (Q (.d (.bl (decide (j < i)))) ce) g] : Wk (oGt (.d (.int i)) (.d (.int j)) ce Q) g := ⟨h.go⟩
instance {i j : Int} [h : Wk (Q (.d (.bl (decide (j ≤ i)))) ce) g] : Wk (oGe (.d (.int i)) (.d (.int j)) ce Q) g := ⟨h.go⟩
instance {n : Bool} {i j : Int} [h : Wk (Q (.d (.bl (n != decide (i = j)))) ce) g] : Wk (oEqB n (.d (.int i)) (.d (.int j)) ce Q) g := ⟨h.go⟩
instance {n : Bool} {i j : Str} [h : Wk (Q (.d (.bl (n != decide (i = j)))) ce) g] : Wk (oEqB n (.d (.str i)) (.d (.str j)) ce Q) g := ⟨h.go⟩
instance {n : Bool} {i j : Bool} [h : Wk (Q (.d (.bl (n != decide (i = j)))) ce) g] : Wk (oEqB n (.d (.bl i)) (.d (.bl j)) ce Q) g := ⟨h.go⟩
instance {n : Bool} [h : Wk (Q (.d (.bl (!n))) ce) g] : Wk (oIsN n (.d .non) (.d .non) ce Q) g := ⟨h.go⟩
instance {n : Bool} {i : Int} [h : Wk (Q (.d (.bl n)) ce) g] : Wk (oIsN n (.d (.int i)) (.d .non) ce Q) g := ⟨h.go⟩
instance {n : Bool} {i : Str} [h : Wk (Q (.d (.bl n)) ce) g] : Wk (oIsN n (.d (.str i)) (.d .non) ce Q) g := ⟨h.go⟩
instance {n : Bool} {i : Bool} [h : Wk (Q (.d (.bl n)) ce) g] : Wk (oIsN n (.d (.bl i)) (.d .non) ce Q) g := ⟨h.go⟩
instance {n : Bool} {i : List D} [h : Wk (Q (.d (.bl n)) ce) g] : Wk (oIsN n (.d (.tup i)) (.d .non) ce Q) g := ⟨h.go⟩
instance {n : Bool} {i : List D} [h : Wk (Q (.d (.bl n)) ce) g] : Wk (oIsN n (.d (.lst i)) (.d .non) ce Q) g := ⟨h.go⟩
/-! indices: what stands at a place -/
def kAt {α : Type} (R : α → Ce → Prop) (xs : List α) (i : Int) (ce : Ce) : Prop := match atI xs i with
  | some d => R d ce
  | none => False
theorem kAt_of {α : Type} {R : α → Ce → Prop} {xs : List α} {i : Int} {d : α} (h : atI xs i = some d) (q : R d ce) : kAt R xs i ce := by unfold kAt; rw [h]; exact q
theorem atI_nat {α : Type} {xs : List α} {n : Nat} (h : n < xs.length) : atI xs (n : Int) = xs[n]? := by
  unfold atI ixN
  rw [if_pos (by omega), if_pos (by omega)]
  simp
instance {α : Type} {R : α → Ce → Prop} {a : α} {l : List α} [h : Wk (R a ce) g] : Wk (kAt R (a :: l) 0 ce) g := ⟨fun q => kAt_of ((atI_nat (n := 0) (by simp)).trans rfl) (h.go q)⟩
instance {α : Type} {R : α → Ce → Prop} {a b : α} {l : List α} [h : Wk (R b ce) g] : Wk (kAt R (a :: b :: l) 1 ce) g := ⟨fun q => kAt_of ((atI_nat (n := 1) (by simp)).trans rfl) (h.go q)⟩
instance {α : Type} {R : α → Ce → Prop} {a b c : α} {l : List α} [h : Wk (R c ce) g] : Wk (kAt R (a :: b :: c :: l) 2 ce) g := ⟨fun q => kAt_of ((atI_nat (n := 2) (by simp)).trans rfl) (h.go q)⟩
theorem ixT_go {xs : List D} {i : Int} (h : kAt (fun d ce => Q (.d d) ce) xs i ce) : oIx (.d (.tup xs)) (.d (.int i)) ce Q := by
  unfold kAt at h
  unfold oIx
  cases e : atI xs i with
  | none => rw [e] at h; exact h.elim
  | some d => rw [e] at h; simp only [e]; exact h
theorem ixL_go {xs : List D} {i : Int} (h : kAt (fun d ce => Q (.d d) ce) xs i ce) : oIx (.d (.lst xs)) (.d (.int i)) ce Q := by
  unfold kAt at h
  unfold oIx
  cases e : atI xs i with
  | none => rw [e] at h; exact h.elim
  | some d => rw [e] at h; simp only [e]; exact h
instance {xs : List D} {i : Int} [h : Wk (kAt (fun d ce => Q (.d d) ce) xs i ce) g] : Wk (oIx (.d (.tup xs)) (.d (.int i)) ce Q) g := ⟨fun q => ixT_go (h.go q)⟩
instance {xs : List D} {i : Int} [h : Wk (kAt (fun d ce => Q (.d d) ce) xs i ce) g] : Wk (oIx (.d (.lst xs)) (.d (.int i)) ce Q) g := ⟨fun q => ixL_go (h.go q)⟩
theorem ixC_go {k : Nat} {xs : List T} {i : Int} (h1 : ce[k]? = some (.lst xs)) (h : kAt Q xs i ce) : oIx (.cel k) (.d (.int i)) ce Q := by
  unfold kAt at h
  unfold oIx
  simp only [h1]
  cases e : atI xs i with
  | none => rw [e] at h; exact h.elim
  | some d => rw [e] at h; exact h
instance {k : Nat} {xs : List T} {i : Int} [h1 : CellAt ce k (.lst xs)] [h : Wk (kAt Q xs i ce) g] : Wk (oIx (.cel k) (.d (.int i)) ce Q) g := ⟨fun q => ixC_go h1.eq (h.go q)⟩
end
section
variable {g : Prop} {sl sl' sl'' : Sl} {ce ce' ce'' : Ce} {Q : T → Ce → Prop} {E : Ex1} {i j : Nat} {t t' : T} {ua ub uc : UE} {tA tB : UT} {u ur : UA} {us us' : US} {N : DEnds} {QA : List T → Ce → Prop} {QB : Bool → Ce → Prop} {QO : Option Int → Ce → Prop} {x y : T} {ul uh : UO}
instance [h : Wk (QO none ce) g] : Wk (uNoP sl ce QO E) g := ⟨h.go⟩
def kPart (QO : Option Int → Ce → Prop) (x : T) (ce1 : Ce) : Prop := match x with
  | .d (.int i) => QO (some i) ce1
  | _ => False
instance [h : Wk (ua sl ce (kPart QO) E) g] : Wk (uPart ua sl ce QO E) g := ⟨h.go⟩
instance {i : Int} [h : Wk (QO (some i) ce) g] : Wk (kPart QO (.d (.int i)) ce) g := ⟨h.go⟩
def kCut (Q : T → Ce → Prop) (x : T) (lo hi : Option Int) (ce3 : Ce) : Prop := match x with
  | .d (.tup xs) => Q (.d (.tup (cutD xs lo hi))) ce3
  | .d (.lst xs) => Q (.d (.lst (cutD xs lo hi))) ce3
  | .d (.str z) => z.length ≤ sizeLine ∧ Q (.d (.str (cutS z lo hi))) ce3
  | _ => False
instance [h : Wk (ua sl ce (fun x ce1 => ul sl ce1 (fun lo ce2 => uh sl ce2 (fun hi ce3 => kCut Q x lo hi ce3) E) E) E) g] : Wk (uSlice ua ul uh sl ce Q E) g := ⟨h.go⟩
instance {xs : List D} {lo hi : Option Int} [h : Wk (Q (.d (.tup (cutD xs lo hi))) ce) g] : Wk (kCut Q (.d (.tup xs)) lo hi ce) g := ⟨h.go⟩
instance {xs : List D} {lo hi : Option Int} [h : Wk (Q (.d (.lst (cutD xs lo hi))) ce) g] : Wk (kCut Q (.d (.lst xs)) lo hi ce) g := ⟨h.go⟩
instance {z : Str} {lo hi : Option Int} [h : Wk (Q (.d (.str (cutS z lo hi))) ce) g] : Wk (kCut Q (.d (.str z)) lo hi ce) (z.length ≤ sizeLine ∧ g) := ⟨fun q => ⟨q.1, h.go q.2⟩⟩
/-! calls -/
instance {o : OC} [h : Wk (u sl ce (fun ts ce1 => o ts ce1 Q) E) g] : Wk (uCB o u sl ce Q E) g := ⟨h.go⟩
instance {z : Str} [h : Wk (Q (.d (.int z.length)) ce) g] : Wk (oLen [.d (.str z)] ce Q) (z.length ≤ sizeLine ∧ g) := ⟨fun q => ⟨q.1, h.go q.2⟩⟩
instance {xs : List D} [h : Wk (Q (.d (.int xs.length)) ce) g] : Wk (oLen [.d (.tup xs)] ce Q) g := ⟨fun q => by
  show Q (.d (.int (xs.map T.d).length)) ce
  rw [List.length_map]; exact h.go q⟩
instance {xs : List D} [h : Wk (Q (.d (.int xs.length)) ce) g] : Wk (oLen [.d (.lst xs)] ce Q) g := ⟨fun q => by
  show Q (.d (.int (xs.map T.d).length)) ce
  rw [List.length_map]; exact h.go q⟩
instance {k : Nat} {xs : List T} [h1 : CellAt ce k (.lst xs)] [h : Wk (Q (.d (.int xs.length)) ce) g] : Wk (oLen [.cel k] ce Q) g := ⟨fun q => by
  show (match seqB ce (.cel k) with
    | some xs => Q (.d (.int xs.length)) ce
    | none => False)
  rw [(inferInstance : SeqOf ce (.cel k) xs).eq]; exact h.go q⟩
instance {i : Int} [h : Wk (Q (.d (.int i)) ce) g] : Wk (oInt1 [.d (.int i)] ce Q) g := ⟨h.go⟩
instance {i j : Int} [h : Wk (Q (.d (.int (if j > i then j else i))) ce) g] : Wk (oMax2 [.d (.int i), .d (.int j)] ce Q) g := ⟨h.go⟩
instance {xs : List D} [h : Wk (Q (.d (.tup xs)) ce) g] : Wk (oTuple [.d (.lst xs)] ce Q) g := ⟨h.go⟩
instance {xs : List D} [h : Wk (Q (.d (.tup xs)) ce) g] : Wk (oTuple [.d (.tup xs)] ce Q) g := ⟨h.go⟩
instance {k : Nat} {xs : List T} {ds : List D} [h1 : CellAt ce k (.lst xs)] [h2 : UnT xs ds] [h : Wk (Q (.d (.tup ds)) ce) g] : Wk (oTuple [.cel k] ce Q) g := ⟨fun q => by
  unfold oTuple
  simp only [h1.eq, h2.eq]
  exact h.go q⟩
instance {n : Nat} {xs : List T} [h1 : SeqOf ce x xs] [h2 : LenIs ce n] [h3 : AppIs ce (.lst xs) ce'] [h : Wk (Q (.cel n) ce') g] : Wk (oListC [x] ce Q) g := ⟨fun q => by
  unfold oListC
  simp only [h1.eq]
  rw [h2.eq, h3.eq]
  exact h.go q⟩
instance {xs : List T} {ds : List D} [h1 : SeqOf ce x xs] [h2 : UnT xs ds] [h : Wk (Q (.d (.lst ds)) ce) g] : Wk (oList [x] ce Q) g := ⟨fun q => by
  unfold oList
  simp only [h1.eq, h2.eq]
  exact h.go q⟩
instance {Cs : List Addr} {gt : Tg} {n : String} [h1 : TagIs ce t gt] [h : Wk (Q (.d (.bl (isiT gt (.b n)))) ce) g] : Wk (oIsi Cs [t, .d (.raw (.ty n))] ce Q) ((okT Cs gt = true ∧ okA Cs (.b n) = true) ∧ g) := ⟨fun q => by
  unfold oIsi
  simp only [h1.eq, clsOf]
  exact ⟨q.1.1, q.1.2, h.go q.2⟩⟩
instance {Cs : List Addr} {gt : Tg} {C : Addr} [h1 : TagIs ce t gt] [h : Wk (Q (.d (.bl (isiT gt (.o C)))) ce) g] : Wk (oIsi Cs [t, .d (.raw (.ref C))] ce Q) ((okT Cs gt = true ∧ okA Cs (.o C) = true) ∧ g) := ⟨fun q => by
  unfold oIsi
  simp only [h1.eq, clsOf]
  exact ⟨q.1.1, q.1.2, h.go q.2⟩⟩
instance {Cs : List Addr} {gt : Tg} {n m : String} [h1 : TagIs ce t gt] [h : Wk (Q (.d (.bl (isiT gt (.b n) || isiT gt (.b m)))) ce) g] : Wk (oIsi Cs [t, .d (.tup [.raw (.ty n), .raw (.ty m)])] ce Q) ((okT Cs gt = true ∧ okA Cs (.b n) = true ∧ okA Cs (.b m) = true) ∧ g) := ⟨fun q => by
  unfold oIsi
  simp only [h1.eq]
  refine ⟨q.1.1, ?_⟩
  show [Tg.b n, Tg.b m].all (okA Cs) = true ∧ _
  refine ⟨by simp [q.1.2.1, q.1.2.2], ?_⟩
  have := h.go q.2
  simpa using this⟩
instance {φ : Phi} [h : Wk (u sl ce (fun ts ce1 => φ ts ce1 Q (fun x ce2 => E x sl ce2)) E) g] : Wk (uCall φ u sl ce Q E) g := ⟨h.go⟩
def kMake (C : Addr) (φ : Phi) (sl : Sl) (Q : T → Ce → Prop) (E : Ex1) (ts : List T) (ce1 : Ce) : Prop := φ (.cel ce1.length :: ts) (ce1 ++ [.ins C []]) (fun v ce2 => v = .d .non ∧ ∃ ce3 fs, ce2 = ce3 ++ [.ins C fs] ∧ sameCells ce1 ce3 ∧ match unF fs with
  | some ds => Q (.d (.ins C ds)) ce3
  | none => False) (fun x ce2 => ∃ ce3 junk, ce2 = ce3 ++ junk ∧ sameCells ce1 ce3 ∧ E x sl ce3)
instance {C : Addr} {φ : Phi} [h : Wk (u sl ce (kMake C φ sl Q E) E) g] : Wk (uMake C φ u sl ce Q E) g := ⟨h.go⟩
def kIns (R : T → Addr → List (Str × T) → Ce → Prop) (x : T) (ce1 : Ce) : Prop := match insOf ce1 x with
  | some (C', fs) => R x C' fs ce1
  | none => False
instance {C : Addr} {fs : List (Str × T)} {R : T → Addr → List (Str × T) → Ce → Prop} [h1 : InsIs ce x C fs] [h : Wk (R x C fs ce) g] : Wk (kIns R x ce) g := ⟨fun q => by unfold kIns; rw [h1.eq]; exact h.go q⟩
def kLook (Q : T → Ce → Prop) (f : Str) (fs : List (Str × T)) (ce : Ce) : Prop := match fs.lookup f with
  | some d => Q d ce
  | none => False
theorem kLook_of {f : Str} {fs : List (Str × T)} {d : T} (h : fs.lookup f = some d) (q : Q d ce) : kLook Q f fs ce := by unfold kLook; rw [h]; exact q
instance {C : Addr} {f : Str} [h : Wk (ua sl ce (kIns fun _ C' fs ce1 => C' = C ∧ kLook Q f fs ce1) E) g] : Wk (uFld C f ua sl ce Q E) g := ⟨h.go⟩
instance {C : Addr} {φ : Phi} [h : Wk (ua sl ce (kIns fun x C' _ ce1 => C' = C ∧ φ [x] ce1 Q (fun _ _ => False)) E) g] : Wk (uProp C φ ua sl ce Q E) g := ⟨h.go⟩
instance {C : Addr} {n : Str} {φ : Phi} [h : Wk (ua sl ce (kIns fun x C' fs ce1 => C' = C ∧ fs.lookup n = none ∧ u sl ce1 (fun ts ce2 => φ (x :: ts) ce2 Q (fun x ce3 => E x sl ce3)) E) E) g] : Wk (uMeth C n φ ua u sl ce Q E) g := ⟨h.go⟩
instance {C : Addr} {φ : Phi} [h : Wk (kIns (fun t C' _ ce1 => C' = C ∧ φ [t] ce1 (fun v ce' => match v with
      | .d (.int n) => (0 ≤ n ∧ n < 2 ^ 63) ∧ Q (.d (.int n)) ce'
      | _ => False) (fun _ _ => False)) t ce) g] : Wk (oLenO C φ [t] ce Q) g := ⟨h.go⟩
instance {C : Addr} {φ : Phi} {neg : Bool} [h : Wk (kIns (fun y C' _ ce1 => C' = C ∧ φ [y, x] ce1 (kBl fun b ce' => Q (.d (.bl (neg != b))) ce') (fun _ _ => False)) y ce) g] : Wk (oInO C φ neg x y ce Q) g := ⟨h.go⟩
instance {C : Addr} {φ : Phi} [h : Wk (ua sl ce (fun x ce1 => ub sl ce1 (fun y ce2 => kIns (fun x C' _ ce2 => C' = C ∧ φ [x, y] ce2 Q (fun x ce3 => E x sl ce3)) x ce2) E) E) g] : Wk (uGetO C φ ua ub sl ce Q E) g := ⟨h.go⟩
instance {C C' C'' : Addr} {φ : Phi} {neg : Bool} {fs fs' : List (Str × T)} [h1 : InsIs ce x C' fs] [h2 : InsIs ce y C'' fs'] : Wk (oEqO C φ neg x y ce Q) (C' = C ∧ C'' = C ∧ φ [x, y] ce (kBl fun b ce' => Q (.d (.bl (neg != b))) ce') (fun _ _ => False)) := ⟨fun q => by
  unfold oEqO
  rw [h1.eq, h2.eq]
  exact q⟩
/-! statements -/
instance [h : Wk (N.nx sl ce) g] : Wk (uNext N sl ce) g := ⟨h.go⟩
instance [h : Wk (us { N with nx := us' N } sl ce) g] : Wk (uSeq us us' N sl ce) g := ⟨h.go⟩
instance [h : Wk (N.bk sl ce) g] : Wk (uBreak N sl ce) g := ⟨h.go⟩
instance [h : Wk (N.ct sl ce) g] : Wk (uCont N sl ce) g := ⟨h.go⟩
instance [h : Wk (ua sl ce (fun _ ce1 => N.nx sl ce1) N.ex) g] : Wk (uDrop ua N sl ce) g := ⟨h.go⟩
instance [h : Wk (ua sl ce N.rt N.ex) g] : Wk (uRet ua N sl ce) g := ⟨h.go⟩
instance [h : Wk (tA sl ce (kIf (fun ce1 => us N sl ce1) (fun ce1 => us' N sl ce1)) N.ex) g] : Wk (uIf tA us us' N sl ce) g := ⟨h.go⟩
variable {QS : Sl → Ce → Prop} {ug : UG} {gs : UGs}
instance [h1 : SetAt sl i (some t) sl'] [h : Wk (QS sl' ce) g] : Wk (ugName i t sl ce QS) g := ⟨fun q => by unfold ugName; rw [h1.eq]; exact h.go q⟩
instance [h : Wk (QS sl ce) g] : Wk (ugNil [] sl ce QS) g := ⟨h.go⟩
instance {r : List T} [h : Wk (ug t sl ce fun sl1 ce1 => gs r sl1 ce1 QS) g] : Wk (ugCons ug gs (t :: r) sl ce QS) g := ⟨h.go⟩
class MapT (ds : List D) (ts : outParam (List T)) : Prop where
  eq : ds.map T.d = ts
instance : MapT [] [] := ⟨rfl⟩
instance {d : D} {ds : List D} {ts : List T} [h : MapT ds ts] : MapT (d :: ds) (.d d :: ts) := ⟨by rw [List.map_cons, h.eq]⟩
instance {n : Nat} {ds : List D} {ts : List T} [h1 : MapT ds ts] [h : Wk (gs ts sl ce QS) g] : Wk (ugTup n gs (.d (.tup ds)) sl ce QS) (ds.length = n ∧ g) := ⟨fun q => ⟨q.1, by rw [h1.eq]; exact h.go q.2⟩⟩
instance [h : Wk (ua sl ce (fun t ce1 => ug t sl ce1 N.nx) N.ex) g] : Wk (uAsg ua ug N sl ce) g := ⟨h.go⟩
def kPar (i j : Nat) (sl : Sl) (QS : Sl → Ce → Prop) (ts : List T) (ce1 : Ce) : Prop := match ts with
  | [t, t'] => QS ((sl.set i (some t)).set j (some t')) ce1
  | _ => False
instance [h : Wk (u sl ce (kPar i j sl N.nx) N.ex) g] : Wk (uPar i j u N sl ce) g := ⟨h.go⟩
instance [h1 : SetAt sl i (some t) sl'] [h2 : SetAt sl' j (some t') sl''] [h : Wk (QS sl'' ce) g] : Wk (kPar i j sl QS [t, t'] ce) g := ⟨fun q => by
  show QS ((sl.set i (some t)).set j (some t')) ce
  rw [h1.eq, h2.eq]; exact h.go q⟩
def kStF (C : Addr) (f : Str) (t : T) (N : DEnds) (sl : Sl) (o : T) (ce2 : Ce) : Prop := match o with
  | .cel k => match ce2[k]? with
    | some (.ins C' fs) => C' = C ∧ fs.length < 1000 ∧ N.nx sl (ce2.set k (.ins C (putD f t fs)))
    | _ => False
  | _ => False
instance {C : Addr} {f : Str} {uo : UE} [h : Wk (ua sl ce (fun t ce1 => uo sl ce1 (kStF C f t N sl) N.ex) N.ex) g] : Wk (uStF C f uo ua N sl ce) g := ⟨h.go⟩
instance {C C' : Addr} {f : Str} {k : Nat} {fs : List (Str × T)} [h1 : CellAt ce k (.ins C' fs)] [h2 : CellSet ce k (.ins C (putD f t fs)) ce'] [h : Wk (N.nx sl ce') g] : Wk (kStF C f t N sl (.cel k) ce) (C' = C ∧ fs.length < 1000 ∧ g) := ⟨fun q => by
  unfold kStF
  simp only [h1.eq]
  exact ⟨q.1, q.2.1, by rw [h2.eq]; exact h.go q.2.2⟩⟩
def kStI (t : T) (N : DEnds) (sl : Sl) (o i : T) (ce3 : Ce) : Prop := match o, i with
  | .cel k, .d (.int n) => match ce3[k]? with
    | some (.lst xs) => match ixN xs.length n with
      | some j => N.nx sl (ce3.set k (.lst (xs.set j t)))
      | none => False
    | _ => False
  | _, _ => False
instance {uo ui : UE} [h : Wk (ua sl ce (fun t ce1 => uo sl ce1 (fun o ce2 => ui sl ce2 (fun i ce3 => kStI t N sl o i ce3) N.ex) N.ex) N.ex) g] : Wk (uStI uo ui ua N sl ce) g := ⟨h.go⟩
theorem stI_go {k j : Nat} {n : Int} {xs : List T} (h1 : ce[k]? = some (.lst xs)) (h2 : ixN xs.length n = some j) (h : N.nx sl (ce.set k (.lst (xs.set j t)))) : kStI t N sl (.cel k) (.d (.int n)) ce := by
  unfold kStI
  simp only [h1, h2]
  exact h
instance {k : Nat} {a : T} {l : List T} [h1 : CellAt ce k (.lst (a :: l))] [h2 : CellSet ce k (.lst (t :: l)) ce'] [h : Wk (N.nx sl ce') g] : Wk (kStI t N sl (.cel k) (.d (.int 0)) ce) g := ⟨fun q => stI_go h1.eq (j := 0) (by simp [ixN]) (by rw [List.set_cons_zero, h2.eq]; exact h.go q)⟩
instance {k : Nat} {a b c : T} {l : List T} [h1 : CellAt ce k (.lst (a :: b :: c :: l))] [h2 : CellSet ce k (.lst (a :: b :: t :: l)) ce'] [h : Wk (N.nx sl ce') g] : Wk (kStI t N sl (.cel k) (.d (.int 2)) ce) g := ⟨fun q => stI_go h1.eq (j := 2) (by simp [ixN]; omega) (by rw [List.set_cons_succ, List.set_cons_succ, List.set_cons_zero, h2.eq]; exact h.go q)⟩
def kBM (u : UA) (o : Nat → List T → List T → Ce → (T → Ce → Prop) → Prop) (sl : Sl) (Q : T → Ce → Prop) (E : Ex1) (x : T) (ce1 : Ce) : Prop := match x with
  | .cel k => match ce1[k]? with
    | some (.lst _) => u sl ce1 (fun ts ce2 => match ce2[k]? with
      | some (.lst xs) => o k xs ts ce2 Q
      | _ => False) E
    | _ => False
  | _ => False
def kBM2 (o : Nat → List T → List T → Ce → (T → Ce → Prop) → Prop) (k : Nat) (Q : T → Ce → Prop) (ts : List T) (ce2 : Ce) : Prop := match ce2[k]? with
  | some (.lst xs) => o k xs ts ce2 Q
  | _ => False
instance {o : Nat → List T → List T → Ce → (T → Ce → Prop) → Prop} [h : Wk (ua sl ce (kBM u o sl Q E) E) g] : Wk (uBM ua u o sl ce Q E) g := ⟨h.go⟩
instance {o : Nat → List T → List T → Ce → (T → Ce → Prop) → Prop} {k : Nat} {xs : List T} [h1 : CellAt ce k (.lst xs)] [h : Wk (u sl ce (kBM2 o k Q) E) g] : Wk (kBM u o sl Q E (.cel k) ce) g := ⟨fun q => by
  unfold kBM
  simp only [h1.eq]
  exact h.go q⟩
instance {o : Nat → List T → List T → Ce → (T → Ce → Prop) → Prop} {k : Nat} {xs ts : List T} [h1 : CellAt ce k (.lst xs)] [h : Wk (o k xs ts ce Q) g] : Wk (kBM2 o k Q ts ce) g := ⟨fun q => by
  unfold kBM2
  simp only [h1.eq]
  exact h.go q⟩
instance {k : Nat} {xs : List T} [h1 : CellSet ce k (.lst (xs ++ [t])) ce'] [h : Wk (Q (.d .non) ce') g] : Wk (oApp k xs [t] ce Q) (xs.length < sizeLine ∧ g) := ⟨fun q => ⟨q.1, by rw [h1.eq]; exact h.go q.2⟩⟩
/-! loops and comprehensions stop -/
variable {ui : UI}
def kL (Q : List T → Ce → Prop) (x : T) (ce1 : Ce) : Prop := match x with
  | .d (.lst ds) => Q (ds.map T.d) ce1
  | _ => False
def kT (Q : List T → Ce → Prop) (x : T) (ce1 : Ce) : Prop := match x with
  | .d (.tup ds) => Q (ds.map T.d) ce1
  | _ => False
def kS (Q : List T → Ce → Prop) (x : T) (ce1 : Ce) : Prop := match x with
  | .d (.str z) => Q (signs z) ce1
  | _ => False
instance [h : Wk (ua sl ce (kL QA) E) g] : Wk (uiL ua sl ce QA E) g := ⟨h.go⟩
instance [h : Wk (ua sl ce (kT QA) E) g] : Wk (uiT ua sl ce QA E) g := ⟨h.go⟩
instance [h : Wk (ua sl ce (kS QA) E) g] : Wk (uiS ua sl ce QA E) g := ⟨h.go⟩
instance {ds : List D} [h : Wk (QA (ds.map T.d) ce) g] : Wk (kL QA (.d (.lst ds)) ce) g := ⟨h.go⟩
instance {ds : List D} [h : Wk (QA (ds.map T.d) ce) g] : Wk (kT QA (.d (.tup ds)) ce) g := ⟨h.go⟩
instance {z : Str} [h : Wk (QA (signs z) ce) g] : Wk (kS QA (.d (.str z)) ce) g := ⟨h.go⟩
def kR1 (Q : List T → Ce → Prop) (ts : List T) (ce1 : Ce) : Prop := match ts with
  | [.d (.int j)] => (-(2 ^ 62) ≤ j ∧ j < 2 ^ 62) ∧ Q ((List.range j.toNat).map fun (i : Nat) => .d (.int i)) ce1
  | _ => False
instance [h : Wk (u sl ce (kR1 QA) E) g] : Wk (uiR1 u sl ce QA E) g := ⟨h.go⟩
instance {j : Int} [h : Wk (QA ((List.range j.toNat).map fun (i : Nat) => .d (.int i)) ce) g] : Wk (kR1 QA [.d (.int j)] ce) ((-(2 ^ 62) ≤ j ∧ j < 2 ^ 62) ∧ g) := ⟨fun q => ⟨q.1, h.go q.2⟩⟩
def kZ (Q : List T → Ce → Prop) (ts : List T) (ce1 : Ce) : Prop := match ts with
  | [.d (.tup xs), .d (.tup ys)] => Q (zipD xs ys) ce1
  | [.d (.lst xs), .d (.lst ys)] => Q (zipD xs ys) ce1
  | _ => False
instance [h : Wk (u sl ce (kZ QA) E) g] : Wk (uiZ u sl ce QA E) g := ⟨h.go⟩
instance {xs ys : List D} [h : Wk (QA (zipD xs ys) ce) g] : Wk (kZ QA [.d (.tup xs), .d (.tup ys)] ce) g := ⟨h.go⟩
instance {xs ys : List D} [h : Wk (QA (zipD xs ys) ce) g] : Wk (kZ QA [.d (.lst xs), .d (.lst ys)] ce) g := ⟨h.go⟩
def kE (Q : List T → Ce → Prop) (ts : List T) (ce1 : Ce) : Prop := match ts with
  | [.d (.tup xs)] => Q (enumD xs) ce1
  | _ => False
instance [h : Wk (u sl ce (kE QA) E) g] : Wk (uiE u sl ce QA E) g := ⟨h.go⟩
instance {xs : List D} [h : Wk (QA (enumD xs) ce) g] : Wk (kE QA [.d (.tup xs)] ce) g := ⟨h.go⟩
instance [h : Wk (ui sl ce (fun items ce1 => loopD ug us N items sl ce1) N.ex) g] : Wk (uFor ui ug us N sl ce) g := ⟨h.go⟩
instance {ut : UT} {ue : UE} {vs : List Nat} [h1 : WipeAt sl vs sl'] [h : Wk (ui sl ce (fun items ce1 => items.length < 1000000 ∧ compD ug ut ue sl' (fun acc ce2 => Q (.d (.lst acc)) ce2) items [] ce1) E) g] : Wk (uLc ui ug ut ue vs sl ce Q E) g := ⟨fun q => by
  unfold uLc
  rw [h1.eq]
  exact h.go q⟩
instance [h : Wk (QB true ce) g] : Wk (uYes sl ce QB E) g := ⟨h.go⟩
/-! exceptions -/
variable {ux : UX} {QX : Exc → Ce → Prop}
instance [h : Wk (ux sl ce (fun x ce1 => N.ex x sl ce1) N.ex) g] : Wk (uRaise ux N sl ce) g := ⟨h.go⟩
def kMkK (C : Addr) (ns : List Str) (QX : Exc → Ce → Prop) (ts : List T) (ce1 : Ce) : Prop := match unT ts with
  | some ds => ds.length = ns.length ∧ QX ⟨.ref C, ns.zip ds⟩ ce1
  | none => False
instance {C : Addr} {ns : List Str} [h : Wk (u sl ce (kMkK C ns QX) E) g] : Wk (uMkK C ns u sl ce QX E) g := ⟨h.go⟩
instance {C : Addr} {ns : List Str} {ts : List T} {ds : List D} [h1 : UnT ts ds] [h : Wk (QX ⟨.ref C, ns.zip ds⟩ ce) g] : Wk (kMkK C ns QX ts ce) (ds.length = ns.length ∧ g) := ⟨fun q => by
  unfold kMkK
  rw [h1.eq]
  exact ⟨q.1, h.go q.2⟩⟩
end
section
variable {g : Prop} {sl : Sl} {ce ce' : Ce} {Q : T → Ce → Prop} {us : US} {N : DEnds}
/-- pop(i) -/
theorem pop_go {k j : Nat} {xs : List T} {i : Int} {t : T} (hj : ixN xs.length i = some j) (ht : xs[j]? = some t) (hb : -(2 ^ 63) ≤ i ∧ i < 2 ^ 63) (h : CellSet ce k (.lst (xs.eraseIdx j)) ce') (q : Q t ce') : oPopAt k xs [.d (.int i)] ce Q := by
  unfold oPopAt
  simp only [hj, ht]
  exact ⟨hb, by rw [h.eq]; exact q⟩
/-- an exception of the body of a try with a name -/
def kTryA (exm : Value → Option Bool) (i : Nat) (usu : Addr → Value → Option Addr → US) (N : DEnds) : Ex1 := fun x sl' ce' => match exm x.cls with
  | some true => ∀ a d, (d = none → x.fs = []) → usu a x.cls d { nx := fun sl2 ce2 => N.nx (sl2.set i none) ce2, rt := N.rt, ex := E0D, bk := fun sl2 ce2 => N.bk (sl2.set i none) ce2, ct := fun sl2 ce2 => N.ct (sl2.set i none) ce2 } (sl'.set i (some (.d (excD a d x)))) ce'
  | some false => N.ex x sl' ce'
  | none => False
def kTryO (exm : Value → Option Bool) (usu : US) (N : DEnds) : Ex1 := fun x sl' ce' => match exm x.cls with
  | some true => usu { N with ex := E0D } sl' ce'
  | some false => N.ex x sl' ce'
  | none => False
instance {exm : Value → Option Bool} {i : Nat} {usu : Addr → Value → Option Addr → US} [h : Wk (us { N with ex := kTryA exm i usu N } sl ce) g] : Wk (uTryA exm i us usu N sl ce) g := ⟨h.go⟩
instance {exm : Value → Option Bool} {usu : US} [h : Wk (us { N with ex := kTryO exm usu N } sl ce) g] : Wk (uTryO exm us usu N sl ce) g := ⟨h.go⟩
def exmL (l : List (Addr × Bool)) (v : Value) : Option Bool := match v with
  | .ref a => l.lookup a
  | _ => none
theorem exmL_ok {K : PySem.W.Frag} {l : List (Addr × Bool)} {c : Value} (h : ∀ p ∈ l, PySem.W.exmOne K (.ref p.1) c = some p.2) : ∀ cls b, exmL l cls = some b → PySem.W.exmOne K cls c = some b := by
  intro cls b e
  unfold exmL at e
  split at e
  · next a =>
    have : ∀ l : List (Addr × Bool), (∀ p ∈ l, PySem.W.exmOne K (.ref p.1) c = some p.2) → l.lookup a = some b → PySem.W.exmOne K (.ref a) c = some b := by
      intro l
      induction l with
      | nil => intro _ e; cases e
      | cons p r ih =>
        intro h e
        obtain ⟨x, y⟩ := p
        unfold List.lookup at e
        split at e
        · next q =>
          have q' : a = x := by simpa using q
          cases e
          subst q'
          exact h (a, b) List.mem_cons_self
        · exact ih (fun p hp => h p (List.mem_cons_of_mem _ hp)) e
    exact this l h e
  · cases e
theorem tryA_go {exm : Value → Option Bool} {i : Nat} {usu : Addr → Value → Option Addr → US} {x : Exc} (h : exm x.cls = some true) (q : ∀ a d, (d = none → x.fs = []) → usu a x.cls d { nx := fun sl2 ce2 => N.nx (sl2.set i none) ce2, rt := N.rt, ex := E0D, bk := fun sl2 ce2 => N.bk (sl2.set i none) ce2, ct := fun sl2 ce2 => N.ct (sl2.set i none) ce2 } (sl.set i (some (.d (excD a d x)))) ce) : kTryA exm i usu N x sl ce := by
  unfold kTryA
  rw [h]
  exact q
theorem tryO_go {exm : Value → Option Bool} {usu : US} {x : Exc} (h : exm x.cls = some true) (q : usu { N with ex := E0D } sl ce) : kTryO exm usu N x sl ce := by
  unfold kTryO
  rw [h]
  exact q
/-- e.f of the caught error -/
theorem xf_go {a C dd : Addr} {n : Str} {ua : UE} {E : Ex1} {fs : List (Str × D)} {v : D} (hv : fs.lookup n = some v) (h : ∀ R : T → Ce → Prop, R (.d (.exc a dd (.ref C) fs)) ce → ua sl ce R E) (q : Q (.d v) ce) : uXf a (.ref C) (some dd) C n ua sl ce Q E := by
  unfold uXf
  refine h _ ?_
  simp only [hv, true_and]
  exact q
end
end DL

namespace DL
open PySem L2
/-! ### equality of data -/
def OkN (n : Nat) (d : D) : Prop := ∃ p, pyD d = some p ∧ p.canLay0 = true ∧ p.depth ≤ n
def OkL (n : Nat) (ds : List D) : Prop := ∃ ps, pyDs ds = some ps ∧ PyData.canLayAll0 ps = true ∧ PyData.depthAll ps ≤ n
def okS (x : Str) : Bool := PyData.canLay0 (.str x)
theorem OkN.mono {n m : Nat} {d : D} (h : OkN n d) (l : n ≤ m) : OkN m d := by
  obtain ⟨p, a, b, c⟩ := h
  exact ⟨p, a, b, Nat.le_trans c l⟩
theorem ok_non : OkN 0 .non := ⟨_, rfl, rfl, Nat.le_refl _⟩
theorem ok_bl {b : Bool} : OkN 0 (.bl b) := ⟨_, rfl, rfl, Nat.le_refl _⟩
theorem ok_int {i : Int} : OkN 0 (.int i) := ⟨_, rfl, rfl, Nat.le_refl _⟩
theorem ok_str {x : Str} (h : okS x = true) : OkN 0 (.str x) := ⟨_, rfl, h, Nat.le_refl _⟩
theorem okL_nil {n : Nat} : OkL n [] := ⟨[], rfl, rfl, Nat.zero_le _⟩
theorem okL_cons {n : Nat} {d : D} {ds : List D} (h : OkN n d) (hs : OkL n ds) : OkL n (d :: ds) := by
  obtain ⟨p, a, b, c⟩ := h
  obtain ⟨ps, a', b', c'⟩ := hs
  refine ⟨p :: ps, ?_, ?_, ?_⟩
  · unfold pyDs; rw [a, a']
  · unfold PyData.canLayAll0; rw [b, b']; rfl
  · unfold PyData.depthAll; exact Nat.max_le.mpr ⟨c, c'⟩
theorem okL_of {n : Nat} : ∀ {ds : List D}, (∀ d ∈ ds, OkN n d) → OkL n ds
  | [], _ => okL_nil
  | d :: ds, h => okL_cons (h d List.mem_cons_self) (okL_of fun x hx => h x (List.mem_cons_of_mem _ hx))
theorem ok_lst {n : Nat} {ds : List D} (h : OkL n ds) : OkN (n + 1) (.lst ds) := by
  obtain ⟨ps, a, b, c⟩ := h
  refine ⟨.list ps, ?_, ?_, ?_⟩
  · unfold pyD; rw [a]
  · unfold PyData.canLay0; exact b
  · unfold PyData.depth; omega
theorem ok_tup {n : Nat} {ds : List D} (h : OkL n ds) : OkN (n + 1) (.tup ds) := by
  obtain ⟨ps, a, b, c⟩ := h
  refine ⟨.tuple ps, ?_, ?_, ?_⟩
  · unfold pyD; rw [a]
  · unfold PyData.canLay0; exact b
  · unfold PyData.depth; omega
theorem OkN.shaped {n : Nat} {d : D} (h : OkN n d) (l : n ≤ 64) : ∃ p, pyD d = some p ∧ SeqAt.shaped p = true := by
  obtain ⟨p, a, b, c⟩ := h
  exact ⟨p, a, Bool.and_eq_true_iff.mpr ⟨b, decide_eq_true (Nat.le_trans c l)⟩⟩
/-- Python's == of two data -/
def eqD (x y : D) : Bool := match pyD x, pyD y with
  | some p, some q => PyData.eqv p q
  | _, _ => false
def eqDs (x y : List D) : Bool := match pyDs x, pyDs y with
  | some p, some q => PyData.eqvAll p q
  | _, _ => false
theorem eq_go {neg : Bool} {x y : D} {n m : Nat} {ce : Ce} {Q : T → Ce → Prop} (hx : OkN n x) (hy : OkN m y) (hn : n ≤ 64) (hm : m ≤ 64) (q : Q (.d (.bl (neg != eqD x y))) ce) : oEqB neg (.d x) (.d y) ce Q := by
  obtain ⟨p, a, b⟩ := hx.shaped hn
  obtain ⟨p', a', b'⟩ := hy.shaped hm
  have e : eqD x y = PyData.eqv p p' := by unfold eqD; rw [a, a']
  rw [e] at q
  have gen : (match pyD x, pyD y with
    | some d, some e => SeqAt.shaped d = true ∧ SeqAt.shaped e = true ∧ Q (.d (.bl (neg != PyData.eqv d e))) ce
    | _, _ => False) := by rw [a, a']; exact ⟨b, b', q⟩
  unfold oEqB
  split
  · next i j e1 e2 =>
    cases e1; cases e2; cases a; cases a'
    have : PyData.eqv (.int i) (.int j) = decide (i = j) := by unfold PyData.eqv; by_cases h : i = j <;> simp [h]
    rw [this] at q; exact q
  · next i j e1 e2 =>
    cases e1; cases e2; cases a; cases a'
    have : PyData.eqv (.str i) (.str j) = decide (i = j) := by unfold PyData.eqv; by_cases h : i = j <;> simp [h]
    rw [this] at q; exact q
  · next i j e1 e2 =>
    cases e1; cases e2; cases a; cases a'
    have : PyData.eqv (.bool i) (.bool j) = decide (i = j) := by unfold PyData.eqv; by_cases h : i = j <;> simp [h]
    rw [this] at q; exact q
  · next x' y' _ _ _ e1 e2 =>
    cases e1; cases e2
    exact gen
  · next h1 => exact absurd rfl (h1 x y rfl)
mutual
theorem eqv_refl : ∀ p : PyData, p.canLay0 = true → PyData.eqv p p = true
  | .none, _ => rfl
  | .bool _, _ => by simp [PyData.eqv]
  | .int _, _ => by simp [PyData.eqv]
  | .str _, _ => by simp [PyData.eqv]
  | .list xs, h => by unfold PyData.eqv; exact eqvAll_refl xs (by unfold PyData.canLay0 at h; exact h)
  | .tuple xs, h => by unfold PyData.eqv; exact eqvAll_refl xs (by unfold PyData.canLay0 at h; exact h)
  | .dict _, h => by unfold PyData.canLay0 at h; cases h
theorem eqvAll_refl : ∀ p : List PyData, PyData.canLayAll0 p = true → PyData.eqvAll p p = true
  | [], _ => rfl
  | x :: xs, h => by
    unfold PyData.canLayAll0 at h
    obtain ⟨h1, h2⟩ := Bool.and_eq_true_iff.mp h
    unfold PyData.eqvAll
    rw [eqv_refl x h1, eqvAll_refl xs h2]; rfl
end
theorem eqD_refl {n : Nat} {x : D} (h : OkN n x) : eqD x x = true := by
  obtain ⟨p, a, b, _⟩ := h
  unfold eqD; rw [a]; exact eqv_refl p b
theorem eqD_lst {xs ys : List D} (hx : ∃ n, OkL n xs) (hy : ∃ n, OkL n ys) : eqD (.lst xs) (.lst ys) = eqDs xs ys := by
  obtain ⟨n, ps, a, b, c⟩ := hx
  obtain ⟨m, ps', a', b', c'⟩ := hy
  unfold eqD eqDs pyD
  rw [a, a']
  simp only [PyData.eqv]
theorem eqD_tup {xs ys : List D} (hx : ∃ n, OkL n xs) (hy : ∃ n, OkL n ys) : eqD (.tup xs) (.tup ys) = eqDs xs ys := by
  obtain ⟨n, ps, a, b, c⟩ := hx
  obtain ⟨m, ps', a', b', c'⟩ := hy
  unfold eqD eqDs pyD
  rw [a, a']
  simp only [PyData.eqv]
theorem eqDs_cons {x y : D} {xs ys : List D} (h : ∃ n, OkN n x) (h' : ∃ n, OkN n y) (hx : ∃ n, OkL n xs) (hy : ∃ n, OkL n ys) : eqDs (x :: xs) (y :: ys) = (eqD x y && eqDs xs ys) := by
  obtain ⟨_, p, a0, _, _⟩ := h
  obtain ⟨_, p', a0', _, _⟩ := h'
  obtain ⟨n, ps, a, b, c⟩ := hx
  obtain ⟨m, ps', a', b', c'⟩ := hy
  unfold eqD eqDs
  simp only [pyDs, a, a', a0, a0', PyData.eqvAll]
theorem eqDs_nil {xs : List D} (hx : ∃ n, OkL n xs) : eqDs xs [] = xs.isEmpty := by
  obtain ⟨n, ps, a, b, c⟩ := hx
  unfold eqDs
  rw [a]
  cases xs with
  | nil => cases a; rfl
  | cons x r =>
    unfold pyDs at a
    split at a
    · cases a; rfl
    · cases a
theorem eqD_str {x y : Str} : eqD (.str x) (.str y) = decide (x = y) := by
  unfold eqD pyD PyData.eqv
  by_cases h : x = y <;> simp [h]
theorem eqD_int {x y : Int} : eqD (.int x) (.int y) = decide (x = y) := by
  unfold eqD pyD PyData.eqv
  by_cases h : x = y <;> simp [h]
theorem eqD_bl {x y : Bool} : eqD (.bl x) (.bl y) = decide (x = y) := by
  unfold eqD pyD PyData.eqv
  by_cases h : x = y <;> simp [h]
/-- a list against the empty one -/
theorem eq_nil {neg : Bool} {xs : List D} {n : Nat} {ce : Ce} {Q : T → Ce → Prop} (hx : OkL n xs) (hn : n < 64) (q : Q (.d (.bl (neg != xs.isEmpty))) ce) : oEqB neg (.d (.lst xs)) (.d (.lst [])) ce Q := by
  refine eq_go (ok_lst hx) (ok_lst (okL_nil (n := 0))) hn (by decide) ?_
  rw [eqD_lst ⟨n, hx⟩ ⟨0, okL_nil⟩, eqDs_nil ⟨n, hx⟩]
  exact q
/-! ### comprehensions over a mapped list -/
theorem compD_map {α : Type} {ug : UG} {ut : UT} {ue : UE} {sl : Sl} {Q : List D → Ce → Prop} {ce : Ce} (G : α → T) (f : α → Option D) (l : List α) (h : ∀ a ∈ l, ∀ k : Option D → Ce → Prop, k (f a) ce → ug (G a) sl ce fun sl1 ce1 => ut sl1 ce1 (fun b ce2 => match b with
    | true => ue sl1 ce2 (fun y ce3 => match y with
      | .d d => k (some d) ce3
      | _ => False) E0D
    | false => k none ce2) E0D) (hq : Q (l.filterMap f) ce) : compD ug ut ue sl Q (l.map G) [] ce := by
  have main : ∀ (l : List α) (acc : List D), (∀ a ∈ l, ∀ k : Option D → Ce → Prop, k (f a) ce → ug (G a) sl ce fun sl1 ce1 => ut sl1 ce1 (fun b ce2 => match b with
    | true => ue sl1 ce2 (fun y ce3 => match y with
      | .d d => k (some d) ce3
      | _ => False) E0D
    | false => k none ce2) E0D) → Q (acc ++ l.filterMap f) ce → compD ug ut ue sl Q (l.map G) acc ce := by
    intro l
    induction l with
    | nil => intro acc _ hq; simpa [compD] using hq
    | cons t r ih =>
      intro acc hi hq
      rw [List.map_cons]
      unfold compD
      refine hi t List.mem_cons_self (fun o ce' => match o with
        | some d => compD ug ut ue sl Q (r.map G) (acc ++ [d]) ce'
        | none => compD ug ut ue sl Q (r.map G) acc ce') ?_
      cases e : f t with
      | none => exact ih acc (fun t' h' => hi t' (List.mem_cons_of_mem _ h')) (by rw [List.filterMap_cons_none e] at hq; exact hq)
      | some d => exact ih (acc ++ [d]) (fun t' h' => hi t' (List.mem_cons_of_mem _ h')) (by rw [List.filterMap_cons_some e] at hq; simpa using hq)
  exact main l [] h hq
/-- what a comprehension does with one item -/
def kItem (ut : UT) (ue : UE) (k : Option D → Ce → Prop) : Sl → Ce → Prop := fun sl1 ce1 => ut sl1 ce1 (kIf (fun ce2 => ue sl1 ce2 (fun y ce3 => match y with
      | .d d => k (some d) ce3
      | _ => False) E0D) (fun ce2 => k none ce2)) E0D
def kD (R : D → Ce → Prop) (y : T) (ce : Ce) : Prop := match y with
  | .d d => R d ce
  | _ => False
instance {g : Prop} {R : D → Ce → Prop} {d : D} {ce : Ce} [h : Wk (R d ce) g] : Wk (kD R (.d d) ce) g := ⟨h.go⟩
theorem uLc_map {α : Type} {ug : UG} {ut : UT} {ue : UE} {sl : Sl} {ce : Ce} {Q : List D → Ce → Prop} (G : α → T) (f : α → Option D) (l : List α) (hl : l.length < 1000000) (h : ∀ a ∈ l, ∀ k : Option D → Ce → Prop, k (f a) ce → ug (G a) sl ce fun sl1 ce1 => ut sl1 ce1 (kIf (fun ce2 => ue sl1 ce2 (kD fun d ce3 => k (some d) ce3) E0D) (fun ce2 => k none ce2)) E0D)
    (hq : Q (l.filterMap f) ce) : (l.map G).length < 1000000 ∧ compD ug ut ue sl Q (l.map G) [] ce := ⟨by rw [List.length_map]; exact hl, compD_map G f l h hq⟩
end DL

namespace DL
open PySem L2
/-! ### plain laws of data -/
theorem one_ok {c : Nat} (h : c < 0x110000) : okS ⟨#[c]⟩ = true := by simp [okS, PyData.canLay0, PyData.strOk, h]
theorem okS_mem {t : Str} (h : okS t = true) : ∀ c ∈ t.cps.toList, c < 0x110000 := by
  intro c hc
  have h' : t.cps.all (· < 0x110000) = true := h
  rw [Array.all_eq_true_iff_forall_mem] at h'
  simpa using h' c (by simpa using hc)
theorem sz {n : Nat} (h : n ≤ 1000) : n ≤ sizeLine := by rw [sizeLine_eq]; omega
theorem cut_from {α : Type} (xs : List α) (k : Nat) : DL.cutD xs (some (k : Int)) none = xs.drop k := by
  unfold DL.cutD
  rw [HT.sIx_nat, HT.sIx_none]
  by_cases h : k ≤ xs.length
  · rw [Nat.min_eq_left h]
    exact List.take_of_length_le (by simp)
  · rw [Nat.min_eq_right (by omega)]
    simp
    omega
theorem cut_to {α : Type} (xs : List α) (k : Nat) : DL.cutD xs none (some (k : Int)) = xs.take k := by
  unfold DL.cutD
  rw [HT.sIx_nat, HT.sIx_none, List.drop_zero, Nat.sub_zero]
  by_cases h : k ≤ xs.length
  · rw [Nat.min_eq_left h]
  · rw [Nat.min_eq_right (by omega), List.take_length, List.take_of_length_le (by omega)]
theorem blsD_some {α : Type} (l : List α) (p : α → Bool) : blsD (l.filterMap fun a => some (D.bl (p a))) = some (l.map p) := by
  have e : (l.filterMap fun a => some (D.bl (p a))) = (l.map p).map D.bl := by simp
  rw [e]; exact blsD_map _
theorem all_go {xs : List D} {bs : List Bool} {ce : Ce} {Q : T → Ce → Prop} (h : blsD xs = some bs) (q : Q (.d (.bl (bs.all id))) ce) : oAll [.d (.lst xs)] ce Q := by
  unfold oAll
  simp only [h]
  exact q
theorem filterMap_some {α β : Type} (l : List α) (f : α → β) : (l.filterMap fun a => some (f a)) = l.map f := by simp
theorem strsD_map (xs : List Str) : strsD (xs.map fun x => T.d (.str x)) = some xs := by
  induction xs with
  | nil => rfl
  | cons x r ih => simp [strsD, ih]
/-- a text in a tuple or list of texts -/
theorem in_go {neg : Bool} {x : Str} {y : T} {xs : List Str} {ce : Ce} {Q : T → Ce → Prop} (h : seqB ce y = some (xs.map fun x => T.d (.str x))) (q : Q (.d (.bl (neg != decide (x ∈ xs)))) ce) : oIn neg (.d (.str x)) y ce Q := by
  cases y with
  | cel k =>
    unfold oIn
    simp only [h, strsD_map]
    exact q
  | d d =>
    cases d with
    | str z => cases h
    | _ =>
      unfold oIn
      simp only [h, strsD_map]
      exact q
theorem atI_get {α : Type} {xs : List α} {i : Int} {a : α} (h0 : 0 ≤ i) (h : xs[i.toNat]? = some a) : atI xs i = some a := by
  obtain ⟨n, rfl⟩ := Int.eq_ofNat_of_zero_le h0
  have hn : n < xs.length := by simpa using (List.getElem?_eq_some_iff.mp h).1
  rw [atI_nat hn]
  simpa using h
theorem range_split {n a : Nat} {pre post : List Nat} (h : pre ++ a :: post = List.range n) : pre = List.range a ∧ a < n := by
  have h1 : pre.length < n := by
    have := congrArg List.length h
    simp at this
    omega
  have h2 : (List.range n)[pre.length]? = some a := by rw [← h]; simp
  rw [List.getElem?_range h1] at h2
  have h3 : pre.length = a := Option.some.inj h2
  refine ⟨?_, by omega⟩
  have h4 := congrArg (List.take pre.length) h
  rw [List.take_append_of_le_length (Nat.le_refl _), List.take_length, List.take_range, h3, Nat.min_eq_left (by omega)] at h4
  exact h4
theorem find_range {n a : Nat} {p : Nat → Bool} (ha : a < n) (h1 : ∀ j, j < a → p j = false) (h2 : p a = true) : (List.range n).find? p = some a := by
  rw [List.find?_range_eq_some]
  exact ⟨h2, by simpa using ha, fun j hj => by simp [h1 j hj]⟩
theorem all_last {ce : Ce} {c c' : Cell} (h : (ce ++ [c]).all (cellB (ce ++ [c]).length) = true) (hc : cellB (ce.length + 1) c' = true) : (ce ++ [c']).all (cellB (ce ++ [c']).length) = true := by
  have e : (ce ++ [c]).length = ce.length + 1 := by simp
  have e' : (ce ++ [c']).length = ce.length + 1 := by simp
  rw [e, List.all_append] at h
  rw [e', List.all_append]
  simp only [Bool.and_eq_true] at h ⊢
  exact ⟨h.1, by simp [hc]⟩
theorem eraseIdx_map {α β : Type} (f : α → β) : ∀ (l : List α) (j : Nat), (l.map f).eraseIdx j = (l.eraseIdx j).map f
  | [], _ => rfl
  | a :: l, 0 => rfl
  | a :: l, j + 1 => by simp [List.eraseIdx, eraseIdx_map f l j]
/-- a value by a test, both ways joined again -/
theorem kIf_join {ua ub : UE} {sl : Sl} {ce : Ce} {Q : T → Ce → Prop} {E : Ex1} {b : Bool} {v1 v2 : T} (h1 : ∀ R : T → Ce → Prop, R v1 ce → ua sl ce R E) (h2 : ∀ R : T → Ce → Prop, R v2 ce → ub sl ce R E) (q : Q (if b = true then v1 else v2) ce) : kIf (fun ce1 => ua sl ce1 Q E) (fun ce1 => ub sl ce1 Q E) b ce := by
  cases b with
  | true => exact h1 Q q
  | false => exact h2 Q q
/-! ### loops -/
/-- a loop over a mapped list, by an invariant of what is behind and what is ahead -/
theorem loop_inv {α : Type} {ug : UG} {ub : US} {N : DEnds} (G : α → T) (I : List α → List α → Sl → Ce → Prop)
    (step : ∀ (pre : List α) (a : α) (post : List α) (sl : Sl) (ce : Ce), I pre (a :: post) sl ce → ug (G a) sl ce fun sl1 ce1 => ub { N with nx := I (pre ++ [a]) post, ct := I (pre ++ [a]) post, bk := N.nx } sl1 ce1)
    (mono : ∀ (pre : List α) (a : α) (post : List α) (sl : Sl) (ce : Ce) (J : Sl → Ce → Prop), (∀ sl ce, I (pre ++ [a]) post sl ce → J sl ce) → (ug (G a) sl ce fun sl1 ce1 => ub { N with nx := I (pre ++ [a]) post, ct := I (pre ++ [a]) post, bk := N.nx } sl1 ce1) → ug (G a) sl ce fun sl1 ce1 => ub { N with nx := J, ct := J, bk := N.nx } sl1 ce1)
    (end_ : ∀ (pre : List α) (sl : Sl) (ce : Ce), I pre [] sl ce → N.nx sl ce) : ∀ (post pre : List α) (sl : Sl) (ce : Ce), I pre post sl ce → loopD ug ub N (post.map G) sl ce
  | [], pre, sl, ce, h => end_ pre sl ce h
  | a :: post, pre, sl, ce, h => mono pre a post sl ce _ (fun sl1 ce1 h1 => loop_inv G I step mono end_ post (pre ++ [a]) sl1 ce1 h1) (step pre a post sl ce h)
/-- .. where the body is shown for whatever is to hold behind it -/
theorem loop_go {α : Type} {ug : UG} {ub : US} {N : DEnds} (G : α → T) (I : List α → List α → Sl → Ce → Prop)
    (step : ∀ (pre : List α) (a : α) (post : List α) (sl : Sl) (ce : Ce) (J : Sl → Ce → Prop), (∀ sl ce, I (pre ++ [a]) post sl ce → J sl ce) → I pre (a :: post) sl ce → ug (G a) sl ce fun sl1 ce1 => ub { N with nx := J, ct := J, bk := N.nx } sl1 ce1)
    (end_ : ∀ (pre : List α) (sl : Sl) (ce : Ce), I pre [] sl ce → N.nx sl ce) : ∀ (post pre : List α) (sl : Sl) (ce : Ce), I pre post sl ce → loopD ug ub N (post.map G) sl ce
  | [], pre, sl, ce, h => end_ pre sl ce h
  | a :: post, pre, sl, ce, h => step pre a post sl ce _ (fun sl1 ce1 h1 => loop_go G I step end_ post (pre ++ [a]) sl1 ce1 h1) h
/-- what leaves a law's def -/
def CXA (P : Program) : CXT := fun outer H s E u s' => ∃ w, L2.CX P w outer H s E u s'
theorem fnOk_any {P : Program} {w : World} {K : PySem.W.Frag} {mg : Str → Option Value} {base : Heap} {k : Nat} {f : Addr} {fd : FuncData} {ps : List Str} {sp : Sp} (F : FnOk P w K mg base (L2.CX P w) k f fd ps sp) : FnOk P w K mg base (CXA P) k f fd ps sp :=
  ⟨F.len, fun A outer s H args us vs Q E hr he hb r h => codeAny_mono (F.run A outer s H args us vs Q E hr he hb r h) fun r s' z => by
    rcases r with e | (v | _ | _ | _)
    · exact ⟨w, z⟩
    · exact z
    · exact z
    · exact z
    · exact z⟩
theorem cxa_false {P : Program} {outer : List Env} {H : Hp} {s : Shared} {e : Value} {s' : Shared} (z : CXA P outer H s (fun _ _ _ => False) e s') : False := by
  obtain ⟨_, _, _, _, _, _, _, _, _, _, _, _, _, q⟩ := z
  exact q
end DL

namespace K01
open PySem PySem.Spec PyProof.Rows L2 He DL
def top (i : Nat) : Stmt := PySem.Challenge.pw_lostdesk_k01_catalogs_refused.main.body.getD i (.Pass ⟨0, 0, 0, 0⟩)
abbrev P : Program := PySem.Challenge.pw_lostdesk_k01_catalogs_refused
def tab : Tab where
  file := P.main.file
  fa := [.glo "is_word",
    .glo "is_rising",
    .glo "is_feature",
    .glo "_law_mix",
    .glo "_law_next",
    .glo "_law_alike",
    .glo "_law_features",
    .glo "_law_index",
    .glo "law",
    .glo "Catalog",
    .cls "Catalog",
    .mkr "Catalog",
    .noat "Catalog" "parts",
    .meth "Catalog" "__getitem__",
    .meth "Catalog" "__contains__",
    .meth "Catalog" "__iter__",
    .meth "Catalog" "__len__",
    .meth "Catalog" "__eq__",
    .str "LETTERS" "abcdefghijklmnopqrstuvwxyz",
    .int "MAX_LETTERS" 8,
    .int "MAX_FEATURES" 6,
    .int "MAX_VALUES" 8,
    .free "len",
    .free "all",
    .free "zip",
    .free "enumerate",
    .free "tuple",
    .free "list",
    .free "int",
    .free "max",
    .free "range",
    .free "isinstance",
    .free "dict",
    .free "str",
    .free "bool",
    .free "sorted",
    .glo "UnknownFeature",
    .exc "UnknownFeature",
    .glo "InvalidCatalog",
    .noat "InvalidCatalog" "index",
    .exm "InvalidCatalog" "InvalidCatalog" true,
    .exm "UnknownFeature" "UnknownFeature" true]
  fb := [.ne "Catalog",
    .obj "Catalog",
    .fnIn "Catalog" "__getitem__",
    .fnIn "Catalog" "__contains__",
    .fnIn "Catalog" "__iter__",
    .fnIn "Catalog" "__len__",
    .fnIn "Catalog" "__eq__",
    .xf "InvalidCatalog",
    .isi ["Catalog"]]
  fn := [mkD "is_word" (top 9),
    mkD "is_rising" (top 10),
    mkD "is_feature" (top 11),
    mkD "_law_mix" (top 14),
    mkD "_law_next" (top 15),
    mkD "_law_alike" (top 16),
    mkD "_law_features" (top 17),
    mkD "_law_index" (top 18),
    mkD "law" (top 19),
    mkM "Catalog" "__init__" "Catalog.__init__" (inClass (top 12) 0),
    mkM "Catalog" "__getitem__" "Catalog.__getitem__" (inClass (top 12) 3),
    mkM "Catalog" "__contains__" "Catalog.__contains__" (inClass (top 12) 4),
    mkM "Catalog" "__iter__" "Catalog.__iter__" (inClass (top 12) 5),
    mkM "Catalog" "__len__" "Catalog.__len__" (inClass (top 12) 6),
    mkM "Catalog" "__eq__" "Catalog.__eq__" (inClass (top 12) 7)]
  xs := [mkX "InvalidCatalog" "InvalidCatalog.__init__" (inClass (top 2) 0) ["index"]]
  gs := [mkG "Catalog" "features" "Catalog.features" (inClass (top 12) 1),
    mkG "Catalog" "names" "Catalog.names" (inClass (top 12) 2)]
structure Wo (K : PySem.W.Frag) (mg : Str → Option Value) (base : Heap) : Prop where
  c : SaysM tab K
  X : K.In base
  G : base.Ns mainGlobals mg
section
variable {K : PySem.W.Frag} {mg : Str → Option Value} {base : Heap}
theorem Wo.d_is_word (W : Wo K mg base) : ∃ fd, FunD K "is_word" "is_word" (defArgs (top 9)) (defBody (top 9)) (defScope (top 9)) [] [] (ga K "is_word") fd := W.c.def_ 0 (d := mkD "is_word" (top 9)) rfl
theorem Wo.k_is_word (W : Wo K mg base) : PySem.W.keepIn K (.ref (ga K "is_word")) = true := by
  obtain ⟨fd, F⟩ := W.d_is_word
  exact F.kp
theorem Wo.g_is_word (W : Wo K mg base) : mg "is_word" = some (.ref (ga K "is_word")) := He.glo_ok W.X W.G (W.c.fact 0 rfl)
theorem Wo.d_is_rising (W : Wo K mg base) : ∃ fd, FunD K "is_rising" "is_rising" (defArgs (top 10)) (defBody (top 10)) (defScope (top 10)) [] [] (ga K "is_rising") fd := W.c.def_ 1 (d := mkD "is_rising" (top 10)) rfl
theorem Wo.k_is_rising (W : Wo K mg base) : PySem.W.keepIn K (.ref (ga K "is_rising")) = true := by
  obtain ⟨fd, F⟩ := W.d_is_rising
  exact F.kp
theorem Wo.g_is_rising (W : Wo K mg base) : mg "is_rising" = some (.ref (ga K "is_rising")) := He.glo_ok W.X W.G (W.c.fact 1 rfl)
theorem Wo.d_is_feature (W : Wo K mg base) : ∃ fd, FunD K "is_feature" "is_feature" (defArgs (top 11)) (defBody (top 11)) (defScope (top 11)) [] [] (ga K "is_feature") fd := W.c.def_ 2 (d := mkD "is_feature" (top 11)) rfl
theorem Wo.k_is_feature (W : Wo K mg base) : PySem.W.keepIn K (.ref (ga K "is_feature")) = true := by
  obtain ⟨fd, F⟩ := W.d_is_feature
  exact F.kp
theorem Wo.g_is_feature (W : Wo K mg base) : mg "is_feature" = some (.ref (ga K "is_feature")) := He.glo_ok W.X W.G (W.c.fact 2 rfl)
theorem Wo.d__law_mix (W : Wo K mg base) : ∃ fd, FunD K "_law_mix" "_law_mix" (defArgs (top 14)) (defBody (top 14)) (defScope (top 14)) [] [] (ga K "_law_mix") fd := W.c.def_ 3 (d := mkD "_law_mix" (top 14)) rfl
theorem Wo.k__law_mix (W : Wo K mg base) : PySem.W.keepIn K (.ref (ga K "_law_mix")) = true := by
  obtain ⟨fd, F⟩ := W.d__law_mix
  exact F.kp
theorem Wo.g__law_mix (W : Wo K mg base) : mg "_law_mix" = some (.ref (ga K "_law_mix")) := He.glo_ok W.X W.G (W.c.fact 3 rfl)
theorem Wo.d__law_next (W : Wo K mg base) : ∃ fd, FunD K "_law_next" "_law_next" (defArgs (top 15)) (defBody (top 15)) (defScope (top 15)) [] [] (ga K "_law_next") fd := W.c.def_ 4 (d := mkD "_law_next" (top 15)) rfl
theorem Wo.k__law_next (W : Wo K mg base) : PySem.W.keepIn K (.ref (ga K "_law_next")) = true := by
  obtain ⟨fd, F⟩ := W.d__law_next
  exact F.kp
theorem Wo.g__law_next (W : Wo K mg base) : mg "_law_next" = some (.ref (ga K "_law_next")) := He.glo_ok W.X W.G (W.c.fact 4 rfl)
theorem Wo.d__law_alike (W : Wo K mg base) : ∃ fd, FunD K "_law_alike" "_law_alike" (defArgs (top 16)) (defBody (top 16)) (defScope (top 16)) [] [] (ga K "_law_alike") fd := W.c.def_ 5 (d := mkD "_law_alike" (top 16)) rfl
theorem Wo.k__law_alike (W : Wo K mg base) : PySem.W.keepIn K (.ref (ga K "_law_alike")) = true := by
  obtain ⟨fd, F⟩ := W.d__law_alike
  exact F.kp
theorem Wo.g__law_alike (W : Wo K mg base) : mg "_law_alike" = some (.ref (ga K "_law_alike")) := He.glo_ok W.X W.G (W.c.fact 5 rfl)
theorem Wo.d__law_features (W : Wo K mg base) : ∃ fd, FunD K "_law_features" "_law_features" (defArgs (top 17)) (defBody (top 17)) (defScope (top 17)) [] [] (ga K "_law_features") fd := W.c.def_ 6 (d := mkD "_law_features" (top 17)) rfl
theorem Wo.k__law_features (W : Wo K mg base) : PySem.W.keepIn K (.ref (ga K "_law_features")) = true := by
  obtain ⟨fd, F⟩ := W.d__law_features
  exact F.kp
theorem Wo.g__law_features (W : Wo K mg base) : mg "_law_features" = some (.ref (ga K "_law_features")) := He.glo_ok W.X W.G (W.c.fact 6 rfl)
theorem Wo.d__law_index (W : Wo K mg base) : ∃ fd, FunD K "_law_index" "_law_index" (defArgs (top 18)) (defBody (top 18)) (defScope (top 18)) [] [] (ga K "_law_index") fd := W.c.def_ 7 (d := mkD "_law_index" (top 18)) rfl
theorem Wo.k__law_index (W : Wo K mg base) : PySem.W.keepIn K (.ref (ga K "_law_index")) = true := by
  obtain ⟨fd, F⟩ := W.d__law_index
  exact F.kp
theorem Wo.g__law_index (W : Wo K mg base) : mg "_law_index" = some (.ref (ga K "_law_index")) := He.glo_ok W.X W.G (W.c.fact 7 rfl)
theorem Wo.d_law (W : Wo K mg base) : ∃ fd, FunD K "law" "law" (defArgs (top 19)) (defBody (top 19)) (defScope (top 19)) [] [] (ga K "law") fd := W.c.def_ 8 (d := mkD "law" (top 19)) rfl
theorem Wo.k_law (W : Wo K mg base) : PySem.W.keepIn K (.ref (ga K "law")) = true := by
  obtain ⟨fd, F⟩ := W.d_law
  exact F.kp
theorem Wo.g_law (W : Wo K mg base) : mg "law" = some (.ref (ga K "law")) := He.glo_ok W.X W.G (W.c.fact 8 rfl)
theorem Wo.g_Catalog (W : Wo K mg base) : mg "Catalog" = some (.ref (ga K "Catalog")) := He.glo_ok W.X W.G (W.c.fact 9 rfl)
theorem Wo.c_Catalog (W : Wo K mg base) : Cls K (ga K "Catalog") := He.cls_ok (W.c.fact 10 rfl)
theorem Wo.m_Catalog (W : Wo K mg base) : Mk K (ga K "Catalog") (ma K (ga K "Catalog") "__init__") := He.mkr_ok (W.c.fact 11 rfl)
theorem Wo.x_Catalog_parts (W : Wo K mg base) : NoAttr K (ga K "Catalog") "parts" := He.noat_ok (W.c.fact 12 rfl)
theorem Wo.ne_Catalog (W : Wo K mg base) : PySem.W.findIn K (.ref (ga K "Catalog")) "__ne__" = some (some (.builtin "object.__ne__")) := eqO_ok (W.c.fact2 0 (f := .ne "Catalog") rfl)
theorem Wo.ob_Catalog (W : Wo K mg base) : PySem.W.mroIn K (ga K "Catalog") (.type "object") = some true := of_decide_eq_true (W.c.fact2 1 (f := .obj "Catalog") rfl)
theorem Wo.d_Catalog___init__ (W : Wo K mg base) : ∃ fd, FunD K "__init__" "Catalog.__init__" (defArgs (inClass (top 12) 0)) (defBody (inClass (top 12) 0)) (defScope (inClass (top 12) 0)) [] [] (ma K (ga K "Catalog") "__init__") fd := W.c.def_ 9 (d := mkM "Catalog" "__init__" "Catalog.__init__" (inClass (top 12) 0)) rfl
theorem Wo.p_Catalog_features (W : Wo K mg base) : PropOf K (ga K "Catalog") "features" (pgA K "Catalog" "features").1 (pgA K "Catalog" "features").2 := (W.c.ge 0 (d := mkG "Catalog" "features" "Catalog.features" (inClass (top 12) 1)) rfl).1
theorem Wo.d_Catalog_features (W : Wo K mg base) : ∃ fd, FunD K "features" "Catalog.features" (defArgs (inClass (top 12) 1)) (defBody (inClass (top 12) 1)) (defScope (inClass (top 12) 1)) [] [] (pgA K "Catalog" "features").2 fd := (W.c.ge 0 (d := mkG "Catalog" "features" "Catalog.features" (inClass (top 12) 1)) rfl).2
theorem Wo.p_Catalog_names (W : Wo K mg base) : PropOf K (ga K "Catalog") "names" (pgA K "Catalog" "names").1 (pgA K "Catalog" "names").2 := (W.c.ge 1 (d := mkG "Catalog" "names" "Catalog.names" (inClass (top 12) 2)) rfl).1
theorem Wo.d_Catalog_names (W : Wo K mg base) : ∃ fd, FunD K "names" "Catalog.names" (defArgs (inClass (top 12) 2)) (defBody (inClass (top 12) 2)) (defScope (inClass (top 12) 2)) [] [] (pgA K "Catalog" "names").2 fd := (W.c.ge 1 (d := mkG "Catalog" "names" "Catalog.names" (inClass (top 12) 2)) rfl).2
theorem Wo.d_Catalog___getitem__ (W : Wo K mg base) : ∃ fd, FunD K "__getitem__" "Catalog.__getitem__" (defArgs (inClass (top 12) 3)) (defBody (inClass (top 12) 3)) (defScope (inClass (top 12) 3)) [] [] (ma K (ga K "Catalog") "__getitem__") fd := W.c.def_ 10 (d := mkM "Catalog" "__getitem__" "Catalog.__getitem__" (inClass (top 12) 3)) rfl
theorem Wo.q_Catalog___getitem__ (W : Wo K mg base) : Meth K (ga K "Catalog") "__getitem__" (ma K (ga K "Catalog") "__getitem__") := He.meth_ok (W.c.fact 13 rfl)
theorem Wo.a_Catalog___getitem__ (W : Wo K mg base) : PySem.W.findIn K (.ref (ga K "Catalog")) "__getitem__" = some (some (.ref (ma K (ga K "Catalog") "__getitem__"))) := W.q_Catalog___getitem__.at_
theorem Wo.b_Catalog___getitem__ (W : Wo K mg base) : PySem.W.isFn K (.ref (ma K (ga K "Catalog") "__getitem__")) = true := W.q_Catalog___getitem__.fn
theorem Wo.n_Catalog___getitem__ (W : Wo K mg base) : PySem.W.fnIn K (ma K (ga K "Catalog") "__getitem__") = true := (W.c.fact2 2 (f := .fnIn "Catalog" "__getitem__") rfl)
theorem Wo.d_Catalog___contains__ (W : Wo K mg base) : ∃ fd, FunD K "__contains__" "Catalog.__contains__" (defArgs (inClass (top 12) 4)) (defBody (inClass (top 12) 4)) (defScope (inClass (top 12) 4)) [] [] (ma K (ga K "Catalog") "__contains__") fd := W.c.def_ 11 (d := mkM "Catalog" "__contains__" "Catalog.__contains__" (inClass (top 12) 4)) rfl
theorem Wo.q_Catalog___contains__ (W : Wo K mg base) : Meth K (ga K "Catalog") "__contains__" (ma K (ga K "Catalog") "__contains__") := He.meth_ok (W.c.fact 14 rfl)
theorem Wo.a_Catalog___contains__ (W : Wo K mg base) : PySem.W.findIn K (.ref (ga K "Catalog")) "__contains__" = some (some (.ref (ma K (ga K "Catalog") "__contains__"))) := W.q_Catalog___contains__.at_
theorem Wo.b_Catalog___contains__ (W : Wo K mg base) : PySem.W.isFn K (.ref (ma K (ga K "Catalog") "__contains__")) = true := W.q_Catalog___contains__.fn
theorem Wo.n_Catalog___contains__ (W : Wo K mg base) : PySem.W.fnIn K (ma K (ga K "Catalog") "__contains__") = true := (W.c.fact2 3 (f := .fnIn "Catalog" "__contains__") rfl)
theorem Wo.d_Catalog___iter__ (W : Wo K mg base) : ∃ fd, FunD K "__iter__" "Catalog.__iter__" (defArgs (inClass (top 12) 5)) (defBody (inClass (top 12) 5)) (defScope (inClass (top 12) 5)) [] [] (ma K (ga K "Catalog") "__iter__") fd := W.c.def_ 12 (d := mkM "Catalog" "__iter__" "Catalog.__iter__" (inClass (top 12) 5)) rfl
theorem Wo.q_Catalog___iter__ (W : Wo K mg base) : Meth K (ga K "Catalog") "__iter__" (ma K (ga K "Catalog") "__iter__") := He.meth_ok (W.c.fact 15 rfl)
theorem Wo.a_Catalog___iter__ (W : Wo K mg base) : PySem.W.findIn K (.ref (ga K "Catalog")) "__iter__" = some (some (.ref (ma K (ga K "Catalog") "__iter__"))) := W.q_Catalog___iter__.at_
theorem Wo.b_Catalog___iter__ (W : Wo K mg base) : PySem.W.isFn K (.ref (ma K (ga K "Catalog") "__iter__")) = true := W.q_Catalog___iter__.fn
theorem Wo.n_Catalog___iter__ (W : Wo K mg base) : PySem.W.fnIn K (ma K (ga K "Catalog") "__iter__") = true := (W.c.fact2 4 (f := .fnIn "Catalog" "__iter__") rfl)
theorem Wo.d_Catalog___len__ (W : Wo K mg base) : ∃ fd, FunD K "__len__" "Catalog.__len__" (defArgs (inClass (top 12) 6)) (defBody (inClass (top 12) 6)) (defScope (inClass (top 12) 6)) [] [] (ma K (ga K "Catalog") "__len__") fd := W.c.def_ 13 (d := mkM "Catalog" "__len__" "Catalog.__len__" (inClass (top 12) 6)) rfl
theorem Wo.q_Catalog___len__ (W : Wo K mg base) : Meth K (ga K "Catalog") "__len__" (ma K (ga K "Catalog") "__len__") := He.meth_ok (W.c.fact 16 rfl)
theorem Wo.a_Catalog___len__ (W : Wo K mg base) : PySem.W.findIn K (.ref (ga K "Catalog")) "__len__" = some (some (.ref (ma K (ga K "Catalog") "__len__"))) := W.q_Catalog___len__.at_
theorem Wo.b_Catalog___len__ (W : Wo K mg base) : PySem.W.isFn K (.ref (ma K (ga K "Catalog") "__len__")) = true := W.q_Catalog___len__.fn
theorem Wo.n_Catalog___len__ (W : Wo K mg base) : PySem.W.fnIn K (ma K (ga K "Catalog") "__len__") = true := (W.c.fact2 5 (f := .fnIn "Catalog" "__len__") rfl)
theorem Wo.d_Catalog___eq__ (W : Wo K mg base) : ∃ fd, FunD K "__eq__" "Catalog.__eq__" (defArgs (inClass (top 12) 7)) (defBody (inClass (top 12) 7)) (defScope (inClass (top 12) 7)) [] [] (ma K (ga K "Catalog") "__eq__") fd := W.c.def_ 14 (d := mkM "Catalog" "__eq__" "Catalog.__eq__" (inClass (top 12) 7)) rfl
theorem Wo.q_Catalog___eq__ (W : Wo K mg base) : Meth K (ga K "Catalog") "__eq__" (ma K (ga K "Catalog") "__eq__") := He.meth_ok (W.c.fact 17 rfl)
theorem Wo.a_Catalog___eq__ (W : Wo K mg base) : PySem.W.findIn K (.ref (ga K "Catalog")) "__eq__" = some (some (.ref (ma K (ga K "Catalog") "__eq__"))) := W.q_Catalog___eq__.at_
theorem Wo.b_Catalog___eq__ (W : Wo K mg base) : PySem.W.isFn K (.ref (ma K (ga K "Catalog") "__eq__")) = true := W.q_Catalog___eq__.fn
theorem Wo.n_Catalog___eq__ (W : Wo K mg base) : PySem.W.fnIn K (ma K (ga K "Catalog") "__eq__") = true := (W.c.fact2 6 (f := .fnIn "Catalog" "__eq__") rfl)
theorem Wo.s_LETTERS (W : Wo K mg base) : ∃ t, mg "LETTERS" = some (.str "abcdefghijklmnopqrstuvwxyz" t) := He.str_ok W.X W.G (W.c.fact 18 rfl)
theorem Wo.i_MAX_LETTERS (W : Wo K mg base) : ∃ t, mg "MAX_LETTERS" = some (.int 8 t) := He.int_ok W.X W.G (W.c.fact 19 rfl)
theorem Wo.i_MAX_FEATURES (W : Wo K mg base) : ∃ t, mg "MAX_FEATURES" = some (.int 6 t) := He.int_ok W.X W.G (W.c.fact 20 rfl)
theorem Wo.i_MAX_VALUES (W : Wo K mg base) : ∃ t, mg "MAX_VALUES" = some (.int 8 t) := He.int_ok W.X W.G (W.c.fact 21 rfl)
theorem Wo.f_len (W : Wo K mg base) : mg "len" = none := He.free_ok W.X W.G (W.c.fact 22 rfl)
theorem Wo.f_all (W : Wo K mg base) : mg "all" = none := He.free_ok W.X W.G (W.c.fact 23 rfl)
theorem Wo.f_zip (W : Wo K mg base) : mg "zip" = none := He.free_ok W.X W.G (W.c.fact 24 rfl)
theorem Wo.f_enumerate (W : Wo K mg base) : mg "enumerate" = none := He.free_ok W.X W.G (W.c.fact 25 rfl)
theorem Wo.f_tuple (W : Wo K mg base) : mg "tuple" = none := He.free_ok W.X W.G (W.c.fact 26 rfl)
theorem Wo.f_list (W : Wo K mg base) : mg "list" = none := He.free_ok W.X W.G (W.c.fact 27 rfl)
theorem Wo.f_int (W : Wo K mg base) : mg "int" = none := He.free_ok W.X W.G (W.c.fact 28 rfl)
theorem Wo.f_max (W : Wo K mg base) : mg "max" = none := He.free_ok W.X W.G (W.c.fact 29 rfl)
theorem Wo.f_range (W : Wo K mg base) : mg "range" = none := He.free_ok W.X W.G (W.c.fact 30 rfl)
theorem Wo.f_isinstance (W : Wo K mg base) : mg "isinstance" = none := He.free_ok W.X W.G (W.c.fact 31 rfl)
theorem Wo.f_dict (W : Wo K mg base) : mg "dict" = none := He.free_ok W.X W.G (W.c.fact 32 rfl)
theorem Wo.f_str (W : Wo K mg base) : mg "str" = none := He.free_ok W.X W.G (W.c.fact 33 rfl)
theorem Wo.f_bool (W : Wo K mg base) : mg "bool" = none := He.free_ok W.X W.G (W.c.fact 34 rfl)
theorem Wo.f_sorted (W : Wo K mg base) : mg "sorted" = none := He.free_ok W.X W.G (W.c.fact 35 rfl)
theorem Wo.g_UnknownFeature (W : Wo K mg base) : mg "UnknownFeature" = some (.ref (ga K "UnknownFeature")) := He.glo_ok W.X W.G (W.c.fact 36 rfl)
theorem Wo.E_UnknownFeature (W : Wo K mg base) : PySem.W.excIn K (ga K "UnknownFeature") veBase "ValueError.__new__" = true ∧ PySem.W.keepIn K (.ref (ga K "UnknownFeature")) = true ∧ PySem.W.subIn K (.ref (ga K "UnknownFeature")) (.type "BaseException") = some true ∧ PySem.W.typeIn K (.ref (ga K "UnknownFeature")) = some (.type "type") := He.exc_ok (W.c.fact 37 rfl)
theorem Wo.g_InvalidCatalog (W : Wo K mg base) : mg "InvalidCatalog" = some (.ref (ga K "InvalidCatalog")) := He.glo_ok W.X W.G (W.c.fact 38 rfl)
theorem tx_InvalidCatalog : XTx (mkX "InvalidCatalog" "InvalidCatalog.__init__" (inClass (top 2) 0) ["index"]) := ⟨⟨_, rfl, rfl⟩, rfl, rfl, rfl, by decide +kernel, rfl, rfl, rfl⟩
theorem Wo.mk_InvalidCatalog {w : World} (W : Wo K mg base) : XMk P w K mg (ga K "InvalidCatalog") ["index"] := xmk1 (d := mkX "InvalidCatalog" "InvalidCatalog.__init__" (inClass (top 2) 0) ["index"]) tx_InvalidCatalog W.X W.G (W.c.xc 0 rfl).1 (by kernel_rfl) (W.c.xc 0 rfl).2 rfl rfl (by rfl) rfl (by decide) (by decide) (fun _ _ _ _ _ _ _ _ _ => BindsTo.of_eq (by first | rfl | with_unfolding_all rfl))
theorem Wo.z_InvalidCatalog (W : Wo K mg base) : XfC K (ga K "InvalidCatalog") := xfB_ok (W.c.fact2 7 (f := .xf "InvalidCatalog") rfl)
theorem Wo.y_InvalidCatalog_index (W : Wo K mg base) : PySem.W.findIn K (.ref (ga K "InvalidCatalog")) "index" = some none := He.noat_ok (W.c.fact 39 rfl)
theorem Wo.ym_InvalidCatalog_InvalidCatalog (W : Wo K mg base) : PySem.W.exmOne K (.ref (ga K "InvalidCatalog")) (.ref (ga K "InvalidCatalog")) = some true := He.exm_ok (W.c.fact 40 rfl)
theorem Wo.ym_UnknownFeature_UnknownFeature (W : Wo K mg base) : PySem.W.exmOne K (.ref (ga K "UnknownFeature")) (.ref (ga K "UnknownFeature")) = some true := He.exm_ok (W.c.fact 41 rfl)
theorem Wo.isi0 (W : Wo K mg base) : isiB K ((["Catalog"] : List Str).map (ga K)) = true := (W.c.fact2 8 (f := .isi ["Catalog"]) rfl)
theorem Wo.e_UnknownFeature (W : Wo K mg base) : PySem.W.excIn K (ga K "UnknownFeature") veBase "ValueError.__new__" = true := W.E_UnknownFeature.1
theorem Wo.k_UnknownFeature (W : Wo K mg base) : PySem.W.keepIn K (.ref (ga K "UnknownFeature")) = true := W.E_UnknownFeature.2.1
theorem Wo.isi (W : Wo K mg base) : IsiOk K [ga K "Catalog"] := isiB_ok (fun C hC => by
  simp only [List.mem_cons, List.not_mem_nil, or_false] at hC
  rcases hC with rfl
  exact W.c_Catalog) W.isi0
end
abbrev R : PySem.W.OpenRow := PySem.W.OpenLaw.row PySem.Challenge.rw_lostdesk_k01_catalogs_refused
abbrev hk : PySem.W.Hook := hookM 5 tab
def ob (s : PySem.W.SharedT) : AlM := obsMG 5 tab (HandSHeadRun.getT s)
theorem ob_eq (s : PySem.W.SharedT) : ob s = hk.obs s.abs := obsMG_eq (HandSHeadRun.getT_eq s)
def loose : List Str := ["__name__", "DeskError", "InvalidCatalog", "UnknownFeature", "LETTERS", "MAX_LETTERS", "MAX_FEATURES", "MAX_VALUES", "is_word", "is_rising", "is_feature", "Catalog", "_law_mix", "_law_next", "_law_alike", "_law_features", "_law_index"]
theorem run (w : World) : HandSHeadRun.RunEq R (PySem.W.view R.prog [19]) hk ob 4000 loose w := by
  intro os
  kernel_rfl
end K01

namespace K01
open PySem PySem.Spec PyProof.Rows L2 He DL
variable {K : PySem.W.Frag} {mg : Str → Option Value} {base : Heap} {w : World}


def lett : Str := "abcdefghijklmnopqrstuvwxyz"
def isWord (t : Str) : Bool := decide (1 ≤ (t.length : Int)) && (decide ((t.length : Int) ≤ 8) && t.cps.toList.all fun c => decide (c ∈ lett.cps.toList))
def φWord : Phi := fun ts ce Q _ => ∃ t : Str, ts = [.d (.str t)] ∧ t.length ≤ 1000 ∧ okS t = true ∧ Q (.d (.bl (isWord t))) ce
theorem filt_empty (l : List Nat) (p : Nat → Bool) : ((l.filterMap fun c => if p c = true then none else some (D.str ⟨#[c]⟩)).isEmpty) = l.all p := by
  induction l with
  | nil => rfl
  | cons c r ih =>
    by_cases h : p c = true
    · simp [h, ← ih]
    · simp [h]

theorem sc_is_word : FnScope ["text", "letter"] ["text"] (defScope (top 9)) := ⟨rfl, rfl, rfl, by decide +kernel, rfl, by decide +kernel, by decide +kernel⟩
theorem ok_is_word (W : Wo K mg base)  : FnX P w K mg base 1 (ga K "is_word") (φWord) := by
  have sc := sc_is_word
  obtain ⟨fd, F⟩ := W.d_is_word
  refine fnD (fun_of F) sc (F.bindsN fun _ _ _ _ _ _ us hl => match us, hl with | [_], _ => rfl) W.X (fun ts ce Q E h => by obtain ⟨t, rfl, _⟩ := h; rfl) ⟨_, fun cdv A outer s H E hr po => (dss_one (ds_ret (de_and (de_chain od_le od_le de_int (de_callB cd_len W.f_len boot_len' (da_cons (de_var 0) da_nil)) (de_gint W.i_MAX_LETTERS)) (de_one (de_cmp (od_eq hr.units) (de_lc sc.nd (own := [("letter", 1)]) (di_str (de_var 0)) (blkOk_by (by kernel_rfl)) (fun _ _ _ _ _ => (dg_name 1 sc.nd)) (fun _ _ _ _ _ => (dts_one (dt_cmp od_notin (de_var 1) (de_gstr W.s_LETTERS)))) (fun _ _ _ _ _ => (de_var 1))) (de_lst da_nil)))))), ?_⟩
  intro ts ce Q E hce h
  obtain ⟨t, rfl, hl, hok, h⟩ := h
  simp only [startD, List.map_cons, List.map_nil, List.length_cons, List.length_nil, List.cons_append, List.nil_append, Nat.reduceAdd, Nat.reduceSub, List.replicate_succ, List.replicate_zero]
  refine Wk.go ⟨sz hl, fun h1 => kIf_of (fun h2 => ?_) (fun h2 => ?_), fun h1 => ?_⟩
  · refine Wk.go (uLc_map (fun c => .d (.str ⟨#[c]⟩)) (fun c => if decide (c ∈ lett.cps.toList) = true then none else some (.str ⟨#[c]⟩)) t.cps.toList (by have : t.cps.toList.length = t.length := rfl; omega) (fun c hc k hk => ?_) ?_)
    · refine Wk.go ?_
      show oIn true _ _ _ _
      by_cases hm : c ∈ lett.cps.toList
      · rw [if_pos (decide_eq_true hm)] at hk
        refine (show kIf _ _ (true != decide (c ∈ lett.cps.toList)) _ from kIf_f (by simp [hm]) hk)
      · rw [if_neg (by simp [hm])] at hk
        refine (show kIf _ _ (true != decide (c ∈ lett.cps.toList)) _ from kIf_t (by simp [hm]) (Wk.go hk))
    · refine Wk.go ?_
      refine eq_nil (n := 0) (okL_of fun d hd => ?_) (by decide) ?_
      · obtain ⟨c, hc, e⟩ := List.mem_filterMap.mp hd
        split at e
        · cases e
        · cases e
          exact ok_str (one_ok (okS_mem hok c hc))
      · refine Rt.same hce rfl ?_
        rw [filt_empty]
        have e : isWord t = (t.cps.toList.all fun c => decide (c ∈ lett.cps.toList)) := by unfold isWord; rw [h1, h2]; rfl
        rw [e] at h
        simpa using h
  · refine Rt.same hce rfl ?_
    have e : isWord t = false := by unfold isWord; rw [h1, h2]; rfl
    rw [e] at h; exact h
  · refine Rt.same hce rfl ?_
    have e : isWord t = false := by unfold isWord; rw [h1]; rfl
    rw [e] at h; exact h

def rising (ws : List Str) : Bool := (ws.zip (ws.drop 1)).all fun p => ltS p.1 p.2
def φRising : Phi := fun ts ce Q _ => ∃ ws : List Str, ts = [.d (.tup (ws.map .str))] ∧ ws.length ≤ 1000 ∧ Q (.d (.bl (rising ws))) ce

theorem sc_is_rising : FnScope ["words", "one", "other"] ["words"] (defScope (top 10)) := ⟨rfl, rfl, rfl, by decide +kernel, rfl, by decide +kernel, by decide +kernel⟩
theorem ok_is_rising (W : Wo K mg base)  : FnX P w K mg base 1 (ga K "is_rising") (φRising) := by
  have sc := sc_is_rising
  obtain ⟨fd, F⟩ := W.d_is_rising
  refine fnD (fun_of F) sc (F.bindsN fun _ _ _ _ _ _ us hl => match us, hl with | [_], _ => rfl) W.X (fun ts ce Q E h => by obtain ⟨t, rfl, _⟩ := h; rfl) ⟨_, fun cdv A outer s H E hr po => (dss_one (ds_ret (de_callB (cd_all rfl) W.f_all boot_all' (da_cons (de_lc sc.nd (own := [("one", 1), ("other", 2)]) (di_zip (da_cons (de_var 0) (da_cons (de_slice (de_var 0) (do_some de_int) do_none) da_nil)) W.f_zip) (blkOk_by (by kernel_rfl)) (fun _ _ _ _ _ => (dg_tup (n := 2) (dgs_cons (dg_name 1 sc.nd) (dgs_cons (dg_name 2 sc.nd) dgs_nil)))) (fun _ _ _ _ _ => dts_nil) (fun _ _ _ _ _ => (de_cmp od_lt (de_var 1) (de_var 2)))) da_nil)))), ?_⟩
  intro ts ce Q E hce h
  obtain ⟨ws, rfl, hl, h⟩ := h
  simp only [startD, List.map_cons, List.map_nil, List.length_cons, List.length_nil, List.cons_append, List.nil_append, Nat.reduceAdd, Nat.reduceSub, List.replicate_succ, List.replicate_zero]
  refine Wk.go ?_
  have e1 : DL.cutD (ws.map D.str) (some 1) none = (ws.drop 1).map D.str := by rw [show (1 : Int) = ((1 : Nat) : Int) from rfl, cut_from, List.map_drop]
  have e2 : zipD (ws.map D.str) (DL.cutD (ws.map D.str) (some 1) none) = (ws.zip (ws.drop 1)).map fun p => T.d (.tup [.str p.1, .str p.2]) := by
    rw [e1]; unfold zipD; rw [List.zip_map, List.map_map]; rfl
  rw [e2]
  refine uLc_map _ (fun p => some (.bl (ltS p.1 p.2))) _ (by simp only [List.length_zip]; omega) (fun p hp k hk => ?_) ?_
  · exact Wk.go ⟨rfl, Wk.go hk⟩
  · refine Wk.go ?_
    refine all_go (blsD_some _ fun p : Str × Str => ltS p.1 p.2) (Rt.same hce rfl ?_)
    simpa [rising, List.all_map] using h

abbrev Feat := Str × List Str
abbrev featD (f : Feat) : D := .tup [.str f.1, .tup (f.2.map .str)]
def okF (f : Feat) : Prop := f.1.length ≤ 1000 ∧ okS f.1 = true ∧ f.2.length ≤ 1000 ∧ ∀ x ∈ f.2, x.length ≤ 1000 ∧ okS x = true
def isFeat (f : Feat) : Bool := isWord f.1 && (decide (2 ≤ (f.2.length : Int)) && decide ((f.2.length : Int) ≤ 8)) && (f.2.all isWord && rising f.2)
def φFeat : Phi := fun ts ce Q _ => ∃ f : Feat, ts = [.d (featD f)] ∧ okF f ∧ Q (.d (.bl (isFeat f))) ce

theorem sc_is_feature : FnScope ["feature", "name", "values", "word"] ["feature"] (defScope (top 11)) := ⟨rfl, rfl, rfl, by decide +kernel, rfl, by decide +kernel, by decide +kernel⟩
theorem ok_is_feature (W : Wo K mg base) (F_is_word : FnX P w K mg base 1 (ga K "is_word") φWord) (F_is_rising : FnX P w K mg base 1 (ga K "is_rising") φRising) : FnX P w K mg base 2 (ga K "is_feature") (φFeat) := by
  have sc := sc_is_feature
  obtain ⟨fd, F⟩ := W.d_is_feature
  refine fnD (fun_of F) sc (F.bindsN fun _ _ _ _ _ _ us hl => match us, hl with | [_], _ => rfl) W.X (fun ts ce Q E h => by obtain ⟨t, rfl, _⟩ := h; rfl) ⟨_, fun cdv A outer s H E hr po => (dss_cons (ds_asg (de_var 0) (dg_tup (n := 2) (dgs_cons (dg_name 1 sc.nd) (dgs_cons (dg_name 2 sc.nd) dgs_nil))))
      (dss_cons (ds_if (dw_or (dt_not (dt_val (de_call F_is_word (hr.mono (by decide)) W.g_is_word W.k_is_word (da_cons (de_var 1) da_nil)))) (dw_or1 (dt_not (dt_chain od_le od_le de_int (de_callB cd_len W.f_len boot_len' (da_cons (de_var 2) da_nil)) (de_gint W.i_MAX_VALUES))))).dt (dss_one (ds_ret de_bl)) dss_nil)
      (dss_one (ds_ret (de_and (de_callB (cd_all rfl) W.f_all boot_all' (da_cons (de_lc sc.nd (own := [("word", 3)]) (di_tup (de_var 2)) (blkOk_by (by kernel_rfl)) (fun _ _ _ _ _ => (dg_name 3 sc.nd)) (fun _ _ _ _ _ => dts_nil) (fun _ _ _ _ _ => (de_call F_is_word (hr.mono (by decide)) W.g_is_word W.k_is_word (da_cons (de_var 3) da_nil)))) da_nil)) (de_one (de_call F_is_rising (hr.mono (by decide)) W.g_is_rising W.k_is_rising (da_cons (de_var 2) da_nil)))))))), ?_⟩
  intro ts ce Q E hce h
  obtain ⟨f, rfl, ⟨o1, o2, o3, o4⟩, h⟩ := h
  unfold featD
  simp only [startD, List.map_cons, List.map_nil, List.length_cons, List.length_nil, List.cons_append, List.nil_append, Nat.reduceAdd, Nat.reduceSub, List.replicate_succ, List.replicate_zero]
  refine Wk.go ⟨rfl, f.1, rfl, o1, o2, ?_⟩
  have done : ∀ b, isFeat f = b → Rt ce.length Q (.d (.bl b)) ce := fun b e => Rt.same hce rfl (by rw [← e]; exact h)
  cases hw : isWord f.1 with
  | false => exact Wk.go (done _ (by unfold isFeat; rw [hw]; rfl))
  | true =>
    refine Wk.go ⟨fun h2 => ?_, fun h2 => Wk.go (done _ (by unfold isFeat; rw [hw]; simp at h2; simp; intro; omega))⟩
    refine kIf_of (fun h3 => ?_) (fun h3 => ?_)
    · refine Wk.go ?_
      refine Wk.go ?_
      rw [List.map_map]
      refine uLc_map _ (fun x => some (.bl (isWord x))) _ (by omega) (fun x hx k hk => ?_) ?_
      · refine Wk.go ?_
        exact ⟨x, rfl, (o4 x hx).1, (o4 x hx).2, Wk.go hk⟩
      · refine Wk.go ?_
        refine all_go (blsD_some _ isWord) ?_
        have hall : (f.2.map isWord).all id = f.2.all isWord := by simp [List.all_map]
        rw [hall]
        cases ha : f.2.all isWord with
        | false => exact Wk.go (done _ (by unfold isFeat; rw [ha]; simp))
        | true =>
          refine Wk.go ?_
          refine ⟨f.2, rfl, o3, done _ ?_⟩
          simp at h2 h3
          unfold isFeat
          rw [ha, hw]
          simp
          omega
    · exact Wk.go (done _ (by unfold isFeat; rw [hw]; simp at h3; simp; intro; omega))

abbrev featsD (fs : List Feat) : D := .tup (fs.map featD)
abbrev cC (K : PySem.W.Frag) : Addr := ga K "Catalog"
abbrev catD (K : PySem.W.Frag) (fs : List Feat) : D := .ins (cC K) [("parts", featsD fs)]
def badAt (fs : List Feat) (i : Nat) : Bool := decide ((i : Int) = 6) || (decide ((fs.getD i ("", [])).1 ∈ (fs.take i).map (·.1)) || !isFeat (fs.getD i ("", [])))
def badIx (fs : List Feat) : Option Nat := if fs = [] then some 0 else (List.range fs.length).find? (badAt fs)
def φInit (K : PySem.W.Frag) : Phi := fun ts ce Q E => ∃ (ce0 : Ce) (fs : List Feat), ts = [.cel ce0.length, .d (featsD fs)] ∧ ce = ce0 ++ [.ins (cC K) []] ∧ ce0.all (cellB ce0.length) = true ∧ (∀ f ∈ fs, okF f) ∧ fs.length ≤ 1000 ∧
  (badIx fs = none → Q (.d .non) (ce0 ++ [.ins (cC K) [("parts", .d (featsD fs))]])) ∧ ∀ i, badIx fs = some i → E ⟨.ref (ga K "InvalidCatalog"), [("index", .int (i : Int))]⟩ (ce0 ++ [.ins (cC K) []])

theorem sc_Catalog___init__ : FnScope ["self", "features", "index", "feature", "is_known", "earlier"] ["self", "features"] (defScope (inClass (top 12) 0)) := ⟨rfl, rfl, rfl, by decide +kernel, rfl, by decide +kernel, by decide +kernel⟩
theorem ok_Catalog___init__ (W : Wo K mg base) (F_is_feature : FnX P w K mg base 2 (ga K "is_feature") φFeat) : FnX P w K mg base 3 (ma K (ga K "Catalog") "__init__") (φInit K) := by
  have sc := sc_Catalog___init__
  obtain ⟨fd, F⟩ := W.d_Catalog___init__
  refine fnD (fun_of F) sc (F.bindsN fun _ _ _ _ _ _ us hl => match us, hl with | [_, _], _ => rfl) W.X (fun ts ce Q E h => by obtain ⟨ce0, fs, rfl, _⟩ := h; rfl) ⟨_, fun cdv A outer s H E hr po => (dss_cons (ds_for po (di_enum (da_cons (de_var 1) da_nil) W.f_enumerate) (dg_tup (n := 2) (dgs_cons (dg_name 2 sc.nd) (dgs_cons (dg_name 3 sc.nd) dgs_nil))) (dss_cons (ds_set 4 sc.nd (de_cmp od_in (de_ix (de_var 3) de_int) (de_lc sc.nd (own := [("earlier", 5)]) (di_tup (de_slice (de_var 1) do_none (do_some (de_var 2)))) (blkOk_by (by kernel_rfl)) (fun _ _ _ _ _ => (dg_name 5 sc.nd)) (fun _ _ _ _ _ => dts_nil) (fun _ _ _ _ _ => (de_ix (de_var 5) de_int)))))
      (dss_one (ds_if (dw_or (dt_cmp (od_eq hr.units) (de_var 2) (de_gint W.i_MAX_FEATURES)) (dw_or (dt_val (de_var 4)) (dw_or1 (dt_not (dt_val (de_call F_is_feature (hr.mono (by decide)) W.g_is_feature W.k_is_feature (da_cons (de_var 3) da_nil))))))).dt (dss_one (ds_raise (dmk_kw W.mk_InvalidCatalog W.g_InvalidCatalog hr (dk_cons (de_var 2) dk_nil)))) dss_nil))))
      (dss_cons (ds_if (dt_cmp (od_eq hr.units) (de_callB cd_len W.f_len boot_len' (da_cons (de_var 1) da_nil)) de_int) (dss_one (ds_raise (dmk_kw W.mk_InvalidCatalog W.g_InvalidCatalog hr (dk_cons de_int dk_nil)))) dss_nil)
      (dss_one (ds_fld W.c_Catalog W.x_Catalog_parts (de_var 0) (de_var 1))))), ?_⟩
  intro ts ce Q E hce h
  obtain ⟨ce0, fs, rfl, rfl, hc0, hok, hlen, hq, he⟩ := h
  unfold featsD at *
  simp only [startD, List.map_cons, List.map_nil, List.length_cons, List.length_nil, List.cons_append, List.nil_append, Nat.reduceAdd, Nat.reduceSub, List.replicate_succ, List.replicate_zero]
  refine Wk.go ?_
  have hen : enumD (fs.map featD) = (List.range fs.length).map fun (i : Nat) => T.d (.tup [.int (i : Int), (fs.map featD).getD i .non]) := by unfold enumD; rw [List.length_map]
  rw [hen]
  refine loop_go _ (fun (pre post : List Nat) (sl : Sl) (ce : Ce) => pre ++ post = List.range fs.length ∧ (∀ j ∈ pre, badAt fs j = false) ∧ ce = ce0 ++ [Cell.ins (cC K) []] ∧ ∃ x y z, sl = [some (.cel ce0.length), some (.d (.tup (fs.map featD))), x, y, z, none]) ?_ ?_ _ [] _ _ ⟨rfl, fun j hj => absurd hj (by simp), rfl, none, none, none, rfl⟩
  · rintro pre a post sl ce J hJ ⟨hpp, hpre, rfl, x, y, z, rfl⟩
    obtain ⟨rfl, ha⟩ := range_split hpp
    obtain ⟨f, hf⟩ : ∃ f, fs[a]? = some f := ⟨_, List.getElem?_eq_getElem ha⟩
    have e1 : (fs.map featD).getD a .non = .tup [.str f.1, .tup (f.2.map .str)] := by simp [List.getD, hf, featD]
    have e2 : fs.getD a ("", []) = f := by simp [List.getD, hf]
    have hof := hok f (List.mem_of_getElem? hf)
    rw [e1]
    refine Wk.go ⟨rfl, ?_⟩
    rw [cut_to, ← List.map_take, List.map_map]
    refine uLc_map _ (fun f => some (.str f.1)) _ (by simp only [List.length_take]; omega) (fun f' hf' k hk => ?_) ?_
    · show ugName 5 (.d (.tup [.str f'.1, .tup (f'.2.map .str)])) _ _ _
      exact Wk.go (Wk.go hk)
    · refine in_go (xs := (fs.take a).map (·.1)) (by show some _ = some _; rw [filterMap_some, List.map_map, List.map_map]; rfl) ?_
      have hba : badAt fs a = (decide ((a : Int) = 6) || (decide (f.1 ∈ (fs.take a).map (·.1)) || !isFeat f)) := by unfold badAt; rw [e2]
      have raise : badAt fs a = true → Rx (ce0 ++ [Cell.ins (cC K) []]).length E ⟨.ref (ga K "InvalidCatalog"), [("index", .int (a : Int))]⟩ [some (.cel ce0.length), some (.d (.tup (fs.map featD))), some (.d (.int (a : Int))), some (.d (.tup [.str f.1, .tup (f.2.map .str)])), some (.d (.bl (false != decide (f.1 ∈ (fs.take a).map (·.1))))), none] (ce0 ++ [Cell.ins (cC K) []]) := fun hb => by
        refine Rx.same hce (he a ?_)
        unfold badIx
        rw [if_neg (fun z => by subst z; simp at ha), find_range ha (fun j hj => hpre j (List.mem_range.mpr hj)) hb]
      refine Wk.go ?_
      refine kIf_of (fun h6 => ?_) (fun h6 => ?_)
      · exact Wk.go ⟨rfl, raise (by rw [hba]; simp at h6; simp [h6])⟩
      · refine Wk.go ?_
        refine kIf_of (fun hk => ?_) (fun hk => ?_)
        · exact Wk.go ⟨rfl, raise (by rw [hba]; simp at hk; simp [hk])⟩
        · refine Wk.go ?_
          refine ⟨f, rfl, hof, ?_⟩
          cases hfe : isFeat f with
          | false => exact Wk.go ⟨rfl, raise (by rw [hba, hfe]; simp)⟩
          | true =>
            refine Wk.go ?_
            refine hJ _ _ ⟨by simpa using hpp, fun j hj => ?_, rfl, _, _, _, rfl⟩
            rcases List.mem_append.mp hj with hj | hj
            · exact hpre j hj
            · have : j = a := by simpa using hj
              subst this
              rw [hba, hfe]
              simp at h6 hk
              simp [h6]
              simpa using hk
  · rintro pre sl ce ⟨hpp, hpre, rfl, x, y, z, rfl⟩
    refine Wk.go ?_
    refine kIf_of (fun h0 => ?_) (fun h0 => ?_)
    · refine Wk.go ⟨rfl, ?_⟩
      refine Rx.same (sl := []) hce (he 0 ?_)
      simp at h0
      unfold badIx
      rw [if_pos h0]
    · refine Wk.go ⟨rfl, by decide, ?_⟩
      simp at h0
      refine ⟨ce0 ++ [Cell.ins (cC K) [("parts", .d (.tup (fs.map featD)))]], [], by simp [putD], by simp, rfl, ?_, hq ?_⟩
      · exact all_last hce rfl
      · unfold badIx
        rw [if_neg h0, List.find?_eq_none]
        intro j hj
        rw [hpre j (by rw [List.append_nil] at hpp; rw [hpp]; exact hj)]
        simp

def φParts (K : PySem.W.Frag) : Phi := fun ts ce Q _ => ∃ fs : List Feat, ts = [.d (catD K fs)] ∧ Q (.d (featsD fs)) ce
def φNames (K : PySem.W.Frag) : Phi := fun ts ce Q _ => ∃ fs : List Feat, ts = [.d (catD K fs)] ∧ fs.length ≤ 1000 ∧ Q (.d (.tup (fs.map fun f => .str f.1))) ce
def φGet (K : PySem.W.Frag) : Phi := fun ts ce Q E => ∃ (fs : List Feat) (n : Str), ts = [.d (catD K fs), .d (.str n)] ∧ fs.length ≤ 1000 ∧ (∀ f, fs.find? (fun f => decide (f.1 = n)) = some f → Q (.d (.tup (f.2.map .str))) ce) ∧ (fs.find? (fun f => decide (f.1 = n)) = none → E ⟨.ref (ga K "UnknownFeature"), []⟩ ce)
def φHas (K : PySem.W.Frag) : Phi := fun ts ce Q _ => ∃ (fs : List Feat) (n : Str), ts = [.d (catD K fs), .d (.str n)] ∧ fs.length ≤ 1000 ∧ Q (.d (.bl (decide (n ∈ fs.map (·.1))))) ce
def φLen (K : PySem.W.Frag) : Phi := fun ts ce Q _ => ∃ fs : List Feat, ts = [.d (catD K fs)] ∧ Q (.d (.int (fs.length : Int))) ce
def φEq (K : PySem.W.Frag) : Phi := fun ts ce Q _ => ∃ fs gs : List Feat, ts = [.d (catD K fs), .d (catD K gs)] ∧ (∀ f ∈ fs, okF f) ∧ (∀ f ∈ gs, okF f) ∧ Q (.d (.bl (eqD (featsD fs) (featsD gs)))) ce

theorem sc_Catalog_features : FnScope ["self"] ["self"] (defScope (inClass (top 12) 1)) := ⟨rfl, rfl, rfl, by decide +kernel, rfl, by decide +kernel, by decide +kernel⟩
theorem ok_Catalog_features (W : Wo K mg base)  : FnX P w K mg base 1 (pgA K "Catalog" "features").2 (φParts K) := by
  have sc := sc_Catalog_features
  obtain ⟨fd, F⟩ := W.d_Catalog_features
  refine fnD (fun_of F) sc (F.bindsN fun _ _ _ _ _ _ us hl => match us, hl with | [_], _ => rfl) W.X (fun ts ce Q E h => by obtain ⟨fs, rfl, _⟩ := h; rfl) ⟨_, fun cdv A outer s H E hr po => (dss_one (ds_ret (de_fld (de_var 0) W.c_Catalog W.x_Catalog_parts))), ?_⟩
  intro ts ce Q E hce h
  obtain ⟨fs, rfl, h⟩ := h
  unfold catD
  simp only [startD, List.map_cons, List.map_nil, List.length_cons, List.length_nil, List.cons_append, List.nil_append, Nat.reduceAdd, Nat.reduceSub, List.replicate_succ, List.replicate_zero]
  exact Wk.go ⟨rfl, kLook_of rfl (Rt.same hce rfl h)⟩
theorem sc_Catalog_names : FnScope ["self", "name", "words"] ["self"] (defScope (inClass (top 12) 2)) := ⟨rfl, rfl, rfl, by decide +kernel, rfl, by decide +kernel, by decide +kernel⟩
theorem ok_Catalog_names (W : Wo K mg base)  : FnX P w K mg base 1 (pgA K "Catalog" "names").2 (φNames K) := by
  have sc := sc_Catalog_names
  obtain ⟨fd, F⟩ := W.d_Catalog_names
  refine fnD (fun_of F) sc (F.bindsN fun _ _ _ _ _ _ us hl => match us, hl with | [_], _ => rfl) W.X (fun ts ce Q E h => by obtain ⟨fs, rfl, _⟩ := h; rfl) ⟨_, fun cdv A outer s H E hr po => (dss_one (ds_ret (de_callTy cd_tuple W.f_tuple boot_tuple' (da_cons (de_lc sc.nd (own := [("name", 1), ("words", 2)]) (di_tup (de_fld (de_var 0) W.c_Catalog W.x_Catalog_parts)) (blkOk_by (by kernel_rfl)) (fun _ _ _ _ _ => (dg_tup (n := 2) (dgs_cons (dg_name 1 sc.nd) (dgs_cons (dg_name 2 sc.nd) dgs_nil)))) (fun _ _ _ _ _ => dts_nil) (fun _ _ _ _ _ => (de_var 1))) da_nil)))), ?_⟩
  intro ts ce Q E hce h
  obtain ⟨fs, rfl, hl, h⟩ := h
  unfold catD
  simp only [startD, List.map_cons, List.map_nil, List.length_cons, List.length_nil, List.cons_append, List.nil_append, Nat.reduceAdd, Nat.reduceSub, List.replicate_succ, List.replicate_zero]
  refine Wk.go ⟨rfl, kLook_of rfl ?_⟩
  unfold featsD
  refine Wk.go ?_
  rw [List.map_map]
  refine uLc_map _ (fun f => some (.str f.1)) _ (by omega) (fun f hf k hk => ?_) ?_
  · show ugTup _ _ (.d (.tup [.str f.1, .tup (f.2.map .str)])) _ _ _
    exact Wk.go ⟨rfl, Wk.go hk⟩
  · refine Wk.go ?_
    rw [filterMap_some]
    exact Rt.same hce rfl h
theorem sc_Catalog___getitem__ : FnScope ["self", "name", "known", "words"] ["self", "name"] (defScope (inClass (top 12) 3)) := ⟨rfl, rfl, rfl, by decide +kernel, rfl, by decide +kernel, by decide +kernel⟩
theorem ok_Catalog___getitem__ (W : Wo K mg base)  : FnX P w K mg base 1 (ma K (ga K "Catalog") "__getitem__") (φGet K) := by
  have sc := sc_Catalog___getitem__
  obtain ⟨fd, F⟩ := W.d_Catalog___getitem__
  refine fnD (fun_of F) sc (F.bindsN fun _ _ _ _ _ _ us hl => match us, hl with | [_, _], _ => rfl) W.X (fun ts ce Q E h => by obtain ⟨fs, n, rfl, _⟩ := h; rfl) ⟨_, fun cdv A outer s H E hr po => (dss_cons (ds_for po (di_tup (de_fld (de_var 0) W.c_Catalog W.x_Catalog_parts)) (dg_tup (n := 2) (dgs_cons (dg_name 2 sc.nd) (dgs_cons (dg_name 3 sc.nd) dgs_nil))) (dss_one (ds_if (dt_cmp (od_eq hr.units) (de_var 2) (de_var 1)) (dss_one (ds_ret (de_var 3))) dss_nil)))
      (dss_one (ds_raise (dmk_own PySem.F.excBase_ValueError W.e_UnknownFeature W.g_UnknownFeature W.k_UnknownFeature (raises_own W.E_UnknownFeature.2.2.1 W.E_UnknownFeature.2.2.2))))), ?_⟩
  intro ts ce Q E hce h
  obtain ⟨fs, n, rfl, hl, h, he⟩ := h
  unfold catD
  simp only [startD, List.map_cons, List.map_nil, List.length_cons, List.length_nil, List.cons_append, List.nil_append, Nat.reduceAdd, Nat.reduceSub, List.replicate_succ, List.replicate_zero]
  refine Wk.go ⟨rfl, kLook_of rfl ?_⟩
  unfold featsD
  refine Wk.go ?_
  rw [List.map_map]
  refine loop_go _ (fun (pre post : List Feat) (sl : Sl) (ce' : Ce) => pre ++ post = fs ∧ (∀ f ∈ pre, decide (f.1 = n) = false) ∧ ce' = ce ∧ ∃ s0 x y, sl = [s0, some (.d (.str n)), x, y]) ?_ ?_ _ [] _ _ ⟨rfl, fun j hj => absurd hj (by simp), rfl, _, _, _, rfl⟩
  · rintro pre f post sl ce' J hJ ⟨hpp, hpre, rfl, s0, x, y, rfl⟩
    show ugTup _ _ (.d (.tup [.str f.1, .tup (f.2.map .str)])) _ _ _
    refine Wk.go ⟨rfl, ?_⟩
    refine kIf_of (fun h1 => ?_) (fun h1 => ?_)
    · refine Wk.go (Rt.same hce rfl (h f ?_))
      rw [← hpp, List.find?_append, List.find?_eq_none.mpr (fun x hx => by simp [hpre x hx])]
      simp at h1
      simp [h1]
    · refine Wk.go (hJ _ _ ⟨by simpa using hpp, fun j hj => ?_, rfl, _, _, _, rfl⟩)
      rcases List.mem_append.mp hj with hj | hj
      · exact hpre j hj
      · have : j = f := by simpa using hj
        subst this
        simpa using h1
  · rintro pre sl ce' ⟨hpp, hpre, rfl, s0, x, y, rfl⟩
    refine Wk.go ?_
    refine Rx.same (sl := []) hce (he ?_)
    rw [List.append_nil] at hpp
    subst hpp
    exact List.find?_eq_none.mpr (fun x hx => by simp [hpre x hx])
theorem sc_Catalog___contains__ : FnScope ["self", "name"] ["self", "name"] (defScope (inClass (top 12) 4)) := ⟨rfl, rfl, rfl, by decide +kernel, rfl, by decide +kernel, by decide +kernel⟩
theorem ok_Catalog___contains__ (W : Wo K mg base) (F_Catalog_names : FnX P w K mg base 1 (pgA K "Catalog" "names").2 (φNames K)) : FnX P w K mg base 3 (ma K (ga K "Catalog") "__contains__") (φHas K) := by
  have sc := sc_Catalog___contains__
  obtain ⟨fd, F⟩ := W.d_Catalog___contains__
  refine fnD (fun_of F) sc (F.bindsN fun _ _ _ _ _ _ us hl => match us, hl with | [_, _], _ => rfl) W.X (fun ts ce Q E h => by obtain ⟨fs, n, rfl, _⟩ := h; rfl) ⟨_, fun cdv A outer s H E hr po => (dss_one (ds_ret (de_cmp od_in (de_var 1) (de_prop (de_var 0) W.c_Catalog W.p_Catalog_names F_Catalog_names (hr.mono (by decide)))))), ?_⟩
  intro ts ce Q E hce h
  obtain ⟨fs, n, rfl, hl, h⟩ := h
  unfold catD
  simp only [startD, List.map_cons, List.map_nil, List.length_cons, List.length_nil, List.cons_append, List.nil_append, Nat.reduceAdd, Nat.reduceSub, List.replicate_succ, List.replicate_zero]
  refine Wk.go ⟨rfl, fs, rfl, hl, ?_⟩
  refine in_go (xs := fs.map (·.1)) (by show some _ = some _; rw [List.map_map, List.map_map]; rfl) ?_
  exact Rt.same hce rfl (by simpa using h)
theorem sc_Catalog___len__ : FnScope ["self"] ["self"] (defScope (inClass (top 12) 6)) := ⟨rfl, rfl, rfl, by decide +kernel, rfl, by decide +kernel, by decide +kernel⟩
theorem ok_Catalog___len__ (W : Wo K mg base)  : FnX P w K mg base 1 (ma K (ga K "Catalog") "__len__") (φLen K) := by
  have sc := sc_Catalog___len__
  obtain ⟨fd, F⟩ := W.d_Catalog___len__
  refine fnD (fun_of F) sc (F.bindsN fun _ _ _ _ _ _ us hl => match us, hl with | [_], _ => rfl) W.X (fun ts ce Q E h => by obtain ⟨fs, rfl, _⟩ := h; rfl) ⟨_, fun cdv A outer s H E hr po => (dss_one (ds_ret (de_callB cd_len W.f_len boot_len' (da_cons (de_fld (de_var 0) W.c_Catalog W.x_Catalog_parts) da_nil)))), ?_⟩
  intro ts ce Q E hce h
  obtain ⟨fs, rfl, h⟩ := h
  unfold catD
  simp only [startD, List.map_cons, List.map_nil, List.length_cons, List.length_nil, List.cons_append, List.nil_append, Nat.reduceAdd, Nat.reduceSub, List.replicate_succ, List.replicate_zero]
  refine Wk.go ⟨rfl, kLook_of rfl ?_⟩
  unfold featsD
  refine Wk.go ?_
  exact Rt.same hce rfl (by simpa using h)

theorem okN_feat {f : Feat} (h : okF f) : OkN 2 (featD f) := ok_tup (okL_cons ((ok_str h.2.1).mono (by decide)) (okL_cons (ok_tup (okL_of fun d hd => by
  obtain ⟨x, hx, rfl⟩ := List.mem_map.mp hd
  exact ok_str (h.2.2.2 x hx).2)) okL_nil))
theorem okL_feats {fs : List Feat} (h : ∀ f ∈ fs, okF f) : OkL 2 (fs.map featD) := okL_of fun d hd => by
  obtain ⟨x, hx, rfl⟩ := List.mem_map.mp hd
  exact okN_feat (h x hx)

theorem sc_Catalog___eq__ : FnScope ["self", "other"] ["self", "other"] (defScope (inClass (top 12) 7)) := ⟨rfl, rfl, rfl, by decide +kernel, rfl, by decide +kernel, by decide +kernel⟩
theorem ok_Catalog___eq__ (W : Wo K mg base) (F_Catalog_features : FnX P w K mg base 1 (pgA K "Catalog" "features").2 (φParts K)) : FnX P w K mg base 3 (ma K (ga K "Catalog") "__eq__") (φEq K) := by
  have sc := sc_Catalog___eq__
  obtain ⟨fd, F⟩ := W.d_Catalog___eq__
  refine fnD (fun_of F) sc (F.bindsN fun _ _ _ _ _ _ us hl => match us, hl with | [_, _], _ => rfl) W.X (fun ts ce Q E h => by obtain ⟨fs, gs, rfl, _⟩ := h; rfl) ⟨_, fun cdv A outer s H E hr po => (dss_one (ds_ret (de_and (de_callB (cd_isi W.isi) W.f_isinstance boot_isinstance' (da_cons (de_var 1) (da_cons (de_gref W.g_Catalog) da_nil))) (de_one (de_cmp (od_eq hr.units) (de_fld (de_var 0) W.c_Catalog W.x_Catalog_parts) (de_prop (de_var 1) W.c_Catalog W.p_Catalog_features F_Catalog_features (hr.mono (by decide)))))))), ?_⟩
  intro ts ce Q E hce h
  obtain ⟨fs, gs, rfl, h1, h2, h⟩ := h
  unfold catD
  simp only [startD, List.map_cons, List.map_nil, List.length_cons, List.length_nil, List.cons_append, List.nil_append, Nat.reduceAdd, Nat.reduceSub, List.replicate_succ, List.replicate_zero]
  refine Wk.go ⟨⟨by simp [okT], by simp [okA]⟩, ?_⟩
  refine kIf_t (by simp [isiT]) ?_
  refine Wk.go ⟨rfl, kLook_of rfl ?_⟩
  refine Wk.go ⟨rfl, gs, rfl, ?_⟩
  refine eq_go (ok_tup (okL_feats h1)) (ok_tup (okL_feats h2)) (by decide) (by decide) ?_
  exact Rt.same hce rfl (by simpa using h)
end K01

namespace K01
open PySem PySem.Spec PyProof.Rows L2 He DL
variable {K : PySem.W.Frag} {mg : Str → Option Value} {base : Heap} {w : World}


abbrev Hc (cs : List Int) : Cell := .lst ((cs.map D.int).map T.d)
abbrev Hh (st i : Int) : Cell := .lst [.d (.int st), .cel 0, .d (.int i)]
def φMix : Phi := fun ts ce Q _ => ∃ (ns : List Int) (sd : Int), ts = [.d (.lst (ns.map .int)), .d (.int sd)] ∧ ns.length ≤ 1000 ∧ ce = [] ∧ ∀ st, Q (.cel 1) [Hc ns, Hh st 0]

theorem sc__law_mix : FnScope ["_law_script", "_law_seed", "_law_state", "_law_cell"] ["_law_script", "_law_seed"] (defScope (top 14)) := ⟨rfl, rfl, rfl, by decide +kernel, rfl, by decide +kernel, by decide +kernel⟩
theorem ok__law_mix (W : Wo K mg base)  : FnX P w K mg base 1 (ga K "_law_mix") (φMix) := by
  have sc := sc__law_mix
  obtain ⟨fd, F⟩ := W.d__law_mix
  refine fnD (fun_of F) sc (F.bindsN fun _ _ _ _ _ _ us hl => match us, hl with | [_, _], _ => rfl) W.X (fun ts ce Q E h => by obtain ⟨fs, n, rfl, _⟩ := h; rfl) ⟨_, fun cdv A outer s H E hr po => (dss_cons (ds_set 2 sc.nd (de_var 1))
      (dss_cons (ds_for po (di_list (de_var 0)) (dg_name 3 sc.nd) (dss_one (ds_set 2 sc.nd (de_bin od_mod (de_callTy cd_int W.f_int boot_int' (da_cons (de_bin od_add (de_bin od_add (de_bin od_mul (de_var 2) de_int) (de_bin od_mod (de_callTy cd_int W.f_int boot_int' (da_cons (de_var 3) da_nil)) de_int)) de_int) da_nil)) de_int))))
      (dss_one (ds_ret (de_lstC (da_cons (de_var 2) (da_cons (de_callTy cd_listC W.f_list boot_list' (da_cons (de_var 0) da_nil)) (da_cons de_int da_nil)))))))), ?_⟩
  intro ts ce Q E hce h
  obtain ⟨ns, sd, rfl, hl, rfl, h⟩ := h
  simp only [startD, List.map_cons, List.map_nil, List.length_cons, List.length_nil, List.cons_append, List.nil_append, Nat.reduceAdd, Nat.reduceSub, List.replicate_succ, List.replicate_zero]
  refine Wk.go ?_
  rw [List.map_map]
  refine loop_go _ (fun (pre post : List Int) (sl : Sl) (ce' : Ce) => ce' = [] ∧ ∃ (st : Int) (x : Option T), sl = [some (.d (.lst (ns.map .int))), some (.d (.int sd)), some (.d (.int st)), x]) ?_ ?_ _ [] _ _ ⟨rfl, _, _, rfl⟩
  · rintro pre a post sl ce' J hJ ⟨rfl, st, x, rfl⟩
    show ugName _ (.d (.int a)) _ _ _
    refine Wk.go ⟨.inr (by decide), by decide, by decide, ?_⟩
    exact hJ _ _ ⟨rfl, _, _, rfl⟩
  · rintro pre sl ce' ⟨rfl, st, x, rfl⟩
    refine Wk.go ?_
    refine ⟨[Hc ns, Hh st 0], [], rfl, Nat.zero_le _, rfl, ?_, h st⟩
    simp [cellB, topB]

def φNext : Phi := fun ts ce Q _ => ∃ (cs : List Int) (st i lim : Int) (rest : Ce), ts = [.cel 1, .d (.int lim)] ∧ ce = Hc cs :: Hh st i :: rest ∧ 0 < lim ∧ lim < 1073741824 ∧ 0 ≤ i ∧ cs.length ≤ 900 ∧
  ∀ (n : Int) (cs' : List Int) (st' i' : Int), 0 ≤ n → n < lim → cs'.length = cs.length → 0 ≤ i' → Q (.d (.int n)) (Hc cs' :: Hh st' i' :: rest)
theorem cells_ok {cs cs' : List Int} {st i st' i' : Int} {rest : Ce} (h : (Hc cs :: Hh st i :: rest).all (cellB (Hc cs :: Hh st i :: rest).length) = true) : (Hc cs' :: Hh st' i' :: rest).all (cellB (Hc cs' :: Hh st' i' :: rest).length) = true := by
  simp [cellB, topB] at h ⊢
  exact h

theorem sc__law_next : FnScope ["_law_h", "_law_limit", "_law_cell"] ["_law_h", "_law_limit"] (defScope (top 15)) := ⟨rfl, rfl, rfl, by decide +kernel, rfl, by decide +kernel, by decide +kernel⟩
theorem ok__law_next (W : Wo K mg base)  : FnX P w K mg base 1 (ga K "_law_next") (φNext) := by
  have sc := sc__law_next
  obtain ⟨fd, F⟩ := W.d__law_next
  refine fnD (fun_of F) sc (F.bindsN fun _ _ _ _ _ _ us hl => match us, hl with | [_, _], _ => rfl) W.X (fun ts ce Q E h => by obtain ⟨cs, st, i, lim, rest, rfl, _⟩ := h; rfl) ⟨_, fun cdv A outer s H E hr po => (dss_cons (ds_set 2 sc.nd (de_ix (de_bin od_add (de_ix (de_var 0) de_int) (de_lst (da_cons de_int da_nil))) (de_bin od_mod (de_callTy cd_int W.f_int boot_int' (da_cons (de_ix (de_var 0) de_int) da_nil)) (de_callB (cd_max2 rfl) W.f_max boot_max' (da_cons de_int (da_cons (de_callB cd_len W.f_len boot_len' (da_cons (de_ix (de_var 0) de_int) da_nil)) da_nil))))))
      (dss_cons (ds_if (dt_cmp od_ge (de_var 2) (de_bin od_pow de_int de_int)) (dss_cons (ds_setI (de_ix (de_var 0) de_int) (de_bin od_mod (de_callTy cd_int W.f_int boot_int' (da_cons (de_ix (de_var 0) de_int) da_nil)) (de_callB cd_len W.f_len boot_len' (da_cons (de_ix (de_var 0) de_int) da_nil))) (de_bin od_fdiv (de_var 2) (de_var 1)))
      (dss_one (ds_ret (de_bin od_mod (de_callTy cd_int W.f_int boot_int' (da_cons (de_var 2) da_nil)) (de_var 1))))) dss_nil)
      (dss_cons (ds_setI (de_var 0) de_int (de_bin od_mod (de_callTy cd_int W.f_int boot_int' (da_cons (de_bin od_add (de_bin od_add (de_bin od_mul (de_ix (de_var 0) de_int) de_int) (de_bin od_mul (de_var 2) de_int)) de_int) da_nil)) de_int))
      (dss_cons (ds_setI (de_var 0) de_int (de_bin od_add (de_ix (de_var 0) de_int) de_int))
      (dss_one (ds_ret (de_bin od_mod (de_callTy cd_int W.f_int boot_int' (da_cons (de_bin od_fdiv (de_ix (de_var 0) de_int) de_int) da_nil)) (de_var 1)))))))), ?_⟩
  intro ts ce Q E hce h
  obtain ⟨cs, st, i, lim, rest, rfl, rfl, hl1, hl2, hi, hlen, h⟩ := h
  simp only [startD, List.map_cons, List.map_nil, List.length_cons, List.length_nil, List.cons_append, List.nil_append, Nat.reduceAdd, Nat.reduceSub, List.replicate_succ, List.replicate_zero]
  have fin : ∀ (n : Int) (cs' : List Int) (st' i' : Int), 0 ≤ n → n < lim → cs'.length = cs.length → 0 ≤ i' → Rt (Hc cs :: Hh st i :: rest).length Q (.d (.int n)) (Hc cs' :: Hh st' i' :: rest) := fun n cs' st' i' h1 h2 h3 h4 =>
    ⟨_, [], (List.append_nil _).symm, by simp, rfl, cells_ok hce, h n cs' st' i' h1 h2 h3 h4⟩
  have hm : ∀ m : Int, m = (if ((cs.length : Int)) > 1 then (cs.length : Int) else 1) → 0 < m ∧ ∃ c, atI (cs.map D.int ++ [.int 0]) (i % m) = some (.int c) ∧ (cs = [] → c = 0) := by
    intro m hm
    have hp : 0 < m := by rw [hm]; split <;> omega
    refine ⟨hp, ?_⟩
    have h0 : 0 ≤ i % m := Int.emod_nonneg _ (by omega)
    have h1 : i % m < m := Int.emod_lt_of_pos _ hp
    have h2 : (i % m).toNat < (cs ++ [0]).length := by
      have hm' : m ≤ (cs.length : Int) + 1 := by rw [hm]; split <;> omega
      simp only [List.length_append, List.length_cons, List.length_nil]
      omega
    have e : cs.map D.int ++ [.int 0] = (cs ++ [0]).map D.int := by simp
    refine ⟨(cs ++ [0])[(i % m).toNat], ?_, fun z => ?_⟩
    · rw [e]
      exact atI_get h0 (by rw [List.getElem?_map, List.getElem?_eq_getElem h2]; rfl)
    · subst z
      have : (i % m).toNat = 0 := by
        simp only [List.nil_append, List.length_cons, List.length_nil] at h2
        omega
      simp [this]
  refine Wk.go ⟨sz (by simp; omega), ?_⟩
  simp only [List.length_map]
  obtain ⟨hp, c, hc, hc0⟩ := hm _ rfl
  refine ⟨hp, kAt_of hc ?_⟩
  refine Wk.go ⟨⟨by decide, by decide, by decide⟩, ?_⟩
  refine kIf_of (fun hb => ?_) (fun hb => ?_)
  · have hcs : cs ≠ [] := fun z => by rw [hc0 z] at hb; simp at hb
    have hpos : 0 < cs.length := List.length_pos_iff.mpr hcs
    refine Wk.go ⟨⟨hl1, hl2⟩, ?_⟩
    simp only [List.length_map]
    refine ⟨by omega, ?_⟩
    have h0 : 0 ≤ i % (cs.length : Int) := Int.emod_nonneg _ (by omega)
    have h1 : i % (cs.length : Int) < cs.length := Int.emod_lt_of_pos _ (by omega)
    refine stI_go (j := (i % (cs.length : Int)).toNat) rfl (by simp only [List.length_map]; unfold ixN; rw [if_pos h0, if_pos h1]) ?_
    have es : (((cs.map D.int).map T.d).set (i % (cs.length : Int)).toNat (.d (.int (c / lim)))) = ((cs.set (i % (cs.length : Int)).toNat (c / lim)).map D.int).map T.d := by
      rw [List.map_set, List.map_set]
    rw [es]
    refine Wk.go ⟨hl1, ?_⟩
    exact fin _ _ _ _ (Int.emod_nonneg _ (by omega)) (Int.emod_lt_of_pos _ hl1) (by simp) hi
  · refine Wk.go ⟨.inr (by decide), .inr (by decide), by decide, ⟨by decide, by decide⟩, hl1, ?_⟩
    exact fin _ _ _ _ (Int.emod_nonneg _ (by omega)) (Int.emod_lt_of_pos _ hl1) rfl (by omega)
end K01

namespace K01
open PySem PySem.Spec PyProof.Rows L2 He DL
variable {K : PySem.W.Frag} {mg : Str → Option Value} {base : Heap} {w : World}


/-- data that _law_alike goes through -/
def Pl : Nat → D → Prop
  | 0, _ => False
  | n + 1, d => d = .non ∨ (∃ b, d = .bl b) ∨ (∃ i, d = .int i) ∨ (∃ x, d = .str x ∧ okS x = true) ∨ ∃ xs : List D, (d = .tup xs ∨ d = .lst xs) ∧ xs.length ≤ 900 ∧ ∀ x ∈ xs, Pl n x
def φA (n : Nat) : Phi := fun ts ce Q _ => ∃ x : D, ts = [.d x, .d x] ∧ Pl n x ∧ Q (.d (.bl true)) ce
theorem isi_no {Cs : List Addr} {a b : String} (h : isiT (.b a) (.b b) = false) : isiT (.b a) (.b b) = false := h

theorem sc__law_alike : FnScope ["_law_found", "_law_due", "_law_k"] ["_law_found", "_law_due"] (defScope (top 16)) := ⟨rfl, rfl, rfl, by decide +kernel, rfl, by decide +kernel, by decide +kernel⟩
theorem ok__law_alike (W : Wo K mg base) (n : Nat) (F__law_alike : FnX P w K mg base n (ga K "_law_alike") (φA n)) : FnX P w K mg base (n + 1) (ga K "_law_alike") (φA (n + 1)) := by
  have sc := sc__law_alike
  obtain ⟨fd, F⟩ := W.d__law_alike
  refine fnD (fun_of F) sc (F.bindsN fun _ _ _ _ _ _ us hl => match us, hl with | [_, _], _ => rfl) W.X (fun ts ce Q E h => by obtain ⟨x, rfl, _⟩ := h; rfl) ⟨_, fun cdv A outer s H E hr po => (dss_cons (ds_if (dt_val (de_callB (cd_isi W.isi) W.f_isinstance boot_isinstance' (da_cons (de_var 1) (da_cons (de_ty W.f_dict boot_dict') da_nil)))) (dss_one (ds_ret (de_and (de_callB (cd_isi W.isi) W.f_isinstance boot_isinstance' (da_cons (de_var 0) (da_cons (de_ty W.f_dict boot_dict') da_nil))) (de_and de_never (de_one (de_cmp (od_eq hr.units) (de_var 0) (de_var 1))))))) dss_nil)
      (dss_cons (ds_if (dt_val (de_callB (cd_isi W.isi) W.f_isinstance boot_isinstance' (da_cons (de_var 1) (da_cons (de_tup (da_cons (de_ty W.f_tuple boot_tuple') (da_cons (de_ty W.f_list boot_list') da_nil))) da_nil)))) (dss_cons (ds_if (dw_or (dt_not (dt_val (de_callB (cd_isi W.isi) W.f_isinstance boot_isinstance' (da_cons (de_var 0) (da_cons (de_tup (da_cons (de_ty W.f_tuple boot_tuple') (da_cons (de_ty W.f_list boot_list') da_nil))) da_nil))))) (dw_or1 (dt_cmp (od_ne hr.units) (de_callB (cd_isi W.isi) W.f_isinstance boot_isinstance' (da_cons (de_var 0) (da_cons (de_ty W.f_list boot_list') da_nil))) (de_callB (cd_isi W.isi) W.f_isinstance boot_isinstance' (da_cons (de_var 1) (da_cons (de_ty W.f_list boot_list') da_nil)))))).dt (dss_one (ds_ret de_bl)) dss_nil)
      (dss_cons (ds_if (dt_cmp (od_ne hr.units) (de_callB cd_len W.f_len boot_len' (da_cons (de_var 0) da_nil)) (de_callB cd_len W.f_len boot_len' (da_cons (de_var 1) da_nil))) (dss_one (ds_ret de_bl)) dss_nil)
      (dss_one (ds_ret (de_cmp (od_eq hr.units) (de_lc sc.nd (own := [("_law_k", 2)]) (di_range1 (da_cons (de_callB cd_len W.f_len boot_len' (da_cons (de_var 1) da_nil)) da_nil) W.f_range) (blkOk_by (by kernel_rfl)) (fun _ _ _ _ _ => (dg_name 2 sc.nd)) (fun _ _ _ _ _ => (dts_one (dt_not (dt_val (de_call F__law_alike hr W.g__law_alike W.k__law_alike (da_cons (de_ix (de_var 0) (de_var 2)) (da_cons (de_ix (de_var 1) (de_var 2)) da_nil))))))) (fun _ _ _ _ _ => (de_var 2))) (de_lst da_nil)))))) dss_nil)
      (dss_cons (ds_if (dw_or (dt_cmp od_is (de_var 1) de_non) (dw_or1 (dt_val (de_callB (cd_isi W.isi) W.f_isinstance boot_isinstance' (da_cons (de_var 1) (da_cons (de_ty W.f_str boot_str') da_nil)))))).dt (dss_one (ds_ret (de_and (de_cmp (od_eq hr.units) (de_var 0) (de_var 1)) (de_one (de_cmp (od_eq hr.units) (de_callB (cd_isi W.isi) W.f_isinstance boot_isinstance' (da_cons (de_var 0) (da_cons (de_ty W.f_str boot_str') da_nil))) (de_callB (cd_isi W.isi) W.f_isinstance boot_isinstance' (da_cons (de_var 1) (da_cons (de_ty W.f_str boot_str') da_nil)))))))) dss_nil)
      (dss_one (ds_ret (de_and (de_callB (cd_isi W.isi) W.f_isinstance boot_isinstance' (da_cons (de_var 0) (da_cons (de_ty W.f_int boot_int') da_nil))) (de_and (de_cmp (od_eq hr.units) (de_callB (cd_isi W.isi) W.f_isinstance boot_isinstance' (da_cons (de_var 0) (da_cons (de_ty W.f_bool boot_bool') da_nil))) (de_callB (cd_isi W.isi) W.f_isinstance boot_isinstance' (da_cons (de_var 1) (da_cons (de_ty W.f_bool boot_bool') da_nil)))) (de_one (de_cmp (od_eq hr.units) (de_var 0) (de_var 1)))))))))), ?_⟩
  intro ts ce Q E hce h
  obtain ⟨x, rfl, hp, h⟩ := h
  simp only [startD, List.map_cons, List.map_nil, List.length_cons, List.length_nil, List.cons_append, List.nil_append, Nat.reduceAdd, Nat.reduceSub, List.replicate_succ, List.replicate_zero]
  have done : ∀ b, b = true → Rt ce.length Q (.d (.bl b)) ce := fun b e => Rt.same hce rfl (by rw [e]; exact h)
  rcases hp with rfl | ⟨b, rfl⟩ | ⟨i, rfl⟩ | ⟨z, rfl, hz⟩ | ⟨xs, hs, hl, hpl⟩
  · refine Wk.go ⟨⟨rfl, rfl⟩, ?_⟩
    refine kIf_f rfl ?_
    refine Wk.go ⟨⟨rfl, rfl, rfl⟩, ?_⟩
    refine kIf_f rfl ?_
    refine Wk.go ?_
    refine eq_go ok_non ok_non (by decide) (by decide) ?_
    rw [eqD_refl ok_non]
    refine Wk.go ?_
    refine kIf_t rfl ?_
    refine Wk.go ⟨⟨rfl, rfl⟩, ⟨rfl, rfl⟩, done _ (by simp)⟩
  · refine Wk.go ⟨⟨rfl, rfl⟩, ?_⟩
    refine kIf_f rfl ?_
    refine Wk.go ⟨⟨rfl, rfl, rfl⟩, ?_⟩
    refine kIf_f rfl ?_
    refine Wk.go ⟨⟨rfl, rfl⟩, ?_⟩
    refine kIf_f rfl ?_
    refine Wk.go ⟨⟨rfl, rfl⟩, ?_⟩
    refine kIf_t rfl ?_
    refine Wk.go ⟨⟨rfl, rfl⟩, ⟨rfl, rfl⟩, ?_⟩
    refine kIf_t (by simp) ?_
    refine Wk.go (done _ (by simp))
  · refine Wk.go ⟨⟨rfl, rfl⟩, ?_⟩
    refine kIf_f rfl ?_
    refine Wk.go ⟨⟨rfl, rfl, rfl⟩, ?_⟩
    refine kIf_f rfl ?_
    refine Wk.go ⟨⟨rfl, rfl⟩, ?_⟩
    refine kIf_f rfl ?_
    refine Wk.go ⟨⟨rfl, rfl⟩, ?_⟩
    refine kIf_t rfl ?_
    refine Wk.go ⟨⟨rfl, rfl⟩, ⟨rfl, rfl⟩, ?_⟩
    refine kIf_t (by simp) ?_
    refine Wk.go (done _ (by simp))
  · refine Wk.go ⟨⟨rfl, rfl⟩, ?_⟩
    refine kIf_f rfl ?_
    refine Wk.go ⟨⟨rfl, rfl, rfl⟩, ?_⟩
    refine kIf_f rfl ?_
    refine Wk.go ⟨⟨rfl, rfl⟩, ?_⟩
    refine kIf_t rfl ?_
    refine Wk.go ?_
    refine kIf_t (by simp) ?_
    refine Wk.go ⟨⟨rfl, rfl⟩, ⟨rfl, rfl⟩, done _ (by simp)⟩
  · rcases hs with rfl | rfl
    · refine Wk.go ⟨⟨rfl, rfl⟩, ?_⟩
      refine kIf_f rfl ?_
      refine Wk.go ⟨⟨rfl, rfl, rfl⟩, ?_⟩
      refine kIf_t rfl ?_
      refine Wk.go ⟨⟨rfl, rfl, rfl⟩, ?_⟩
      refine kIf_t rfl ?_
      refine Wk.go ⟨⟨rfl, rfl⟩, ⟨rfl, rfl⟩, ?_⟩
      refine kIf_f rfl ?_
      refine Wk.go ?_
      refine kIf_f (by simp) ?_
      refine Wk.go ⟨by omega, ?_⟩
      refine uLc_map _ (fun _ => none) _ (by simp; omega) (fun j hj k hk => ?_) ?_
      · have hj' : j < xs.length := by simpa using hj
        have hx : atI xs (j : Int) = some xs[j] := by rw [atI_nat hj']; exact List.getElem?_eq_getElem hj'
        refine Wk.go ?_
        refine kAt_of hx ?_
        refine Wk.go ?_
        refine kAt_of hx ?_
        refine Wk.go ⟨xs[j], rfl, hpl _ (List.getElem_mem hj'), ?_⟩
        exact Wk.go hk
      · have e : ∀ l : List Nat, l.filterMap (fun _ => (none : Option D)) = [] := fun l => by induction l <;> simp_all
        refine Wk.go ?_
        rw [e]
        exact eq_nil (n := 0) okL_nil (by decide) (done _ rfl)
    · refine Wk.go ⟨⟨rfl, rfl⟩, ?_⟩
      refine kIf_f rfl ?_
      refine Wk.go ⟨⟨rfl, rfl, rfl⟩, ?_⟩
      refine kIf_t rfl ?_
      refine Wk.go ⟨⟨rfl, rfl, rfl⟩, ?_⟩
      refine kIf_t rfl ?_
      refine Wk.go ⟨⟨rfl, rfl⟩, ⟨rfl, rfl⟩, ?_⟩
      refine kIf_f rfl ?_
      refine Wk.go ?_
      refine kIf_f (by simp) ?_
      refine Wk.go ⟨by omega, ?_⟩
      refine uLc_map _ (fun _ => none) _ (by simp; omega) (fun j hj k hk => ?_) ?_
      · have hj' : j < xs.length := by simpa using hj
        have hx : atI xs (j : Int) = some xs[j] := by rw [atI_nat hj']; exact List.getElem?_eq_getElem hj'
        refine Wk.go ?_
        refine kAt_of hx ?_
        refine Wk.go ?_
        refine kAt_of hx ?_
        refine Wk.go ⟨xs[j], rfl, hpl _ (List.getElem_mem hj'), ?_⟩
        exact Wk.go hk
      · have e : ∀ l : List Nat, l.filterMap (fun _ => (none : Option D)) = [] := fun l => by induction l <;> simp_all
        refine Wk.go ?_
        rw [e]
        exact eq_nil (n := 0) okL_nil (by decide) (done _ rfl)

end K01

namespace K01
open PySem PySem.Spec PyProof.Rows L2 He DL
variable {K : PySem.W.Frag} {mg : Str → Option Value} {base : Heap} {w : World}


def five : List Str := ["blue", "gray", "pink", "red", "tan"]
def six : List Str := ["hue", "size", "age", "kind", "lid", "bag"]
def nm (k : Nat) : Str := six.getD k ""
/-- what _law_features draws -/
def GoodF (k : Nat) (f : Feat) : Prop := f.1 = nm k ∧ List.Sublist f.2 five ∧ 2 ≤ f.2.length
def GoodFs (fs : List Feat) : Prop := ∀ k f, fs[k]? = some f → GoodF k f
theorem GoodFs.nil : GoodFs [] := fun k f h => by simp at h
theorem GoodFs.snoc {fs : List Feat} {f : Feat} (h : GoodFs fs) (hf : GoodF fs.length f) : GoodFs (fs ++ [f]) := fun k g hg => by
  by_cases hk : k < fs.length
  · rw [List.getElem?_append_left hk] at hg
    exact h k g hg
  · by_cases hk2 : k = fs.length
    · subst hk2
      simp at hg
      subst hg
      exact hf
    · rw [List.getElem?_eq_none (by simp; omega)] at hg
      cases hg
def φFeats : Phi := fun ts ce Q _ => ∃ (cs : List Int) (st i : Int) (rest : Ce) (most : Nat), ts = [.cel 1, .d (.int (most : Int))] ∧ ce = Hc cs :: Hh st i :: rest ∧ 1 ≤ most ∧ most ≤ 6 ∧ 0 ≤ i ∧ cs.length ≤ 900 ∧
  ∀ (fs : List Feat) (cs' : List Int) (st' i' : Int), GoodFs fs → 1 ≤ fs.length → fs.length ≤ most → cs'.length = cs.length → 0 ≤ i' → Q (.d (featsD fs)) (Hc cs' :: Hh st' i' :: rest)
theorem name_at {k : Nat} (h : k < 6) : atI [D.str "hue", .str "size", .str "age", .str "kind", .str "lid", .str "bag"] (k : Int) = some (.str (nm k)) := by
  rw [DL.atI_nat (by simpa using h)]
  match k, h with
  | 0, _ => rfl
  | 1, _ => rfl
  | 2, _ => rfl
  | 3, _ => rfl
  | 4, _ => rfl
  | 5, _ => rfl
abbrev Hw (ws : List Str) : Cell := .lst ((ws.map D.str).map T.d)

theorem sc__law_features : FnScope ["_law_h", "_law_most", "_law_found", "_law_k", "_law_words"] ["_law_h", "_law_most"] (defScope (top 17)) := ⟨rfl, rfl, rfl, by decide +kernel, rfl, by decide +kernel, by decide +kernel⟩
theorem ok__law_features (W : Wo K mg base) (F__law_next : FnX P w K mg base 1 (ga K "_law_next") φNext) : FnX P w K mg base 2 (ga K "_law_features") (φFeats) := by
  have sc := sc__law_features
  obtain ⟨fd, F⟩ := W.d__law_features
  refine fnD (fun_of F) sc (F.bindsN fun _ _ _ _ _ _ us hl => match us, hl with | [_, _], _ => rfl) W.X (fun ts ce Q E h => by obtain ⟨cs, st, i, rest, most, rfl, _⟩ := h; rfl) ⟨_, fun cdv A outer s H E hr po => (dss_cons (ds_set 2 sc.nd (de_lstC da_nil))
      (dss_cons (ds_for po (di_range1 (da_cons (de_bin od_add de_int (de_call F__law_next (hr.mono (by decide)) W.g__law_next W.k__law_next (da_cons (de_var 0) (da_cons (de_var 1) da_nil)))) da_nil) W.f_range) (dg_name 3 sc.nd) (dss_cons (ds_set 4 sc.nd (de_lstC (da_cons de_str (da_cons de_str (da_cons de_str (da_cons de_str (da_cons de_str da_nil)))))))
      (dss_cons (ds_while po (dt_cmp od_gt (de_callB cd_len W.f_len boot_len' (da_cons (de_var 4) da_nil)) (de_bin od_add de_int (de_call F__law_next (hr.mono (by decide)) W.g__law_next W.k__law_next (da_cons (de_var 0) (da_cons de_int da_nil))))) (dss_one (ds_expr (de_popAt (de_var 4) (da_cons (de_call F__law_next (hr.mono (by decide)) W.g__law_next W.k__law_next (da_cons (de_var 0) (da_cons (de_callB cd_len W.f_len boot_len' (da_cons (de_var 4) da_nil)) da_nil))) da_nil)))))
      (dss_one (ds_expr (de_append (de_var 2) (da_cons (de_tup (da_cons (de_ix (de_lst (da_cons de_str (da_cons de_str (da_cons de_str (da_cons de_str (da_cons de_str (da_cons de_str da_nil))))))) (de_var 3)) (da_cons (de_callTy cd_tuple W.f_tuple boot_tuple' (da_cons (de_var 4) da_nil)) da_nil))) da_nil)))))))
      (dss_one (ds_ret (de_callTy cd_tuple W.f_tuple boot_tuple' (da_cons (de_var 2) da_nil)))))), ?_⟩
  intro ts ce Q E hce h
  obtain ⟨cs, st, i, rest, most, rfl, rfl, hm1, hm2, hi, hlen, h⟩ := h
  simp only [startD, List.map_cons, List.map_nil, List.length_cons, List.length_nil, List.cons_append, List.nil_append, Nat.reduceAdd, Nat.reduceSub, List.replicate_succ, List.replicate_zero]
  refine Wk.go ⟨cs, st, i, most, _, rfl, rfl, by omega, by omega, hi, hlen, ?_⟩
  intro n cs1 st1 i1 hn1 hn2 hc1 hi1
  refine Wk.go ⟨⟨by omega, by omega⟩, ?_⟩
  refine loop_go _ (fun (pre post : List Nat) (sl : Sl) (ce' : Ce) => pre ++ post = List.range (1 + n).toNat ∧ ∃ (cs2 : List Int) (st2 i2 : Int) (fs : List Feat) (junk : Ce) (x y : Option T), ce' = Hc cs2 :: Hh st2 i2 :: (rest ++ [.lst ((fs.map featD).map T.d)] ++ junk) ∧ fs.length = pre.length ∧ GoodFs fs ∧ cs2.length = cs.length ∧ 0 ≤ i2 ∧
    sl = [some (.cel 1), some (.d (.int most)), some (.cel (rest.length + 1 + 1)), x, y]) ?_ ?_ _ [] _ _ ⟨rfl, cs1, st1, i1, [], [], _, _, by simp, rfl, GoodFs.nil, hc1, hi1, rfl⟩
  · rintro pre k post sl ce' J hJ ⟨hpp, cs2, st2, i2, fs, junk, x, y, rfl, hfl, hgood, hc2, hi2, rfl⟩
    obtain ⟨rfl, hk⟩ := range_split hpp
    have hk6 : k < 6 := by omega
    refine Wk.go ?_
    refine ⟨fun m sl ce' => ∃ (cs3 : List Int) (st3 i3 : Int) (ws : List Str), ce' = Hc cs3 :: Hh st3 i3 :: (rest ++ [.lst ((fs.map featD).map T.d)] ++ junk ++ [Hw ws]) ∧ ws.length = m ∧ 2 ≤ m ∧ List.Sublist ws five ∧ cs3.length = cs.length ∧ 0 ≤ i3 ∧
      sl = [some (.cel 1), some (.d (.int most)), some (.cel (rest.length + 1 + 1)), some (.d (.int k)), some (.cel ((rest ++ [Cell.lst ((fs.map featD).map T.d)] ++ junk).length + 1 + 1))],
      ⟨5, cs2, st2, i2, five, rfl, rfl, by decide, List.Sublist.refl _, hc2, hi2, rfl⟩, ?_⟩
    rintro m sl ce' ⟨cs3, st3, i3, ws, rfl, hwl, hm, hsub, hc3, hi3, rfl⟩
    refine Wk.go ⟨cs3, st3, i3, 3, _, rfl, rfl, by decide, by decide, hi3, by omega, ?_⟩
    intro d cs4 st4 i4 hd1 hd2 hc4 hi4
    refine Wk.go ?_
    refine kIf_of (fun hb => ?_) (fun hb => ?_)
    · have hm3 : 2 < m := by simp at hb; omega
      refine Wk.go ⟨cs4, st4, i4, _, _, rfl, rfl, by simp; omega, by simp; have := hsub.length_le; simp [five] at this; omega, hi4, by omega, ?_⟩
      intro e cs5 st5 i5 he1 he2 hc5 hi5
      simp at he2
      refine Wk.go ?_
      have hj : e.toNat < ws.length := by omega
      refine pop_go (j := e.toNat) (t := .d (.str ws[e.toNat])) (by simp; unfold ixN; rw [if_pos he1, if_pos (by omega)]) (by simp [hj]) ⟨by omega, by have := hsub.length_le; simp [five] at this; omega⟩ inferInstance ?_
      refine ⟨m - 1, by omega, cs5, st5, i5, ws.eraseIdx e.toNat, ?_, ?_, by omega, (List.eraseIdx_sublist ..).trans hsub, by omega, hi5, rfl⟩
      · simp [DL.eraseIdx_map]
      · rw [List.length_eraseIdx_of_lt hj]; omega
    · refine Wk.go ?_
      refine kAt_of (name_at hk6) ?_
      have hf6 : fs.length ≤ 6 := by rw [hfl]; simp; omega
      refine Wk.go ⟨by have := sizeLine_eq; simp; omega, ?_⟩
      refine hJ _ _ ⟨by simpa using hpp, cs4, st4, i4, fs ++ [(nm k, ws)], junk ++ [Hw ws], _, _, ?_, by simp [hfl], hgood.snoc ⟨by rw [hfl]; simp, hsub, by show 2 ≤ ws.length; omega⟩, by omega, hi4, rfl⟩
      simp [featD]
  · rintro pre sl ce' ⟨hpp, cs2, st2, i2, fs, junk, x, y, rfl, hfl, hgood, hc2, hi2, rfl⟩
    refine Wk.go ?_
    have hpl : fs.length = (1 + n).toNat := by rw [hfl]; have := congrArg List.length hpp; simpa using this
    exact ⟨Hc cs2 :: Hh st2 i2 :: rest, [.lst ((fs.map featD).map T.d)] ++ junk, by simp, by simp, rfl, cells_ok hce, h fs cs2 st2 i2 hgood (by omega) (by omega) hc2 hi2⟩

def φIdx (K : PySem.W.Frag) : Phi := fun ts ce Q _ => ∃ fs : List Feat, ts = [.d (featsD fs)] ∧ (∀ f ∈ fs, okF f) ∧ fs.length ≤ 1000 ∧ (badIx fs = none → Q (.d (catD K fs)) ce) ∧ ∀ i, badIx fs = some i → Q (.d (.int (i : Int))) ce
/-- Catalog(fs): made, or refused -/
theorem make_go {K : PySem.W.Frag} {sl : Sl} {ce : Ce} {Q : T → Ce → Prop} {E : Ex1} {fs : List Feat} (hce : ce.all (cellB ce.length) = true) (hok : ∀ f ∈ fs, okF f) (hl : fs.length ≤ 1000) (h1 : badIx fs = none → Q (.d (catD K fs)) ce) (h2 : ∀ i, badIx fs = some i → E ⟨.ref (ga K "InvalidCatalog"), [("index", .int (i : Int))]⟩ sl ce) :
    kMake (ga K "Catalog") (φInit K) sl Q E [.d (featsD fs)] ce := by
  refine ⟨ce, fs, rfl, rfl, hce, hok, hl, fun hb => ⟨rfl, ce, _, rfl, .inl rfl, ?_⟩, fun i hb => ⟨ce, _, rfl, .inl rfl, h2 i hb⟩⟩
  exact h1 hb

theorem sc__law_index : FnScope ["_law_features_here", "e"] ["_law_features_here"] (defScope (top 18)) := ⟨rfl, rfl, rfl, by decide +kernel, rfl, by decide +kernel, by decide +kernel⟩
theorem ok__law_index (W : Wo K mg base) (F_Catalog___init__ : FnX P w K mg base 3 (ma K (ga K "Catalog") "__init__") (φInit K)) : FnX P w K mg base 5 (ga K "_law_index") (φIdx K) := by
  have sc := sc__law_index
  obtain ⟨fd, F⟩ := W.d__law_index
  refine fnD (fun_of F) sc (F.bindsN fun _ _ _ _ _ _ us hl => match us, hl with | [_], _ => rfl) W.X (fun ts ce Q E h => by obtain ⟨fs, rfl, _⟩ := h; rfl) ⟨_, fun cdv A outer s H E hr po => (dss_one (ds_tryAs (exm := exmL [(ga K "InvalidCatalog", true)]) 1 sc.nd ⟨rfl, by decide, .inl W.g_InvalidCatalog⟩ (exmL_ok (by intro p hp; simp only [List.mem_cons, List.not_mem_nil, or_false] at hp; rcases hp with rfl <;> first | exact W.ym_InvalidCatalog_InvalidCatalog)) (fun pn xe po => (dss_one (ds_ret (de_make W.m_Catalog F_Catalog___init__ (hr.mono (by decide)) W.g_Catalog (da_cons (de_var 0) da_nil))))) (fun a oe cls d pn hz hf => (dss_one (ds_ret (de_xf (W.z_InvalidCatalog) W.y_InvalidCatalog_index hz hf (de_var 1))))))), ?_⟩
  intro ts ce Q E hce h
  obtain ⟨fs, rfl, hok, hl, h1, h2⟩ := h
  simp only [startD, List.map_cons, List.map_nil, List.length_cons, List.length_nil, List.cons_append, List.nil_append, Nat.reduceAdd, Nat.reduceSub, List.replicate_succ, List.replicate_zero]
  refine Wk.go ?_
  refine make_go hce hok hl (fun hb => Rt.same hce rfl (h1 hb)) (fun i hb => ?_)
  dsimp only
  refine tryA_go (exm := exmL [(ga K "InvalidCatalog", true)]) (x := ⟨.ref (ga K "InvalidCatalog"), [("index", .int (i : Int))]⟩) (by simp [exmL, List.lookup]) (fun a d hd => ?_)
  cases d with
  | none => exact absurd (hd rfl) (by simp)
  | some dd =>
    refine Wk.go ?_
    exact xf_go (v := .int (i : Int)) (by simp [List.lookup]) (fun R hR => Wk.go hR) (Rt.same hce rfl (h2 i hb))
end K01

namespace K01
open PySem PySem.Spec PyProof.Rows L2 He DL
/-! ### the plain law: what is drawn is a catalog, what is put in is refused -/
theorem rising_of : ∀ {ws : List Str}, ws.Pairwise (fun a b => ltS a b = true) → rising ws = true
  | [], _ => rfl
  | [a], _ => rfl
  | a :: b :: r, h => by
    cases h with
    | cons h1 h2 =>
      have ih := rising_of h2
      unfold rising at ih ⊢
      simp only [List.drop_succ_cons, List.drop_zero] at ih ⊢
      rw [List.zip_cons_cons, List.all_cons, h1 b List.mem_cons_self]
      simpa using ih
theorem five_pw : five.Pairwise (fun a b => ltS a b = true) := by decide +kernel
theorem five_word : ∀ x ∈ five, isWord x = true ∧ x.length ≤ 1000 ∧ okS x = true := by decide +kernel
theorem six_word : ∀ k : Fin 6, isWord (nm k) = true ∧ (nm k).length ≤ 1000 ∧ okS (nm k) = true ∧ nm k ∉ six.take k := by decide +kernel
theorem good_f {k : Nat} {f : Feat} (hk : k < 6) (h : GoodF k f) : okF f ∧ isFeat f = true := by
  obtain ⟨h1, h2, h3⟩ := h
  obtain ⟨w1, w2, w3, _⟩ := six_word ⟨k, hk⟩
  have hl : f.2.length ≤ 5 := h2.length_le
  have hall : f.2.all isWord = true := List.all_eq_true.mpr fun x hx => (five_word x (h2.subset hx)).1
  refine ⟨⟨by rw [h1]; exact w2, by rw [h1]; exact w3, by omega, fun x hx => (five_word x (h2.subset hx)).2⟩, ?_⟩
  unfold isFeat
  rw [hall, rising_of (five_pw.sublist h2), h1, w1]
  simp
  omega
theorem good_names {fs : List Feat} (h : GoodFs fs) (hl : fs.length ≤ 6) : fs.map (·.1) = six.take fs.length := by
  apply List.ext_getElem?
  intro k
  rw [List.getElem?_map]
  by_cases hk : k < fs.length
  · have e := List.getElem?_eq_getElem hk
    rw [e, List.getElem?_take_of_lt hk]
    have := (h k _ e).1
    simp only [Option.map_some]
    rw [this]
    unfold nm
    rw [List.getD_eq_getElem?_getD, List.getElem?_eq_getElem (show k < six.length by show k < 6; omega)]
    rfl
  · rw [List.getElem?_eq_none (by omega), List.getElem?_eq_none (by simp; omega)]
    rfl
theorem good_ok {fs : List Feat} (h : GoodFs fs) (hl : fs.length ≤ 6) : ∀ f ∈ fs, okF f := fun f hf => by
  obtain ⟨k, hk⟩ := List.mem_iff_getElem?.mp hf
  have : k < fs.length := (List.getElem?_eq_some_iff.mp hk).1
  exact (good_f (by omega) (h k f hk)).1
theorem good_at {fs : List Feat} (h : GoodFs fs) (hl : fs.length ≤ 6) {j : Nat} (hj : j < fs.length) : badAt fs j = false := by
  have e := List.getElem?_eq_getElem hj
  have hg := h j _ e
  have hd : fs.getD j ("", []) = fs[j] := by simp [List.getD, e]
  unfold badAt
  rw [hd, (good_f (by omega) hg).2, List.map_take, good_names h hl, List.take_take, Nat.min_eq_left (by omega), hg.1]
  have := (six_word ⟨j, by omega⟩).2.2.2
  simp only [decide_eq_false this]
  simp
  omega
theorem bad_pre {fs gs : List Feat} {p j : Nat} (hj : j < p) (hp : p ≤ fs.length) : badAt (fs.take p ++ gs) j = badAt fs j := by
  have e1 : (fs.take p ++ gs).getD j ("", []) = fs.getD j ("", []) := by
    rw [List.getD_eq_getElem?_getD, List.getD_eq_getElem?_getD, List.getElem?_append_left (by simp; omega), List.getElem?_take_of_lt hj]
  have e2 : (fs.take p ++ gs).take j = fs.take j := by
    rw [List.take_append_of_le_length (by simp; omega), List.take_take, Nat.min_eq_left (by omega)]
  unfold badAt
  rw [e1, e2]
theorem good_ix {fs : List Feat} (h : GoodFs fs) (h1 : 1 ≤ fs.length) (hl : fs.length ≤ 6) : badIx fs = none := by
  unfold badIx
  rw [if_neg (fun z => by subst z; simp at h1), List.find?_eq_none]
  intro j hj
  rw [good_at h hl (by simpa using hj)]
  simp
/-- one put in at p that cannot be -/
theorem put_ix {fs : List Feat} (h : GoodFs fs) (hl : fs.length ≤ 6) {p : Nat} (hp : p ≤ fs.length) {b : Feat} (hb : isFeat b = false ∨ b.1 ∈ (fs.take p).map (·.1)) : badIx (fs.take p ++ [b] ++ fs.drop p) = some p := by
  unfold badIx
  rw [if_neg (by simp)]
  refine find_range (by simp; omega) (fun j hj => ?_) ?_
  · rw [List.append_assoc, bad_pre hj hp]
    exact good_at h hl (by omega)
  · have e1 : (fs.take p ++ [b] ++ fs.drop p).getD p ("", []) = b := by
      rw [List.getD_eq_getElem?_getD, List.append_assoc, List.getElem?_append_right (by simp; omega)]
      simp [Nat.min_eq_left hp]
    have e2 : (fs.take p ++ [b] ++ fs.drop p).take p = fs.take p := by
      rw [List.append_assoc, List.take_append_of_le_length (by simp; omega), List.take_take, Nat.min_self]
    unfold badAt
    rw [e1, e2]
    rcases hb with hb | hb
    · rw [hb]; simp
    · simp only [decide_eq_true hb]; simp
theorem put_ok {fs : List Feat} (h : ∀ f ∈ fs, okF f) {p : Nat} {b : Feat} (hb : okF b) : ∀ f ∈ fs.take p ++ [b] ++ fs.drop p, okF f := by
  intro f hf
  simp only [List.mem_append, List.mem_singleton] at hf
  rcases hf with (hf | rfl) | hf
  · exact h f (List.mem_of_mem_take hf)
  · exact hb
  · exact h f (List.mem_of_mem_drop hf)
/-- the ten that cannot be (the last is a known one, where there is one) -/
def bads (fs : List Feat) (p : Nat) : List Feat := [("", ["a", "b"]), ("Hue", ["a", "b"]), ("ninelette", ["a", "b"]), ("x", ["a"]), ("x", ["b", "a"]), ("x", ["a", "a"]), ("x", ["a", "B"]), ("x", ["", "a"]), ("x", ["aa", "ab", "ac", "ad", "ae", "af", "ag", "ah", "ai"]),
  if 0 < p then ((fs.getD 0 ("", [])).1, ["a", "b"]) else ("x", [])]
theorem bads9 : ∀ f ∈ ([("", ["a", "b"]), ("Hue", ["a", "b"]), ("ninelette", ["a", "b"]), ("x", ["a"]), ("x", ["b", "a"]), ("x", ["a", "a"]), ("x", ["a", "B"]), ("x", ["", "a"]), ("x", ["aa", "ab", "ac", "ad", "ae", "af", "ag", "ah", "ai"]), ("x", [])] : List Feat),
    isFeat f = false ∧ f.1.length ≤ 1000 ∧ okS f.1 = true ∧ f.2.length ≤ 1000 ∧ ∀ x ∈ f.2, x.length ≤ 1000 ∧ okS x = true := by decide +kernel
theorem ab_ok : ∀ x ∈ (["a", "b"] : List Str), x.length ≤ 1000 ∧ okS x = true := by decide +kernel
theorem bads_bad {fs : List Feat} (h : GoodFs fs) (h1 : 1 ≤ fs.length) (hl : fs.length ≤ 6) {p : Nat} (hp : p ≤ fs.length) {b : Feat} (hb : b ∈ bads fs p) : okF b ∧ (isFeat b = false ∨ b.1 ∈ (fs.take p).map (·.1)) := by
  have gen : ∀ f, f ∈ ([("", ["a", "b"]), ("Hue", ["a", "b"]), ("ninelette", ["a", "b"]), ("x", ["a"]), ("x", ["b", "a"]), ("x", ["a", "a"]), ("x", ["a", "B"]), ("x", ["", "a"]), ("x", ["aa", "ab", "ac", "ad", "ae", "af", "ag", "ah", "ai"]), ("x", [])] : List Feat) → okF f ∧ (isFeat f = false ∨ f.1 ∈ (fs.take p).map (·.1)) := fun f hf => by
    obtain ⟨a, b, c, d, e⟩ := bads9 f hf
    exact ⟨⟨b, c, d, e⟩, .inl a⟩
  by_cases h0 : 0 < p
  · unfold bads at hb
    rw [if_pos h0] at hb
    simp only [List.mem_cons, List.not_mem_nil, or_false] at hb
    rcases hb with hb | hb | hb | hb | hb | hb | hb | hb | hb | hb
    · exact gen b (by rw [hb]; simp)
    · exact gen b (by rw [hb]; simp)
    · exact gen b (by rw [hb]; simp)
    · exact gen b (by rw [hb]; simp)
    · exact gen b (by rw [hb]; simp)
    · exact gen b (by rw [hb]; simp)
    · exact gen b (by rw [hb]; simp)
    · exact gen b (by rw [hb]; simp)
    · exact gen b (by rw [hb]; simp)
    · have e0 := List.getElem?_eq_getElem (show 0 < fs.length by omega)
      have ed : fs.getD 0 ("", []) = fs[0] := by simp [List.getD, e0]
      obtain ⟨k1, k2, _⟩ := good_ok h hl fs[0] (List.getElem_mem _)
      subst hb
      rw [ed]
      refine ⟨⟨k1, k2, by show 2 ≤ 1000; omega, ab_ok⟩, .inr ?_⟩
      refine List.mem_map.mpr ⟨fs[0], ?_, rfl⟩
      exact List.mem_of_getElem? (i := 0) (by rw [List.getElem?_take_of_lt h0]; exact e0)
  · unfold bads at hb
    rw [if_neg h0] at hb
    exact gen b (by
      simp only [List.mem_cons, List.not_mem_nil, or_false] at hb ⊢
      exact hb)
/-- six more, seven -/
def more : List Feat := [("fa", ["a", "b"]), ("fb", ["a", "b"]), ("fc", ["a", "b"]), ("fd", ["a", "b"]), ("fe", ["a", "b"]), ("ff", ["a", "b"])]
theorem more_ix : badIx more = none ∧ badIx [] = some 0 ∧ badIx (more ++ ([("z", ["a", "b"])] : List Feat)) = some 6 ∧ badIx (more ++ ([("z", [])] : List Feat)) = some 6 := by decide +kernel
instance (f : Feat) : Decidable (okF f) := by unfold okF; infer_instance
theorem more_ok : (∀ f ∈ more, okF f) ∧ (∀ f ∈ more ++ ([("z", ["a", "b"])] : List Feat), okF f) ∧ (∀ f ∈ more ++ ([("z", [])] : List Feat), okF f) ∧ (∀ f ∈ ([("zz", ["a", "b"])] : List Feat), okF f) ∧ badIx [("zz", ["a", "b"])] = none := by decide +kernel
theorem find_good {fs : List Feat} (h : GoodFs fs) (hl : fs.length ≤ 6) {k : Nat} {f : Feat} (hk : fs[k]? = some f) : fs.find? (fun g => decide (g.1 = f.1)) = some f := by
  have hlt : k < fs.length := (List.getElem?_eq_some_iff.mp hk).1
  obtain ⟨_, hf⟩ := List.getElem?_eq_some_iff.mp hk
  rw [List.find?_eq_some_iff_getElem]
  refine ⟨by simp, k, hlt, hf, fun j hj => ?_⟩
  have e1 := h k f hk
  have e2 := h j _ (List.getElem?_eq_getElem (by omega))
  have hnj := (six_word ⟨k, by omega⟩).2.2.2
  simp only [Bool.not_eq_true', decide_eq_false_iff_not]
  rw [e1.1, e2.1]
  intro z
  apply hnj
  rw [← z]
  have hj6 : j < six.length := by show j < 6; omega
  refine List.mem_of_getElem? (i := j) ?_
  rw [List.getElem?_take_of_lt hj]
  unfold nm
  rw [List.getD_eq_getElem?_getD, List.getElem?_eq_getElem hj6]
  rfl
theorem nofeat {fs : List Feat} (h : GoodFs fs) (hl : fs.length ≤ 6) : ("nofeat" : Str) ∉ fs.map (·.1) := by
  rw [good_names h hl]
  intro hm
  have : ("nofeat" : Str) ∉ six := by decide +kernel
  exact this (List.mem_of_mem_take hm)
theorem nofind {fs : List Feat} (h : GoodFs fs) (hl : fs.length ≤ 6) : fs.find? (fun f => decide (f.1 = ("nofeat" : Str))) = none := by
  rw [List.find?_eq_none]
  intro f hf
  have := nofeat h hl
  simp only [decide_eq_true_eq]
  intro z
  exact this (List.mem_map.mpr ⟨f, hf, z⟩)
theorem zz_ne {fs : List Feat} (h : GoodFs fs) (h1 : 1 ≤ fs.length) (hl : fs.length ≤ 6) : eqD (featsD fs) (featsD [("zz", ["a", "b"])]) = false := by
  cases fs with
  | nil => simp at h1
  | cons f r =>
    have hf := h 0 f rfl
    have ok := good_ok h hl
    have hz := more_ok.2.2.2.1
    unfold featsD
    rw [eqD_tup ⟨2, okL_feats ok⟩ ⟨2, okL_feats hz⟩, List.map_cons, List.map_cons, List.map_nil, eqDs_cons ⟨2, okN_feat (ok f List.mem_cons_self)⟩ ⟨2, okN_feat (hz _ List.mem_cons_self)⟩ ⟨2, okL_feats fun g hg => ok g (List.mem_cons_of_mem _ hg)⟩ ⟨2, okL_nil⟩]
    unfold featD
    have o1 := ok f List.mem_cons_self
    have lt : ∀ l : List Str, (∀ x ∈ l, okS x = true) → OkL 0 (l.map D.str) := fun l hl => okL_of fun d hd => by
      obtain ⟨x, hx, rfl⟩ := List.mem_map.mp hd
      exact ok_str (hl x hx)
    have a1 : OkN 1 (.tup (f.2.map D.str)) := ok_tup (lt _ fun x hx => (o1.2.2.2 x hx).2)
    have a2 : OkN 1 (.tup ((["a", "b"] : List Str).map D.str)) := ok_tup (lt _ fun x hx => (ab_ok x hx).2)
    rw [eqD_tup ⟨1, okL_cons ((ok_str o1.2.1).mono (by decide)) (okL_cons a1 okL_nil)⟩ ⟨1, okL_cons ((ok_str (by decide +kernel)).mono (by decide)) (okL_cons a2 okL_nil)⟩,
      eqDs_cons ⟨0, ok_str o1.2.1⟩ ⟨0, ok_str (by decide +kernel)⟩ ⟨1, okL_cons a1 okL_nil⟩ ⟨1, okL_cons a2 okL_nil⟩, eqD_str, hf.1]
    have : decide (nm 0 = ("zz" : Str)) = false := by decide +kernel
    rw [this]
    rfl
end K01

namespace K01
open PySem PySem.Spec PyProof.Rows L2 He DL
variable {K : PySem.W.Frag} {mg : Str → Option Value} {base : Heap} {w : World}


theorem idx_go {K : PySem.W.Frag} {fs : List Feat} {i : Nat} {ce : Ce} {Q : T → Ce → Prop} {E : Exc → Ce → Prop} (hok : ∀ f ∈ fs, okF f) (hl : fs.length ≤ 1000) (hb : badIx fs = some i) (q : Q (.d (.int (i : Int))) ce) : φIdx K [.d (featsD fs)] ce Q E :=
  ⟨fs, rfl, hok, hl, fun h => absurd h (by rw [hb]; simp), fun j h => by rw [hb] at h; cases h; exact q⟩
theorem pl_int {n : Nat} {i : Int} : Pl (n + 1) (.int i) := .inr (.inr (.inl ⟨_, rfl⟩))
theorem pl_str {n : Nat} {x : Str} (h : okS x = true) : Pl (n + 1) (.str x) := .inr (.inr (.inr (.inl ⟨_, rfl, h⟩)))
theorem pl_tup {n : Nat} {xs : List D} (h : xs.length ≤ 900) (hx : ∀ x ∈ xs, Pl n x) : Pl (n + 1) (.tup xs) := .inr (.inr (.inr (.inr ⟨xs, .inl rfl, h, hx⟩)))
theorem pl_lst {n : Nat} {xs : List D} (h : xs.length ≤ 900) (hx : ∀ x ∈ xs, Pl n x) : Pl (n + 1) (.lst xs) := .inr (.inr (.inr (.inr ⟨xs, .inr rfl, h, hx⟩)))
theorem pl_feats {fs : List Feat} (hg : GoodFs fs) (h6 : fs.length ≤ 6) : Pl 4 (featsD fs) := pl_tup (by simp; omega) fun x hx => by
  obtain ⟨f, hf, rfl⟩ := List.mem_map.mp hx
  have ho := good_ok hg h6 f hf
  refine pl_tup (by simp) fun y hy => ?_
  simp only [List.mem_cons, List.not_mem_nil, or_false] at hy
  rcases hy with rfl | rfl
  · exact pl_str ho.2.1
  · obtain ⟨k, hk⟩ := List.mem_iff_getElem?.mp hf
    have := (hg k f hk).2.1.length_le
    refine pl_tup (by simp; have : f.2.length ≤ 5 := this; omega) fun z hz => ?_
    obtain ⟨x, hx, rfl⟩ := List.mem_map.mp hz
    exact pl_str (ho.2.2.2 x hx).2
theorem cellB_mono {n m : Nat} (h : n ≤ m) : ∀ {c : Cell}, cellB n c = true → cellB m c = true := by
  have ht : ∀ t : T, topB n t = true → topB m t = true := fun t ht => by
    cases t with
    | d _ => rfl
    | cel k => simp [topB] at ht ⊢; omega
  intro c hc
  cases c with
  | lst xs => simp only [cellB, List.all_eq_true] at hc ⊢; exact fun x hx => ht x (hc x hx)
  | dic xs => simp only [cellB, List.all_eq_true] at hc ⊢; exact fun x hx => ht _ (hc x hx)
  | ins C xs => simp only [cellB, List.all_eq_true] at hc ⊢; exact fun x hx => ht _ (hc x hx)
theorem okJ {cs : List Int} {st i : Int} {junk : Ce} (h : junk.all (cellB 0) = true) : (Hc cs :: Hh st i :: junk).all (cellB (Hc cs :: Hh st i :: junk).length) = true := by
  rw [List.all_cons, List.all_cons]
  have h1 : cellB (Hc cs :: Hh st i :: junk).length (Hc cs) = true := by simp [cellB, topB]
  have h2 : cellB (Hc cs :: Hh st i :: junk).length (Hh st i) = true := by simp [cellB, topB]
  rw [h1, h2]
  simp only [Bool.true_and, List.all_eq_true] at h ⊢
  exact fun c hc => cellB_mono (Nat.zero_le _) (h c hc)
def φLaw : Phi := fun ts ce Q _ => ∃ ns : List Int, ts = [.d (.lst (ns.map .int))] ∧ ns.length ≤ 63 ∧ ce = [] ∧ Q (.d (.bl true)) []

theorem sc_law : FnScope ["_law_script", "_law_h", "_law_turn", "_law_features_here", "_law_catalog", "_law_place", "_law_bad", "_law_sign", "_law_wrong", "_law_more", "_law_found", "_law_due", "_law_row", "_law_name", "_law_words"] ["_law_script"] (defScope (top 19)) := ⟨rfl, rfl, rfl, by decide +kernel, rfl, by decide +kernel, by decide +kernel⟩
theorem ok_law (W : Wo K mg base) (F__law_mix : FnX P w K mg base 1 (ga K "_law_mix") φMix) (F__law_next : FnX P w K mg base 1 (ga K "_law_next") φNext) (F__law_alike : FnX P w K mg base 6 (ga K "_law_alike") (φA 6)) (F__law_features : FnX P w K mg base 2 (ga K "_law_features") φFeats)
    (F__law_index : FnX P w K mg base 5 (ga K "_law_index") (φIdx K)) (F_Catalog___init__ : FnX P w K mg base 3 (ma K (ga K "Catalog") "__init__") (φInit K)) (F_Catalog_features : FnX P w K mg base 1 (pgA K "Catalog" "features").2 (φParts K)) (F_Catalog_names : FnX P w K mg base 1 (pgA K "Catalog" "names").2 (φNames K))
    (F_Catalog___getitem__ : FnX P w K mg base 1 (ma K (ga K "Catalog") "__getitem__") (φGet K)) (F_Catalog___contains__ : FnX P w K mg base 3 (ma K (ga K "Catalog") "__contains__") (φHas K)) (F_Catalog___len__ : FnX P w K mg base 1 (ma K (ga K "Catalog") "__len__") (φLen K)) (F_Catalog___eq__ : FnX P w K mg base 3 (ma K (ga K "Catalog") "__eq__") (φEq K)) {fd : FuncData} (F : FunD K "law" "law" (defArgs (top 19)) (defBody (top 19)) (defScope (top 19)) [] [] (ga K "law") fd) : FnOk P w K mg base (L2.CX P w) 12 (ga K "law") fd ["_law_script"] (spD K (φLaw)) := by
  have sc := sc_law
  refine fnK (fun_of F) sc (fun ts ce Q E h => by obtain ⟨cs, rfl, _⟩ := h; rfl) ⟨_, fun cdv A outer s H E hr po => (dss_cons (ds_set 1 sc.nd (de_call F__law_mix (hr.mono (by decide)) W.g__law_mix W.k__law_mix (da_cons (de_var 0) (da_cons de_int da_nil))))
      (dss_cons (ds_for po (di_range1 (da_cons de_int da_nil) W.f_range) (dg_name 2 sc.nd) (dss_cons (ds_set 3 sc.nd (de_call F__law_features (hr.mono (by decide)) W.g__law_features W.k__law_features (da_cons (de_var 1) (da_cons de_int da_nil))))
      (dss_cons (ds_par 4 5 sc.nd (da_cons (de_make W.m_Catalog F_Catalog___init__ (hr.mono (by decide)) W.g_Catalog (da_cons (de_var 3) da_nil)) (da_cons (de_call F__law_next (hr.mono (by decide)) W.g__law_next W.k__law_next (da_cons (de_var 1) (da_cons (de_bin od_add (de_callB cd_len W.f_len boot_len' (da_cons (de_var 3) da_nil)) de_int) da_nil))) da_nil)))
      (dss_cons (ds_set 6 sc.nd (de_lst (da_cons (de_tup (da_cons de_str (da_cons (de_tup (da_cons de_str (da_cons de_str da_nil))) da_nil))) (da_cons (de_tup (da_cons de_str (da_cons (de_tup (da_cons de_str (da_cons de_str da_nil))) da_nil))) (da_cons (de_tup (da_cons de_str (da_cons (de_tup (da_cons de_str (da_cons de_str da_nil))) da_nil))) (da_cons (de_tup (da_cons de_str (da_cons (de_tup (da_cons de_str da_nil)) da_nil))) da_nil))))))
      (dss_cons (ds_set 6 sc.nd (de_bin od_add (de_var 6) (de_lst (da_cons (de_tup (da_cons de_str (da_cons (de_tup (da_cons de_str (da_cons de_str da_nil))) da_nil))) (da_cons (de_tup (da_cons de_str (da_cons (de_tup (da_cons de_str (da_cons de_str da_nil))) da_nil))) da_nil)))))
      (dss_cons (ds_set 6 sc.nd (de_bin od_addC (de_var 6) (de_lst (da_cons (de_tup (da_cons de_str (da_cons (de_tup (da_cons de_str (da_cons de_str da_nil))) da_nil))) (da_cons (de_tup (da_cons de_str (da_cons (de_tup (da_cons de_str (da_cons de_str da_nil))) da_nil))) (da_cons (de_tup (da_cons de_str (da_cons (de_callTy cd_tuple W.f_tuple boot_tuple' (da_cons (de_lc sc.nd (own := [("_law_sign", 7)]) (di_str de_str) (blkOk_by (by kernel_rfl)) (fun _ _ _ _ _ => (dg_name 7 sc.nd)) (fun _ _ _ _ _ => dts_nil) (fun _ _ _ _ _ => (de_bin od_add de_str (de_var 7)))) da_nil)) da_nil))) da_nil))))))
      (dss_cons (ds_expr (de_append (de_var 6) (da_cons (de_ifExp (dt_cmp od_gt (de_var 5) de_int) (de_tup (da_cons (de_ix (de_ix (de_var 3) de_int) de_int) (da_cons (de_tup (da_cons de_str (da_cons de_str da_nil))) da_nil))) (de_tup (da_cons de_str (da_cons (de_tup da_nil) da_nil)))) da_nil)))
      (dss_cons (ds_set 8 sc.nd (de_bin od_add (de_bin od_add (de_slice (de_var 3) do_none (do_some (de_var 5))) (de_tup (da_cons (de_ix (de_var 6) (de_call F__law_next (hr.mono (by decide)) W.g__law_next W.k__law_next (da_cons (de_var 1) (da_cons de_int da_nil)))) da_nil))) (de_slice (de_var 3) (do_some (de_var 5)) do_none)))
      (dss_cons (ds_if (dt_not (dt_val (de_call F__law_alike (hr.mono (by decide)) W.g__law_alike W.k__law_alike (da_cons (de_call F__law_index (hr.mono (by decide)) W.g__law_index W.k__law_index (da_cons (de_var 8) da_nil)) (da_cons (de_var 5) da_nil))))) (dss_one (ds_ret de_bl)) dss_nil)
      (dss_cons (ds_set 9 sc.nd (de_callTy cd_tuple W.f_tuple boot_tuple' (da_cons (de_lc sc.nd (own := [("_law_sign", 7)]) (di_str de_str) (blkOk_by (by kernel_rfl)) (fun _ _ _ _ _ => (dg_name 7 sc.nd)) (fun _ _ _ _ _ => dts_nil) (fun _ _ _ _ _ => (de_tup (da_cons (de_bin od_add de_str (de_var 7)) (da_cons (de_tup (da_cons de_str (da_cons de_str da_nil))) da_nil))))) da_nil)))
      (dss_cons (ds_set 10 sc.nd (de_lst (da_cons (de_call F__law_index (hr.mono (by decide)) W.g__law_index W.k__law_index (da_cons (de_tup da_nil) da_nil)) (da_cons (de_call F__law_index (hr.mono (by decide)) W.g__law_index W.k__law_index (da_cons (de_bin od_add (de_var 9) (de_tup (da_cons (de_tup (da_cons de_str (da_cons (de_tup (da_cons de_str (da_cons de_str da_nil))) da_nil))) da_nil))) da_nil)) (da_cons (de_call F__law_index (hr.mono (by decide)) W.g__law_index W.k__law_index (da_cons (de_bin od_add (de_var 9) (de_tup (da_cons (de_tup (da_cons de_str (da_cons (de_tup da_nil) da_nil))) da_nil))) da_nil)) da_nil)))))
      (dss_cons (ds_if (dw_or (dt_not (dt_val (de_call F__law_alike (hr.mono (by decide)) W.g__law_alike W.k__law_alike (da_cons (de_var 10) (da_cons (de_lst (da_cons de_int (da_cons de_int (da_cons de_int da_nil)))) da_nil))))) (dw_or1 (dt_cmp (od_ne hr.units) (de_callB (cd_lenO W.a_Catalog___len__ W.b_Catalog___len__ F_Catalog___len__ (hr.mono (by decide))) W.f_len boot_len' (da_cons (de_make W.m_Catalog F_Catalog___init__ (hr.mono (by decide)) W.g_Catalog (da_cons (de_var 9) da_nil)) da_nil)) de_int))).dt (dss_one (ds_ret de_bl)) dss_nil)
      (dss_cons (ds_set 11 sc.nd (de_lst (da_cons (de_var 3) (da_cons (de_callTy cd_tuple W.f_tuple boot_tuple' (da_cons (de_lc sc.nd (own := [("_law_row", 12)]) (di_tup (de_var 3)) (blkOk_by (by kernel_rfl)) (fun _ _ _ _ _ => (dg_name 12 sc.nd)) (fun _ _ _ _ _ => dts_nil) (fun _ _ _ _ _ => (de_ix (de_var 12) de_int))) da_nil)) (da_cons (de_callB cd_len W.f_len boot_len' (da_cons (de_var 3) da_nil)) da_nil)))))
      (dss_cons (ds_if (dt_not (dt_val (de_call F__law_alike (hr.mono (by decide)) W.g__law_alike W.k__law_alike (da_cons (de_lst (da_cons (de_prop (de_var 4) W.c_Catalog W.p_Catalog_features F_Catalog_features (hr.mono (by decide))) (da_cons (de_prop (de_var 4) W.c_Catalog W.p_Catalog_names F_Catalog_names (hr.mono (by decide))) (da_cons (de_callB (cd_lenO W.a_Catalog___len__ W.b_Catalog___len__ F_Catalog___len__ (hr.mono (by decide))) W.f_len boot_len' (da_cons (de_var 4) da_nil)) da_nil)))) (da_cons (de_var 11) da_nil))))) (dss_one (ds_ret de_bl)) dss_nil)
      (dss_cons (ds_for po (di_tup (de_var 3)) (dg_tup (n := 2) (dgs_cons (dg_name 13 sc.nd) (dgs_cons (dg_name 14 sc.nd) dgs_nil))) (dss_one (ds_if (dw_or (dt_cmp (od_notinO W.a_Catalog___contains__ W.b_Catalog___contains__ F_Catalog___contains__ (hr.mono (by decide))) (de_var 13) (de_var 4)) (dw_or1 (dt_not (dt_val (de_call F__law_alike (hr.mono (by decide)) W.g__law_alike W.k__law_alike (da_cons (de_getO W.a_Catalog___getitem__ W.n_Catalog___getitem__ W.b_Catalog___getitem__ F_Catalog___getitem__ (hr.mono (by decide)) (de_var 4) (de_var 13)) (da_cons (de_var 14) da_nil))))))).dt (dss_one (ds_ret de_bl)) dss_nil)))
      (dss_cons (ds_if (dw_or (dt_cmp (od_inO W.a_Catalog___contains__ W.b_Catalog___contains__ F_Catalog___contains__ (hr.mono (by decide))) de_str (de_var 4)) (dw_or (dt_cmp (od_neO W.a_Catalog___eq__ W.ne_Catalog W.ob_Catalog W.b_Catalog___eq__ F_Catalog___eq__ (hr.mono (by decide))) (de_var 4) (de_make W.m_Catalog F_Catalog___init__ (hr.mono (by decide)) W.g_Catalog (da_cons (de_var 3) da_nil))) (dw_or1 (dt_cmp (od_eqO W.a_Catalog___eq__ W.b_Catalog___eq__ F_Catalog___eq__ (hr.mono (by decide))) (de_var 4) (de_make W.m_Catalog F_Catalog___init__ (hr.mono (by decide)) W.g_Catalog (da_cons (de_tup (da_cons (de_tup (da_cons de_str (da_cons (de_tup (da_cons de_str (da_cons de_str da_nil))) da_nil))) da_nil)) da_nil)))))).dt (dss_one (ds_ret de_bl)) dss_nil)
      (dss_one (ds_tryOnly (exm := exmL [(ga K "UnknownFeature", true)]) ⟨rfl, by decide, .inl W.g_UnknownFeature⟩ (exmL_ok (by intro p hp; simp only [List.mem_cons, List.not_mem_nil, or_false] at hp; rcases hp with rfl <;> first | exact W.ym_UnknownFeature_UnknownFeature)) (fun pn xe po => (dss_cons (ds_expr (de_getO W.a_Catalog___getitem__ W.n_Catalog___getitem__ W.b_Catalog___getitem__ F_Catalog___getitem__ (hr.mono (by decide)) (de_var 4) de_str))
      (dss_one (ds_ret de_bl)))) (fun a oe cls d pn hz hf => (dss_one (ds_set 5 sc.nd de_int)))))))))))))))))))))
      (dss_one (ds_ret de_bl)))), ?_⟩
  intro ts ce Q E hce h
  obtain ⟨ns, rfl, hl, rfl, h⟩ := h
  simp only [startD, List.map_cons, List.map_nil, List.length_cons, List.length_nil, List.cons_append, List.nil_append, Nat.reduceAdd, Nat.reduceSub, List.replicate_succ, List.replicate_zero]
  refine Wk.go ⟨ns, 1, rfl, by omega, rfl, fun st => ?_⟩
  refine Wk.go ⟨⟨by decide, by decide⟩, ?_⟩
  refine loop_go _ (fun (pre post : List Nat) (sl : Sl) (ce' : Ce) => ∃ (cs : List Int) (st i : Int) (junk : Ce) (s0 x2 x3 x4 x5 x6 x8 x9 x10 x11 x13 x14 : Option T), ce' = Hc cs :: Hh st i :: junk ∧ cs.length = ns.length ∧ 0 ≤ i ∧ junk.all (cellB 0) = true ∧ sl = [s0, some (.cel 1), x2, x3, x4, x5, x6, none, x8, x9, x10, x11, none, x13, x14]) ?_ ?_ _ [] _ _ ⟨ns, st, 0, [], _, _, _, _, _, _, _, _, _, _, _, _, rfl, rfl, Int.le_refl _, rfl, rfl⟩
  · rintro pre k post sl ce' J hJ ⟨cs, st, i, junk, s0, x2, x3, x4, x5, x6, x8, x9, x10, x11, x13, x14, rfl, hcs, hi, hj, rfl⟩
    refine Wk.go ⟨cs, st, i, junk, 6, rfl, rfl, by decide, by decide, hi, by omega, ?_⟩
    intro fs cs1 st1 i1 hg h1 h6 hc1 hi1
    have hok := good_ok hg h6
    refine Wk.go ?_
    refine make_go (okJ hj) hok (by omega) (fun _ => ?_) (fun i hb => absurd hb (by rw [good_ix hg h1 h6]; simp))
    refine Wk.go ⟨cs1, st1, i1, _, _, rfl, rfl, by simp only [List.length_map]; omega, by simp only [List.length_map]; omega, hi1, by omega, ?_⟩
    intro p' cs2 st2 i2 hp1 hp2 hc2 hi2
    simp only [List.length_map] at hp2
    obtain ⟨p, rfl⟩ := Int.eq_ofNat_of_zero_le hp1
    have hp : p ≤ fs.length := by omega
    refine Wk.go ⟨sz (by decide), ?_⟩
    refine uLc_map _ (fun c => some (.str (("a" : Str) ++ ⟨#[c]⟩))) _ (by decide) (fun c hc k hk => Wk.go ⟨sz (by show 1 + 1 ≤ 1000; decide), Wk.go hk⟩) ?_
    have e9 : (Str.cps "abcdefghi").toList.filterMap (fun c => some (D.str (("a" : Str) ++ ⟨#[c]⟩))) = (["aa", "ab", "ac", "ad", "ae", "af", "ag", "ah", "ai"] : List Str).map D.str := by rfl
    rw [e9]
    have hat0 : atI (fs.map featD) 0 = some (featD (fs.getD 0 ("", []))) := by
      cases fs with
      | nil => simp at h1
      | cons f r => exact DL.atI_nat (n := 0) (by simp)
    refine Wk.go ⟨sz (by decide), ?_⟩
    refine kIf_join (v1 := .d (featD ((fs.getD 0 ("", [])).1, ["a", "b"]))) (v2 := .d (featD ("x", []))) (fun R hR => ?_) (fun R hR => Wk.go hR) ?_
    · refine Wk.go ?_
      exact kAt_of hat0 (Wk.go hR)
    refine Wk.go ⟨by rw [sizeLine_eq]; decide, cs2, st2, i2, 10, _, rfl, rfl, by decide, by decide, hi2, by omega, ?_⟩
    intro n cs3 st3 i3 hn1 hn2 hc3 hi3
    obtain ⟨b, hb, hbn⟩ : ∃ b, b ∈ bads fs p ∧ (bads fs p)[n.toNat]? = some b := by
      have hlt : n.toNat < (bads fs p).length := by show n.toNat < 10; omega
      exact ⟨_, List.getElem_mem hlt, List.getElem?_eq_getElem hlt⟩
    obtain ⟨hbok, hbad⟩ := bads_bad hg h1 h6 hp hb
    refine Wk.go ?_
    refine kAt_of (d := .d (featD b)) (atI_get hn1 ?_) ?_
    · have e : ∀ l : List T, l = (bads fs p).map (fun b => T.d (featD b)) → l[n.toNat]? = some (.d (featD b)) := fun l hl => by rw [hl, List.getElem?_map, hbn]; rfl
      refine e _ ?_
      unfold bads
      by_cases h0 : 0 < p
      · simp [h0]
      · simp [h0]
    refine Wk.go ?_
    have hix := put_ix hg h6 hp hbad
    have hput := put_ok hok (p := p) hbok
    rw [cut_to, cut_from]
    generalize hX : junk ++ [Cell.lst _] = junk2
    have hj2 : junk2.all (cellB 0) = true := by
      rw [← hX, List.all_append, hj]
      by_cases h0 : 0 < p <;> simp [cellB, topB, h0]
    clear hX
    refine ⟨sz (by simp; omega), sz (by simp; omega), fs.take p ++ [b] ++ fs.drop p, by simp, hput, by simp; omega, fun hx => absurd hx (by rw [hix]; simp), fun j hx => ?_⟩
    have ej : j = p := by rw [hix] at hx; exact (Option.some.inj hx).symm
    subst ej
    refine Wk.go ⟨.int j, rfl, .inr (.inr (.inl ⟨_, rfl⟩)), ?_⟩
    refine Wk.go ?_
    refine uLc_map _ (fun c => some (featD (("f" : Str) ++ ⟨#[c]⟩, ["a", "b"]))) _ (by decide) (fun c hc k hk => Wk.go ⟨sz (by show 1 + 1 ≤ 1000; decide), Wk.go hk⟩) ?_
    have e6 : (Str.cps "abcdef").toList.filterMap (fun c => some (featD (("f" : Str) ++ ⟨#[c]⟩, ["a", "b"]))) = more.map featD := by rfl
    rw [e6]
    refine Wk.go ?_
    refine idx_go (fs := []) (by simp) (by simp) more_ix.2.1 ?_
    refine Wk.go ⟨sz (by decide), ?_⟩
    refine idx_go (fs := more ++ ([("z", ["a", "b"])] : List Feat)) more_ok.2.1 (by decide) more_ix.2.2.1 ?_
    refine Wk.go ⟨sz (by decide), ?_⟩
    refine idx_go (fs := more ++ ([("z", [])] : List Feat)) more_ok.2.2.1 (by decide) more_ix.2.2.2 ?_
    refine Wk.go ⟨.lst [.int 0, .int 6, .int 6], rfl, pl_lst (by decide) (fun x hx => by simp at hx; rcases hx with rfl | rfl <;> exact pl_int), ?_⟩
    refine Wk.go ?_
    refine make_go (okJ hj2) more_ok.1 (by decide) (fun _ => ?_) (fun i hb => absurd hb (by rw [more_ix.1]; simp))
    refine Wk.go ⟨rfl, more, rfl, ⟨by decide, by decide⟩, ?_⟩
    refine Wk.go ?_
    refine kIf_f (by decide) ?_
    refine Wk.go ?_
    rw [List.map_map]
    refine uLc_map _ (fun f => some (.str f.1)) _ (by omega) (fun f hf k hk => ?_) ?_
    · show ugName _ (.d (.tup [.str f.1, .tup (f.2.map .str)])) _ _ _
      exact Wk.go (Wk.go hk)
    rw [filterMap_some]
    refine Wk.go ⟨rfl, fs, rfl, ?_⟩
    refine Wk.go ⟨rfl, fs, rfl, by omega, ?_⟩
    refine Wk.go ⟨rfl, fs, rfl, ⟨by omega, by omega⟩, ?_⟩
    simp only [List.length_map]
    have hfs6 : ∀ f ∈ fs, f.2.length ≤ 5 := fun f hf => by
      obtain ⟨q, hq⟩ := List.mem_iff_getElem?.mp hf
      exact (hg q f hq).2.1.length_le
    refine Wk.go ⟨.lst [featsD fs, .tup (fs.map fun f => .str f.1), .int (fs.length : Int)], rfl, pl_lst (by simp) (fun x hx => ?_), ?_⟩
    · simp only [List.mem_cons, List.not_mem_nil, or_false] at hx
      rcases hx with rfl | rfl | rfl
      · exact .inr (.inr (.inr (.inr ⟨_, .inl rfl, by simp; omega, fun y hy => by
          obtain ⟨f, hf, rfl⟩ := List.mem_map.mp hy
          refine pl_tup (by simp) fun z hz => ?_
          simp only [List.mem_cons, List.not_mem_nil, or_false] at hz
          rcases hz with rfl | rfl
          · exact pl_str (hok f hf).2.1
          · refine pl_tup (by simp; have := hfs6 f hf; omega) fun u hu => ?_
            obtain ⟨x, hx, rfl⟩ := List.mem_map.mp hu
            exact pl_str ((hok f hf).2.2.2 x hx).2⟩)))
      · refine pl_tup (by simp; omega) fun y hy => ?_
        obtain ⟨f, hf, rfl⟩ := List.mem_map.mp hy
        exact pl_str (hok f hf).2.1
      · exact pl_int
    refine Wk.go ?_
    rw [List.map_map]
    refine loop_go _ (fun (pre post : List Feat) (sl : Sl) (ce' : Ce) => pre ++ post = fs ∧ ce' = Hc cs3 :: Hh st3 i3 :: junk2 ∧ ∃ y2 y5 y6 y8 y9 y10 y11 y13 y14, sl = [s0, some (.cel 1), y2, some (.d (featsD fs)), some (.d (catD K fs)), y5, y6, none, y8, y9, y10, y11, none, y13, y14]) ?_ ?_ _ [] _ _ ⟨rfl, rfl, _, _, _, _, _, _, _, _, _, rfl⟩
    · rintro pre2 f post2 sl ce' J2 hJ2 ⟨hpp2, rfl, y2, y5, y6, y8, y9, y10, y11, y13, y14, rfl⟩
      have hfm : f ∈ fs := by rw [← hpp2]; simp
      obtain ⟨q, hq⟩ := List.mem_iff_getElem?.mp hfm
      show ugTup _ _ (.d (.tup [.str f.1, .tup (f.2.map .str)])) _ _ _
      refine Wk.go ⟨rfl, rfl, fs, f.1, rfl, by omega, ?_⟩
      have hmem : decide (f.1 ∈ fs.map (·.1)) = true := decide_eq_true (List.mem_map.mpr ⟨f, hfm, rfl⟩)
      rw [hmem]
      refine Wk.go ?_
      refine kIf_f rfl ?_
      refine Wk.go ⟨rfl, fs, f.1, rfl, by omega, fun g hgf => ?_, fun hn => absurd hn (by rw [find_good hg h6 hq]; simp)⟩
      have egf : g = f := by rw [find_good hg h6 hq] at hgf; exact (Option.some.inj hgf).symm
      subst egf
      refine Wk.go ⟨.tup (g.2.map .str), rfl, pl_tup (by simp; have := hfs6 g hfm; omega) (fun u hu => ?_), ?_⟩
      · obtain ⟨x, hx, rfl⟩ := List.mem_map.mp hu
        exact pl_str ((hok g hfm).2.2.2 x hx).2
      refine Wk.go ?_
      exact hJ2 _ _ ⟨by simpa using hpp2, rfl, _, _, _, _, _, _, _, _, _, rfl⟩
    · rintro pre2 sl ce' ⟨hpp2, rfl, y2, y5, y6, y8, y9, y10, y11, y13, y14, rfl⟩
      refine Wk.go ⟨rfl, fs, "nofeat", rfl, by omega, ?_⟩
      rw [decide_eq_false (nofeat hg h6)]
      refine Wk.go ?_
      refine kIf_f rfl ?_
      refine Wk.go ?_
      refine make_go (okJ hj2) hok (by omega) (fun _ => ?_) (fun i hb => absurd hb (by rw [good_ix hg h1 h6]; simp))
      refine Wk.go ⟨rfl, rfl, fs, fs, rfl, hok, hok, ?_⟩
      rw [eqD_refl (ok_tup (okL_feats hok))]
      refine Wk.go ?_
      refine kIf_f rfl ?_
      refine Wk.go ?_
      refine make_go (fs := [("zz", ["a", "b"])]) (okJ hj2) more_ok.2.2.2.1 (by decide) (fun _ => ?_) (fun i hb => absurd hb (by rw [more_ok.2.2.2.2]; simp))
      refine Wk.go ⟨rfl, rfl, fs, [("zz", ["a", "b"])], rfl, hok, more_ok.2.2.2.1, ?_⟩
      rw [zz_ne hg h1 h6]
      refine Wk.go ?_
      refine kIf_f rfl ?_
      refine Wk.go ⟨rfl, fs, "nofeat", rfl, by omega, fun g hgf => absurd hgf (by rw [nofind hg h6]; simp), fun _ => ?_⟩
      dsimp only
      refine tryO_go (exm := exmL [(ga K "UnknownFeature", true)]) (x := ⟨.ref (ga K "UnknownFeature"), []⟩) (by simp [exmL, List.lookup]) ?_
      refine Wk.go ?_
      exact hJ _ _ ⟨cs3, st3, i3, junk2, _, _, _, _, _, _, _, _, _, _, _, _, rfl, by omega, hi3, hj2, rfl⟩
  · rintro pre sl ce' ⟨cs, st, i, junk, s0, x2, x3, x4, x5, x6, x8, x9, x10, x11, x13, x14, rfl, hcs, hi, hj, rfl⟩
    refine Wk.go ?_
    exact ⟨[], _, rfl, Nat.le_refl _, rfl, rfl, h⟩

theorem sp_law {K : PySem.W.Frag} {H : Hp} {a : Addr} {ns : List Int} (hl : ns.length ≤ 63) (hS : SqL K H a (ns.map V.int)) : spD K φLaw [.ref a] H (fun v _ => v = .bl true) fun _ _ _ => False := by
  have rl : ∀ l : List Int, RepL K H (l.map D.int) (l.map V.int) := fun l => by
    induction l with
    | nil => rfl
    | cons x r ih => exact ⟨_, _, rfl, rfl, ih⟩
  refine ⟨[], H, [], [.d (.lst (ns.map .int))], fun t ce => t = .d (.bl true), fun _ _ => False, ⟨fun _ _ h => .inl h, List.nodup_nil, rfl, fun _ h => absurd h (by simp), fun k a c h _ => by simp at h⟩, ⟨_, [], rfl, ⟨a, _, rfl, hS, rl ns⟩, rfl⟩, ⟨ns, rfl, hl, rfl, rfl⟩, ?_, fun _ _ _ _ _ _ _ _ _ _ z => z⟩
  intro d ce' G' m' v H' _ _ r e
  subst e
  exact r
theorem facts {w : World} {K : PySem.W.Frag} {mg : Str → Option Value} {h : Heap} {f : Addr} (X : K.In h) (G : h.Ns mainGlobals mg) (hfa : mg ("law" : Str) = some (.ref f)) (c : SaysM tab K) :
    ∃ fd : FuncData, (∀ (s : Shared) (v : Value), BindsTo s fd ⟨[v], []⟩ [("_law_script", v)]) ∧ ∀ base : Heap, K.In base → base.Ns mainGlobals mg → FnOk P w K mg base (CXA P) 12 f fd ["_law_script"] (spD K φLaw) := by
  obtain ⟨fd, F⟩ := (⟨c, X, G⟩ : Wo K mg h).d_law
  have e := hfa.symm.trans (⟨c, X, G⟩ : Wo K mg h).g_law
  cases e
  have b := FunD.bindsA (ps := ["_law_script"]) F fun _ _ _ _ _ _ us hl => match us, hl with | [_], _ => rfl
  refine ⟨fd, fun s v => b s [v] rfl, fun base KX NX => ?_⟩
  have W : Wo K mg base := ⟨c, KX, NX⟩
  have F1 : FnX P w K mg base 1 _ φWord := ok_is_word W
  have F2 : FnX P w K mg base 1 _ φRising := ok_is_rising W
  have F3 : FnX P w K mg base 2 _ φFeat := ok_is_feature W F1 F2
  have F4 : FnX P w K mg base 3 _ (φInit K) := ok_Catalog___init__ W F3
  have F5 : FnX P w K mg base 1 _ (φParts K) := ok_Catalog_features W
  have F6 : FnX P w K mg base 1 _ (φNames K) := ok_Catalog_names W
  have F7 : FnX P w K mg base 1 _ (φGet K) := ok_Catalog___getitem__ W
  have F8 : FnX P w K mg base 3 _ (φHas K) := ok_Catalog___contains__ W F6
  have F9 : FnX P w K mg base 1 _ (φLen K) := ok_Catalog___len__ W
  have F10 : FnX P w K mg base 3 _ (φEq K) := ok_Catalog___eq__ W F5
  have F11 : FnX P w K mg base 1 _ φMix := ok__law_mix W
  have F12 : FnX P w K mg base 1 _ φNext := ok__law_next W
  have A0 : FnX P w K mg base 0 (ga K "_law_alike") (φA 0) := fun _ _ _ _ _ _ _ _ _ _ _ h => by
    obtain ⟨_, _, _, _, _, _, _, _, ⟨_, _, z, _⟩, _⟩ := h
    exact z.elim
  have F13 : FnX P w K mg base 6 _ (φA 6) := ok__law_alike W 5 (ok__law_alike W 4 (ok__law_alike W 3 (ok__law_alike W 2 (ok__law_alike W 1 (ok__law_alike W 0 A0)))))
  have F14 : FnX P w K mg base 2 _ φFeats := ok__law_features W F12
  have F15 : FnX P w K mg base 5 _ (φIdx K) := ok__law_index W F4
  exact fnOk_any (ok_law W F11 F12 F13 F14 F15 F4 F5 F6 F7 F8 F9 F10 F)
end K01
open PySem PySem.W PySem.Calls PyProof.Rows

theorem PySem.Challenge.cw_lostdesk_k01_catalogs_refused_holds : PySem.Challenge.rw_lostdesk_k01_catalogs_refused.Holds := by
  w_on; o_law
  refine HandSHeadRun.head_any (r := OpenLaw.row PySem.Challenge.rw_lostdesk_k01_catalogs_refused) (q := view (OpenLaw.row PySem.Challenge.rw_lostdesk_k01_catalogs_refused).prog [19]) (H := K01.hk) (ob := K01.ob) (M := 4000) (loose := K01.loose) (d := HandSHeadRun.topDef (OpenLaw.row PySem.Challenge.rw_lostdesk_k01_catalogs_refused).prog 19) (kwd := []) K01.ob_eq
    (by kernel_rfl) (fun s => by kernel_rfl) K01.run (by kernel_rfl) (by kernel_rfl) (by kernel_rfl) (by rfl) (by first | assumption | decide +kernel) (by decide +kernel) ⟨rfl, rfl, rfl, rfl, rfl, by decide +kernel⟩ ?hw ?hc
  case hw => w_witness2
  case hc =>
    refine L2.walk_ofE (l := PySem.Challenge.rw_lostdesk_k01_catalogs_refused) (n := 63) (k := 12) (x := "_law_script") (CX := DL.CXA (PySem.Challenge.rw_lostdesk_k01_catalogs_refused).prog) rfl (by decide) (by kernel_rfl) ⟨rfl, by decide, by decide⟩ ?F (fun _ _ _ _ z => DL.cxa_false z)
    intro w mg fa h Y G hmg0
    obtain ⟨K, KX, c⟩ := Y
    have hmg : mg ("law" : PySem.Str) = some (.ref fa) := by
      have e : (HandSHeadRun.topDef (OpenLaw.row PySem.Challenge.rw_lostdesk_k01_catalogs_refused).prog 19).name = ("law" : PySem.Str) := by kernel_rfl
      rw [← e]
      exact hmg0
    obtain ⟨fd, hb, hF⟩ := K01.facts (w := w) KX G hmg c
    exact ⟨K, fd, DL.spD K K01.φLaw, KX, hb, fun H a ns hl _ hS => K01.sp_law hl hS, hF⟩
