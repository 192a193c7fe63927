import PyProof.Rows.All
import Wide.All
import OpenK.AllK
import Wide.FinOn
import KE.KStateDown
import HandS.ForMost
import HandS.Defaults
import HandS.Head0
import HandS.Head1
import HandS.Head2
import HandS.HeadEnd
import HandS.HeadHook1
import HandS.HeadHook2
import HandS.HeadHook4
import HandS.TupAny
import HandS.TupMul
import HandS.TupLe
import HandS.Flow
import HandS.Style
import HandS.Wide
import HandS.WideMore
import HandS.Zip
import HandS.IsInst
import HandS.Deep
import HandS.Conv
import HandS.DictComp
import HandS.SortKw
import KE.KeyNested
import KE.KDictKeyed
import KE.SortKeyHeap
import PySem.Challenge.RW_undonewords_k30_whole_all_rows_of_letter
set_option Elab.async false
set_option linter.all false
set_option maxRecDepth 100000
set_option maxHeartbeats 4000000
/-! A layer of plain data over the hand layer: values as data, a store of lists, readings as functions. -/
namespace PU
open PySem PySem.Spec PyProof.Rows L2

/-- data: tuples and lists that never change by their items, changing lists by their place in the store -/
inductive D where
  | non | bl (b : Bool) | int (i : Int) | str (x : Str) | tup (ds : List D) | lst (ds : List D) | rol (ds : List D) | loc (n : Nat) | dct (ks vs : List D)
deriving Inhabited
/-- what stands in the store -/
inductive O where
  | lst (ds : List D) | dic (ks vs : List D)
deriving Inhabited
abbrev Sto := List O
abbrev En := List (Option D)

mutual
/-- a key of a dict: ints, bools, None, tuples of these -/
def kD : D → Option NestedKey
  | .non => some .none
  | .bl b => some (.num (if b = true then 1 else 0))
  | .int i => some (.num i)
  | .tup ds => match kDs ds with
    | some ks => some (.tup ks)
    | none => none
  | _ => none
def kDs : List D → Option (List NestedKey)
  | [] => some []
  | d :: ds => match kD d, kDs ds with
    | some k, some ks => some (k :: ks)
    | _, _ => none
end
/-- the entries of a dict: their keys, what they hold -/
def EntL : List DictEntry → List NestedKey → List V → List V → Prop
  | [], ks, xs, ys => ks = [] ∧ xs = [] ∧ ys = []
  | e :: es, ks, xs, ys => ∃ k kr x xr y yr, ks = k :: kr ∧ xs = x :: xr ∧ ys = y :: yr ∧ (∀ w, e.hash = k.hash w) ∧ RelV x e.key ∧ RelV y e.val ∧ EntL es kr xr yr
structure DicRaw (o : Obj) (ks : List NestedKey) (xs ys : List V) : Prop where
  ex : o.ExactDict
  es : ∃ es ep, o.data = .dict es ep ∧ EntL es.toList ks xs ys
  nd : ks.Nodup
  dp : ∀ k ∈ ks, k.depth ≤ 8
/-- an object known as it stands -/
def rawO (a : Addr) (o : Obj) : HO := .ext fun h => h.get? a = some o
/-- a dict at a, by its object -/
def DicAt (H : Hp) (a : Addr) (ks : List NestedKey) (xs ys : List V) : Prop := (a == sysModules) = false ∧ ks.length ≤ sizeLine ∧ ∃ o, H a = some (rawO a o) ∧ DicRaw o ks xs ys
/-- a tuple that is known to its object -/
def TupAt (H : Hp) (a : Addr) (xs : List V) : Prop := ∃ o : Obj, H a = some (.frz o (.tup xs)) ∧ o.dict = none
/-- the places of the store; what is in use, not to be pointed at -/
structure Wd where
  m : List Addr
  x : List Addr
def Wd.out (w : Wd) (a : Addr) : Prop := a ∉ w.m ∧ a ∉ w.x
abbrev Wd.add (w : Wd) (a : Addr) : Wd := ⟨w.m ++ [a], w.x⟩
abbrev Wd.res (w : Wd) (a : Addr) : Wd := ⟨w.m, a :: w.x⟩
mutual
def Rep (H : Hp) (m : Wd) : D → V → Prop
  | .non, v => v = .non
  | .bl b, v => v = .bl b
  | .int i, v => v = .int i
  | .str x, v => v = .str x
  | .tup ds, v => ∃ a xs, v = .ref a ∧ TupAt H a xs ∧ m.out a ∧ RepL H m ds xs
  | .lst ds, v => ∃ a xs, v = .ref a ∧ H a = some (.lst xs) ∧ m.out a ∧ RepL H m ds xs
  | .rol ds, v => ∃ a xs, v = .ref a ∧ Rd H a (.lst xs) ∧ m.out a ∧ RepL H m ds xs
  | .loc n, v => ∃ a, v = .ref a ∧ m.m[n]? = some a
  | .dct ds es, v => ∃ a ks xs ys, v = .ref a ∧ DicAt H a ks xs ys ∧ m.out a ∧ kDs ds = some ks ∧ RepL H m ds xs ∧ RepL H m es ys
def RepL (H : Hp) (m : Wd) : List D → List V → Prop
  | [], vs => vs = []
  | d :: ds, vs => ∃ x xs, vs = x :: xs ∧ Rep H m d x ∧ RepL H m ds xs
end
mutual
def clo (n : Nat) : D → Bool
  | .non => true
  | .bl _ => true
  | .int _ => true
  | .str _ => true
  | .tup ds => cloL n ds
  | .lst ds => cloL n ds
  | .rol ds => cloL n ds
  | .loc k => decide (k < n)
  | .dct ds es => cloL n ds && cloL n es
def cloL (n : Nat) : List D → Bool
  | [] => true
  | d :: ds => clo n d && cloL n ds
end
def cloO (n : Nat) : O → Bool
  | .lst ds => cloL n ds
  | .dic ds es => cloL n ds && cloL n es

/-- the heap and the places grow -/
structure Grow (H : Hp) (m : Wd) (H' : Hp) (m' : Wd) : Prop where
  pre : ∃ t, m'.m = m.m ++ t
  sub : ∀ a, a ∈ m.x → a ∈ m'.x
  keep : ∀ a o, H a = some o → a ∉ m.m → H' a = some o
  new : ∀ a, a ∈ m'.m → a ∉ m.m → H a = none
  newx : ∀ a, a ∈ m'.x → a ∉ m.x → a ∉ m.m → H a = none
def ORep (H : Hp) (m : Wd) (a : Addr) : O → Prop
  | .lst ds => ∃ xs, H a = some (.lst xs) ∧ RepL H m ds xs
  | .dic ds es => ∃ ks xs ys, DicAt H a ks xs ys ∧ kDs ds = some ks ∧ RepL H m ds xs ∧ RepL H m es ys
structure StoRel (H : Hp) (m : Wd) (S : Sto) : Prop where
  len : m.m.length = S.length
  nd : m.m.Nodup
  obj : ∀ (n : Nat) (o : O) (a : Addr), S[n]? = some o → m.m[n]? = some a → ORep H m a o
  res : ∀ a, a ∈ m.x → (∃ o, H a = some o) ∧ a ∉ m.m
structure EnvRel (H : Hp) (m : Wd) (env : En) (σ : L2.St) : Prop where
  len : env.length = σ.length
  val : ∀ (i : Nat) (d : D), env[i]? = some (some d) → ∃ v, σ[i]? = some (some v) ∧ Rep H m d v

section
variable {H H1 H2 H' : Hp} {m m1 m2 m' : Wd} {a : Addr} {o : HO} {d : D} {ds : List D} {v : V} {vs : List V} {S S' : Sto} {env : En} {σ : L2.St}
theorem Grow.refl : Grow H m H m := ⟨⟨[], by simp⟩, fun _ h => h, fun _ _ h _ => h, fun _ h h' => absurd h h', fun _ h h' => absurd h h'⟩
theorem Grow.mem (g : Grow H m H1 m1) (h : a ∈ m.m) : a ∈ m1.m := by
  obtain ⟨t, e⟩ := g.pre
  rw [e]
  exact List.mem_append_left _ h
theorem Grow.trans (g : Grow H m H1 m1) (h : Grow H1 m1 H2 m2) : Grow H m H2 m2 := by
  have mem : ∀ a o, H a = some o → a ∉ m.m → a ∉ m1.m := fun a o e n q => by
    rw [g.new a q n] at e
    cases e
  have back : ∀ a, a ∉ m.m → H1 a = none → H a = none := fun a n e => by
    cases r : H a with
    | none => rfl
    | some o =>
      rw [g.keep a o r n] at e
      cases e
  refine ⟨?_, fun a z => h.sub a (g.sub a z), fun a o e n => h.keep a o (g.keep a o e n) (mem a o e n), fun a q n => ?_, fun a q n nm => ?_⟩
  · obtain ⟨t, e⟩ := g.pre
    obtain ⟨u, e'⟩ := h.pre
    exact ⟨t ++ u, by rw [e', e, List.append_assoc]⟩
  · by_cases z : a ∈ m1.m
    · exact g.new a z n
    · exact back a n (h.new a q z)
  · by_cases z : a ∈ m1.x
    · exact g.newx a z n nm
    · by_cases y : a ∈ m1.m
      · exact g.new a y nm
      · exact back a nm (h.newx a q z y)
theorem Grow.at_ {u : HO} (g : Grow H m H' m') (r : H a = some u) (n : m.out a) : H' a = some u ∧ m'.out a := by
  refine ⟨g.keep _ _ r n.1, fun q => ?_, fun q => ?_⟩
  · have e := g.new a q n.1
    rw [r] at e
    cases e
  · have e := g.newx a q n.2 n.1
    rw [r] at e
    cases e
theorem Grow.ix (g : Grow H m H' m') {k : Nat} (h : m.m[k]? = some a) : m'.m[k]? = some a := by
  obtain ⟨t, e⟩ := g.pre
  rw [e, List.getElem?_append_left (List.getElem?_eq_some_iff.mp h).1]
  exact h
theorem Grow.rd {u : HO} (g : Grow H m H' m') (r : Rd H a u) (n : m.out a) : Rd H' a u ∧ m'.out a := by
  rcases r with r | ⟨o, r⟩
  · exact ⟨.inl (g.at_ r n).1, (g.at_ r n).2⟩
  · exact ⟨.inr ⟨o, (g.at_ r n).1⟩, (g.at_ r n).2⟩
theorem DicAt.of {ks : List NestedKey} {xs ys : List V} (e : H' a = H a) (d : DicAt H a ks xs ys) : DicAt H' a ks xs ys := let ⟨h1, h2, o, h3, h4⟩ := d; ⟨h1, h2, o, e.trans h3, h4⟩
theorem Grow.dicAt {ks : List NestedKey} {xs ys : List V} (g : Grow H m H' m') (d : DicAt H a ks xs ys) (n : m.out a) : DicAt H' a ks xs ys ∧ m'.out a :=
  let ⟨h1, h2, o, h3, h4⟩ := d; ⟨⟨h1, h2, o, (g.at_ h3 n).1, h4⟩, (g.at_ h3 n).2⟩
theorem TupAt.rd {xs : List V} (r : TupAt H a xs) : Rd H a (.tup xs) := let ⟨o, e, _⟩ := r; .inr ⟨o, e⟩
theorem Grow.tupAt {xs : List V} (g : Grow H m H' m') (r : TupAt H a xs) (n : m.out a) : TupAt H' a xs ∧ m'.out a :=
  ⟨let ⟨o, e, h⟩ := r; ⟨o, g.keep _ _ e n.1, h⟩, (g.rd r.rd n).2⟩
mutual
theorem Rep.grow (g : Grow H m H' m') : ∀ (d : D) (v : V), Rep H m d v → Rep H' m' d v
  | .non, _, h => h
  | .bl _, _, h => h
  | .int _, _, h => h
  | .str _, _, h => h
  | .tup ds, v, h => by
    obtain ⟨a, xs, e, r, n, q⟩ := h
    obtain ⟨r', n'⟩ := g.tupAt r n
    exact ⟨a, xs, e, r', n', RepL.grow g ds xs q⟩
  | .lst ds, v, h => by
    obtain ⟨a, xs, e, r, n, q⟩ := h
    exact ⟨a, xs, e, (g.at_ r n).1, (g.at_ r n).2, RepL.grow g ds xs q⟩
  | .rol ds, v, h => by
    obtain ⟨a, xs, e, r, n, q⟩ := h
    obtain ⟨r', n'⟩ := g.rd r n
    exact ⟨a, xs, e, r', n', RepL.grow g ds xs q⟩
  | .loc k, v, h => by
    obtain ⟨a, e, q⟩ := h
    exact ⟨a, e, g.ix q⟩
  | .dct ds es, v, h => by
    obtain ⟨a, ks, xs, ys, e, d, n, k, q, r⟩ := h
    obtain ⟨d', n'⟩ := g.dicAt d n
    exact ⟨a, ks, xs, ys, e, d', n', k, RepL.grow g ds xs q, RepL.grow g es ys r⟩
theorem RepL.grow (g : Grow H m H' m') : ∀ (ds : List D) (vs : List V), RepL H m ds vs → RepL H' m' ds vs
  | [], _, h => h
  | d :: ds, vs, h => by
    obtain ⟨x, xs, e, h1, h2⟩ := h
    exact ⟨x, xs, e, Rep.grow g d x h1, RepL.grow g ds xs h2⟩
end
mutual
theorem Rep.clo : ∀ (d : D) (v : V), Rep H m d v → clo m.m.length d = true
  | .non, _, _ => rfl
  | .bl _, _, _ => rfl
  | .int _, _, _ => rfl
  | .str _, _, _ => rfl
  | .tup ds, v, h => by
    obtain ⟨a, xs, e, r, n, q⟩ := h
    exact RepL.clo ds xs q
  | .lst ds, v, h => by
    obtain ⟨a, xs, e, r, n, q⟩ := h
    exact RepL.clo ds xs q
  | .rol ds, v, h => by
    obtain ⟨a, xs, e, r, n, q⟩ := h
    exact RepL.clo ds xs q
  | .loc k, v, h => by
    obtain ⟨a, e, q⟩ := h
    exact decide_eq_true (List.getElem?_eq_some_iff.mp q).1
  | .dct ds es, v, h => by
    obtain ⟨a, ks, xs, ys, e, d, n, k, q, r⟩ := h
    exact Bool.and_eq_true_iff.mpr ⟨RepL.clo ds xs q, RepL.clo es ys r⟩
theorem RepL.clo : ∀ (ds : List D) (vs : List V), RepL H m ds vs → cloL m.m.length ds = true
  | [], _, _ => rfl
  | d :: ds, vs, h => by
    obtain ⟨x, xs, e, h1, h2⟩ := h
    show (PU.clo _ d && cloL _ ds) = true
    rw [Rep.clo d x h1, RepL.clo ds xs h2]
    rfl
end
/-- a world within another one -/
structure Wd.Le (m m' : Wd) : Prop where
  pre : ∃ t, m'.m = m.m ++ t
  sub : ∀ a, a ∈ m.x → a ∈ m'.x
theorem Wd.Le.out (h : Wd.Le m m') (n : m'.out a) : m.out a := by
  obtain ⟨t, e⟩ := h.pre
  exact ⟨fun z => n.1 (by rw [e]; exact List.mem_append_left _ z), fun z => n.2 (h.sub a z)⟩
mutual
theorem Rep.shrink (l : Wd.Le m m') : ∀ (d : D) (v : V), clo m.m.length d = true → Rep H m' d v → Rep H m d v
  | .non, _, _, h => h
  | .bl _, _, _, h => h
  | .int _, _, _, h => h
  | .str _, _, _, h => h
  | .tup ds, v, c, h => by
    obtain ⟨a, xs, e, r, n, q⟩ := h
    exact ⟨a, xs, e, r, l.out n, RepL.shrink l ds xs c q⟩
  | .lst ds, v, c, h => by
    obtain ⟨a, xs, e, r, n, q⟩ := h
    exact ⟨a, xs, e, r, l.out n, RepL.shrink l ds xs c q⟩
  | .rol ds, v, c, h => by
    obtain ⟨a, xs, e, r, n, q⟩ := h
    exact ⟨a, xs, e, r, l.out n, RepL.shrink l ds xs c q⟩
  | .loc k, v, c, h => by
    obtain ⟨a, e, q⟩ := h
    obtain ⟨t, e2⟩ := l.pre
    exact ⟨a, e, by rw [e2, List.getElem?_append_left (of_decide_eq_true c)] at q; exact q⟩
  | .dct ds es, v, c, h => by
    obtain ⟨a, ks, xs, ys, e, d, n, k, q, r⟩ := h
    obtain ⟨c1, c2⟩ := Bool.and_eq_true_iff.mp (show (cloL m.m.length ds && cloL m.m.length es) = true from c)
    exact ⟨a, ks, xs, ys, e, d, l.out n, k, RepL.shrink l ds xs c1 q, RepL.shrink l es ys c2 r⟩
theorem RepL.shrink (l : Wd.Le m m') : ∀ (ds : List D) (vs : List V), cloL m.m.length ds = true → RepL H m' ds vs → RepL H m ds vs
  | [], _, _, h => h
  | d :: ds, vs, c, h => by
    obtain ⟨x, xs, e, h1, h2⟩ := h
    have c' : (PU.clo m.m.length d && cloL m.m.length ds) = true := c
    obtain ⟨c1, c2⟩ := Bool.and_eq_true_iff.mp c'
    exact ⟨x, xs, e, Rep.shrink l d x c1 h1, RepL.shrink l ds xs c2 h2⟩
end
theorem RepL.len : ∀ {ds : List D} {vs : List V}, RepL H m ds vs → vs.length = ds.length
  | [], vs, h => by
    rw [show vs = [] from h]
    rfl
  | d :: ds, vs, h => by
    obtain ⟨x, xs, rfl, h1, h2⟩ := h
    rw [List.length_cons, List.length_cons, RepL.len h2]
theorem RepL.get : ∀ {ds : List D} {vs : List V} {i : Nat} {d : D}, RepL H m ds vs → ds[i]? = some d → ∃ v, vs[i]? = some v ∧ Rep H m d v
  | [], _, _, _, _, e => by simp at e
  | d :: ds, vs, 0, d', h, e => by
    obtain ⟨x, xs, rfl, h1, h2⟩ := h
    cases Option.some.inj e
    exact ⟨x, rfl, h1⟩
  | d :: ds, vs, i + 1, d', h, e => by
    obtain ⟨x, xs, rfl, h1, h2⟩ := h
    obtain ⟨v, e1, r⟩ := RepL.get (i := i) h2 e
    exact ⟨v, e1, r⟩
theorem RepL.append : ∀ {ds es : List D} {vs ws : List V}, RepL H m ds vs → RepL H m es ws → RepL H m (ds ++ es) (vs ++ ws)
  | [], es, vs, ws, h, h' => by
    rw [show vs = [] from h]
    exact h'
  | d :: ds, es, vs, ws, h, h' => by
    obtain ⟨x, xs, rfl, h1, h2⟩ := h
    exact ⟨x, xs ++ ws, rfl, h1, RepL.append h2 h'⟩
theorem RepL.set : ∀ {ds : List D} {vs : List V} {d : D} {v : V} (i : Nat), RepL H m ds vs → Rep H m d v → RepL H m (ds.set i d) (vs.set i v)
  | [], vs, d, v, i, h, _ => by
    rw [show vs = [] from h]
    exact rfl
  | d :: ds, vs, d', v', 0, h, r => by
    obtain ⟨x, xs, rfl, h1, h2⟩ := h
    exact ⟨v', xs, rfl, r, h2⟩
  | d :: ds, vs, d', v', i + 1, h, r => by
    obtain ⟨x, xs, rfl, h1, h2⟩ := h
    exact ⟨x, xs.set i v', rfl, h1, RepL.set i h2 r⟩
theorem RepL.take : ∀ {ds : List D} {vs : List V} (i : Nat), RepL H m ds vs → RepL H m (ds.take i) (vs.take i)
  | _, _, 0, _ => rfl
  | [], vs, i + 1, h => by
    rw [show vs = [] from h]
    exact rfl
  | d :: ds, vs, i + 1, h => by
    obtain ⟨x, xs, rfl, h1, h2⟩ := h
    exact ⟨x, xs.take i, rfl, h1, RepL.take i h2⟩
theorem RepL.drop : ∀ {ds : List D} {vs : List V} (i : Nat), RepL H m ds vs → RepL H m (ds.drop i) (vs.drop i)
  | _, _, 0, h => h
  | [], vs, i + 1, h => by
    rw [show vs = [] from h]
    exact rfl
  | d :: ds, vs, i + 1, h => by
    obtain ⟨x, xs, rfl, h1, h2⟩ := h
    exact RepL.drop i h2
theorem RepL.reverse : ∀ {ds : List D} {vs : List V}, RepL H m ds vs → RepL H m ds.reverse vs.reverse
  | [], vs, h => by
    rw [show vs = [] from h]
    exact rfl
  | d :: ds, vs, h => by
    obtain ⟨x, xs, rfl, h1, h2⟩ := h
    rw [List.reverse_cons, List.reverse_cons]
    exact RepL.append (RepL.reverse h2) ⟨x, [], rfl, h1, rfl⟩
theorem RepL.eraseIdx : ∀ {ds : List D} {vs : List V} (i : Nat), RepL H m ds vs → RepL H m (ds.eraseIdx i) (vs.eraseIdx i)
  | [], vs, i, h => by
    rw [show vs = [] from h]
    exact rfl
  | d :: ds, vs, 0, h => by
    obtain ⟨x, xs, rfl, h1, h2⟩ := h
    exact h2
  | d :: ds, vs, i + 1, h => by
    obtain ⟨x, xs, rfl, h1, h2⟩ := h
    exact ⟨x, xs.eraseIdx i, rfl, h1, RepL.eraseIdx i h2⟩
theorem RepL.dropLast {ds : List D} {vs : List V} (h : RepL H m ds vs) : RepL H m ds.dropLast vs.dropLast := by
  rw [List.dropLast_eq_take, List.dropLast_eq_take, h.len]
  exact h.take _
theorem RepL.map {α : Type} (f : α → D) (g : α → V) (hfg : ∀ a, Rep H m (f a) (g a)) : ∀ l : List α, RepL H m (l.map f) (l.map g)
  | [] => rfl
  | a :: l => ⟨g a, l.map g, rfl, hfg a, RepL.map f g hfg l⟩
theorem repL_ints (ns : List Int) : RepL H m (ns.map D.int) (ns.map V.int) := RepL.map D.int V.int (fun _ => rfl) ns
theorem repL_ints_inv : ∀ {ns : List Int} {vs : List V}, RepL H m (ns.map D.int) vs → vs = ns.map V.int
  | [], _, h => h
  | n :: ns, vs, h => by
    obtain ⟨x, xs, rfl, h1, h2⟩ := h
    rw [show x = V.int n from h1, repL_ints_inv h2]
    rfl
theorem repL_bls_inv : ∀ {ns : List Bool} {vs : List V}, RepL H m (ns.map D.bl) vs → vs = ns.map V.bl
  | [], _, h => h
  | n :: ns, vs, h => by
    obtain ⟨x, xs, rfl, h1, h2⟩ := h
    rw [show x = V.bl n from h1, repL_bls_inv h2]
    rfl
theorem EnvRel.grow (e : EnvRel H m env σ) (g : Grow H m H' m') : EnvRel H' m' env σ :=
  ⟨e.len, fun i d h => let ⟨v, h1, h2⟩ := e.val i d h; ⟨v, h1, Rep.grow g d v h2⟩⟩
theorem EnvRel.set (e : EnvRel H m env σ) (i : Nat) (r : Rep H m d v) : EnvRel H m (env.set i (some d)) (σ.set i (some v)) := by
  refine ⟨by rw [List.length_set, List.length_set, e.len], fun j d' h => ?_⟩
  by_cases hj : i = j
  · subst hj
    by_cases hi : i < env.length
    · rw [List.getElem?_set_self hi] at h
      cases h
      exact ⟨v, by rw [List.getElem?_set_self (by rw [← e.len]; exact hi)], r⟩
    · rw [List.getElem?_eq_none (by rw [List.length_set]; omega)] at h
      cases h
  · rw [List.getElem?_set_ne hj] at h
    rw [List.getElem?_set_ne hj]
    exact e.val j d' h
/-- slots forgotten -/
def wipeE (env : En) : List Nat → En
  | [] => env
  | v :: vs => (wipeE env vs).set v none
theorem EnvRel.wipe (e : EnvRel H m env σ) : ∀ vs : List Nat, EnvRel H m (wipeE env vs) (wipe σ vs)
  | [] => e
  | v :: vs => by
    have ih := EnvRel.wipe e vs
    refine ⟨by show ((wipeE env vs).set v none).length = ((L2.wipe σ vs).set v none).length; rw [List.length_set, List.length_set, ih.len], fun j d' h => ?_⟩
    show ∃ w, ((L2.wipe σ vs).set v none)[j]? = some (some w) ∧ _
    have h : ((wipeE env vs).set v none)[j]? = some (some d') := h
    by_cases hj : v = j
    · subst hj
      by_cases hv : v < (wipeE env vs).length
      · rw [List.getElem?_set_self hv] at h
        cases h
      · rw [List.getElem?_eq_none (by rw [List.length_set]; omega)] at h
        cases h
    · rw [List.getElem?_set_ne hj] at h
      rw [List.getElem?_set_ne hj]
      exact ih.val j d' h
/-- a new object that is not in the store -/
theorem Grow.upd (hn : H a = none) : Grow H m (upd H a o) m :=
  ⟨⟨[], by simp⟩, fun _ h => h, fun b u e _ => by rw [upd_ne (ne_of_none e hn)]; exact e, fun _ h h' => absurd h h', fun _ h h' => absurd h h'⟩
theorem StoRel.at (s : StoRel H m S) {n : Nat} {x : O} (e : S[n]? = some x) : ∃ a, m.m[n]? = some a ∧ ORep H m a x := by
  have h : n < m.m.length := by rw [s.len]; exact (List.getElem?_eq_some_iff.mp e).1
  exact ⟨m.m[n], List.getElem?_eq_getElem h, s.obj n x _ e (List.getElem?_eq_getElem h)⟩
theorem StoRel.some (s : StoRel H m S) (h : a ∈ m.m) : ∃ o, H a = some o := by
  obtain ⟨n, hn, e⟩ := List.getElem_of_mem h
  have hs : n < S.length := by rw [← s.len]; exact hn
  have q := s.obj n S[n] a (List.getElem?_eq_getElem hs) (by rw [List.getElem?_eq_getElem hn, e])
  cases hO : S[n] with
  | lst ds =>
    rw [hO] at q
    obtain ⟨xs, e, _⟩ := q
    exact ⟨_, e⟩
  | dic ds es =>
    rw [hO] at q
    obtain ⟨_, _, _, ⟨_, _, o, e, _⟩, _⟩ := q
    exact ⟨_, e⟩
theorem StoRel.fresh1 (s : StoRel H m S) (hn : H a = none) : a ∉ m.m := fun h => by
  obtain ⟨xs, e⟩ := s.some h
  rw [hn] at e
  cases e
theorem StoRel.fresh (s : StoRel H m S) (hn : H a = none) : m.out a := ⟨s.fresh1 hn, fun h => by
  obtain ⟨⟨o, e⟩, _⟩ := s.res a h
  rw [hn] at e
  cases e⟩
theorem ORep.grow (g : Grow H m H' m') (x : O) (q : ORep H m a x) (k : H' a = H a) : ORep H' m' a x := by
  cases x with
  | lst ds =>
    obtain ⟨xs, e, r⟩ := q
    exact ⟨xs, k.trans e, RepL.grow g ds xs r⟩
  | dic ds es =>
    obtain ⟨ks, xs, ys, d, e, r1, r2⟩ := q
    exact ⟨ks, xs, ys, d.of k, e, RepL.grow g ds xs r1, RepL.grow g es ys r2⟩
/-- the store stands under a heap that keeps its objects -/
theorem StoRel.keep (s : StoRel H m S) (g : Grow H m H' m) (k : ∀ a ∈ m.m, H' a = H a) : StoRel H' m S :=
  ⟨s.len, s.nd, fun n x a e e' => (s.obj n x a e e').grow g x (k a (List.mem_of_getElem? e')), fun a h => by
    obtain ⟨⟨o, e⟩, n⟩ := s.res a h
    exact ⟨⟨o, g.keep _ _ e n⟩, n⟩⟩
theorem StoRel.upd (s : StoRel H m S) (hn : H a = none) : StoRel (upd H a o) m S :=
  s.keep (Grow.upd hn) fun b hb => by
    rw [upd_ne]
    intro e
    subst e
    exact s.fresh1 hn hb
theorem Grow.newloc {o : HO} (hn : H a = none) : Grow H m (L2.upd H a o) (m.add a) := by
  refine ⟨⟨[a], rfl⟩, fun _ h => h, fun b u e _ => by rw [upd_ne (ne_of_none e hn)]; exact e, fun b hb nb => ?_, fun _ h h' => absurd h h'⟩
  rcases List.mem_append.mp hb with h | h
  · exact absurd h nb
  · rw [List.mem_singleton.mp h]
    exact hn
/-- a new list laid into the store -/
theorem StoRel.newO {u : HO} {x0 : O} (s : StoRel H m S) (hn : H a = none) (r : ORep (L2.upd H a u) (m.add a) a x0) : StoRel (L2.upd H a u) (m.add a) (S ++ [x0]) := by
  have g := Grow.newloc (m := m) (o := u) hn
  refine ⟨by simp [s.len], ?_, fun n x b e e' => ?_, fun b hb => ?_⟩
  · refine List.nodup_append.mpr ⟨s.nd, by simp, fun b hb c hc => ?_⟩
    rw [List.mem_singleton.mp hc]
    rintro rfl
    exact s.fresh1 hn hb
  · replace e' : (m.m ++ [a])[n]? = Option.some b := e'
    by_cases hlt : n < m.m.length
    · rw [List.getElem?_append_left hlt] at e'
      rw [List.getElem?_append_left (by rw [← s.len]; exact hlt)] at e
      refine (s.obj n x b e e').grow g x ?_
      rw [upd_ne]
      rintro rfl
      exact s.fresh1 hn (List.mem_of_getElem? e')
    · have hn' : n = m.m.length := by
        have := (List.getElem?_eq_some_iff.mp e').1
        simp at this
        omega
      subst hn'
      rw [List.getElem?_append_right (Nat.le_refl _)] at e'
      rw [List.getElem?_append_right (by rw [s.len]; exact Nat.le_refl _)] at e
      simp [s.len] at e e'
      subst e e'
      exact r
  · obtain ⟨⟨o, e⟩, n⟩ := s.res b hb
    have hba : b ≠ a := ne_of_none e hn
    exact ⟨⟨o, by rw [upd_ne hba]; exact e⟩, fun z => (List.mem_append.mp z).elim n fun z => hba (List.mem_singleton.mp z)⟩
theorem StoRel.newloc {xs : List V} (s : StoRel H m S) (hn : H a = none) (r : RepL H m ds xs) : StoRel (L2.upd H a (.lst xs)) (m.add a) (S ++ [.lst ds]) :=
  s.newO hn ⟨xs, upd_same, RepL.grow (Grow.newloc hn) ds xs r⟩
theorem get_inj {l : List Addr} (hN : l.Nodup) {i j : Nat} {x : Addr} (a : l[i]? = some x) (b : l[j]? = some x) : i = j := by
  obtain ⟨h1, e1⟩ := List.getElem?_eq_some_iff.mp a
  obtain ⟨h2, e2⟩ := List.getElem?_eq_some_iff.mp b
  exact (List.getElem_inj hN).mp (e1.trans e2.symm)
/-- a list of the store written -/
theorem Grow.write {o : HO} (h : a ∈ m.m) : Grow H m (L2.upd H a o) m :=
  ⟨⟨[], by simp⟩, fun _ h => h, fun b u e nb => by
    rw [upd_ne]
    · exact e
    · rintro rfl
      exact nb h, fun _ h h' => absurd h h', fun _ h h' => absurd h h'⟩
theorem StoRel.writeO {u : HO} {x0 : O} {n : Nat} (s : StoRel H m S) (hn : m.m[n]? = Option.some a) (r : ORep (L2.upd H a u) m a x0) : StoRel (L2.upd H a u) m (S.set n x0) := by
  have hm : a ∈ m.m := List.mem_of_getElem? hn
  have g : Grow H m (L2.upd H a u) m := Grow.write hm
  refine ⟨by rw [List.length_set, s.len], s.nd, fun k x b e e' => ?_, fun b hb => ?_⟩
  · by_cases hk : n = k
    · subst hk
      rw [hn] at e'
      cases e'
      rw [List.getElem?_set_self (by rw [← s.len]; exact (List.getElem?_eq_some_iff.mp hn).1)] at e
      cases e
      exact r
    · rw [List.getElem?_set_ne hk] at e
      refine (s.obj k x b e e').grow g x ?_
      rw [upd_ne]
      rintro rfl
      exact hk (get_inj s.nd hn e')
  · obtain ⟨⟨o, e⟩, nb⟩ := s.res b hb
    exact ⟨⟨o, g.keep _ _ e nb⟩, nb⟩
theorem StoRel.write {xs : List V} {n : Nat} (s : StoRel H m S) (hn : m.m[n]? = Option.some a) (r : RepL H m ds xs) : StoRel (L2.upd H a (.lst xs)) m (S.set n (.lst ds)) :=
  s.writeO hn ⟨xs, upd_same, RepL.grow (Grow.write (List.mem_of_getElem? hn)) ds xs r⟩

/-! ### an address in use by what runs (a comprehension's list): nothing points at it -/
/-- the heap without it -/
def del (H : Hp) (a : Addr) : Hp := fun b => if b = a then none else H b
theorem del_ne {b : Addr} (h : b ≠ a) : del H a b = H b := by unfold del; rw [if_neg h]
theorem del_same : del H a a = none := by unfold del; rw [if_pos rfl]
theorem upd_del : upd (del H a) a o = upd H a o := by
  funext b
  unfold L2.upd del
  split <;> rfl
theorem upd_eq (h : H a = Option.some o) : upd H a o = H := by
  funext b
  unfold L2.upd
  split
  · rename_i e
    rw [e, h]
  · rfl
theorem del_of (h : H a = none) : del H a = H := by
  funext b
  unfold del
  split
  · rename_i e
    rw [e, h]
  · rfl
theorem del_upd : del (upd H a o) a = del H a := by
  funext b
  unfold del
  split
  · rfl
  · rename_i h
    exact upd_ne h
theorem Wd.out_ne {b : Addr} (ha : a ∈ m.x) (h : m.out b) : b ≠ a := fun z => h.2 (by rw [z]; exact ha)
/-! two heaps that are one but at a reserved address -/
mutual
theorem Rep.exch (ha : a ∈ m.x) (q : ∀ b, b ≠ a → H' b = H b) : ∀ (d : D) (v : V), Rep H m d v → Rep H' m d v
  | .non, _, h => h
  | .bl _, _, h => h
  | .int _, _, h => h
  | .str _, _, h => h
  | .tup ds, v, h => by
    obtain ⟨b, xs, e, ⟨o, h1, h2⟩, n, r⟩ := h
    exact ⟨b, xs, e, ⟨o, (q b (Wd.out_ne ha n)).trans h1, h2⟩, n, RepL.exch ha q ds xs r⟩
  | .lst ds, v, h => by
    obtain ⟨b, xs, e, h1, n, r⟩ := h
    exact ⟨b, xs, e, (q b (Wd.out_ne ha n)).trans h1, n, RepL.exch ha q ds xs r⟩
  | .rol ds, v, h => by
    obtain ⟨b, xs, e, h1, n, r⟩ := h
    refine ⟨b, xs, e, ?_, n, RepL.exch ha q ds xs r⟩
    rcases h1 with h1 | ⟨o, h1⟩
    · exact .inl ((q b (Wd.out_ne ha n)).trans h1)
    · exact .inr ⟨o, (q b (Wd.out_ne ha n)).trans h1⟩
  | .loc k, v, h => h
  | .dct ds es, v, h => by
    obtain ⟨b, ks, xs, ys, e, d, n, k, q1, r⟩ := h
    exact ⟨b, ks, xs, ys, e, d.of (q b (Wd.out_ne ha n)), n, k, RepL.exch ha q ds xs q1, RepL.exch ha q es ys r⟩
theorem RepL.exch (ha : a ∈ m.x) (q : ∀ b, b ≠ a → H' b = H b) : ∀ (ds : List D) (vs : List V), RepL H m ds vs → RepL H' m ds vs
  | [], _, h => h
  | d :: ds, vs, h => by
    obtain ⟨x, xs, e, h1, h2⟩ := h
    exact ⟨x, xs, e, Rep.exch ha q d x h1, RepL.exch ha q ds xs h2⟩
end
mutual
theorem Rep.leave (hm : m'.m = m.m) (hx : ∀ b, b ∈ m'.x → b ∈ m.x) : ∀ (d : D) (v : V), Rep H m d v → Rep H m' d v
  | .non, _, h => h
  | .bl _, _, h => h
  | .int _, _, h => h
  | .str _, _, h => h
  | .tup ds, v, h => by
    obtain ⟨b, xs, e, h1, n, r⟩ := h
    exact ⟨b, xs, e, h1, ⟨by rw [hm]; exact n.1, fun z => n.2 (hx b z)⟩, RepL.leave hm hx ds xs r⟩
  | .lst ds, v, h => by
    obtain ⟨b, xs, e, h1, n, r⟩ := h
    exact ⟨b, xs, e, h1, ⟨by rw [hm]; exact n.1, fun z => n.2 (hx b z)⟩, RepL.leave hm hx ds xs r⟩
  | .rol ds, v, h => by
    obtain ⟨b, xs, e, h1, n, r⟩ := h
    exact ⟨b, xs, e, h1, ⟨by rw [hm]; exact n.1, fun z => n.2 (hx b z)⟩, RepL.leave hm hx ds xs r⟩
  | .loc k, v, h => by
    obtain ⟨b, e, q⟩ := h
    exact ⟨b, e, by rw [hm]; exact q⟩
  | .dct ds es, v, h => by
    obtain ⟨b, ks, xs, ys, e, d, n, k, q, r⟩ := h
    exact ⟨b, ks, xs, ys, e, d, ⟨by rw [hm]; exact n.1, fun z => n.2 (hx b z)⟩, k, RepL.leave hm hx ds xs q, RepL.leave hm hx es ys r⟩
theorem RepL.leave (hm : m'.m = m.m) (hx : ∀ b, b ∈ m'.x → b ∈ m.x) : ∀ (ds : List D) (vs : List V), RepL H m ds vs → RepL H m' ds vs
  | [], _, h => h
  | d :: ds, vs, h => by
    obtain ⟨x, xs, e, h1, h2⟩ := h
    exact ⟨x, xs, e, Rep.leave hm hx d x h1, RepL.leave hm hx ds xs h2⟩
end
theorem ORep.exch {b : Addr} {x : O} (ha : a ∈ m.x) (q : ∀ b, b ≠ a → H' b = H b) (hb : b ≠ a) (h : ORep H m b x) : ORep H' m b x := by
  cases x with
  | lst ds =>
    obtain ⟨xs, h1, r⟩ := h
    exact ⟨xs, (q b hb).trans h1, RepL.exch ha q ds xs r⟩
  | dic ds es =>
    obtain ⟨ks, xs, ys, d, e, r1, r2⟩ := h
    exact ⟨ks, xs, ys, d.of (q b hb), e, RepL.exch ha q ds xs r1, RepL.exch ha q es ys r2⟩
theorem ORep.leave {b : Addr} {x : O} (hm : m'.m = m.m) (hx : ∀ b, b ∈ m'.x → b ∈ m.x) (h : ORep H m b x) : ORep H m' b x := by
  cases x with
  | lst ds =>
    obtain ⟨xs, h1, r⟩ := h
    exact ⟨xs, h1, RepL.leave hm hx ds xs r⟩
  | dic ds es =>
    obtain ⟨ks, xs, ys, d, e, r1, r2⟩ := h
    exact ⟨ks, xs, ys, d, e, RepL.leave hm hx ds xs r1, RepL.leave hm hx es ys r2⟩
theorem ORep.clo {b : Addr} {x : O} (h : ORep H m b x) : cloO m.m.length x = true := by
  cases x with
  | lst ds =>
    obtain ⟨xs, h1, r⟩ := h
    exact RepL.clo ds xs r
  | dic ds es =>
    obtain ⟨ks, xs, ys, d, e, r1, r2⟩ := h
    exact Bool.and_eq_true_iff.mpr ⟨RepL.clo ds xs r1, RepL.clo es ys r2⟩
theorem ORep.shrink {b : Addr} {x : O} (l : Wd.Le m m') (c : cloO m.m.length x = true) (h : ORep H m' b x) : ORep H m b x := by
  cases x with
  | lst ds =>
    obtain ⟨xs, h1, r⟩ := h
    exact ⟨xs, h1, RepL.shrink l ds xs c r⟩
  | dic ds es =>
    obtain ⟨ks, xs, ys, d, e, r1, r2⟩ := h
    obtain ⟨c1, c2⟩ := Bool.and_eq_true_iff.mp (show (cloL m.m.length ds && cloL m.m.length es) = true from c)
    exact ⟨ks, xs, ys, d, e, RepL.shrink l ds xs c1 r1, RepL.shrink l es ys c2 r2⟩
/-- in: a new object at a is laid, reserved -/
theorem Grow.enter (hn : H a = none) : Grow H m (L2.upd H a o) (m.res a) :=
  ⟨⟨[], by simp⟩, fun _ h => List.mem_cons_of_mem _ h, fun b u e _ => by rw [upd_ne (ne_of_none e hn)]; exact e, fun _ h h' => absurd h h', fun b h h' _ => by
    rcases List.mem_cons.mp h with e | h
    · rw [e]
      exact hn
    · exact absurd h h'⟩
theorem StoRel.enter (s : StoRel H m S) (hn : H a = none) : StoRel (L2.upd H a o) (m.res a) S := by
  refine ⟨s.len, s.nd, fun n x b e e' => ?_, fun b hb => ?_⟩
  · have hb : b ≠ a := fun z => s.fresh1 hn (by rw [← z]; exact List.mem_of_getElem? e')
    exact (s.obj n x b e e').grow (Grow.enter hn) x (upd_ne hb)
  · rcases List.mem_cons.mp hb with rfl | hb
    · exact ⟨⟨o, upd_same⟩, s.fresh1 hn⟩
    · obtain ⟨⟨u, e⟩, nb⟩ := s.res b hb
      exact ⟨⟨u, by rw [upd_ne (ne_of_none e hn)]; exact e⟩, nb⟩
/-- the reserved one is written -/
theorem StoRel.rewrite (s : StoRel H m S) (ha : a ∈ m.x) : StoRel (L2.upd H a o) m S := by
  have q : ∀ b, b ≠ a → L2.upd H a o b = H b := fun b hb => upd_ne hb
  have na : a ∉ m.m := (s.res a ha).2
  refine ⟨s.len, s.nd, fun n x b e e' => ?_, fun b hb => ?_⟩
  · have hb : b ≠ a := fun z => na (by rw [← z]; exact List.mem_of_getElem? e')
    exact (s.obj n _ b e e').exch ha q hb
  · obtain ⟨⟨u, e⟩, nb⟩ := s.res b hb
    by_cases hba : b = a
    · subst hba
      exact ⟨⟨o, upd_same⟩, nb⟩
    · exact ⟨⟨u, by rw [upd_ne hba]; exact e⟩, nb⟩
theorem EnvRel.rewrite (e : EnvRel H m env σ) (ha : a ∈ m.x) : EnvRel (L2.upd H a o) m env σ :=
  ⟨e.len, fun i d h => let ⟨v, h1, h2⟩ := e.val i d h; ⟨v, h1, Rep.exch ha (fun b hb => upd_ne hb) d v h2⟩⟩
/-- out: the heap without it, with what was reserved ahead -/
theorem StoRel.leave {x : List Addr} (s : StoRel H m S) (ha : a ∈ m.x) (hx : ∀ b, b ∈ x → b ∈ m.x) (hax : a ∉ x) : StoRel (del H a) ⟨m.m, x⟩ S := by
  have q : ∀ b, b ≠ a → del H a b = H b := fun b hb => del_ne hb
  have na : a ∉ m.m := (s.res a ha).2
  refine ⟨s.len, s.nd, fun n o b e e' => ?_, fun b hb => ?_⟩
  · have e' : m.m[n]? = Option.some b := e'
    have hb : b ≠ a := fun z => na (by rw [← z]; exact List.mem_of_getElem? e')
    exact ORep.leave (m := m) (m' := ⟨m.m, x⟩) rfl hx ((s.obj n _ b e e').exch ha q hb)
  · obtain ⟨⟨u, e⟩, nb⟩ := s.res b (hx b hb)
    have hba : b ≠ a := fun z => hax (by rw [← z]; exact hb)
    exact ⟨⟨u, by rw [del_ne hba]; exact e⟩, nb⟩
theorem RepL.out {x : List Addr} (ha : a ∈ m.x) (hx : ∀ b, b ∈ x → b ∈ m.x) (r : RepL H m ds vs) : RepL (del H a) ⟨m.m, x⟩ ds vs := RepL.leave (m := m) (m' := ⟨m.m, x⟩) rfl hx ds vs (RepL.exch ha (fun b hb => del_ne hb) ds vs r)
/-- a turn in the reserved world, seen from without -/
theorem Grow.within (g : Grow H m H' m') (h0 : H1 a = none) (g0 : Grow H1 m1 (del H a) ⟨m.m, m1.x⟩) (ha : a ∈ m.x) (hm : a ∉ m.m) : Grow H1 m1 (del H' a) ⟨m'.m, m1.x⟩ := by
  refine ⟨?_, fun _ h => h, fun b o e n => ?_, fun b q n => ?_, fun _ h h' => absurd h h'⟩
  · obtain ⟨t, e⟩ := g0.pre
    obtain ⟨u, e'⟩ := g.pre
    exact ⟨t ++ u, by
      show m'.m = m1.m ++ (t ++ u)
      have e : m.m = m1.m ++ t := e
      rw [e', e, List.append_assoc]⟩
  · have hb : b ≠ a := ne_of_none e h0
    have e1 := g0.keep b o e n
    rw [del_ne hb] at e1 ⊢
    have hbm : b ∉ m.m := fun z => by
      have := g0.new b z n
      rw [e] at this
      cases this
    exact g.keep b o e1 hbm
  · by_cases hba : b = a
    · rw [hba]
      exact h0
    · by_cases z : b ∈ m.m
      · exact g0.new b z n
      · have e := g.new b q z
        cases r : H1 b with
        | none => rfl
        | some o =>
          have := g0.keep b o r n
          rw [del_ne hba, e] at this
          cases this
end
end PU

namespace PU
open PySem PySem.Spec PyProof.Rows L2

abbrev Ex := En → Sto → Option (D × Sto)
abbrev ExL := En → Sto → Option (List D × Sto)
abbrev ExB := En → Sto → Option (Bool × Sto)
abbrev ExT := D → En → Sto → Option (En × Sto)
inductive Fl where
  | nx (e : En) | bk (e : En) | ct (e : En) | rt (d : D)
abbrev ExS := En → Sto → Option (Fl × Sto)
def bnd {α β : Type} (x : Option (α × Sto)) (f : α → Sto → Option β) : Option β := match x with
  | some (a, S) => f a S
  | none => none
theorem bnd_some {α β : Type} {a : α} {S : Sto} {f : α → Sto → Option β} : bnd (some (a, S)) f = f a S := rfl
theorem bnd_none {α β : Type} {f : α → Sto → Option β} : bnd none f = none := rfl
theorem bnd_inv {α β : Type} {x : Option (α × Sto)} {f : α → Sto → Option β} {b : β} (h : bnd x f = some b) : ∃ a S, x = some (a, S) ∧ f a S = some b := by
  cases x with
  | none => cases h
  | some p => exact ⟨p.1, p.2, rfl, h⟩

/-! ### readings -/
def tE (f : Ex) : TE := fun σ H Q => ∃ env m S d S', EnvRel H m env σ ∧ StoRel H m S ∧ f env S = some (d, S') ∧
  ∀ v H' m', Grow H m H' m' → StoRel H' m' S' → Rep H' m' d v → Q v H'
/-- a new list at a new place -/
def tF (f : ExL) : TE := fun σ H Q => ∃ env m S ds S', EnvRel H m env σ ∧ StoRel H m S ∧ f env S = some (ds, S') ∧
  ∀ p xs H' m', Grow H m H' m' → StoRel H' m' S' → RepL H' m' ds xs → H' p = none → Q (.ref p) (upd H' p (.lst xs))
def tA (f : ExL) : TA := fun σ H Q => ∃ env m S ds S', EnvRel H m env σ ∧ StoRel H m S ∧ f env S = some (ds, S') ∧
  ∀ vs H' m', Grow H m H' m' → StoRel H' m' S' → RepL H' m' ds vs → Q vs H'
def tT (f : ExB) : TT := fun σ H Q => ∃ env m S b S', EnvRel H m env σ ∧ StoRel H m S ∧ f env S = some (b, S') ∧
  ∀ H' m', Grow H m H' m' → StoRel H' m' S' → Q b H'
def tG (f : ExT) : TG := fun v σ H Q => ∃ env m S d env' S', EnvRel H m env σ ∧ StoRel H m S ∧ Rep H m d v ∧ f d env S = some (env', S') ∧
  ∀ σ' H' m', Grow H m H' m' → StoRel H' m' S' → EnvRel H' m' env' σ' → Q σ' H'
def FlR (Dn : Ends) (H : Hp) (m : Wd) : Fl → Prop
  | .nx e => ∀ σ, EnvRel H m e σ → Dn.nx σ H
  | .bk e => ∀ σ, EnvRel H m e σ → Dn.bk σ H
  | .ct e => ∀ σ, EnvRel H m e σ → Dn.ct σ H
  | .rt d => ∀ v, Rep H m d v → Dn.rt v H
def tS (f : ExS) : TS := fun Dn σ H => ∃ env m S r S', EnvRel H m env σ ∧ StoRel H m S ∧ f env S = some (r, S') ∧
  ∀ H' m', Grow H m H' m' → StoRel H' m' S' → FlR Dn H' m' r
/-- a part of a slice -/
def tO (f : En → Sto → Option (Option Int × Sto)) : TO := fun σ H Q => ∃ env m S b S', EnvRel H m env σ ∧ StoRel H m S ∧ f env S = some (b, S') ∧
  ∀ H' m', Grow H m H' m' → StoRel H' m' S' → Q b H'

/-! ### consequence -/
section
variable {X : Cx}
theorem peI {e : Expr} {t t' : TE} (h : PE X e t) (i : ∀ σ H Q, t' σ H Q → t σ H Q) : PE X e t' := ⟨fun pins s σ H Q I q => h.run pins s σ H Q I (i σ H Q q)⟩
theorem ptI {e : Expr} {t t' : TT} (h : PT X e t) (i : ∀ σ H Q, t' σ H Q → t σ H Q) : PT X e t' := ⟨fun pins s σ H Q I q => h.run pins s σ H Q I (i σ H Q q)⟩
theorem pwI {e : Expr} {t t' : TT} (h : PW X e t) (i : ∀ σ H Q, t' σ H Q → t σ H Q) : PW X e t' := ⟨fun wh pins s σ H Q I q => h.run wh pins s σ H Q I (i σ H Q q)⟩
theorem paI {e : List Expr} {t t' : TA} (h : PA X e t) (i : ∀ σ H Q, t' σ H Q → t σ H Q) : PA X e t' := ⟨fun pos pins s σ H Q I q => h.run pos pins s σ H Q I (i σ H Q q)⟩
theorem psI {e : Stmt} {t t' : TS} (h : PS X e t) (i : ∀ Dn σ H, t' Dn σ H → t Dn σ H) : PS X e t' := ⟨fun pins s σ H Dn I q => h.run pins s σ H Dn I (i Dn σ H q)⟩
theorem pssI {e : List Stmt} {t t' : TS} (h : PSs X e t) (i : ∀ Dn σ H, t' Dn σ H → t Dn σ H) : PSs X e t' := ⟨fun pins s σ H Dn I q => h.run pins s σ H Dn I (i Dn σ H q)⟩
theorem pgI {e : Expr} {t t' : TG} (h : PG X e t) (i : ∀ v σ H Q, t' v σ H Q → t v σ H Q) : PG X e t' := ⟨fun pins s σ H v u Q I r q => h.run pins s σ H v u Q I r (i v σ H Q q)⟩
theorem poI {e : Option Expr} {t t' : TO} (h : PO X e t) (i : ∀ σ H Q, t' σ H Q → t σ H Q) : PO X e t' := ⟨fun pins s σ H Q I q => h.run pins s σ H Q I (i σ H Q q)⟩

/-! ### names, constants -/
def eVar (i : Nat) : Ex := fun env S => match env[i]? with
  | some (some d) => some (d, S)
  | _ => none
def eC (d : D) : Ex := fun _ S => some (d, S)
theorem ee_var {e : Expr} {i : Nat} (h : PE X e (tVar i)) : PE X e (tE (eVar i)) := peI h fun σ H Q ⟨env, m, S, d, S', er, sr, e, q⟩ => by
  unfold eVar at e
  split at e
  · rename_i d' he
    cases e
    obtain ⟨v, hv, r⟩ := er.val i _ he
    exact ⟨v, hv, q v H m Grow.refl sr r⟩
  · cases e
theorem ee_c {e : Expr} {v : V} {d : D} (h : PE X e (tC v)) (hd : ∀ H m, Rep H m d v := by intros; rfl) : PE X e (tE (eC d)) := peI h fun σ H Q ⟨env, m, S, d', S', er, sr, e, q⟩ => by
  cases e
  exact q v H m Grow.refl sr (hd H m)

/-! ### operators by values -/
/-- what is asked of an operator's function on data -/
def Op1S (r : V → Hp → VK → Prop) (F : D → Sto → Option (D × Sto)) : Prop := ∀ H m S dx x d S' Q, StoRel H m S → Rep H m dx x → F dx S = some (d, S') →
  (∀ v H' m', Grow H m H' m' → StoRel H' m' S' → Rep H' m' d v → Q v H') → r x H Q
def Op2S (r : R2) (F : D → D → Sto → Option (D × Sto)) : Prop := ∀ H m S dx dy x y d S' Q, StoRel H m S → Rep H m dx x → Rep H m dy y → F dx dy S = some (d, S') →
  (∀ v H' m', Grow H m H' m' → StoRel H' m' S' → Rep H' m' d v → Q v H') → r x y H Q
def OpLS (r : List V → Hp → VK → Prop) (F : List D → Sto → Option (D × Sto)) : Prop := ∀ H m S dx x d S' Q, StoRel H m S → RepL H m dx x → F dx S = some (d, S') →
  (∀ v H' m', Grow H m H' m' → StoRel H' m' S' → Rep H' m' d v → Q v H') → r x H Q
theorem Op2S.or {r r' : R2} {F F' : D → D → Sto → Option (D × Sto)} (h : Op2S r F) (h' : Op2S r' F') : Op2S (fun x y H Q => r x y H Q ∨ r' x y H Q) (fun x y S => match F x y S with
    | some z => some z
    | none => F' x y S) := fun H m S dx dy x y d S' Q s rx ry e q => by
  cases h1 : F dx dy S with
  | some z =>
    simp only [h1] at e
    exact .inl (h H m S dx dy x y d S' Q s rx ry (h1.trans e) q)
  | none =>
    simp only [h1] at e
    exact .inr (h' H m S dx dy x y d S' Q s rx ry e q)
def eOp1 (F : D → Sto → Option (D × Sto)) (f : Ex) : Ex := fun env S => bnd (f env S) F
def eOp2 (F : D → D → Sto → Option (D × Sto)) (f g : Ex) : Ex := fun env S => bnd (f env S) fun x S1 => bnd (g env S1) fun y S2 => F x y S2
def eOpL (F : List D → Sto → Option (D × Sto)) (f : ExL) : Ex := fun env S => bnd (f env S) F
theorem op1_tE {r : V → Hp → VK → Prop} {F : D → Sto → Option (D × Sto)} {f : Ex} (hs : Op1S r F) (σ : L2.St) (H : Hp) (Q : VK) (h : tE (eOp1 F f) σ H Q) : tUn r (tE f) σ H Q := by
  obtain ⟨env, m, S, d, S', er, sr, e, q⟩ := h
  obtain ⟨dx, S1, e1, e2⟩ := bnd_inv e
  exact ⟨env, m, S, dx, S1, er, sr, e1, fun x H1 m1 g1 s1 r1 => hs H1 m1 S1 dx x d S' Q s1 r1 e2 fun v H' m' g s' r' => q v H' m' (g1.trans g) s' r'⟩
theorem op2_tE {r : R2} {F : D → D → Sto → Option (D × Sto)} {f g : Ex} (hs : Op2S r F) (σ : L2.St) (H : Hp) (Q : VK) (h : tE (eOp2 F f g) σ H Q) : tOp r (tE f) (tE g) σ H Q := by
  obtain ⟨env, m, S, d, S', er, sr, e, q⟩ := h
  obtain ⟨dx, S1, e1, e2⟩ := bnd_inv e
  obtain ⟨dy, S2, e2, e3⟩ := bnd_inv e2
  refine ⟨env, m, S, dx, S1, er, sr, e1, fun x H1 m1 g1 s1 r1 => ?_⟩
  refine ⟨env, m1, S1, dy, S2, er.grow g1, s1, e2, fun y H2 m2 g2 s2 r2 => ?_⟩
  exact hs H2 m2 S2 dx dy x y d S' Q s2 (Rep.grow g2 _ _ r1) r2 e3 fun v H' m' g s' r' => q v H' m' (g1.trans (g2.trans g)) s' r'
theorem ee_op {a b : Expr} {op : Operator} {pos : Pos} {r : R2} {F : D → D → Sto → Option (D × Sto)} {f g : Ex} (ho : OpR X (binaryOp op) r) (hs : Op2S r F) (ha : PE X a (tE f)) (hb : PE X b (tE g)) :
    PE X (.BinOp a op b pos) (tE (eOp2 F f g)) := peI (pe_op ho ha hb) (op2_tE hs)
theorem ee_cmp {a b : Expr} {op : CmpOp} {pos : Pos} {r : R2} {F : D → D → Sto → Option (D × Sto)} {f g : Ex} (ho : OpR X (compareOp op) r) (hs : Op2S r F) (ha : PE X a (tE f)) (hb : PE X b (tE g)) (hm : behindInMarks op b = false) :
    PE X (.Compare a [op] [b] pos) (tE (eOp2 F f g)) := peI (pe_cmpR ho ha hb hm) (op2_tE hs)
theorem ee_un {a : Expr} {op : UnaryOp} {pos : Pos} {r : V → Hp → VK → Prop} {F : D → Sto → Option (D × Sto)} {f : Ex} (ho : UnR X (unaryOp op) r) (hs : Op1S r F) (ha : PE X a (tE f)) :
    PE X (.UnaryOp op a pos) (tE (eOp1 F f)) := peI (pe_un ho ha) (op1_tE hs)
theorem ee_ix {a b : Expr} {pos : Pos} {r : R2} {F : D → D → Sto → Option (D × Sto)} {f g : Ex} (ho : IxR X r) (hs : Op2S r F) (ha : PE X a (tE f)) (hb : PE X b (tE g)) (hp : PlainIx b) :
    PE X (.Subscript a b pos) (tE (eOp2 F f g)) := peI (pe_ix ho ha hb hp) (op2_tE hs)

/-! ### argument lists, displays, calls -/
def aNil : ExL := fun _ S => some ([], S)
def aCons (f : Ex) (g : ExL) : ExL := fun env S => bnd (f env S) fun d S1 => bnd (g env S1) fun ds S2 => some (d :: ds, S2)
theorem aa_nil : PA X [] (tA aNil) := paI pa_nil fun σ H Q ⟨env, m, S, ds, S', er, sr, e, q⟩ => by
  cases e
  exact q [] H m Grow.refl sr rfl
theorem aa_cons {e : Expr} {es : List Expr} {f : Ex} {g : ExL} (ha : PE X e (tE f)) (hr : PA X es (tA g)) (hs : starEach (e :: es) X.env = (false, eval e X.env) :: starEach es X.env := by rfl) : PA X (e :: es) (tA (aCons f g)) :=
  paI (pa_cons ha hr hs) fun σ H Q ⟨env, m, S, ds, S', er, sr, e, q⟩ => by
    obtain ⟨d, S1, e1, e⟩ := bnd_inv e
    obtain ⟨ds', S2, e2, e⟩ := bnd_inv e
    cases e
    refine ⟨env, m, S, d, S1, er, sr, e1, fun x H1 m1 g1 s1 r1 => ?_⟩
    exact ⟨env, m1, S1, ds', _, er.grow g1, s1, e2, fun vs H' m' g s' r' => q (x :: vs) H' m' (g1.trans g) s' ⟨x, vs, rfl, Rep.grow g _ _ r1, r'⟩⟩
/-- a new tuple laid -/
theorem laidT {pins : List (Addr × Obj)} {σ : L2.St} {H : Hp} {s : Shared} {h' : Heap} {xs : List V} {us : List Value} {t' : Nat} {a : Addr} (I : Inv X pins σ H s) (k : ∀ b u, s.heap.get? b = some u → h'.get? b = some u) (hp : s.heap.objs.size ≤ a)
    (e : h'.get? a = some { cls := .type "tuple", data := .seq us.toArray }) (r : Vals xs us) (z : xs.length ≤ sizeLine) :
    Inv X pins σ (upd H a (.frz { cls := .type "tuple", data := .seq us.toArray } (.tup xs))) { s with heap := h', toks := t' } :=
  I.laid k hp ⟨e, z, us, r, ⟨_, e, rfl, _, rfl⟩⟩
/-- what comes of a new tuple -/
def NewT (H : Hp) (xs : List V) (Q : VK) : Prop := ∀ (p : Addr) (o : Obj), H p = none → o.dict = none → Q (.ref p) (upd H p (.frz o (.tup xs)))
theorem newT_of {H : Hp} {m : Wd} {S : Sto} {ds : List D} {xs : List V} {Q : VK} (s : StoRel H m S) (r : RepL H m ds xs) (q : ∀ v H' m', Grow H m H' m' → StoRel H' m' S → Rep H' m' (.tup ds) v → Q v H') : NewT H xs Q := fun p o hp ho => by
  have g2 := Grow.upd (m := m) (o := .frz o (.tup xs)) hp
  exact q _ _ _ g2 (s.upd hp) ⟨p, xs, rfl, ⟨o, upd_same, ho⟩, s.fresh hp, RepL.grow g2 _ _ r⟩
def tTupN (t : TA) : TE := fun σ H Q => t σ H fun xs H1 => xs.length ≤ sizeLine ∧ NewT H1 xs Q
theorem pe_tupN {es : List Expr} {x1} {pos : Pos} {t : TA} (h : PA X es t) : PE X (.Tuple es x1 pos) (tTupN t) := by
  refine ⟨fun pins s σ H Q I hq => ?_⟩
  refine wpAny_Tuple_spliced (thn (h.run pos pins s σ H _ I hq) fun us s1 ⟨xs, H1, I1, r, z, q⟩ => ⟨by rw [← r.length]; exact z, ?_⟩)
  have hf : H1 s1.heap.objs.size = none := I1.hok.fresh (Nat.le_refl _)
  exact ⟨.ref s1.heap.objs.size, _, laidT (t' := s1.toks) I1 (fun b u e => Heap.get?_push_of_some _ e) (Nat.le_refl _) (Heap.get?_push_size _ rfl) r z, rfl, q _ _ hf rfl⟩
/-- a tuple written -/
def eTup (f : ExL) : Ex := fun env S => bnd (f env S) fun ds S1 => if ds.length ≤ sizeLine then some (.tup ds, S1) else none
theorem ee_tup {es : List Expr} {x1} {pos : Pos} {f : ExL} (h : PA X es (tA f)) : PE X (.Tuple es x1 pos) (tE (eTup f)) := peI (pe_tupN h) fun σ H Q ⟨env, m, S, d, S', er, sr, e, q⟩ => by
  obtain ⟨ds, S1, e1, e⟩ := bnd_inv e
  refine ⟨env, m, S, ds, S1, er, sr, e1, fun vs H1 m1 g1 s1 r1 => ?_⟩
  by_cases hz : ds.length ≤ sizeLine
  · rw [if_pos hz] at e
    cases e
    exact ⟨by rw [r1.len]; exact hz, newT_of s1 r1 fun v H' m' g s' r' => q v H' m' (g1.trans g) s' r'⟩
  · rw [if_neg hz] at e
    cases e
def fLst (f : ExL) : ExL := fun env S => bnd (f env S) fun ds S1 => if ds.length ≤ sizeLine then some (ds, S1) else none
theorem ff_lst {es : List Expr} {pos : Pos} {f : ExL} (h : PA X es (tA f)) : PE X (.List es pos) (tF (fLst f)) := peI (pe_lst h) fun σ H Q ⟨env, m, S, d, S', er, sr, e, q⟩ => by
  obtain ⟨ds, S1, e1, e⟩ := bnd_inv e
  refine ⟨env, m, S, ds, S1, er, sr, e1, fun vs H1 m1 g1 s1 r1 => ?_⟩
  by_cases hz : ds.length ≤ sizeLine
  · rw [if_pos hz] at e
    cases e
    exact ⟨by rw [r1.len]; exact hz, fun p hp => q _ _ _ _ g1 s1 r1 hp⟩
  · rw [if_neg hz] at e
    cases e
/-- a new list, never to be changed -/
def eFz (f : ExL) : Ex := fun env S => bnd (f env S) fun ds S1 => some (.lst ds, S1)
theorem ee_fz {e : Expr} {f : ExL} (h : PE X e (tF f)) : PE X e (tE (eFz f)) := peI h fun σ H Q ⟨env, m, S, d, S', er, sr, e, q⟩ => by
  obtain ⟨ds, S1, e1, e⟩ := bnd_inv e
  cases e
  refine ⟨env, m, S, ds, _, er, sr, e1, fun p xs H1 m1 g1 s1 r1 hp => ?_⟩
  have g2 := Grow.upd (m := m1) (o := .lst xs) hp
  exact q _ _ _ (g1.trans g2) (s1.upd hp) ⟨p, xs, rfl, upd_same, s1.fresh hp, RepL.grow g2 _ _ r1⟩
/-- a new list with a place in the store -/
def eNew (f : ExL) : Ex := fun env S => bnd (f env S) fun ds S1 => some (.loc S1.length, S1 ++ [.lst ds])
theorem ee_new {e : Expr} {f : ExL} (h : PE X e (tF f)) : PE X e (tE (eNew f)) := peI h fun σ H Q ⟨env, m, S, d, S', er, sr, e, q⟩ => by
  obtain ⟨ds, S1, e1, e⟩ := bnd_inv e
  cases e
  refine ⟨env, m, S, ds, _, er, sr, e1, fun p xs H1 m1 g1 s1 r1 hp => ?_⟩
  exact q _ _ _ (g1.trans (Grow.newloc hp)) (s1.newloc hp r1) ⟨p, rfl, by rw [← s1.len]; show (m1.m ++ [p])[m1.m.length]? = some p; simp⟩

/-! ### defs -/
def spF (n : Nat) (f : List D → Sto → Option (D × Sto)) : Sp := fun vs H Q _ => vs.length = n ∧ ∃ ds m S d S', RepL H m ds vs ∧ StoRel H m S ∧ f ds S = some (d, S') ∧
  ∀ v H' m', Grow H m H' m' → StoRel H' m' S' → Rep H' m' d v → Q v H'
def eCall (f : List D → Sto → Option (D × Sto)) (n : Nat) (g : ExL) : Ex := fun env S => bnd (g env S) fun ds S1 => if ds.length = n then f ds S1 else none
theorem ee_call {k n : Nat} {f : Addr} {fd : FuncData} {ps : List Str} {x : Str} {p pos : Pos} {e : Expr} {es : List Expr} {φ : List D → Sto → Option (D × Sto)} {g : ExL}
    (F : FnOk X.prog X.w X.K X.mg X.base CX0 k f fd ps (spF n φ)) (hr : Room k X.A) (hm : X.mg x = some (.ref f)) (hk : PySem.W.keepIn X.K (.ref f) = true) (hb : Binds X.K fd ps [])
    (ha : PA X (e :: es) (tA g)) (hg : Gl X x := by rfl) (hdb : (x == ("__debug__" : Str)) = false := by decide) (he : starEach (e :: es) X.env = (false, eval e X.env) :: starEach es X.env := by rfl) (hpl : (backTo pos (starEach es X.env)).any (·.1) = false := by rfl) :
    PE X (.Call (.Name x p) (e :: es) [] pos) (tE (eCall φ n g)) := peI (pe_call F hr hg hm hk hb .nil pass0 ha hdb he hpl) fun σ H Q ⟨env, m, S, d, S', er, sr, e, q⟩ => by
  obtain ⟨ds, S1, e1, e⟩ := bnd_inv e
  by_cases hn : ds.length = n
  · rw [if_pos hn] at e
    refine ⟨env, m, S, ds, S1, er, sr, e1, fun vs H1 m1 g1 s1 r1 => ?_⟩
    exact ⟨by rw [List.append_nil, r1.len]; exact hn, ds, m1, S1, d, S', by rw [List.append_nil]; exact r1, s1, e, fun v H' m' g s' r' => q v H' m' (g1.trans g) s' r'⟩
  · rw [if_neg hn] at e
    cases e
theorem tA_cb {r : List V → Hp → VK → Prop} {F : List D → Sto → Option (D × Sto)} {g : ExL} (hs : OpLS r F) (σ : L2.St) (H : Hp) (Q : VK) (h : tE (eOpL F g) σ H Q) : tCB r (tA g) σ H Q := by
  obtain ⟨env, m, S, d, S', er, sr, e, q⟩ := h
  obtain ⟨ds, S1, e1, e2⟩ := bnd_inv e
  exact ⟨env, m, S, ds, S1, er, sr, e1, fun x H1 m1 g1 s1 r1 => hs H1 m1 S1 ds x d S' Q s1 r1 e2 fun v H' m' g s' r' => q v H' m' (g1.trans g) s' r'⟩
theorem ee_callB {x : Str} {p pos : Pos} {e : Expr} {es : List Expr} {id : String} {r : List V → Hp → VK → Prop} {F : List D → Sto → Option (D × Sto)} {g : ExL} (hc : CallR X (.builtin id) r) (hs : OpLS r F) (hm : X.mg x = none) (hv : bootBuiltins x = some (.builtin id)) (ha : PA X (e :: es) (tA g))
    (hg : Gl X x := by rfl) (hn : x ≠ "__name__" := by decide) (hdb : (x == ("__debug__" : Str)) = false := by decide)
    (he : starEach (e :: es) X.env = (false, eval e X.env) :: starEach es X.env := by rfl) (hpl : (backTo pos (starEach es X.env)).any (·.1) = false := by rfl) : PE X (.Call (.Name x p) (e :: es) [] pos) (tE (eOpL F g)) :=
  peI (pe_callB hc hg hm hv ha hn hdb he hpl) (tA_cb hs)
theorem ee_callTy {x : Str} {p pos : Pos} {e : Expr} {es : List Expr} {T : String} {r : List V → Hp → VK → Prop} {F : List D → Sto → Option (D × Sto)} {g : ExL} (hc : CallR X (.type T) r) (hs : OpLS r F) (hm : X.mg x = none) (hv : bootBuiltins x = some (.type T)) (ha : PA X (e :: es) (tA g))
    (hg : Gl X x := by rfl) (hn : x ≠ "__name__" := by decide) (hdb : (x == ("__debug__" : Str)) = false := by decide)
    (he : starEach (e :: es) X.env = (false, eval e X.env) :: starEach es X.env := by rfl) (hpl : (backTo pos (starEach es X.env)).any (·.1) = false := by rfl) : PE X (.Call (.Name x p) (e :: es) [] pos) (tE (eOpL F g)) :=
  peI (pe_callTy hc hg hm hv ha hn hdb he hpl) (tA_cb hs)

/-! ### methods of lists and tuples -/
def OpMS (r : V → List V → Hp → VK → Prop) (F : D → List D → Sto → Option (D × Sto)) : Prop := ∀ H m S dx x ds vs d S' Q, StoRel H m S → Rep H m dx x → RepL H m ds vs → F dx ds S = some (d, S') →
  (∀ v H' m', Grow H m H' m' → StoRel H' m' S' → Rep H' m' d v → Q v H') → r x vs H Q
/-- a list that stands in H by itself: its items -/
def itemsOf : D → Sto → Option (List D)
  | .lst ds, _ => some ds
  | .loc n, S => match S[n]? with
    | some (.lst ds) => some ds
    | _ => none
  | _, _ => none
theorem items_rep {H : Hp} {m : Wd} {S : Sto} {d : D} {v : V} {ds : List D} (s : StoRel H m S) (r : Rep H m d v) (e : itemsOf d S = some ds) : ∃ a xs, v = .ref a ∧ H a = some (.lst xs) ∧ RepL H m ds xs := by
  cases d with
  | lst ds' =>
    cases e
    obtain ⟨a, xs, e1, e2, _, e3⟩ := r
    exact ⟨a, xs, e1, e2, e3⟩
  | loc n =>
    have e' : (match S[n]? with
      | some (.lst ds) => some ds
      | _ => none) = some ds := e
    split at e'
    · rename_i ds' hn
      cases e'
      obtain ⟨a, e1, e2⟩ := r
      obtain ⟨xs, e3, e4⟩ := s.obj n _ a hn e2
      exact ⟨a, xs, e1, e3, e4⟩
    · cases e'
  | _ => cases e
/-- any list that is read -/
def readOf : D → Sto → Option (List D)
  | .rol ds, _ => some ds
  | d, S => itemsOf d S
theorem read_rep {H : Hp} {m : Wd} {S : Sto} {d : D} {v : V} {ds : List D} (s : StoRel H m S) (r : Rep H m d v) (e : readOf d S = some ds) : ∃ a xs, v = .ref a ∧ Rd H a (.lst xs) ∧ RepL H m ds xs := by
  cases d with
  | rol ds' =>
    cases e
    obtain ⟨a, xs, e1, e2, _, e3⟩ := r
    exact ⟨a, xs, e1, e2, e3⟩
  | lst ds' =>
    obtain ⟨a, xs, e1, e2, e3⟩ := items_rep s r e
    exact ⟨a, xs, e1, .inl e2, e3⟩
  | loc n =>
    obtain ⟨a, xs, e1, e2, e3⟩ := items_rep s r e
    exact ⟨a, xs, e1, .inl e2, e3⟩
  | _ => cases e
theorem tup_rep {H : Hp} {m : Wd} {ds : List D} {v : V} (r : Rep H m (.tup ds) v) : ∃ a xs, v = .ref a ∧ TupAt H a xs ∧ RepL H m ds xs := let ⟨a, xs, e1, e2, _, e3⟩ := r; ⟨a, xs, e1, e2, e3⟩
theorem sqT_of {K : PySem.W.Frag} {H : Hp} {a : Addr} {xs : List V} (r : TupAt H a xs) : SqT K H a xs := .inl r.rd
theorem sqL_of {K : PySem.W.Frag} {H : Hp} {a : Addr} {xs : List V} (r : Rd H a (.lst xs)) : SqL K H a xs := .inl r
end
end PU

namespace PU
open PySem PySem.Spec PyProof.Rows L2

/-! ### data for == -/
mutual
def toP : D → Option PyData
  | .non => some .none
  | .bl b => some (.bool b)
  | .int i => some (.int i)
  | .str x => some (.str x)
  | .tup ds => (toPL ds).map .tuple
  | .lst ds => (toPL ds).map .list
  | .rol ds => (toPL ds).map .list
  | .loc _ => none
  | .dct _ _ => none
def toPL : List D → Option (List PyData)
  | [] => some []
  | d :: ds => match toP d, toPL ds with
    | some p, some ps => some (p :: ps)
    | _, _ => none
end
mutual
theorem dp_of {K : PySem.W.Frag} {H : Hp} {m : Wd} : ∀ (d : D) (v : V) (p : PyData), Rep H m d v → toP d = some p → Dp K H v p
  | .non, v, p, r, e => by cases e; rw [show v = .non from r]; exact .non
  | .bl b, v, p, r, e => by cases e; rw [show v = .bl b from r]; exact .bl b
  | .int b, v, p, r, e => by cases e; rw [show v = .int b from r]; exact .int b
  | .str b, v, p, r, e => by cases e; rw [show v = .str b from r]; exact .str b
  | .tup ds, v, p, r, e => by
    obtain ⟨a, xs, rfl, h1, _, h2⟩ := r
    obtain ⟨ps, e1, rfl⟩ := Option.map_eq_some_iff.mp (show (toPL ds).map .tuple = some p from e)
    exact .tup (sqT_of h1) (dpL_of ds xs ps h2 e1)
  | .lst ds, v, p, r, e => by
    obtain ⟨a, xs, rfl, h1, _, h2⟩ := r
    obtain ⟨ps, e1, rfl⟩ := Option.map_eq_some_iff.mp (show (toPL ds).map .list = some p from e)
    exact .lst (sqL_of (.inl h1)) (dpL_of ds xs ps h2 e1)
  | .rol ds, v, p, r, e => by
    obtain ⟨a, xs, rfl, h1, _, h2⟩ := r
    obtain ⟨ps, e1, rfl⟩ := Option.map_eq_some_iff.mp (show (toPL ds).map .list = some p from e)
    exact .lst (sqL_of h1) (dpL_of ds xs ps h2 e1)
  | .loc n, v, p, r, e => by cases e
  | .dct _ _, v, p, r, e => by cases e
theorem dpL_of {K : PySem.W.Frag} {H : Hp} {m : Wd} : ∀ (ds : List D) (vs : List V) (ps : List PyData), RepL H m ds vs → toPL ds = some ps → DpAll K H vs ps
  | [], vs, ps, r, e => by
    cases e
    rw [show vs = [] from r]
    exact .nil
  | d :: ds, vs, ps, r, e => by
    obtain ⟨x, xs, rfl, h1, h2⟩ := r
    have e' : (match toP d, toPL ds with
      | some p, some ps => some (p :: ps)
      | _, _ => none) = some ps := e
    split at e'
    · rename_i p ps' e1 e2
      cases e'
      exact .cons (dp_of d x p h1 e1) (dpL_of ds xs ps' h2 e2)
    · cases e'
end
/-- .. a changing list by its items -/
def toPS (d : D) (S : Sto) : Option PyData := match d with
  | .loc n => match S[n]? with
    | some (.lst ds) => (toPL ds).map .list
    | _ => none
  | d => toP d
theorem dpS_of {K : PySem.W.Frag} {H : Hp} {m : Wd} {S : Sto} {d : D} {v : V} {p : PyData} (s : StoRel H m S) (r : Rep H m d v) (e : toPS d S = some p) : Dp K H v p := by
  cases d with
  | loc n =>
    have e' : (match S[n]? with
      | some (.lst ds) => (toPL ds).map PyData.list
      | _ => none) = some p := e
    split at e'
    · rename_i ds hn
      obtain ⟨a, rfl, e2⟩ := r
      obtain ⟨xs, e3, e4⟩ := s.obj n _ a hn e2
      obtain ⟨ps, e1, rfl⟩ := Option.map_eq_some_iff.mp e'
      exact .lst (sqL_of (.inl e3)) (dpL_of ds xs ps e4 e1)
    · cases e'
  | non => exact dp_of _ _ _ r e
  | bl b => exact dp_of _ _ _ r e
  | int b => exact dp_of _ _ _ r e
  | str b => exact dp_of _ _ _ r e
  | tup b => exact dp_of _ _ _ r e
  | lst b => exact dp_of _ _ _ r e
  | rol b => exact dp_of _ _ _ r e
  | dct _ _ => exact dp_of _ _ _ r e
def eqD (x y : D) (S : Sto) : Option Bool := match toPS x S, toPS y S with
  | some p, some q => if SeqAt.shaped p = true ∧ SeqAt.shaped q = true then some (PyData.eqv p q) else none
  | _, _ => none
theorem eqD_inv {x y : D} {S : Sto} {b : Bool} (e : eqD x y S = some b) : ∃ p q, toPS x S = some p ∧ toPS y S = some q ∧ SeqAt.shaped p = true ∧ SeqAt.shaped q = true ∧ PyData.eqv p q = b := by
  unfold eqD at e
  split at e
  · rename_i p q e1 e2
    split at e
    · rename_i h
      cases e
      exact ⟨p, q, e1, e2, h.1, h.2, rfl⟩
    · cases e
  · cases e

/-! ### operators -/
section
variable {H : Hp} {m : Wd} {S : Sto}
def oB (o : Option Bool) (S : Sto) : Option (D × Sto) := match o with
  | some b => some (.bl b, S)
  | none => none
theorem oB_inv {o : Option Bool} {d : D} {S' : Sto} (e : oB o S = some (d, S')) : ∃ b, o = some b ∧ d = .bl b ∧ S' = S := by
  cases o with
  | none => cases e
  | some b => cases e; exact ⟨b, rfl, rfl, rfl⟩
theorem fin {d : D} {S' : Sto} {v : V} {Q : VK} (s : StoRel H m S) (e : some (d, S) = some (d, S')) (r : Rep H m d v) (q : ∀ v H' m', Grow H m H' m' → StoRel H' m' S' → Rep H' m' d v → Q v H') : Q v H := by
  cases e
  exact q v H m Grow.refl s r
/-- +, new tuples known to their objects -/
def rCatN (K : PySem.W.Frag) : R2 := fun x y H Q => ∃ a b xs ys, x = .ref a ∧ y = .ref b ∧ SqT K H a xs ∧ SqT K H b ys ∧ xs.length + ys.length ≤ sizeLine ∧
  (xs = [] → Q (.ref b) H) ∧ (xs ≠ [] → ys = [] → Q (.ref a) H) ∧ (xs ≠ [] → ys ≠ [] → NewT H (xs ++ ys) Q)
theorem op_catN {X : Cx} : OpR X (binaryOp .Add) (rCatN X.K) := by
  intro pins s σ H x y v u Q I rx ry h
  obtain ⟨a, b, xs, ys, rfl, rfl, ha, hb, hz, q0, q1, q2⟩ := h
  cases rx
  cases ry
  obtain ⟨its, r1, p1, _⟩ := I.tuple ha
  obtain ⟨its2, r2, p2, _⟩ := I.tuple hb
  by_cases hx : xs = []
  · subst hx
    cases r1
    exact cat_tup0 p1 p2 ⟨.ref b, H, I, rfl, q0 rfl⟩
  · refine HT.cat_tup p1 p2 (fun z => hx (r1.nil_iff.mp z)) (fun z => ⟨.ref a, H, I, rfl, q1 hx (r2.nil_iff.mp z)⟩) (fun z => ?_) (by rw [← r1.length, ← r2.length]; exact hz)
    exact ⟨.ref s.heap.objs.size, _, laidT (t' := s.toks) I (fun b ob q => Heap.get?_push_of_some _ q) (Nat.le_refl _) (Heap.get?_push_size _ rfl) (r1.append r2) (by rw [List.length_append]; exact hz), rfl, q2 hx (fun w => z (r2.nil_iff.mpr w)) _ _ (I.hok.fresh (Nat.le_refl _)) rfl⟩
def rIB : R2 := fun x y H Q => ∃ i k, x = .int i ∧ y = .bl k ∧ Q (.int (i + b2i k)) H
def rStrAdd : R2 := fun x y H Q => ∃ i j, x = .str i ∧ y = .str j ∧ i.length + j.length ≤ sizeLine ∧ Q (.str (i ++ j)) H
def rAdd (K : PySem.W.Frag) : R2 := fun x y H Q => rI0 (fun i j => .int (i + j)) x y H Q ∨ (rCatN K x y H Q ∨ (rCat x y H Q ∨ (rStrAdd x y H Q ∨ rIB x y H Q)))
theorem op_addA {X : Cx} : OpR X (binaryOp .Add) (rAdd X.K) := op_add.or (op_catN.or (op_cat.or (OpR.or op_add_str op_add_ib)))
def addD : D → D → Sto → Option (D × Sto)
  | .int i, .int j, S => some (.int (i + j), S)
  | .int i, .bl k, S => some (.int (i + b2i k), S)
  | .tup a, .tup b, S => if a.length + b.length ≤ sizeLine then some (.tup (a ++ b), S) else none
  | .str a, .str b, S => if a.length + b.length ≤ sizeLine then some (.str (a ++ b), S) else none
  | x, y, S => match itemsOf x S, itemsOf y S with
    | some a, some b => if a.length + b.length ≤ sizeLine then some (.lst (a ++ b), S) else none
    | _, _ => none
theorem newL_of {ds : List D} {xs : List V} {Q : VK} (s : StoRel H m S) (r : RepL H m ds xs) (q : ∀ v H' m', Grow H m H' m' → StoRel H' m' S → Rep H' m' (.lst ds) v → Q v H') : ∀ p, H p = none → Q (.ref p) (upd H p (.lst xs)) := fun p hp => by
  have g2 := Grow.upd (m := m) (o := .lst xs) hp
  exact q _ _ _ g2 (s.upd hp) ⟨p, xs, rfl, upd_same, s.fresh hp, RepL.grow g2 _ _ r⟩
theorem s_add {K : PySem.W.Frag} : Op2S (rAdd K) addD := by
  intro H m S dx dy x y d S' Q s rx ry e q
  have lists : (match itemsOf dx S, itemsOf dy S with
      | some a, some b => if a.length + b.length ≤ sizeLine then some (D.lst (a ++ b), S) else none
      | _, _ => none) = some (d, S') → rAdd K x y H Q := fun e => by
    split at e
    · rename_i a b e1 e2
      split at e
      · rename_i hz
        cases e
        obtain ⟨p, xs, rfl, h1, r1⟩ := items_rep s rx e1
        obtain ⟨p2, ys, rfl, h2, r2⟩ := items_rep s ry e2
        exact .inr (.inr (.inl ⟨p, p2, xs, ys, rfl, rfl, h1, h2, by rw [r1.len, r2.len]; exact hz, newL_of s (r1.append r2) q⟩))
      · cases e
    · cases e
  cases dx with
  | int i =>
    cases dy with
    | int j => exact .inl ⟨i, j, rx, ry, fin (d := .int (i + j)) s (by cases e; rfl) rfl (by cases e; exact q)⟩
    | bl k => exact .inr (.inr (.inr (.inr ⟨i, k, rx, ry, fin (d := .int (i + b2i k)) s (by cases e; rfl) rfl (by cases e; exact q)⟩)))
    | _ => exact lists e
  | str i =>
    cases dy with
    | str j =>
      have e' : (if i.length + j.length ≤ sizeLine then some (D.str (i ++ j), S) else none) = some (d, S') := e
      split at e'
      · rename_i hz
        cases e'
        exact .inr (.inr (.inr (.inl ⟨i, j, rx, ry, hz, fin (d := .str (i ++ j)) s rfl rfl q⟩)))
      · cases e'
    | _ => exact lists e
  | tup a =>
    cases dy with
    | tup b =>
      have e' : (if a.length + b.length ≤ sizeLine then some (D.tup (a ++ b), S) else none) = some (d, S') := e
      split at e'
      · rename_i hz
        cases e'
        have rx0 := rx
        have ry0 := ry
        obtain ⟨p, xs, rfl, h1, r1⟩ := tup_rep rx
        obtain ⟨p2, ys, rfl, h2, r2⟩ := tup_rep ry
        refine .inr (.inl ⟨p, p2, xs, ys, rfl, rfl, sqT_of h1, sqT_of h2, by rw [r1.len, r2.len]; exact hz, fun z => ?_, fun _ z => ?_, fun _ _ => newT_of s (r1.append r2) q⟩)
        · have ea : a = [] := by
            have := r1.len
            rw [z] at this
            exact List.eq_nil_of_length_eq_zero this.symm
          rw [ea, List.nil_append] at q
          exact q _ _ _ Grow.refl s ry0
        · have eb : b = [] := by
            have := r2.len
            rw [z] at this
            exact List.eq_nil_of_length_eq_zero this.symm
          rw [eb, List.append_nil] at q
          exact q _ _ _ Grow.refl s rx0
      · cases e'
    | _ => exact lists e
  | _ => exact lists e
/-- - of ints, of bools -/
theorem gives_sub_bools (p q : Bool) : Gives (Builtin.«int.__sub__» ⟨[.bool p, .bool q], []⟩) (.int ((if p = true then (1 : Int) else 0) - if q = true then (1 : Int) else 0)) :=
  .of_wp fun M A E s Q h => by obtain ⟨hp, g, d, tk, os⟩ := s; wp_walk; exact ⟨_, rfl, h⟩
def rSubB : R2 := fun x y H Q => ∃ i k, x = .bl i ∧ y = .bl k ∧ Q (.int (b2i i - b2i k)) H
theorem op_subB {X : Cx} : OpR X (binaryOp .Sub) rSubB := by
  intro pins s σ H x y v u Q I rx ry h
  obtain ⟨i, k, rfl, rfl, q⟩ := h
  cases (show v = Value.bool i from rx)
  cases (show u = Value.bool k from ry)
  exact binaryOp_gives (op := .Sub) rfl rfl F.fills_bool_sub F.slot_bool_sub F.entry_int_sub (F.args_int_sub_2 _ _) (gives_sub_bools i k) trivial ⟨.int _, H, I.tok _, ⟨_, rfl⟩, q⟩
def rSub : R2 := fun x y H Q => rI0 (fun i j => .int (i - j)) x y H Q ∨ rSubB x y H Q
theorem op_subA {X : Cx} : OpR X (binaryOp .Sub) rSub := op_sub.or op_subB
def subD : D → D → Sto → Option (D × Sto)
  | .int i, .int j, S => some (.int (i - j), S)
  | .bl i, .bl k, S => some (.int (b2i i - b2i k), S)
  | _, _, _ => none
theorem s_sub : Op2S rSub subD := by
  intro H m S dx dy x y d S' Q s rx ry e q
  cases dx with
  | int i => cases dy with
    | int j => exact .inl ⟨i, j, rx, ry, fin (d := .int (i - j)) s (by cases e; rfl) rfl (by cases e; exact q)⟩
    | _ => cases e
  | bl i => cases dy with
    | bl j => exact .inr ⟨i, j, rx, ry, fin (d := .int (b2i i - b2i j)) s (by cases e; rfl) rfl (by cases e; exact q)⟩
    | _ => cases e
  | _ => cases e
open Classical in
/-- ints under a condition -/
noncomputable def intOp (C : Int → Int → Prop) (g : Int → Int → Int) : D → D → Sto → Option (D × Sto)
  | .int i, .int j, S => if C i j then some (.int (g i j), S) else none
  | _, _, _ => none
open Classical in
theorem s_int (C : Int → Int → Prop) (g : Int → Int → Int) : Op2S (rI C fun i j => .int (g i j)) (intOp C g) := by
  intro H m S dx dy x y d S' Q s rx ry e q
  cases dx with
  | int i => cases dy with
    | int j =>
      have e' : (if C i j then some (D.int (g i j), S) else none) = some (d, S') := e
      split at e'
      · rename_i h
        exact ⟨i, j, rx, ry, h, fin (d := .int (g i j)) s (by cases e'; rfl) rfl (by cases e'; exact q)⟩
      · cases e'
    | _ => cases e
  | _ => cases e
instance (i j : Int) : Decidable (CMulW i j) := inferInstanceAs (Decidable (_ < _))
instance (i j : Int) : Decidable (CDivW i j) := inferInstanceAs (Decidable (_ ∧ _))
instance (i j : Int) : Decidable (CPow i j) := inferInstanceAs (Decidable (_ ∧ _))
noncomputable def mulD := intOp CMulW fun i j => i * j
noncomputable def fdivD := intOp CDivW fun i j => i / j
noncomputable def modD := intOp (fun _ j => 0 < j) fun i j => i % j
noncomputable def powD := intOp CPow fun i j => i ^ j.toNat
def negD : D → Sto → Option (D × Sto)
  | .int i, S => some (.int (-i), S)
  | _, _ => none
theorem s_neg : Op1S (rU fun i => .int (-i)) negD := by
  intro H m S dx x d S' Q s rx e q
  cases dx with
  | int i => exact ⟨i, rx, fin (d := .int (-i)) s (by cases e; rfl) rfl (by cases e; exact q)⟩
  | _ => cases e
/-! comparisons -/
def cmpEq (x y : D) (S : Sto) : Option (D × Sto) := oB (eqD x y S) S
def cmpNe (x y : D) (S : Sto) : Option (D × Sto) := oB ((eqD x y S).map (!·)) S
theorem s_eq {K : PySem.W.Frag} : Op2S (rEqD K) cmpEq := by
  intro H m S dx dy x y d S' Q s rx ry e q
  obtain ⟨b, e1, rfl, rfl⟩ := oB_inv e
  obtain ⟨p, p2, h1, h2, h3, h4, rfl⟩ := eqD_inv e1
  exact ⟨p, p2, dpS_of s rx h1, dpS_of s ry h2, h3, h4, fin (d := .bl _) s rfl rfl q⟩
theorem s_ne {K : PySem.W.Frag} : Op2S (rNeD K) cmpNe := by
  intro H m S dx dy x y d S' Q s rx ry e q
  obtain ⟨b, e1, rfl, rfl⟩ := oB_inv e
  obtain ⟨b', e2, rfl⟩ := Option.map_eq_some_iff.mp e1
  obtain ⟨p, p2, h1, h2, h3, h4, rfl⟩ := eqD_inv e2
  exact ⟨p, p2, dpS_of s rx h1, dpS_of s ry h2, h3, h4, fin (d := .bl _) s rfl rfl q⟩
def intCmp (p : Int → Int → Bool) : D → D → Sto → Option (D × Sto)
  | .int i, .int j, S => some (.bl (p i j), S)
  | _, _, _ => none
theorem s_icmp (p : Int → Int → Bool) : Op2S (rI0 fun i j => .bl (p i j)) (intCmp p) := by
  intro H m S dx dy x y d S' Q s rx ry e q
  cases dx with
  | int i => cases dy with
    | int j => exact ⟨i, j, rx, ry, fin (d := .bl (p i j)) s (by cases e; rfl) rfl (by cases e; exact q)⟩
    | _ => cases e
  | _ => cases e
def cmpLt := intCmp fun i j => decide (i < j)
def cmpLe := intCmp fun i j => decide (i ≤ j)
def cmpGt := intCmp fun i j => decide (j < i)
def cmpGe := intCmp fun i j => decide (j ≤ i)
/-- is, is not: None or a bool at the right -/
def rIs (neg : Bool) : R2 := fun x y H Q => (y = .non ∧ Q (.bl (xor neg (decide (x = .non)))) H) ∨ ∃ a b : Bool, x = .bl a ∧ y = .bl b ∧ Q (.bl (xor neg (decide (a = b)))) H
theorem op_isA {X : Cx} : OpR X (compareOp .Is) (rIs false) := by
  intro pins s σ H x y v u Q I rx ry h
  rcases h with ⟨h1, h2⟩ | ⟨a, b, h1, h2, h3⟩
  · exact op_isN pins s σ H x y v u Q I rx ry ⟨h1, by simpa using h2⟩
  · exact op_isBl pins s σ H x y v u Q I rx ry ⟨a, b, h1, h2, by simpa using h3⟩
theorem op_notA {X : Cx} : OpR X (compareOp .IsNot) (rIs true) := by
  intro pins s σ H x y v u Q I rx ry h
  rcases h with ⟨h1, h2⟩ | ⟨a, b, h1, h2, h3⟩
  · exact op_notN pins s σ H x y v u Q I rx ry ⟨h1, by simpa using h2⟩
  · exact op_notBl pins s σ H x y v u Q I rx ry ⟨a, b, h1, h2, by simpa using h3⟩
def isNone : D → Bool
  | .non => true
  | _ => false
theorem isNone_rep {m : Wd} {d : D} {v : V} (r : Rep H m d v) : decide (v = .non) = isNone d := by
  cases d with
  | non => rw [show v = .non from r]; rfl
  | bl b => rw [show v = .bl b from r]; rfl
  | int b => rw [show v = .int b from r]; rfl
  | str b => rw [show v = .str b from r]; rfl
  | tup ds => obtain ⟨a, xs, rfl, _⟩ := r; rfl
  | lst ds => obtain ⟨a, xs, rfl, _⟩ := r; rfl
  | rol ds => obtain ⟨a, xs, rfl, _⟩ := r; rfl
  | dct _ _ => obtain ⟨a, ks, xs, ys, rfl, _⟩ := r; rfl
  | loc n => obtain ⟨a, rfl, _⟩ := r; rfl
def isD (neg : Bool) : D → D → Sto → Option (D × Sto)
  | x, .non, S => some (.bl (xor neg (isNone x)), S)
  | .bl a, .bl b, S => some (.bl (xor neg (decide (a = b))), S)
  | _, _, _ => none
theorem s_is (neg : Bool) : Op2S (rIs neg) (isD neg) := by
  intro H m S dx dy x y d S' Q s rx ry e q
  cases dy with
  | non =>
    have e' : some (D.bl (xor neg (isNone dx)), S) = some (d, S') := e
    cases e'
    refine .inl ⟨ry, ?_⟩
    rw [isNone_rep rx]
    exact q _ _ _ Grow.refl s rfl
  | bl b => cases dx with
    | bl a => exact .inr ⟨a, b, rx, ry, fin (d := .bl (xor neg (decide (a = b)))) s (by cases e; rfl) rfl (by cases e; exact q)⟩
    | _ => cases e
  | _ => cases dx <;> cases e
end
end PU

namespace PU
open PySem PySem.Spec PyProof.Rows L2

section
variable {H : Hp} {m : Wd} {S : Sto}
/-! ### subscripts -/
def idxD : D → D → Sto → Option (D × Sto)
  | .tup ds, .int i, S => match atI ds i with
    | some d => some (d, S)
    | none => none
  | x, .int i, S => match readOf x S with
    | some ds => match atI ds i with
      | some d => some (d, S)
      | none => none
    | none => none
  | _, _, _ => none
theorem atI_rep {ds : List D} {xs : List V} {i : Int} {d : D} (r : RepL H m ds xs) (e : atI ds i = some d) : ∃ v, atI xs i = some v ∧ Rep H m d v := by
  unfold atI at e ⊢
  rw [r.len]
  cases h : ixN ds.length i with
  | none => rw [h] at e; cases e
  | some j =>
    rw [h] at e
    exact r.get (i := j) e
theorem s_idx {K : PySem.W.Frag} : Op2S (rIx K) idxD := by
  intro H m S dx dy x y d S' Q s rx ry e q
  cases dy with
  | int i =>
    have lists : (match readOf dx S with
        | some ds => match atI ds i with
          | some d => some (d, S)
          | none => none
        | none => none) = some (d, S') → rIx K x y H Q := fun e => by
      split at e
      · rename_i ds e1
        split at e
        · rename_i d' e2
          cases e
          obtain ⟨p, xs, rfl, h1, r1⟩ := read_rep s rx e1
          obtain ⟨v, e3, rv⟩ := atI_rep r1 e2
          exact .inl ⟨p, xs, i, v, rfl, ry, sqL_of h1, e3, q _ _ _ Grow.refl s rv⟩
        · cases e
      · cases e
    cases dx with
    | tup ds =>
      have e' : (match atI ds i with
        | some d => some (d, S)
        | none => none) = some (d, S') := e
      split at e'
      · rename_i d' e2
        cases e'
        obtain ⟨p, xs, rfl, h1, r1⟩ := tup_rep rx
        obtain ⟨v, e3, rv⟩ := atI_rep r1 e2
        exact .inr (.inl ⟨p, xs, i, v, rfl, ry, sqT_of h1, e3, q _ _ _ Grow.refl s rv⟩)
      · cases e'
    | _ => exact lists e
  | _ => cases dx <;> cases e

/-! ### calls of built-ins -/
def seqOf : D → Sto → Option (List D)
  | .tup ds, _ => some ds
  | d, S => readOf d S
theorem seq_rep {K : PySem.W.Frag} {d : D} {v : V} {ds : List D} (s : StoRel H m S) (r : Rep H m d v) (e : seqOf d S = some ds) : ∃ a xs, v = .ref a ∧ (SqL K H a xs ∨ SqT K H a xs) ∧ RepL H m ds xs := by
  cases d with
  | tup ds' =>
    cases e
    obtain ⟨a, xs, e1, e2, e3⟩ := tup_rep r
    exact ⟨a, xs, e1, .inr (sqT_of e2), e3⟩
  | rol ds' =>
    obtain ⟨a, xs, e1, e2, e3⟩ := read_rep s r e
    exact ⟨a, xs, e1, .inl (sqL_of e2), e3⟩
  | lst ds' =>
    obtain ⟨a, xs, e1, e2, e3⟩ := read_rep s r e
    exact ⟨a, xs, e1, .inl (sqL_of e2), e3⟩
  | loc n =>
    obtain ⟨a, xs, e1, e2, e3⟩ := read_rep s r e
    exact ⟨a, xs, e1, .inl (sqL_of e2), e3⟩
  | _ => cases e
theorem rep1 {d : D} {vs : List V} (r : RepL H m [d] vs) : ∃ v, vs = [v] ∧ Rep H m d v := by
  obtain ⟨x, xs, rfl, h1, h2⟩ := r
  rw [show xs = [] from h2]
  exact ⟨x, rfl, h1⟩
theorem rep2 {d e : D} {vs : List V} (r : RepL H m [d, e] vs) : ∃ v w, vs = [v, w] ∧ Rep H m d v ∧ Rep H m e w := by
  obtain ⟨x, xs, rfl, h1, h2⟩ := r
  obtain ⟨w, rfl, h3⟩ := rep1 h2
  exact ⟨x, w, rfl, h1, h3⟩
def lenD : List D → Sto → Option (D × Sto)
  | [d], S => match seqOf d S with
    | some ds => some (.int ds.length, S)
    | none => none
  | _, _ => none
def rLen2 (K : PySem.W.Frag) : List V → Hp → VK → Prop := fun xs H Q => ∃ p ys, xs = [.ref p] ∧ (SqL K H p ys ∨ SqT K H p ys) ∧ Q (.int ys.length) H
theorem s_len {K : PySem.W.Frag} : OpLS (rLen2 K) lenD := by
  intro H m S dx x d S' Q s rx e q
  match dx, rx, e with
  | [d0], rx, e =>
    have e' : (match seqOf d0 S with
      | some ds => some (D.int ds.length, S)
      | none => none) = some (d, S') := e
    split at e'
    · rename_i ds e1
      cases e'
      obtain ⟨v, rfl, rv⟩ := rep1 rx
      obtain ⟨a, xs, rfl, h1, r1⟩ := seq_rep (K := K) s rv e1
      refine ⟨a, xs, rfl, h1, q _ _ _ Grow.refl s ?_⟩
      rw [r1.len]
      rfl
    · cases e'
def absD : List D → Sto → Option (D × Sto)
  | [.int i], S => some (.int (if i < 0 then -i else i), S)
  | _, _ => none
def rAbs : List V → Hp → VK → Prop := fun xs H Q => ∃ i, xs = [.int i] ∧ Q (.int (if i < 0 then -i else i)) H
theorem s_abs : OpLS rAbs absD := by
  intro H m S dx x d S' Q s rx e q
  unfold absD at e
  split at e
  · cases e
    obtain ⟨v, rfl, rv⟩ := rep1 rx
    exact ⟨_, by rw [show v = _ from rv], q _ _ _ Grow.refl s rfl⟩
  · cases e
def max2D : List D → Sto → Option (D × Sto)
  | [.int i, .int j], S => some (.int (if j > i then j else i), S)
  | _, _ => none
def min2D : List D → Sto → Option (D × Sto)
  | [.int i, .int j], S => some (.int (if j < i then j else i), S)
  | _, _ => none
def rMax2 : List V → Hp → VK → Prop := fun xs H Q => ∃ i j, xs = [.int i, .int j] ∧ Q (.int (if j > i then j else i)) H
def rMin2 : List V → Hp → VK → Prop := fun xs H Q => ∃ i j, xs = [.int i, .int j] ∧ Q (.int (if j < i then j else i)) H
theorem s_max2 : OpLS rMax2 max2D := by
  intro H m S dx x d S' Q s rx e q
  unfold max2D at e
  split at e
  · cases e
    obtain ⟨v, w, rfl, rv, rw'⟩ := rep2 rx
    exact ⟨_, _, by rw [show v = _ from rv, show w = _ from rw'], q _ _ _ Grow.refl s rfl⟩
  · cases e
theorem s_min2 : OpLS rMin2 min2D := by
  intro H m S dx x d S' Q s rx e q
  unfold min2D at e
  split at e
  · cases e
    obtain ⟨v, w, rfl, rv, rw'⟩ := rep2 rx
    exact ⟨_, _, by rw [show v = _ from rv, show w = _ from rw'], q _ _ _ Grow.refl s rfl⟩
  · cases e
def intD : List D → Sto → Option (D × Sto)
  | [.int i], S => some (.int i, S)
  | [.bl b], S => some (.int (if b then 1 else 0), S)
  | _, _ => none
def rInt1 : List V → Hp → VK → Prop := fun xs H Q => (∃ i, xs = [.int i] ∧ Q (.int i) H) ∨ ∃ k, xs = [.bl k] ∧ Q (.int (if k then 1 else 0)) H
theorem s_int1 : OpLS rInt1 intD := by
  intro H m S dx x d S' Q s rx e q
  unfold intD at e
  split at e
  · cases e
    obtain ⟨v, rfl, rv⟩ := rep1 rx
    exact .inl ⟨_, by rw [show v = _ from rv], q _ _ _ Grow.refl s rfl⟩
  · cases e
    obtain ⟨v, rfl, rv⟩ := rep1 rx
    exact .inr ⟨_, by rw [show v = _ from rv], q _ _ _ Grow.refl s rfl⟩
  · cases e
/-- tuple(x) -/
def rTupN (K : PySem.W.Frag) : List V → Hp → VK → Prop := fun xs H Q => ∃ p ys, xs = [.ref p] ∧ ((SqL K H p ys ∧ NewT H ys Q) ∨ (SqT K H p ys ∧ Q (.ref p) H))
theorem call_tupN {X : Cx} : CallR X (.type "tuple") (rTupN X.K) := by
  intro pins s σ H xs us Q I r h
  obtain ⟨p, ys, rfl, h⟩ := h
  obtain ⟨u, rfl, rx⟩ := vals1 r
  cases rx
  rcases h with ⟨hq, q⟩ | ⟨hq, q⟩
  · obtain ⟨its, r', pl, hz⟩ := I.list hq
    have hlen := r'.length
    refine call_tuple_list pl.isList (fun h' kp => ?_) (by simp only [List.size_toArray] <;> omega)
    have I1 : Inv X pins σ H { s with heap := h' } := I.kept (t' := s.toks) kp
    have I2 := laidT (s := { s with heap := h' }) (h' := h'.push { cls := .type "tuple", data := .seq its.toArray }) (a := h'.objs.size) (t' := s.toks) I1 (fun b o e => Heap.get?_push_of_some _ e) (Nat.le_refl _) (Heap.get?_push_size _ rfl) r' hz
    exact ⟨.ref h'.objs.size, _, I2, rfl, q _ _ (I1.hok.fresh (Nat.le_refl _)) rfl⟩
  · obtain ⟨its, r', pl, hz⟩ := I.tuple hq
    exact call_tuple_same pl ⟨.ref p, H, I, rfl, q⟩
def tupD : List D → Sto → Option (D × Sto)
  | [.tup ds], S => some (.tup ds, S)
  | [d], S => match readOf d S with
    | some ds => some (.tup ds, S)
    | none => none
  | _, _ => none
theorem s_tupN {K : PySem.W.Frag} : OpLS (rTupN K) tupD := by
  intro H m S dx x d S' Q s rx e q
  unfold tupD at e
  split at e
  · cases e
    obtain ⟨v, rfl, rv⟩ := rep1 rx
    have rv0 := rv
    obtain ⟨a, xs, rfl, h1, h2⟩ := tup_rep rv
    exact ⟨a, xs, rfl, .inr ⟨sqT_of h1, q _ _ _ Grow.refl s rv0⟩⟩
  · split at e
    · rename_i ds e1
      cases e
      obtain ⟨v, rfl, rv⟩ := rep1 rx
      obtain ⟨a, xs, rfl, h1, h2⟩ := read_rep s rv e1
      exact ⟨a, xs, rfl, .inl ⟨sqL_of h1, newT_of s h2 q⟩⟩
    · cases e
  · cases e
/-- sum, all, any of a list of ints, of bools -/
def allInts : List D → Option (List Int)
  | [] => some []
  | .int i :: r => match allInts r with
    | some l => some (i :: l)
    | none => none
  | _ => none
theorem allInts_inv : ∀ {ds : List D} {l : List Int}, allInts ds = some l → ds = l.map D.int
  | [], _, e => by cases e; rfl
  | d :: r, l, e => by
    cases d with
    | int i =>
      have e' : (match allInts r with
        | some l => some (i :: l)
        | none => none) = some l := e
      split at e'
      · rename_i l' e1
        cases e'
        rw [allInts_inv e1]
        rfl
      · cases e'
    | _ => cases e
theorem allInts_map : ∀ l : List Int, allInts (l.map D.int) = some l
  | [] => rfl
  | i :: l => by
    show (match allInts (l.map D.int) with
      | some l => some (i :: l)
      | none => none) = _
    rw [allInts_map l]
def allBls : List D → Option (List Bool)
  | [] => some []
  | .bl i :: r => match allBls r with
    | some l => some (i :: l)
    | none => none
  | _ => none
theorem allBls_inv : ∀ {ds : List D} {l : List Bool}, allBls ds = some l → ds = l.map D.bl
  | [], _, e => by cases e; rfl
  | d :: r, l, e => by
    cases d with
    | bl i =>
      have e' : (match allBls r with
        | some l => some (i :: l)
        | none => none) = some l := e
      split at e'
      · rename_i l' e1
        cases e'
        rw [allBls_inv e1]
        rfl
      · cases e'
    | _ => cases e
theorem allBls_map : ∀ l : List Bool, allBls (l.map D.bl) = some l
  | [] => rfl
  | i :: l => by
    show (match allBls (l.map D.bl) with
      | some l => some (i :: l)
      | none => none) = _
    rw [allBls_map l]
def sumD : List D → Sto → Option (D × Sto)
  | [d], S => match readOf d S with
    | some ds => match allInts ds with
      | some l => some (.int l.sum, S)
      | none => none
    | none => none
  | _, _ => none
theorem s_sum {K : PySem.W.Frag} : OpLS (rSum K) sumD := by
  intro H m S dx x d S' Q s rx e q
  unfold sumD at e
  split at e
  · split at e
    · rename_i ds e1
      split at e
      · rename_i l e2
        cases e
        obtain ⟨v, rfl, rv⟩ := rep1 rx
        obtain ⟨a, xs, rfl, h1, h2⟩ := read_rep s rv e1
        rw [allInts_inv e2] at h2
        rw [repL_ints_inv h2] at h1
        exact ⟨a, l, rfl, sqL_of h1, q _ _ _ Grow.refl s rfl⟩
      · cases e
    · cases e
  · cases e
def allD : List D → Sto → Option (D × Sto)
  | [d], S => match readOf d S with
    | some ds => match allBls ds with
      | some l => some (.bl (l.all id), S)
      | none => none
    | none => none
  | _, _ => none
theorem s_all {K : PySem.W.Frag} : OpLS (rAll K) allD := by
  intro H m S dx x d S' Q s rx e q
  unfold allD at e
  split at e
  · split at e
    · rename_i ds e1
      split at e
      · rename_i l e2
        cases e
        obtain ⟨v, rfl, rv⟩ := rep1 rx
        obtain ⟨a, xs, rfl, h1, h2⟩ := read_rep s rv e1
        rw [allBls_inv e2] at h2
        rw [repL_bls_inv h2] at h1
        exact ⟨a, l, rfl, sqL_of h1, q _ _ _ Grow.refl s rfl⟩
      · cases e
    · cases e
  · cases e
def anyD : List D → Sto → Option (D × Sto)
  | [d], S => match readOf d S with
    | some ds => match allBls ds with
      | some l => some (.bl (l.any id), S)
      | none => none
    | none => none
  | _, _ => none
theorem s_any {K : PySem.W.Frag} : OpLS (rAny K) anyD := by
  intro H m S dx x d S' Q s rx e q
  unfold anyD at e
  split at e
  · split at e
    · rename_i ds e1
      split at e
      · rename_i l e2
        cases e
        obtain ⟨v, rfl, rv⟩ := rep1 rx
        obtain ⟨a, xs, rfl, h1, h2⟩ := read_rep s rv e1
        rw [allBls_inv e2] at h2
        rw [repL_bls_inv h2] at h1
        exact ⟨a, l, rfl, sqL_of h1, q _ _ _ Grow.refl s rfl⟩
      · cases e
    · cases e
  · cases e
/-! ### isinstance(x, T): x any data, T a written type -/
def tyName : D → Sto → Option String
  | .non, _ => some "NoneType"
  | .bl _, _ => some "bool"
  | .int _, _ => some "int"
  | .str _, _ => some "str"
  | .tup _, _ => some "tuple"
  | .lst _, _ => some "list"
  | .loc n, S => match S[n]? with
    | some (.lst _) => some "list"
    | _ => none
  | .rol _, _ => none
  | .dct _ _, _ => none
theorem tyX_of {K : PySem.W.Frag} {d : D} {v : V} {T : String} (s : StoRel H m S) (r : Rep H m d v) (e : tyName d S = some T) : TyX K H v (.type T) := by
  cases d with
  | non => cases e; rw [show v = .non from r]; exact .base .non
  | bl b => cases e; rw [show v = .bl b from r]; exact .base (.bl b)
  | int b => cases e; rw [show v = .int b from r]; exact .base (.int b)
  | str b => cases e; rw [show v = .str b from r]; exact .base (.str b)
  | tup ds =>
    cases e
    obtain ⟨a, xs, rfl, ⟨o, h1, _⟩, _⟩ := r
    exact .fTuple h1
  | lst ds =>
    cases e
    obtain ⟨a, xs, rfl, h1, _⟩ := r
    exact .base (.lst h1)
  | loc n =>
    have e' : (match S[n]? with
      | some (.lst _) => some "list"
      | _ => none) = some T := e
    split at e'
    · rename_i ds hn
      cases e'
      obtain ⟨a, rfl, e2⟩ := r
      obtain ⟨xs, e3, e4⟩ := s.obj n _ a hn e2
      exact .base (.lst e3)
    · cases e'
  | rol ds => cases e
  | dct _ _ => cases e
def isiD (T : String) : D → Sto → Option (D × Sto) := fun d S => match tyName d S with
  | some U => match kitB U T with
    | some b => some (.bl b, S)
    | none => none
  | none => none
end
section
variable {X : Cx}
theorem ee_isi {x t : Expr} {p pos : Pos} {T : String} {f : Ex} (hm : X.mg "isinstance" = none) (hx : PE X x (tE f)) (ht : PE X t (tC (.ty T)))
    (hg : Gl X "isinstance" := by rfl) (he : starEach [x, t] X.env = (false, eval x X.env) :: starEach [t] X.env := by rfl) (he2 : starEach [t] X.env = (false, eval t X.env) :: starEach [] X.env := by rfl) (hpl : (backTo pos (starEach [t] X.env)).any (·.1) = false := by rfl) :
    PE X (.Call (.Name "isinstance" p) [x, t] [] pos) (tE (eOp1 (isiD T) f)) :=
  peI (pe_callB call_isi hg hm (by decide +kernel) (pa_cons hx (pa_cons ht pa_nil he2) he) (by decide) (by decide) he hpl) fun σ H Q ⟨env, m, S, d, S', er, sr, e, q⟩ => by
    obtain ⟨dx, S1, e1, e2⟩ := bnd_inv e
    unfold isiD at e2
    split at e2
    · rename_i U e3
      split at e2
      · rename_i b e4
        cases e2
        refine ⟨env, m, S, dx, _, er, sr, e1, fun v H1 m1 g1 s1 r1 => ?_⟩
        exact ⟨v, .ty T, .type U, .type T, b, rfl, .ty T, tyX_of s1 r1 e3, kit_ty e4, q _ _ _ g1 s1 rfl⟩
      · cases e2
    · cases e2
end
end PU

namespace PU
open PySem PySem.Spec PyProof.Rows L2

/-! ### t[::-1] of a tuple, xs[::-1] of a list -/
section
variable {prog : Program} {w : World} {A : Around} {E : Value → Shared → Prop} {s : Shared}
theorem adjust_rev (n : Nat) : Builtin.Slice.sliceAdjust none none (-1) (n : Int) = ((n : Int) - 1, -1) := by
  unfold Builtin.Slice.sliceAdjust
  simp
theorem places_rev (n : Nat) : Builtin.Slice.slicePlaces ((n : Int) - 1) (-1) (-1) = n := by
  unfold Builtin.Slice.slicePlaces
  have h1 : ¬ ((-1 : Int) > 0) := by omega
  simp only [h1, if_false]
  split <;> simp <;> omega
theorem sliceApplied_rev {sl : Addr} {u : Tok} {n : Nat} {Q : Int × Int × Nat → Shared → Prop} (hs : s.heap.IsSliceOf sl .none .none (.int (-1) u))
    (h : Q ((n : Int) - 1, -1, n) s) : wpAny (model prog w) A (Builtin.Slice.sliceApplied (.ref sl) (pure (n : Int))) Q E s := by
  obtain ⟨os, hos, hcs, hds⟩ := id hs
  unfold Builtin.Slice.sliceApplied Builtin.Slice.sliceFields
  refine wpAny_bind (wpAny_bind (wpAny_field hos hds (x := .none) rfl (wpAny_bind (wpAny_field hos hds (x := .none) rfl (wpAny_bind (wpAny_field hos hds (x := .int (-1) u) rfl (wpAny_pure ?_)))))))
  refine wpAny_bind (slicePart_int ?_)
  show wpAny _ _ (if ((-1 : Int) == 0) = true then _ else _) _ _ s
  rw [if_neg (by decide)]
  refine wpAny_bind (slicePart_none (wpAny_bind (slicePart_none (wpAny_bind (wpAny_pure ?_)))))
  show wpAny _ _ (match Builtin.Slice.sliceAdjust none none (-1) (n : Int) with | (lo, hi) => pure (lo, (-1 : Int), Builtin.Slice.slicePlaces lo hi (-1))) _ _ s
  rw [adjust_rev]
  show wpAny _ _ (pure ((n : Int) - 1, (-1 : Int), Builtin.Slice.slicePlaces ((n : Int) - 1) (-1) (-1))) _ _ s
  rw [places_rev]
  exact wpAny_pure h
theorem fm_map {α β : Type} {f : α → Option β} {g : α → β} : ∀ l : List α, (∀ a ∈ l, f a = some (g a)) → l.filterMap f = l.map g
  | [], _ => rfl
  | a :: l, h => by
    rw [List.filterMap_cons, h a List.mem_cons_self, fm_map l fun b hb => h b (List.mem_cons_of_mem _ hb)]
    rfl
theorem pick_rev (xs : Array Value) : ((List.range xs.size).filterMap fun (m : Nat) => xs[(((xs.size : Int) - 1) + (m : Int) * (-1)).toNat]?).toArray = xs.toList.reverse.toArray := by
  congr 1
  apply List.ext_getElem?
  intro i
  have e : (List.range xs.size).filterMap (fun (m : Nat) => xs[(((xs.size : Int) - 1) + (m : Int) * (-1)).toNat]?) = (List.range xs.size).map fun m => xs.toList[xs.size - 1 - m]?.getD default := by
    refine fm_map _ fun m hm => ?_
    have hm' : m < xs.size := List.mem_range.mp hm
    have : (((xs.size : Int) - 1) + (m : Int) * (-1)).toNat = xs.size - 1 - m := by omega
    rw [this]
    have hlt : xs.size - 1 - m < xs.size := by omega
    simp [hlt]
  rw [e]
  by_cases hi : i < xs.size
  · rw [List.getElem?_map, List.getElem?_range hi, List.getElem?_reverse (by simpa using hi)]
    simp
    have hlt : xs.size - 1 - i < xs.size := by omega
    simp [hlt]
  · rw [List.getElem?_eq_none (by simp; omega), List.getElem?_eq_none (by simp; omega)]
theorem getItem_tuple_rev {t sl : Addr} {items : Array Value} {u : Tok} {Q : Value → Shared → Prop} (ht : IsTup s.heap t items) (hs : s.heap.IsSliceOf sl .none .none (.int (-1) u))
    (h : Q (.ref s.heap.objs.size) { s with heap := s.heap.push { cls := .type "tuple", data := .seq items.toList.reverse.toArray } })
    (hsz : items.size ≤ sizeLine) : wpAny (model prog w) A (getItem (.ref t) (.ref sl)) Q E s := by
  have htake : sizeOk (.seq items.toList.reverse.toArray) := by
    show items.toList.reverse.toArray.size ≤ sizeLine
    rw [List.size_toArray, List.length_reverse, Array.length_toList]
    exact hsz
  obtain ⟨os, hos, hcs, hds⟩ := id hs
  have hTs : s.TypeIs (.ref sl) "slice" := ⟨os, hos, hcs⟩
  unfold getItem
  try with_reducible refine wpAny_holding ?_
  first | refine wpAny_bind (wpAny_pure ?_) | skip
  refine wpAny_bind (wpAny_sequenceKey ht.typeIs (by decide) ?_)
  refine wpAny_bind (wpAny_callSpecial?_slot (name := Str.ofString "__getitem__") ht.typeIs PyProof.Rows.slot_tuple_getitem
    (wpAny_call_entry PyProof.Rows.slot_tuple_getitem ht.typeIs entry_tuple_getitem ?_ (args_tuple_getitem _ _)))
  show wpAny _ _ (Builtin.Tuple.tupleItemsOf (.ref t) >>= _) _ _ s
  refine wpAny_bind (tupleItemsOf_ ht ?_)
  refine wpAny_bind (wpAny_typeOf hTs ?_)
  rw [if_pos (by decide)]
  refine wpAny_bind (sliceApplied_rev hs ?_)
  have hno : ¬ ((((items.size : Int) - 1) == 0 && (-1 : Int) == 1 && items.size == items.size) = true) := by
    simp
  show wpAny _ _ (if (((items.size : Int) - 1) == 0 && (-1 : Int) == 1 && items.size == items.size) = true then _ else _) _ _ s
  rw [if_neg hno, pick_rev]
  first
    | exact wpAny_bind (m := Builtin.Tuple.tupleExact _) (wpAny_newObj_type (wpAny_pure ⟨_, rfl, wpAny_pure h⟩) htake)
    | exact wpAny_bind (m := Builtin.Tuple.tupleExact _) (wpAny_newObj_type (wpAny_bind (wpAny_pure (wpAny_pure ⟨_, rfl, wpAny_pure h⟩))) htake)
    | exact wpAny_bind (wpAny_bind (m := Builtin.Tuple.tupleExact _) (wpAny_newObj_type (wpAny_pure (wpAny_pure ⟨_, rfl, wpAny_pure h⟩)) htake))
    | exact wpAny_bind (wpAny_bind (m := Builtin.Tuple.tupleExact _) (wpAny_newObj_type (wpAny_pure ⟨_, rfl, wpAny_pure h⟩) htake))
end
section
variable {X : Cx}
def tRev (K : PySem.W.Frag) (te : TE) : TE := fun σ H Q => te σ H fun x H1 => ∃ a xs, x = .ref a ∧ ((SqL K H1 a xs ∧ ∀ p, H1 p = none → Q (.ref p) (upd H1 p (.lst xs.reverse))) ∨ (SqT K H1 a xs ∧ NewT H1 xs.reverse Q))
theorem pe_rev {e : Expr} {te : TE} {k : Nat} {p1 p2 p3 pos : Pos} (he : PE X e te) : PE X (.Subscript e (.Slice none none (some (.UnaryOp .USub (.Constant (.int 1) k p1) p2)) p3) pos) (tRev X.K te) := by
  refine ⟨fun pins s σ H Q I h => ?_⟩
  refine Subscript_ (thn (he.run pins s σ H _ I h) fun v s1 ⟨x, H1, I1, r1, q1⟩ => ?_)
  obtain ⟨a, xs, ex, hx⟩ := q1
  subst ex
  cases r1
  have hst : PO X (some (.UnaryOp .USub (.Constant (.int 1) k p1) p2)) (tPart (tUn (rU fun i => .int (-i)) (tC (.int 1)))) := po_some (pe_un un_neg pe_int)
  refine wpAny_Slice (thn (po_none.run pins s1 σ H1 (fun o H2 => o = none ∧ H2 = H1) I1 ⟨rfl, rfl⟩) fun vl s2 ⟨l, H2, I2, pl, el, e2⟩ => ?_)
  subst el e2
  refine thn (po_none.run pins s2 σ H2 (fun o H3 => o = none ∧ H3 = H2) I2 ⟨rfl, rfl⟩) fun vu s3 ⟨u, H3, I3, pu, eu, e3⟩ => ?_
  subst eu e3
  refine thn (hst.run pins s3 σ H3 (fun o H4 => o = some (-1) ∧ H4 = H3) I3 ⟨1, rfl, -1, rfl, rfl, rfl⟩) fun vs s4 ⟨o, H4, I4, ps, eo, e4⟩ => ?_
  subst eo e4
  have I5 : Inv X pins σ H4 { s4 with heap := s4.heap.push { cls := .type "slice", data := .fields #[vl, vu, vs] } } := I4.kept (t' := s4.toks) fun b ob q => Heap.get?_push_of_some _ q
  show wpAny (model X.prog X.w) X.A (subscriptTail e (.Slice none none (some (.UnaryOp .USub (.Constant (.int 1) k p1) p2)) p3) (.ref a) (.ref s4.heap.objs.size)) (EP X pins σ Q) X.xe { s4 with heap := s4.heap.push { cls := .type "slice", data := .fields #[vl, vu, vs] } }
  rcases hx with ⟨hx, q⟩ | ⟨hx, q⟩
  · obtain ⟨its, r, ht, hz⟩ := I5.list hx
    have hlen := r.length
    refine tail_any (ops := [.ref a, .ref s4.heap.objs.size]) ht.isList.typeIs (PySem.slot_list_getitem.lookup) ?_ (by with_unfolding_all rfl)
    refine wpAny_getItem_list_slice ht.isList (Heap.IsSliceOf.new _ vl vu vs) pl pu ps (by decide) ?_ (by rw [List.size_toArray]; omega)
    rw [PySem.W.krv_pick]
    refine ⟨.ref _, _, I5.laid (t' := s4.toks) (o := .lst xs.reverse) (fun b ob q => Heap.get?_push_of_some _ q) (Nat.le_refl _) ?_, rfl, q _ (I5.hok.fresh (Nat.le_refl _))⟩
    exact ⟨by rw [List.length_reverse]; exact hz, _, 0, r.reverse, Heap.get?_push_size _ rfl⟩
  · obtain ⟨its, r, ht, hz⟩ := I5.tuple hx
    have hlen := r.length
    cases pl
    cases pu
    cases ps with
    | int i t =>
      refine tail_any (ops := [.ref a, .ref s4.heap.objs.size]) ht.typeIs (PyProof.Rows.slot_tuple_getitem.lookup) ?_ (by with_unfolding_all rfl)
      refine getItem_tuple_rev ht (Heap.IsSliceOf.new _ _ _ _) ?_ (by rw [List.size_toArray]; omega)
      refine ⟨.ref _, _, laidT (t' := s4.toks) I5 (fun b ob q => Heap.get?_push_of_some _ q) (Nat.le_refl _) (Heap.get?_push_size _ rfl) r.reverse (by rw [List.length_reverse]; exact hz), rfl, q _ _ (I5.hok.fresh (Nat.le_refl _)) rfl⟩
def revD : D → Sto → Option (D × Sto)
  | .tup ds, S => some (.tup ds.reverse, S)
  | d, S => match readOf d S with
    | some ds => some (.lst ds.reverse, S)
    | none => none
theorem ee_rev {e : Expr} {k : Nat} {p1 p2 p3 pos : Pos} {f : Ex} (he : PE X e (tE f)) : PE X (.Subscript e (.Slice none none (some (.UnaryOp .USub (.Constant (.int 1) k p1) p2)) p3) pos) (tE (eOp1 revD f)) :=
  peI (pe_rev he) fun σ H Q ⟨env, m, S, d, S', er, sr, e, q⟩ => by
    obtain ⟨dx, S1, e1, e2⟩ := bnd_inv e
    refine ⟨env, m, S, dx, S1, er, sr, e1, fun v H1 m1 g1 s1 r1 => ?_⟩
    have lists : (match readOf dx S1 with
        | some ds => some (D.lst ds.reverse, S1)
        | none => none) = some (d, S') → ∃ a xs, v = .ref a ∧ ((SqL X.K H1 a xs ∧ ∀ p, H1 p = none → Q (.ref p) (upd H1 p (.lst xs.reverse))) ∨ (SqT X.K H1 a xs ∧ NewT H1 xs.reverse Q)) := fun e => by
      split at e
      · rename_i ds e3
        cases e
        obtain ⟨a, xs, rfl, h1, h2⟩ := read_rep s1 r1 e3
        exact ⟨a, xs, rfl, .inl ⟨sqL_of h1, newL_of s1 h2.reverse fun v H' m' g s' r' => q v H' m' (g1.trans g) s' r'⟩⟩
      · cases e
    cases dx with
    | tup ds =>
      cases e2
      obtain ⟨a, xs, rfl, h1, h2⟩ := tup_rep r1
      exact ⟨a, xs, rfl, .inr ⟨sqT_of h1, newT_of s1 h2.reverse fun v H' m' g s' r' => q v H' m' (g1.trans g) s' r'⟩⟩
    | _ => exact lists e2
/-! ### x[lo:hi] -/
def cutG {α : Type} (xs : List α) (lo hi : Option Int) : List α := (xs.drop (HT.sIx xs.length 0 lo)).take (HT.sIx xs.length xs.length hi - HT.sIx xs.length 0 lo)
def rSlN (K : PySem.W.Frag) : V → Option Int → Option Int → Hp → VK → Prop := fun x lo hi H Q => ∃ a xs, x = .ref a ∧ SqT K H a xs ∧
  (HT.sIx xs.length 0 lo = 0 ∧ HT.sIx xs.length xs.length hi = xs.length → Q (.ref a) H) ∧ (¬ (HT.sIx xs.length 0 lo = 0 ∧ HT.sIx xs.length xs.length hi = xs.length) → NewT H (cutV xs lo hi) Q)
theorem sl_tupN : SlR X (rSlN X.K) := by
  intro pins s σ H x v vl vu lo hi sl Q I rx hs pl pu h
  obtain ⟨a, xs, rfl, hx, q1, q2⟩ := h
  cases rx
  obtain ⟨its, r, ht, hz⟩ := I.tuple hx
  have hlen : its.toArray.size = xs.length := by rw [List.size_toArray]; exact r.length.symm
  refine ⟨"tuple", _, PyProof.Rows.slot_tuple_getitem.lookup, ht.typeIs, ?_⟩
  by_cases hw : HT.sIx xs.length 0 lo = 0 ∧ HT.sIx xs.length xs.length hi = xs.length
  · exact getItem_tuple_whole ht hs pl pu (by rw [hlen]; exact hw) ⟨.ref a, H, I, rfl, q1 hw⟩
  · refine HT.getItem_tuple_cut ht hs pl pu (by rw [hlen]; exact hw) ?_ (by rw [hlen]; exact hz)
    rw [hlen]
    exact ⟨.ref s.heap.objs.size, _, laidT (t' := s.toks) I (fun b ob q => Heap.get?_push_of_some _ q) (Nat.le_refl _) (Heap.get?_push_size _ rfl) ((r.drop (HT.sIx xs.length 0 lo)).take (HT.sIx xs.length xs.length hi - HT.sIx xs.length 0 lo)) (Nat.le_trans (cutV_length xs lo hi) hz), rfl, q2 hw _ _ (I.hok.fresh (Nat.le_refl _)) rfl⟩
theorem cut_rep {H : Hp} {m : Wd} {ds : List D} {xs : List V} (r : RepL H m ds xs) (lo hi : Option Int) : RepL H m (cutG ds lo hi) (cutV xs lo hi) := by
  unfold cutG cutV
  rw [r.len]
  exact (r.drop _).take _
def oNone : En → Sto → Option (Option Int × Sto) := fun _ S => some (none, S)
def oSome (f : Ex) : En → Sto → Option (Option Int × Sto) := fun env S => bnd (f env S) fun d S1 => match d with
  | .int i => some (some i, S1)
  | _ => none
theorem oo_none : PO X none (tO oNone) := poI po_none fun σ H Q ⟨env, m, S, d, S', er, sr, e, q⟩ => by
  cases e
  exact q _ _ Grow.refl sr
theorem oo_some {e : Expr} {f : Ex} (h : PE X e (tE f)) : PO X (some e) (tO (oSome f)) := poI (po_some h) fun σ H Q ⟨env, m, S, d, S', er, sr, e, q⟩ => by
  obtain ⟨dx, S1, e1, e2⟩ := bnd_inv e
  refine ⟨env, m, S, dx, S1, er, sr, e1, fun v H1 m1 g1 s1 r1 => ?_⟩
  cases dx with
  | int i =>
    cases e2
    exact ⟨i, r1, q _ _ g1 s1⟩
  | _ => cases e2
def slcD : D → Option Int → Option Int → Sto → Option (D × Sto)
  | .tup ds, lo, hi, S => some (.tup (cutG ds lo hi), S)
  | d, lo, hi, S => match readOf d S with
    | some ds => some (.lst (cutG ds lo hi), S)
    | none => none
def eSlc (f : Ex) (l h : En → Sto → Option (Option Int × Sto)) : Ex := fun env S => bnd (f env S) fun x S1 => bnd (l env S1) fun lo S2 => bnd (h env S2) fun hi S3 => slcD x lo hi S3
def rSl2 (K : PySem.W.Frag) : V → Option Int → Option Int → Hp → VK → Prop := fun x lo hi H Q => rSlN K x lo hi H Q ∨ rSlL K x lo hi H Q
theorem ee_slc {e : Expr} {lo hi : Option Expr} {p2 pos : Pos} {f : Ex} {l h : En → Sto → Option (Option Int × Sto)} (he : PE X e (tE f)) (hl : PO X lo (tO l)) (hh : PO X hi (tO h)) :
    PE X (.Subscript e (.Slice lo hi none p2) pos) (tE (eSlc f l h)) := peI (pe_slice (SlR.or sl_tupN sl_list) he hl hh) fun σ H Q ⟨env, m, S, d, S', er, sr, e, q⟩ => by
  obtain ⟨dx, S1, e1, e⟩ := bnd_inv e
  obtain ⟨a, S2, e2, e⟩ := bnd_inv e
  obtain ⟨b, S3, e3, e⟩ := bnd_inv e
  refine ⟨env, m, S, dx, S1, er, sr, e1, fun v H1 m1 g1 s1 r1 => ?_⟩
  refine ⟨env, m1, S1, a, S2, er.grow g1, s1, e2, fun H2 m2 g2 s2 => ?_⟩
  refine ⟨env, m2, S2, b, S3, (er.grow g1).grow g2, s2, e3, fun H3 m3 g3 s3 => ?_⟩
  have r3 := Rep.grow (g2.trans g3) _ _ r1
  have q' := fun v H' m' g s' r' => q v H' m' (g1.trans (g2.trans (g3.trans g))) s' r'
  have lists : (match readOf dx S3 with
      | some ds => some (D.lst (cutG ds a b), S3)
      | none => none) = some (d, S') → rSl2 X.K v a b H3 Q := fun e => by
    split at e
    · rename_i ds e3
      cases e
      obtain ⟨p, xs, rfl, h1, h2⟩ := read_rep s3 r3 e3
      exact .inr ⟨p, xs, rfl, sqL_of h1, newL_of s3 (cut_rep h2 a b) q'⟩
    · cases e
  cases dx with
  | tup ds =>
    cases e
    have r3' := r3
    obtain ⟨p, xs, rfl, h1, h2⟩ := tup_rep r3
    refine .inl ⟨p, xs, rfl, sqT_of h1, fun hw => ?_, fun _ => newT_of s3 (cut_rep h2 a b) q'⟩
    have ew : cutG ds a b = ds := by
      rw [h2.len] at hw
      unfold cutG
      rw [hw.1, hw.2, List.drop_zero, Nat.sub_zero, List.take_length]
    rw [ew] at q'
    exact q' _ _ _ Grow.refl s3 r3'
  | _ => exact lists e
/-- .. a new list -/
def fSlc (f : Ex) (l h : En → Sto → Option (Option Int × Sto)) : ExL := fun env S => bnd (f env S) fun x S1 => bnd (l env S1) fun lo S2 => bnd (h env S2) fun hi S3 => match readOf x S3 with
  | some ds => some (cutG ds lo hi, S3)
  | none => none
theorem ff_slc {e : Expr} {lo hi : Option Expr} {p2 pos : Pos} {f : Ex} {l h : En → Sto → Option (Option Int × Sto)} (he : PE X e (tE f)) (hl : PO X lo (tO l)) (hh : PO X hi (tO h)) :
    PE X (.Subscript e (.Slice lo hi none p2) pos) (tF (fSlc f l h)) := peI (pe_slice sl_list he hl hh) fun σ H Q ⟨env, m, S, d, S', er, sr, e, q⟩ => by
  obtain ⟨dx, S1, e1, e⟩ := bnd_inv e
  obtain ⟨a, S2, e2, e⟩ := bnd_inv e
  obtain ⟨b, S3, e3, e⟩ := bnd_inv e
  refine ⟨env, m, S, dx, S1, er, sr, e1, fun v H1 m1 g1 s1 r1 => ?_⟩
  refine ⟨env, m1, S1, a, S2, er.grow g1, s1, e2, fun H2 m2 g2 s2 => ?_⟩
  refine ⟨env, m2, S2, b, S3, (er.grow g1).grow g2, s2, e3, fun H3 m3 g3 s3 => ?_⟩
  have r3 := Rep.grow (g2.trans g3) _ _ r1
  split at e
  · rename_i ds e4
    cases e
    obtain ⟨p, xs, rfl, h1, h2⟩ := read_rep s3 r3 e4
    exact ⟨p, xs, rfl, sqL_of h1, fun p' hp => q _ _ _ _ (g1.trans (g2.trans g3)) s3 (cut_rep h2 a b) hp⟩
  · cases e
/-- list(x) -/
def fLstOf (f : Ex) : ExL := fun env S => bnd (f env S) fun d S1 => match seqOf d S1 with
  | some ds => some (ds, S1)
  | none => none
theorem ff_listOf {e : Expr} {p pos : Pos} {f : Ex} (hm : X.mg "list" = none) (ha : PE X e (tE f)) (hg : Gl X "list" := by rfl) (he : starEach [e] X.env = (false, eval e X.env) :: starEach [] X.env := by rfl) :
    PE X (.Call (.Name "list" p) [e] [] pos) (tF (fLstOf f)) := peI (pe_callTy call_list_of hg hm boot_list (pa_cons ha pa_nil he) (by decide) (by decide) he rfl) fun σ H Q ⟨env, m, S, d, S', er, sr, e, q⟩ => by
  obtain ⟨dx, S1, e1, e⟩ := bnd_inv e
  split at e
  · rename_i ds e2
    cases e
    refine ⟨env, m, S, dx, _, er, sr, e1, fun v H1 m1 g1 s1 r1 => ?_⟩
    obtain ⟨a, xs, rfl, h1, h2⟩ := seq_rep (K := X.K) s1 r1 e2
    exact ⟨a, xs, rfl, h1, fun p hp => q _ _ _ _ g1 s1 h2 hp⟩
  · cases e
/-- xs + ys, a new list -/
def fCat (f g : Ex) : ExL := fun env S => bnd (f env S) fun x S1 => bnd (g env S1) fun y S2 => match itemsOf x S2, itemsOf y S2 with
  | some a, some b => if a.length + b.length ≤ sizeLine then some (a ++ b, S2) else none
  | _, _ => none
theorem ff_cat {a b : Expr} {pos : Pos} {f g : Ex} (ha : PE X a (tE f)) (hb : PE X b (tE g)) : PE X (.BinOp a .Add b pos) (tF (fCat f g)) := peI (pe_op op_cat ha hb) fun σ H Q ⟨env, m, S, d, S', er, sr, e, q⟩ => by
  obtain ⟨dx, S1, e1, e⟩ := bnd_inv e
  obtain ⟨dy, S2, e2, e⟩ := bnd_inv e
  refine ⟨env, m, S, dx, S1, er, sr, e1, fun v H1 m1 g1 s1 r1 => ?_⟩
  refine ⟨env, m1, S1, dy, S2, er.grow g1, s1, e2, fun u H2 m2 g2 s2 r2 => ?_⟩
  split at e
  · rename_i l1 l2 h1 h2
    split at e
    · rename_i hz
      cases e
      obtain ⟨p, xs, rfl, h3, h4⟩ := items_rep s2 (Rep.grow g2 _ _ r1) h1
      obtain ⟨p2, ys, rfl, h5, h6⟩ := items_rep s2 r2 h2
      exact ⟨p, p2, xs, ys, rfl, rfl, h3, h5, by rw [h4.len, h6.len]; exact hz, fun p hp => q _ _ _ _ (g1.trans g2) s2 (h4.append h6) hp⟩
    · cases e
  · cases e
end
end PU

namespace PU
open PySem PySem.Spec PyProof.Rows L2

/-! ### methods -/
section
variable {H : Hp} {m : Wd} {S : Sto}
def isLst (d : D) (S : Sto) : Bool := (itemsOf d S).isSome
theorem tyV_lst {K : PySem.W.Frag} {d : D} {v : V} (s : StoRel H m S) (r : Rep H m d v) (e : isLst d S = true) : tyV K "list" v H := by
  obtain ⟨ds, hds⟩ := Option.isSome_iff_exists.mp e
  obtain ⟨a, xs, rfl, e2, _⟩ := items_rep s r hds
  exact .inl ⟨rfl, xs, sqL_of (.inl e2)⟩
def appD : D → List D → Sto → Option (D × Sto)
  | .loc n, [y], S => match S[n]? with
    | some (.lst ds) => if ds.length < sizeLine then some (.non, S.set n (.lst (ds ++ [y]))) else none
    | _ => none
  | _, _, _ => none
theorem loc_rep {n : Nat} {ds : List D} {v : V} (s : StoRel H m S) (r : Rep H m (.loc n) v) (e : S[n]? = some (.lst ds)) : ∃ a xs, v = .ref a ∧ m.m[n]? = some a ∧ H a = some (.lst xs) ∧ RepL H m ds xs := by
  obtain ⟨a, e1, e2⟩ := r
  obtain ⟨xs, e3, e4⟩ := s.obj n _ a e e2
  exact ⟨a, xs, e1, e2, e3, e4⟩
theorem wr {n : Nat} {a : Addr} {ds : List D} {xs : List V} {d : D} {v : V} {Q : VK} (s : StoRel H m S) (hn : m.m[n]? = some a) (r : RepL H m ds xs) (rv : Rep H m d v) (q : ∀ v H' m', Grow H m H' m' → StoRel H' m' (S.set n (.lst ds)) → Rep H' m' d v → Q v H') : Q v (upd H a (.lst xs)) :=
  q _ _ _ (Grow.write (List.mem_of_getElem? hn)) (s.write hn r) (Rep.grow (Grow.write (List.mem_of_getElem? hn)) _ _ rv)
theorem s_app : OpMS rAppend appD := by
  intro H m S dx x ds vs d S' Q s rx rv e q
  unfold appD at e
  split at e
  · split at e
    · rename_i S0 n y _ l hn
      split at e
      · rename_i hz
        cases e
        obtain ⟨a, xs, rfl, e1, e2, e3⟩ := loc_rep s rx hn
        obtain ⟨w, rfl, rw'⟩ := rep1 rv
        exact ⟨a, xs, w, rfl, rfl, e2, by rw [e3.len]; exact hz, wr (d := .non) s e1 (e3.append (show RepL H m [y] [w] from ⟨w, [], rfl, rw', rfl⟩)) rfl q⟩
      · cases e
    · cases e
  · cases e
def extD : D → List D → Sto → Option (D × Sto)
  | .loc n, [y], S => match S[n]?, itemsOf y S with
    | some (.lst ds), some es => if ds.length + es.length ≤ sizeLine then some (.non, S.set n (.lst (ds ++ es))) else none
    | _, _ => none
  | _, _, _ => none
theorem s_ext : OpMS rExtend extD := by
  intro H m S dx x ds vs d S' Q s rx rv e q
  unfold extD at e
  split at e
  · split at e
    · rename_i S0 n y _ _ l es hn hy
      split at e
      · rename_i hz
        cases e
        obtain ⟨a, xs, rfl, e1, e2, e3⟩ := loc_rep s rx hn
        obtain ⟨w, rfl, rw'⟩ := rep1 rv
        obtain ⟨b, ys, rfl, h1, h2⟩ := items_rep s rw' hy
        exact ⟨a, b, xs, ys, rfl, rfl, e2, h1, by rw [e3.len, h2.len]; exact hz, wr (d := .non) s e1 (e3.append h2) rfl q⟩
      · cases e
    · cases e
  · cases e
def fit63 (i : Int) : Prop := -(2 ^ 63) ≤ i ∧ i < 2 ^ 63
open Classical in
noncomputable def popD : D → List D → Sto → Option (D × Sto)
  | .loc n, [], S => match S[n]? with
    | some (.lst ds) => match ds[ds.length - 1]? with
      | some y => some (y, S.set n (.lst ds.dropLast))
      | _ => none
    | _ => none
  | .loc n, [.int i], S => match S[n]? with
    | some (.lst ds) => match ixN ds.length i with
      | some k => match ds[k]? with
        | some y => if fit63 i then some (y, S.set n (.lst (ds.eraseIdx k))) else none
        | _ => none
      | none => none
    | _ => none
  | _, _, _ => none
def rPop2 : V → List V → Hp → VK → Prop := fun x vs H Q => rPop x vs H Q ∨ rPopAt x vs H Q
theorem s_pop : OpMS rPop2 popD := by
  intro H m S dx x ds vs d S' Q s rx rv e q
  unfold popD at e
  split at e
  · split at e
    · rename_i S0 n _ l hn
      split at e
      · rename_i y hy
        cases e
        obtain ⟨a, xs, rfl, e1, e2, e3⟩ := loc_rep s rx hn
        obtain ⟨w, hw, rw'⟩ := e3.get hy
        exact .inl ⟨a, xs, w, rfl, rv, e2, by rw [e3.len]; exact hw, wr s e1 e3.dropLast rw' q⟩
      · cases e
    · cases e
  · split at e
    · rename_i S0 n i _ l hn
      split at e
      · rename_i k hk
        split at e
        · rename_i y hy
          split at e
          · rename_i hz
            cases e
            obtain ⟨a, xs, rfl, e1, e2, e3⟩ := loc_rep s rx hn
            obtain ⟨w, hw, rw'⟩ := e3.get hy
            obtain ⟨u, rfl, ru⟩ := rep1 rv
            have hk' : ixN xs.length i = some k := by rw [e3.len]; exact hk
            exact .inr ⟨a, xs, i, k, w, rfl, by rw [show u = _ from ru], e2, hz.1, hz.2, (ixN_seq hk').1, hw, wr s e1 (e3.eraseIdx k) rw' q⟩
          · cases e
        · cases e
      · cases e
    · cases e
  · cases e
end
section
variable {X : Cx}
/-- o.m(e, ..), o a list -/
def eMth (F : D → List D → Sto → Option (D × Sto)) (f : Ex) (g : ExL) : Ex := fun env S => bnd (f env S) fun x S1 => if isLst x S1 = true then bnd (g env S1) fun ds S2 => F x ds S2 else none
theorem ee_mth {o e : Expr} {es : List Expr} {name : Str} {apos cpos : Pos} {id : String} {r : V → List V → Hp → VK → Prop} {F : D → List D → Sto → Option (D × Sto)} {f : Ex} {g : ExL} (slot : Slot "list" name id) (hty : typeOf (.builtin id) = pure (.type "method_descriptor")) (hm : MtR X id r) (hs : OpMS r F)
    (ho : PE X o (tE f)) (ha : PA X (e :: es) (tA g))
    (hbase : attributeBase o name X.env (eval o X.env) = eval o X.env := by rfl)
    (hfew : ((backTo cpos (starEach (e :: es) X.env)).all (fun x => !x.1) && (backToKw cpos (keywordEach [] X.env)).all (fun x => x.1.isSome)
      && decide ((e :: es).length + ([] : List Keyword).length + (if ([] : List Keyword).isEmpty then 0 else 1) < 30)) = true := by rfl)
    (hline : (apos.endLine == cpos.line) = true := by rfl) (hst : starEach (e :: es) X.env = (false, eval e X.env) :: starEach es X.env := by rfl) (hplain : (backTo cpos (starEach es X.env)).any (·.1) = false := by rfl) :
    PE X (.Call (.Attribute o name apos) (e :: es) [] cpos) (tE (eMth F f g)) := peI (pe_bm PySem.F.plainAttrs_list slot hty hm ho ha hbase hfew hline hst hplain) fun σ H Q ⟨env, m, S, d, S', er, sr, e, q⟩ => by
  obtain ⟨dx, S1, e1, e⟩ := bnd_inv e
  split at e
  · rename_i hl
    obtain ⟨ds, S2, e2, e⟩ := bnd_inv e
    refine ⟨env, m, S, dx, S1, er, sr, e1, fun v H1 m1 g1 s1 r1 => ⟨tyV_lst s1 r1 hl, ?_⟩⟩
    refine ⟨env, m1, S1, ds, S2, er.grow g1, s1, e2, fun vs H2 m2 g2 s2 r2 => ?_⟩
    exact hs H2 m2 S2 dx v ds vs d S' Q s2 (Rep.grow g2 _ _ r1) r2 e fun v H' m' g s' r' => q v H' m' (g1.trans (g2.trans g)) s' r'
  · cases e
theorem ee_mth0 {o : Expr} {name : Str} {apos cpos : Pos} {id : String} {r : V → List V → Hp → VK → Prop} {F : D → List D → Sto → Option (D × Sto)} {f : Ex} (slot : Slot "list" name id) (hty : typeOf (.builtin id) = pure (.type "method_descriptor")) (hm : MtR X id r) (hs : OpMS r F)
    (ho : PE X o (tE f)) (hbase : attributeBase o name X.env (eval o X.env) = eval o X.env := by rfl) (hline : (apos.endLine == cpos.line) = true := by rfl) :
    PE X (.Call (.Attribute o name apos) [] [] cpos) (tE (eMth F f aNil)) := peI (pe_bm0 PySem.F.plainAttrs_list slot hty hm ho hbase hline) fun σ H Q ⟨env, m, S, d, S', er, sr, e, q⟩ => by
  obtain ⟨dx, S1, e1, e⟩ := bnd_inv e
  split at e
  · rename_i hl
    refine ⟨env, m, S, dx, S1, er, sr, e1, fun v H1 m1 g1 s1 r1 => ⟨tyV_lst s1 r1 hl, ?_⟩⟩
    exact hs H1 m1 S1 dx v [] [] d S' Q s1 r1 rfl e fun v H' m' g s' r' => q v H' m' (g1.trans g) s' r'
  · cases e
/-- t.count(y), t a tuple -/
def cntD : D → D → Sto → Option (D × Sto)
  | .tup ds, .int i, S => match allInts ds with
    | some l => some (.int (l.count i), S)
    | none => none
  | _, _, _ => none
def tCnt (ta tb : TE) : TE := fun σ H Q => ta σ H fun x H1 => ∃ (a : Addr) (ns : List Int), x = .ref a ∧ TupAt H1 a (ns.map V.int) ∧ tb σ H1 fun y H2 => TupAt H2 a (ns.map V.int) ∧ ∃ i : Int, y = .int i ∧ Q (.int (ns.count i : Nat)) H2
theorem countP_ints : ∀ {its : List Value} {ns : List Int} (i : Int), Vals (ns.map V.int) its → its.countP (eqU (.int i)) = ns.count i
  | its, [], i, r => by cases r; rfl
  | its, n :: ns, i, r => by
    cases r with
    | cons r1 r2 =>
      obtain ⟨t, rfl⟩ := r1
      rw [List.countP_cons, countP_ints i r2, List.count_cons]
      rfl
theorem pe_cnt {o e : Expr} {apos cpos : Pos} {to te : TE} (ho : PE X o to) (ha : PE X e te)
    (hbase : attributeBase o "count" X.env (eval o X.env) = eval o X.env := by rfl)
    (hfew : ((backTo cpos (starEach [e] X.env)).all (fun x => !x.1) && (backToKw cpos (keywordEach [] X.env)).all (fun x => x.1.isSome)
      && decide ([e].length + ([] : List Keyword).length + (if ([] : List Keyword).isEmpty then 0 else 1) < 30)) = true := by rfl)
    (hline : (apos.endLine == cpos.line) = true := by rfl) (hst : starEach [e] X.env = (false, eval e X.env) :: starEach [] X.env := by rfl) (hplain : (backTo cpos (starEach [] X.env)).any (·.1) = false := by rfl) :
    PE X (.Call (.Attribute o "count" apos) [e] [] cpos) (tCnt to te) := by
  have hA'  : PA X [e] (tCons te tNil) := pa_cons ha pa_nil hst
  refine ⟨fun pins s σ H Q I h => ?_⟩
  refine wpAny_Call_method_late hbase hfew hline rfl (thn (ho.run pins s σ H _ I h) fun v s1 ⟨x, H1, I1, r1, a, ns, ex, hT, q1⟩ => ?_)
  subst ex
  cases r1
  obtain ⟨o1, hT1, hd1⟩ := id hT
  obtain ⟨h1, hsz, its, rv, ob, hob, hc, n, hd⟩ : s1.heap.get? a = some o1 ∧ (ns.map V.int).length ≤ sizeLine ∧ ∃ its : List Value, Vals (ns.map V.int) its ∧ IsTup s1.heap a its.toArray := I1.hok a _ hT1
  rw [h1] at hob
  cases hob
  refine ⟨"tuple", "tuple.count", PySem.F.plainAttrs_tuple, PySem.F.slot_tuple_count, PySem.F.type_tuple_count, ⟨o1, h1, hc⟩, fun b eb => ?_, ?_⟩
  · cases eb
    exact ⟨o1, h1, hd1⟩
  have hA := hA'.run cpos pins s1 σ H1 (fun vs H2 => match vs with
    | [y] => TupAt H2 a (ns.map V.int) ∧ ∃ i : Int, y = .int i ∧ Q (.int (ns.count i : Nat)) H2
    | _ => False) I1 q1
  rw [hst] at hA ⊢
  refine Calls.callWith_builtin (by show (false || (backTo cpos (starEach [] X.env)).any (·.1)) = false; rw [hplain] <;> rfl) (Calls.evalArgs_plain ?_)
  refine thn hA fun us s2 ⟨vs, H2, I2, r2, q2⟩ => ?_
  obtain ⟨y, rfl⟩ : ∃ y, vs = [y] := by
    match vs, q2 with
    | [y], _ => exact ⟨y, rfl⟩
  obtain ⟨hT2, i, rfl, q3⟩ := q2
  obtain ⟨u, rfl, t, rfl⟩ := vals1 r2
  obtain ⟨o2, hT3, _⟩ := hT2
  obtain ⟨h2, hsz2, its2, rv2, ob2, hob2, hc2, n2, hd2⟩ : s2.heap.get? a = some o2 ∧ (ns.map V.int).length ≤ sizeLine ∧ ∃ its : List Value, Vals (ns.map V.int) its ∧ IsTup s2.heap a its.toArray := I2.hok a _ hT3
  rw [h2] at hob2
  cases hob2
  obtain ⟨cls, dd, dt, sl⟩ := o2
  simp only at hc2 hd2
  subst hc2 hd2
  refine call_meets PySem.F.slot_tuple_count ⟨_, h2, rfl⟩ PySem.F.entry_tuple_count (PySem.F.args_tuple_count_2 _ _) (SeqAt.tuple_countAt a its2.toArray n2 dd sl (.int i t) (eqU (.int i)))
    ⟨h2, fun w hw => mem_eqAt (x := .int i) ⟨t, rfl⟩ rfl rv2 (by rw [List.all_map]; exact List.all_eq_true.mpr fun _ _ => rfl) w (by simpa using hw), ⟨.int (ns.count i : Nat), H2, I2.tok _, ⟨s2.toks, ?_⟩, q3⟩⟩
  show Value.int ((List.countP (eqU (.int i)) its2 : Nat) : Int) _ = _
  rw [countP_ints i rv2]
theorem ee_cnt {o e : Expr} {apos cpos : Pos} {f g : Ex} (ho : PE X o (tE f)) (ha : PE X e (tE g))
    (hbase : attributeBase o "count" X.env (eval o X.env) = eval o X.env := by rfl)
    (hfew : ((backTo cpos (starEach [e] X.env)).all (fun x => !x.1) && (backToKw cpos (keywordEach [] X.env)).all (fun x => x.1.isSome)
      && decide ([e].length + ([] : List Keyword).length + (if ([] : List Keyword).isEmpty then 0 else 1) < 30)) = true := by rfl)
    (hline : (apos.endLine == cpos.line) = true := by rfl) (hst : starEach [e] X.env = (false, eval e X.env) :: starEach [] X.env := by rfl) (hplain : (backTo cpos (starEach [] X.env)).any (·.1) = false := by rfl) :
    PE X (.Call (.Attribute o "count" apos) [e] [] cpos) (tE (eOp2 cntD f g)) := peI (pe_cnt ho ha hbase hfew hline hst hplain) fun σ H Q ⟨env, m, S, d, S', er, sr, e, q⟩ => by
  obtain ⟨dx, S1, e1, e⟩ := bnd_inv e
  obtain ⟨dy, S2, e2, e⟩ := bnd_inv e
  refine ⟨env, m, S, dx, S1, er, sr, e1, fun v H1 m1 g1 s1 r1 => ?_⟩
  cases dx with
  | tup ds =>
    cases dy with
    | int i =>
      have e' : (match allInts ds with
        | some l => some (D.int (l.count i : Nat), S2)
        | none => none) = some (d, S') := e
      split at e'
      · rename_i l hl
        cases e'
        obtain ⟨a, xs, rfl, h1, hm1, h2⟩ := r1
        rw [allInts_inv hl] at h2
        rw [repL_ints_inv h2] at h1
        refine ⟨a, l, rfl, h1, env, m1, S1, .int i, _, er.grow g1, s1, e2, fun u H2 m2 g2 s2 r2 => ?_⟩
        exact ⟨(g2.tupAt h1 hm1).1, i, r2, q _ _ _ (g1.trans g2) s2 rfl⟩
      · cases e'
    | _ => cases e
  | _ => cases dy <;> cases e
end
end PU

namespace PU
open PySem PySem.Spec PyProof.Rows L2

/-! ### truth -/
def truD : D → Sto → Option Bool
  | .non, _ => some false
  | .bl b, _ => some b
  | .int i, _ => some (i != 0)
  | .str x, _ => if x.length ≤ sizeLine then some ((x.length : Int) != 0) else none
  | .tup ds, _ => some (!ds.isEmpty)
  | .lst ds, _ => some (!ds.isEmpty)
  | .rol ds, _ => some (!ds.isEmpty)
  | .loc n, S => match S[n]? with
    | some (.lst ds) => some (!ds.isEmpty)
    | _ => none
  | .dct _ _, _ => none
theorem isEmpty_rep {H : Hp} {m : Wd} {ds : List D} {xs : List V} (r : RepL H m ds xs) : xs.isEmpty = ds.isEmpty := by
  have := r.len
  cases ds <;> cases xs <;> simp at this ⊢
theorem truV_of {K : PySem.W.Frag} {H : Hp} {m : Wd} {S : Sto} {d : D} {v : V} {b : Bool} (s : StoRel H m S) (r : Rep H m d v) (e : truD d S = some b) : TruV K v H b := by
  cases d with
  | non => cases e; rw [show v = .non from r]; exact rfl
  | bl c => cases e; rw [show v = .bl _ from r]; exact rfl
  | int i => cases e; rw [show v = .int _ from r]; exact rfl
  | str x =>
    have e' : (if x.length ≤ sizeLine then some ((x.length : Int) != 0) else none) = some b := e
    split at e'
    · rename_i h
      cases e'
      rw [show v = .str _ from r]
      exact ⟨h, rfl⟩
    · cases e'
  | tup ds =>
    cases e
    obtain ⟨a, xs, rfl, h1, h2⟩ := tup_rep r
    exact .inr (.inl ⟨xs, sqT_of h1, by rw [isEmpty_rep h2]⟩)
  | lst ds =>
    cases e
    obtain ⟨a, xs, rfl, h1, _, h2⟩ := r
    exact .inl ⟨xs, sqL_of (.inl h1), by rw [isEmpty_rep h2]⟩
  | rol ds =>
    cases e
    obtain ⟨a, xs, rfl, h1, _, h2⟩ := r
    exact .inl ⟨xs, sqL_of h1, by rw [isEmpty_rep h2]⟩
  | loc n =>
    have e' : (match S[n]? with
      | some (.lst ds) => some (!ds.isEmpty)
      | _ => none) = some b := e
    split at e'
    · rename_i ds hn
      cases e'
      obtain ⟨a, xs, rfl, _, h1, h2⟩ := loc_rep s r hn
      exact .inl ⟨xs, sqL_of (.inl h1), by rw [isEmpty_rep h2]⟩
    · cases e'
  | dct _ _ => cases e
section
variable {X : Cx}
/-- a value's truth as a test -/
def bTru (f : Ex) : ExB := fun env S => bnd (f env S) fun d S1 => match truD d S1 with
  | some b => some (b, S1)
  | none => none
theorem tt_truth {e : Expr} {f : Ex} (h : PE X e (tE f)) (he : ∀ whole, isTrue e X.env whole = (do let v ← whole; standAt e.pos; holding [v] (truthy v)) := by intro _; rfl) : PT X e (tT (bTru f)) :=
  ptI (pt_truth h he) fun σ H Q ⟨env, m, S, b, S', er, sr, e, q⟩ => by
    obtain ⟨d, S1, e1, e2⟩ := bnd_inv e
    split at e2
    · rename_i b' e3
      cases e2
      exact ⟨env, m, S, d, _, er, sr, e1, fun v H1 m1 g1 s1 r1 => ⟨_, truV_of s1 r1 e3, q _ _ g1 s1⟩⟩
    · cases e2
/-- .. of an expression whose value is a bool -/
def bBl (f : Ex) : ExB := fun env S => bnd (f env S) fun d S1 => match d with
  | .bl b => some (b, S1)
  | _ => none
theorem bBl_tE {f : Ex} (σ : L2.St) (H : Hp) (Q : Bool → Hp → Prop) (h : tT (bBl f) σ H Q) : tE f σ H fun x H' => ∃ k, x = .bl k ∧ Q k H' := by
  obtain ⟨env, m, S, b, S', er, sr, e, q⟩ := h
  obtain ⟨d, S1, e1, e2⟩ := bnd_inv e
  cases d with
  | bl c =>
    cases e2
    exact ⟨env, m, S, _, _, er, sr, e1, fun v H1 m1 g1 s1 r1 => ⟨_, r1, q _ _ g1 s1⟩⟩
  | _ => cases e2
theorem tt_cmp {a b : Expr} {op : CmpOp} {pos : Pos} {r : R2} {F : D → D → Sto → Option (D × Sto)} {f g : Ex} (ho : OpR X (compareOp op) r) (hs : Op2S r F) (ha : PE X a (tE f)) (hb : PE X b (tE g)) (hm : behindInMarks op b = false) :
    PT X (.Compare a [op] [b] pos) (tT (bBl (eOp2 F f g))) := ptI (pt_cmpR ho ha hb hm) fun σ H Q h => op2_tE hs σ H _ (bBl_tE σ H Q h)
/-- a op b op' c -/
def eChain (F F' : D → D → Sto → Option (D × Sto)) (f g h : Ex) : Ex := fun env S => bnd (f env S) fun x S1 => bnd (g env S1) fun y S2 => bnd (F x y S2) fun z S3 => match z with
  | .bl true => bnd (h env S3) fun w S4 => F' y w S4
  | .bl false => some (.bl false, S3)
  | _ => none
theorem chain_tE {r r' : R2} {F F' : D → D → Sto → Option (D × Sto)} {f g h : Ex} (hs : Op2S r F) (hs' : Op2S r' F') (σ : L2.St) (H : Hp) (Q : VK) (hh : tE (eChain F F' f g h) σ H Q) : tChain r r' (tE f) (tE g) (tE h) σ H Q := by
  obtain ⟨env, m, S, d, S', er, sr, e, q⟩ := hh
  obtain ⟨dx, S1, e1, e⟩ := bnd_inv e
  obtain ⟨dy, S2, e2, e⟩ := bnd_inv e
  obtain ⟨dz, S3, e3, e⟩ := bnd_inv e
  refine ⟨env, m, S, dx, S1, er, sr, e1, fun x H1 m1 g1 s1 r1 => ?_⟩
  refine ⟨env, m1, S1, dy, S2, er.grow g1, s1, e2, fun y H2 m2 g2 s2 r2 => ?_⟩
  refine hs H2 m2 S2 dx dy x y dz S3 _ s2 (Rep.grow g2 _ _ r1) r2 e3 fun v H3 m3 g3 s3 r3 => ?_
  cases dz with
  | bl b =>
    refine ⟨b, r3, ?_⟩
    cases b with
    | true =>
      obtain ⟨dw, S4, e4, e5⟩ := bnd_inv e
      refine iteT ⟨env, m3, S3, dw, S4, ((er.grow g1).grow g2).grow g3, s3, e4, fun u H4 m4 g4 s4 r4 => ?_⟩
      exact hs' H4 m4 S4 dy dw y u d S' Q s4 (Rep.grow (g3.trans g4) _ _ r2) r4 e5 fun v H' m' g s' r' => q v H' m' (g1.trans (g2.trans (g3.trans (g4.trans g)))) s' r'
    | false =>
      cases e
      exact iteF (q _ _ _ (g1.trans (g2.trans g3)) s3 rfl)
  | _ => cases e
theorem ee_chain {a b c : Expr} {op op' : CmpOp} {pos : Pos} {r r' : R2} {F F' : D → D → Sto → Option (D × Sto)} {f g h : Ex} (ho : OpR X (compareOp op) r) (ho' : OpR X (compareOp op') r') (hs : Op2S r F) (hs' : Op2S r' F') (ha : PE X a (tE f)) (hb : PE X b (tE g)) (hc : PE X c (tE h))
    (hm : lastMarks [op, op'] [b, c] = false := by with_unfolding_all rfl) : PE X (.Compare a [op, op'] [b, c] pos) (tE (eChain F F' f g h)) := peI (pe_chain ho ho' ha hb hc hm) (chain_tE hs hs')
theorem tt_chain {a b c : Expr} {op op' : CmpOp} {pos : Pos} {r r' : R2} {F F' : D → D → Sto → Option (D × Sto)} {f g h : Ex} (ho : OpR X (compareOp op) r) (ho' : OpR X (compareOp op') r') (hs : Op2S r F) (hs' : Op2S r' F') (ha : PE X a (tE f)) (hb : PE X b (tE g)) (hc : PE X c (tE h))
    (hm : lastMarks [op, op'] [b, c] = false := by with_unfolding_all rfl) : PT X (.Compare a [op, op'] [b, c] pos) (tT (bBl (eChain F F' f g h))) := ptI (pt_chain ho ho' ha hb hc hm) fun σ H Q hh => chain_tE hs hs' σ H _ (bBl_tE σ H Q hh)
def bNot (f : ExB) : ExB := fun env S => bnd (f env S) fun b S1 => some (!b, S1)
theorem tt_not {a : Expr} {pos : Pos} {f : ExB} (ha : PT X a (tT f)) : PT X (.UnaryOp .Not a pos) (tT (bNot f)) := ptI (pt_not ha) fun σ H Q ⟨env, m, S, b, S', er, sr, e, q⟩ => by
  obtain ⟨c, S1, e1, e2⟩ := bnd_inv e
  cases e2
  exact ⟨env, m, S, c, _, er, sr, e1, fun H1 m1 g1 s1 => q _ _ g1 s1⟩
def bAnd (f g : ExB) : ExB := fun env S => bnd (f env S) fun b S1 => if b = true then g env S1 else some (false, S1)
def bOr (f g : ExB) : ExB := fun env S => bnd (f env S) fun b S1 => if b = true then some (true, S1) else g env S1
theorem tw_one_and {a : Expr} {pos : Pos} {f : ExB} (ha : PT X a (tT f)) : PW X (.BoolOp .And [a] pos) (tT f) := pw_and1 ha
theorem tw_one_or {a : Expr} {pos : Pos} {f : ExB} (ha : PT X a (tT f)) : PW X (.BoolOp .Or [a] pos) (tT f) := pw_or1 ha
theorem tw_and {a b : Expr} {rest : List Expr} {pos : Pos} {f g : ExB} (ha : PT X a (tT f)) (hb : PW X (.BoolOp .And (b :: rest) pos) (tT g)) : PW X (.BoolOp .And (a :: b :: rest) pos) (tT (bAnd f g)) := pwI (pw_and ha hb) fun σ H Q ⟨env, m, S, b, S', er, sr, e, q⟩ => by
  obtain ⟨c, S1, e1, e2⟩ := bnd_inv e
  refine ⟨env, m, S, c, S1, er, sr, e1, fun H1 m1 g1 s1 => ?_⟩
  cases c with
  | true => exact iteT ⟨env, m1, S1, b, S', er.grow g1, s1, e2, fun H2 m2 g2 s2 => q _ _ (g1.trans g2) s2⟩
  | false =>
    cases e2
    exact iteF (q _ _ g1 s1)
theorem tw_or {a b : Expr} {rest : List Expr} {pos : Pos} {f g : ExB} (ha : PT X a (tT f)) (hb : PW X (.BoolOp .Or (b :: rest) pos) (tT g)) : PW X (.BoolOp .Or (a :: b :: rest) pos) (tT (bOr f g)) := pwI (pw_or ha hb) fun σ H Q ⟨env, m, S, b, S', er, sr, e, q⟩ => by
  obtain ⟨c, S1, e1, e2⟩ := bnd_inv e
  refine ⟨env, m, S, c, S1, er, sr, e1, fun H1 m1 g1 s1 => ?_⟩
  cases c with
  | false => exact iteF ⟨env, m1, S1, b, S', er.grow g1, s1, e2, fun H2 m2 g2 s2 => q _ _ (g1.trans g2) s2⟩
  | true =>
    cases e2
    exact iteT (q _ _ g1 s1)
/-- and, or, not as values -/
def eAnd (f g : Ex) : Ex := fun env S => bnd (f env S) fun d S1 => match truD d S1 with
  | some true => g env S1
  | some false => some (d, S1)
  | none => none
def eOr (f g : Ex) : Ex := fun env S => bnd (f env S) fun d S1 => match truD d S1 with
  | some true => some (d, S1)
  | some false => g env S1
  | none => none
theorem ee_one {op : BoolOp} {a : Expr} {pos : Pos} {f : Ex} (ha : PE X a (tE f)) : PE X (.BoolOp op [a] pos) (tE f) := pe_one ha
theorem ee_and {a b : Expr} {rest : List Expr} {pos : Pos} {f g : Ex} (ha : PE X a (tE f)) (hb : PE X (.BoolOp .And (b :: rest) pos) (tE g)) : PE X (.BoolOp .And (a :: b :: rest) pos) (tE (eAnd f g)) := peI (pe_andT ha hb) fun σ H Q ⟨env, m, S, b, S', er, sr, e, q⟩ => by
  obtain ⟨d, S1, e1, e2⟩ := bnd_inv e
  refine ⟨env, m, S, d, S1, er, sr, e1, fun v H1 m1 g1 s1 r1 => ?_⟩
  split at e2
  · rename_i e3
    exact ⟨true, truV_of s1 r1 e3, iteT ⟨env, m1, S1, b, S', er.grow g1, s1, e2, fun w H2 m2 g2 s2 r2 => q _ _ _ (g1.trans g2) s2 r2⟩⟩
  · rename_i e3
    cases e2
    exact ⟨false, truV_of s1 r1 e3, iteF (q _ _ _ g1 s1 r1)⟩
  · cases e2
theorem ee_or {a b : Expr} {rest : List Expr} {pos : Pos} {f g : Ex} (ha : PE X a (tE f)) (hb : PE X (.BoolOp .Or (b :: rest) pos) (tE g)) : PE X (.BoolOp .Or (a :: b :: rest) pos) (tE (eOr f g)) := peI (pe_orT ha hb) fun σ H Q ⟨env, m, S, b, S', er, sr, e, q⟩ => by
  obtain ⟨d, S1, e1, e2⟩ := bnd_inv e
  refine ⟨env, m, S, d, S1, er, sr, e1, fun v H1 m1 g1 s1 r1 => ?_⟩
  split at e2
  · rename_i e3
    cases e2
    exact ⟨true, truV_of s1 r1 e3, iteT (q _ _ _ g1 s1 r1)⟩
  · rename_i e3
    exact ⟨false, truV_of s1 r1 e3, iteF ⟨env, m1, S1, b, S', er.grow g1, s1, e2, fun w H2 m2 g2 s2 r2 => q _ _ _ (g1.trans g2) s2 r2⟩⟩
  · cases e2
def eNot (f : Ex) : Ex := fun env S => bnd (f env S) fun d S1 => match truD d S1 with
  | some b => some (.bl (!b), S1)
  | none => none
theorem ee_not {a : Expr} {pos : Pos} {f : Ex} (ha : PE X a (tE f)) : PE X (.UnaryOp .Not a pos) (tE (eNot f)) := peI (pe_notT ha) fun σ H Q ⟨env, m, S, b, S', er, sr, e, q⟩ => by
  obtain ⟨d, S1, e1, e2⟩ := bnd_inv e
  refine ⟨env, m, S, d, S1, er, sr, e1, fun v H1 m1 g1 s1 r1 => ?_⟩
  split at e2
  · rename_i c e3
    cases e2
    exact ⟨c, truV_of s1 r1 e3, q _ _ _ g1 s1 rfl⟩
  · cases e2
def eIf (c : ExB) (f g : Ex) : Ex := fun env S => bnd (c env S) fun b S1 => if b = true then f env S1 else g env S1
theorem ee_if {c a b : Expr} {pos : Pos} {h : ExB} {f g : Ex} (hc : PT X c (tT h)) (ha : PE X a (tE f)) (hb : PE X b (tE g)) : PE X (.IfExp c a b pos) (tE (eIf h f g)) := peI (pe_ifExp hc ha hb) fun σ H Q ⟨env, m, S, d, S', er, sr, e, q⟩ => by
  obtain ⟨k, S1, e1, e2⟩ := bnd_inv e
  refine ⟨env, m, S, k, S1, er, sr, e1, fun H1 m1 g1 s1 => ?_⟩
  cases k with
  | true => exact iteT ⟨env, m1, S1, d, S', er.grow g1, s1, e2, fun w H2 m2 g2 s2 r2 => q _ _ _ (g1.trans g2) s2 r2⟩
  | false => exact iteF ⟨env, m1, S1, d, S', er.grow g1, s1, e2, fun w H2 m2 g2 s2 r2 => q _ _ _ (g1.trans g2) s2 r2⟩
/-- a == [], a != []: nothing is left in the store -/
def nilD (neg : Bool) : D → Sto → Option (D × Sto) := fun d S => match toPS d S with
  | some p => if SeqAt.shaped p = true then some (.bl (xor neg (PyData.eqv p (.list []))), S) else none
  | none => none
theorem nil_tE {K : PySem.W.Frag} {f : Ex} (neg : Bool) (r : R2) (hr : r = if neg then rNeD K else rEqD K) (σ : L2.St) (H : Hp) (Q : VK) (h : tE (eOp1 (nilD neg) f) σ H Q) : tOp r (tE f) (tLst tNil) σ H Q := by
  subst hr
  obtain ⟨env, m, S, d, S', er, sr, e, q⟩ := h
  obtain ⟨dx, S1, e1, e2⟩ := bnd_inv e
  refine ⟨env, m, S, dx, S1, er, sr, e1, fun v H1 m1 g1 s1 r1 => ⟨Nat.zero_le _, fun p hp => ?_⟩⟩
  have g2 := Grow.upd (m := m1) (o := .lst []) hp
  unfold nilD at e2
  split at e2
  · rename_i pd e3
    split at e2
    · rename_i hsh
      cases e2
      have hd := dpS_of (K := K) (s1.upd hp) (Rep.grow g2 _ _ r1) e3
      have hn : Dp K (upd H1 p (.lst [])) (.ref p) (.list []) := .lst (sqL_of (.inl upd_same)) .nil
      cases neg with
      | true => exact ⟨pd, .list [], hd, hn, hsh, by decide, by simpa using q _ _ _ (g1.trans g2) (s1.upd hp) rfl⟩
      | false => exact ⟨pd, .list [], hd, hn, hsh, by decide, by simpa using q _ _ _ (g1.trans g2) (s1.upd hp) rfl⟩
    · cases e2
  · cases e2
theorem ee_eqNil {a : Expr} {pos p2 : Pos} {f : Ex} (hu : X.A.units + 64 < cLine) (ha : PE X a (tE f)) (hm : behindInMarks .Eq (.List [] p2) = false := by rfl) : PE X (.Compare a [.Eq] [.List [] p2] pos) (tE (eOp1 (nilD false) f)) :=
  peI (pe_cmpR (op_eqD hu) ha (pe_lst pa_nil) hm) (nil_tE false _ rfl)
theorem ee_neNil {a : Expr} {pos p2 : Pos} {f : Ex} (hu : X.A.units + 64 < cLine) (ha : PE X a (tE f)) (hm : behindInMarks .NotEq (.List [] p2) = false := by rfl) : PE X (.Compare a [.NotEq] [.List [] p2] pos) (tE (eOp1 (nilD true) f)) :=
  peI (pe_cmpR (op_neD hu) ha (pe_lst pa_nil) hm) (nil_tE true _ rfl)
theorem tt_eqNil {a : Expr} {pos p2 : Pos} {f : Ex} (hu : X.A.units + 64 < cLine) (ha : PE X a (tE f)) (hm : behindInMarks .Eq (.List [] p2) = false := by rfl) : PT X (.Compare a [.Eq] [.List [] p2] pos) (tT (bBl (eOp1 (nilD false) f))) :=
  ptI (pt_cmpR (op_eqD hu) ha (pe_lst pa_nil) hm) fun σ H Q h => nil_tE false _ rfl σ H _ (bBl_tE σ H Q h)
theorem tt_neNil {a : Expr} {pos p2 : Pos} {f : Ex} (hu : X.A.units + 64 < cLine) (ha : PE X a (tE f)) (hm : behindInMarks .NotEq (.List [] p2) = false := by rfl) : PT X (.Compare a [.NotEq] [.List [] p2] pos) (tT (bBl (eOp1 (nilD true) f))) :=
  ptI (pt_cmpR (op_neD hu) ha (pe_lst pa_nil) hm) fun σ H Q h => nil_tE true _ rfl σ H _ (bBl_tE σ H Q h)

/-! ### targets -/
def gNm (i : Nat) : ExT := fun d env S => some (env.set i (some d), S)
theorem gg_name {e : Expr} {i : Nat} (h : PG X e (gName i)) : PG X e (tG (gNm i)) := pgI h fun v σ H Q ⟨env, m, S, d, env', S', er, sr, rv, e, q⟩ => by
  cases e
  exact q _ _ _ Grow.refl sr (er.set i rv)
abbrev ExTs := List D → En → Sto → Option (En × Sto)
def tGs (f : ExTs) : TGs := fun vs σ H Q => ∃ env m S ds env' S', EnvRel H m env σ ∧ StoRel H m S ∧ RepL H m ds vs ∧ f ds env S = some (env', S') ∧
  ∀ σ' H' m', Grow H m H' m' → StoRel H' m' S' → EnvRel H' m' env' σ' → Q σ' H'
theorem pgsI {e : List Expr} {t t' : TGs} (h : PGs X e t) (i : ∀ v σ H Q, t' v σ H Q → t v σ H Q) : PGs X e t' := ⟨fun pins s σ H v u Q I r q => h.run pins s σ H v u Q I r (i v σ H Q q)⟩
def gsNil : ExTs := fun ds env S => match ds with
  | [] => some (env, S)
  | _ => none
def gsCons (f : ExT) (g : ExTs) : ExTs := fun ds env S => match ds with
  | d :: ds => bnd (f d env S) fun env' S1 => g ds env' S1
  | _ => none
theorem ggs_nil : PGs X [] (tGs gsNil) := pgsI pgs_nil fun v σ H Q ⟨env, m, S, ds, env', S', er, sr, rv, e, q⟩ => by
  cases ds with
  | nil =>
    cases e
    exact ⟨rv, q _ _ _ Grow.refl sr er⟩
  | cons _ _ => cases e
theorem ggs_cons {e : Expr} {es : List Expr} {f : ExT} {g : ExTs} (h1 : PG X e (tG f)) (h2 : PGs X es (tGs g)) (hs : (assignEach (e :: es) X.env).map (·.2) = assign e X.env :: (assignEach es X.env).map (·.2) := by rfl) : PGs X (e :: es) (tGs (gsCons f g)) :=
  pgsI (pgs_cons h1 h2 hs) fun v σ H Q ⟨env, m, S, ds, env', S', er, sr, rv, e, q⟩ => by
    cases ds with
    | nil => cases e
    | cons d ds =>
      obtain ⟨x, xs, rfl, h1, h2⟩ := rv
      obtain ⟨env1, S1, e1, e2⟩ := bnd_inv (show bnd (f d env S) (fun env' S1 => g ds env' S1) = some (env', S') from e)
      refine ⟨x, xs, rfl, env, m, S, d, env1, S1, er, sr, h1, e1, fun σ1 H1 m1 g1 s1 er1 => ?_⟩
      exact ⟨env1, m1, S1, ds, env', S', er1, s1, RepL.grow g1 _ _ h2, e2, fun σ2 H2 m2 g2 s2 er2 => q _ _ _ (g1.trans g2) s2 er2⟩
def gTp (n : Nat) (g : ExTs) : ExT := fun d env S => match d with
  | .tup ds => if ds.length = n then g ds env S else none
  | _ => none
theorem gg_tup {es : List Expr} {k n : Nat} {pos : Pos} {g : ExTs} (hc : X.calm = true) (h : PGs X es (tGs g)) (hn : (assignEach es X.env).length = n := by rfl) (hst : (assignEach es X.env).findIdx? (·.1) = none := by rfl) : PG X (.Tuple es k pos) (tG (gTp n g)) :=
  pgI (pg_tup hc h hn hst) fun v σ H Q ⟨env, m, S, d, env', S', er, sr, rv, e, q⟩ => by
    cases d with
    | tup ds =>
      have e' : (if ds.length = n then g ds env S else none) = some (env', S') := e
      split at e'
      · rename_i hl
        obtain ⟨a, xs, rfl, h1, h2⟩ := tup_rep rv
        exact ⟨a, xs, rfl, sqT_of h1, by rw [h2.len]; exact hl, env, m, S, ds, env', S', er, sr, h2, e', q⟩
      · cases e'
    | _ => cases e
/-- o[i] = e, o a list -/
def gIx (f g : Ex) : ExT := fun d env S => bnd (f env S) fun o S1 => bnd (g env S1) fun i S2 => match o, i with
  | .loc n, .int k => match S2[n]? with
    | some (.lst ds) => match ixN ds.length k with
      | some j => some (env, S2.set n (.lst (ds.set j d)))
      | none => none
    | _ => none
  | _, _ => none
theorem gg_ix {o i : Expr} {pos : Pos} {f g : Ex} (ho : PE X o (tE f)) (hi : PE X i (tE g)) (ha : ∀ v, assign (.Subscript o i pos) X.env v = (do
      let ov ← holding [v] (eval o X.env)
      let iv ← holding [v, ov] (eval i X.env)
      standAt pos
      holding [v, ov, iv] (setItem ov iv v)
      release [v, ov, iv] []) := by intro _; rfl) : PG X (.Subscript o i pos) (tG (gIx f g)) := pgI (pg_sub ho hi set_list ha) fun v σ H Q ⟨env, m, S, d, env', S', er, sr, rv, e, q⟩ => by
  obtain ⟨dx, S1, e1, e⟩ := bnd_inv e
  obtain ⟨dy, S2, e2, e⟩ := bnd_inv e
  refine ⟨env, m, S, dx, S1, er, sr, e1, fun x H1 m1 g1 s1 r1 => ?_⟩
  refine ⟨env, m1, S1, dy, S2, er.grow g1, s1, e2, fun y H2 m2 g2 s2 r2 => ?_⟩
  cases dx with
  | loc n => cases dy with
    | int k =>
      have e' : (match S2[n]? with
        | some (.lst ds) => match ixN ds.length k with
          | some j => some (env, S2.set n (.lst (ds.set j d)))
          | none => none
        | _ => none) = some (env', S') := e
      split at e'
      · rename_i ds hn
        split at e'
        · rename_i j hj
          cases e'
          obtain ⟨a, xs, rfl, h1, h2, h3⟩ := loc_rep s2 (Rep.grow g2 _ _ r1) hn
          have hm := List.mem_of_getElem? h1
          refine ⟨a, xs, k, j, rfl, r2, h2, by rw [h3.len]; exact hj, ?_⟩
          have gw := Grow.write (m := m2) (H := H2) (o := .lst (xs.set j v)) hm
          exact q _ _ _ (g1.trans (g2.trans gw)) (s2.write h1 (h3.set j (Rep.grow (g1.trans g2) _ _ rv))) (((er.grow g1).grow g2).grow gw)
        · cases e'
      · cases e'
    | _ => cases e
  | _ => cases dy <;> cases e

/-! ### statements -/
def sNext : ExS := fun env S => some (.nx env, S)
def sSeq (f g : ExS) : ExS := fun env S => bnd (f env S) fun r S1 => match r with
  | .nx env' => g env' S1
  | r => some (r, S1)
theorem ss_nil : PSs X [] (tS sNext) := pssI pss_nil fun Dn σ H ⟨env, m, S, r, S', er, sr, e, q⟩ => by
  cases e
  exact q _ _ Grow.refl sr _ er
theorem ss_cons {st : Stmt} {rest : List Stmt} {f g : ExS} (h1 : PS X st (tS f)) (h2 : PSs X rest (tS g)) : PSs X (st :: rest) (tS (sSeq f g)) := pssI (pss_cons h1 h2) fun Dn σ H ⟨env, m, S, r, S', er, sr, e, q⟩ => by
  obtain ⟨r1, S1, e1, e2⟩ := bnd_inv e
  refine ⟨env, m, S, r1, S1, er, sr, e1, fun H1 m1 g1 s1 => ?_⟩
  cases r1 with
  | nx env1 => exact fun σ1 er1 => ⟨env1, m1, S1, r, S', er1, s1, e2, fun H2 m2 g2 s2 => q _ _ (g1.trans g2) s2⟩
  | bk env1 =>
    cases e2
    exact q _ _ g1 s1
  | ct env1 =>
    cases e2
    exact q _ _ g1 s1
  | rt d =>
    cases e2
    exact q _ _ g1 s1
theorem ss_one {st : Stmt} {f : ExS} (h1 : PS X st (tS f)) : PSs X [st] (tS f) := pss_one h1
theorem ss_pass {pos : Pos} : PS X (.Pass pos) (tS sNext) := psI ps_pass fun Dn σ H ⟨env, m, S, r, S', er, sr, e, q⟩ => by
  cases e
  exact q _ _ Grow.refl sr _ er
def sBreak : ExS := fun env S => some (.bk env, S)
def sCont : ExS := fun env S => some (.ct env, S)
theorem ss_break {pos : Pos} : PS X (.Break pos) (tS sBreak) := psI ps_break fun Dn σ H ⟨env, m, S, r, S', er, sr, e, q⟩ => by
  cases e
  exact q _ _ Grow.refl sr _ er
theorem ss_cont {pos : Pos} : PS X (.Continue pos) (tS sCont) := psI ps_continue fun Dn σ H ⟨env, m, S, r, S', er, sr, e, q⟩ => by
  cases e
  exact q _ _ Grow.refl sr _ er
/-- never come to -/
def sFail : ExS := fun _ _ => none
theorem ss_fail {st : Stmt} : PS X st (tS sFail) := psI ps_never fun Dn σ H ⟨env, m, S, r, S', er, sr, e, q⟩ => by cases e
def sExpr (f : Ex) : ExS := fun env S => bnd (f env S) fun _ S1 => some (.nx env, S1)
theorem ss_expr {e : Expr} {pos : Pos} {f : Ex} (he : PE X e (tE f)) (hs : swapsWith e none pos.line X.env = pure false := by rfl) : PS X (.Expr e pos) (tS (sExpr f)) := psI (ps_expr he hs) fun Dn σ H ⟨env, m, S, r, S', er, sr, e, q⟩ => by
  obtain ⟨d, S1, e1, e2⟩ := bnd_inv e
  cases e2
  exact ⟨env, m, S, d, _, er, sr, e1, fun v H1 m1 g1 s1 r1 => q _ _ g1 s1 _ (er.grow g1)⟩
def sRet (f : Ex) : ExS := fun env S => bnd (f env S) fun d S1 => some (.rt d, S1)
theorem ss_ret {e : Expr} {pos : Pos} {f : Ex} (he : PE X e (tE f)) : PS X (.Return (some e) pos) (tS (sRet f)) := psI (ps_ret he) fun Dn σ H ⟨env, m, S, r, S', er, sr, e, q⟩ => by
  obtain ⟨d, S1, e1, e2⟩ := bnd_inv e
  cases e2
  exact ⟨env, m, S, d, _, er, sr, e1, fun v H1 m1 g1 s1 r1 => q _ _ g1 s1 _ r1⟩
theorem ss_retN {pos : Pos} : PS X (.Return none pos) (tS fun _ S => some (.rt .non, S)) := psI ps_retN fun Dn σ H ⟨env, m, S, r, S', er, sr, e, q⟩ => by
  cases e
  exact q _ _ Grow.refl sr _ rfl
def sIf (c : ExB) (f g : ExS) : ExS := fun env S => bnd (c env S) fun b S1 => if b = true then f env S1 else g env S1
theorem ss_if {c : Expr} {a b : List Stmt} {pos : Pos} {h : ExB} {f g : ExS} (hc : PT X c (tT h)) (ha : PSs X a (tS f)) (hb : PSs X b (tS g)) : PS X (.If c a b pos) (tS (sIf h f g)) := psI (ps_if hc ha hb) fun Dn σ H ⟨env, m, S, r, S', er, sr, e, q⟩ => by
  obtain ⟨k, S1, e1, e2⟩ := bnd_inv e
  refine ⟨env, m, S, k, S1, er, sr, e1, fun H1 m1 g1 s1 => ?_⟩
  cases k with
  | true => exact iteT ⟨env, m1, S1, r, S', er.grow g1, s1, e2, fun H2 m2 g2 s2 => q _ _ (g1.trans g2) s2⟩
  | false => exact iteF ⟨env, m1, S1, r, S', er.grow g1, s1, e2, fun H2 m2 g2 s2 => q _ _ (g1.trans g2) s2⟩
/-- target = e -/
def sAsg (f : Ex) (g : ExT) : ExS := fun env S => bnd (f env S) fun d S1 => bnd (g d env S1) fun env' S2 => some (.nx env', S2)
theorem asg_tS {f : Ex} {g : ExT} (Dn : Ends) (σ : L2.St) (H : Hp) (h : tS (sAsg f g) Dn σ H) : tAsg (tE f) (tG g) Dn σ H := by
  obtain ⟨env, m, S, r, S', er, sr, e, q⟩ := h
  obtain ⟨d, S1, e1, e⟩ := bnd_inv e
  obtain ⟨env2, S2, e2, e⟩ := bnd_inv e
  cases e
  refine ⟨env, m, S, d, S1, er, sr, e1, fun v H1 m1 g1 s1 r1 => ?_⟩
  exact ⟨env, m1, S1, d, env2, _, er.grow g1, s1, r1, e2, fun σ2 H2 m2 g2 s2 er2 => q _ _ (g1.trans g2) s2 _ er2⟩
theorem ss_asg {tg e : Expr} {pos : Pos} {f : Ex} {g : ExT} (he : PE X e (tE f)) (hg : PG X tg (tG g)) (hs : swapsWithSole [tg] e pos.line X.env = pure false := by rfl) (hw : swappedStores [tg] e X.env = pure none := by rfl)
    (h1 : (assignEach [tg] X.env).map (·.2) = [assign tg X.env] := by rfl) : PS X (.Assign [tg] e pos) (tS (sAsg f g)) := psI (ps_asg he hg hs hw h1) asg_tS
theorem ss_set {i : Nat} {x : Str} {e : Expr} {pos' pos : Pos} {f : Ex} (hN : X.N.Nodup) (hi : X.N[i]? = some x) (hx : Loc X.env.scope x) (he : PE X e (tE f)) (hs : swapsWith e (some (.Name x pos')) pos.line X.env = pure false := by rfl) (hf : X.fn x = true ∨ X.env.scope.names.lookup x = some .local := by first | exact .inl rfl | exact .inr rfl | assumption) :
    PS X (.Assign [.Name x pos'] e pos) (tS (sAsg f (gNm i))) := psI (ps_set hN hi hx he hs hf) fun Dn σ H ⟨env, m, S, r, S', er, sr, e, q⟩ => by
  obtain ⟨d, S1, e1, e⟩ := bnd_inv e
  obtain ⟨env2, S2, e2, e⟩ := bnd_inv e
  cases e
  cases e2
  exact ⟨env, m, S, d, _, er, sr, e1, fun v H1 m1 g1 s1 r1 => q _ _ g1 s1 _ ((er.grow g1).set i r1)⟩
/-- a, b = e1, e2 -/
def sPar (i j : Nat) (f : ExL) : ExS := fun env S => bnd (f env S) fun ds S1 => match ds with
  | [d, d2] => some (.nx ((env.set i (some d)).set j (some d2)), S1)
  | _ => none
theorem ss_par {i j : Nat} {x y : Str} {a b : Expr} {f : ExL} {px py pt pos : Pos} {kt k2 pt2} (hc : X.calm = true) (hN : X.N.Nodup) (hi : X.N[i]? = some x) (hj : X.N[j]? = some y) (hij : i ≠ j)
    (hx : X.env.scope.names.lookup x = some .local) (hy : X.env.scope.names.lookup y = some .local) (ha : PA X [a, b] (tA f))
    (hw : swappedStores [.Tuple [.Name x px, .Name y py] kt pt] (.Tuple [a, b] k2 pt2) X.env = pure (some [x, y]))
    (hs : swapsWithSole [.Tuple [.Name x px, .Name y py] kt pt] (.Tuple [a, b] k2 pt2) pos.line X.env = pure false := by rfl) :
    PS X (.Assign [.Tuple [.Name x px, .Name y py] kt pt] (.Tuple [a, b] k2 pt2) pos) (tS (sPar i j f)) := psI (ps_par hc hN hi hj hij hx hy ha hw hs) fun Dn σ H ⟨env, m, S, r, S', er, sr, e, q⟩ => by
  obtain ⟨ds, S1, e1, e⟩ := bnd_inv e
  match ds, e with
  | [d, d2], e =>
    cases e
    refine ⟨env, m, S, [d, d2], _, er, sr, e1, fun vs H1 m1 g1 s1 r1 => ?_⟩
    obtain ⟨v, w, rfl, h1, h2⟩ := rep2 r1
    exact ⟨v, w, rfl, q _ _ g1 s1 _ (((er.grow g1).set i h1).set j h2)⟩
/-- name op= e -/
def sAug (i : Nat) (f : Ex) (F : D → D → Sto → Option (D × Sto)) : ExS := fun env S => match env[i]? with
  | some (some x) => bnd (f env S) fun y S1 => bnd (F x y S1) fun z S2 => some (.nx (env.set i (some z)), S2)
  | _ => none
def ipR (X : Cx) (op : Operator) (r : R2) (h : OpR X (inplaceOp op) r) : PIp X op r := fun pins s σ H x y v u Q I r1 r2 q => h pins s σ H x y v u Q I r1 r2 q
theorem ss_aug {i : Nat} {x : Str} {e : Expr} {f : Ex} {F : D → D → Sto → Option (D × Sto)} {r : R2} {op : Operator} {pos' pos : Pos} (ho : OpR X (inplaceOp op) r) (hs : Op2S r F) (hN : X.N.Nodup) (hi : X.N[i]? = some x) (hx : Loc X.env.scope x) (he : PE X e (tE f)) (hf : X.fn x = true ∨ X.env.scope.names.lookup x = some .local := by first | exact .inl rfl | exact .inr rfl | assumption) :
    PS X (.AugAssign (.Name x pos') op e pos) (tS (sAug i f F)) := psI (ps_aug hN hi hx he (ipR X op r ho) hf) fun Dn σ H ⟨env, m, S, r, S', er, sr, e, q⟩ => by
  unfold sAug at e
  split at e
  · rename_i dx hx
    obtain ⟨dy, S1, e1, e⟩ := bnd_inv e
    obtain ⟨dz, S2, e2, e⟩ := bnd_inv e
    cases e
    obtain ⟨v, hv, rv⟩ := er.val i _ hx
    refine ⟨v, hv, env, m, S, dy, S1, er, sr, e1, fun w H1 m1 g1 s1 r1 => ?_⟩
    exact hs H1 m1 S1 dx dy v w dz _ _ s1 (Rep.grow g1 _ _ rv) r1 e2 fun z H2 m2 g2 s2 r2 => q _ _ (g1.trans g2) s2 _ (((er.grow g1).grow g2).set i r2)
  · cases e
end
end PU

namespace PU
open PySem PySem.Spec PyProof.Rows L2 RZ

/-! ### what is walked -/
structure Src where
  items : List D
  g : Option Nat
def okS (c : Src) (S : Sto) : Prop := ∀ n, c.g = some n → S[n]? = some (.lst c.items)
abbrev YT := Hp → Wd → D → V → Prop
/-- an item that is a tuple just made for the loop's target -/
def YZ : YT := fun H m d v => ∃ ds a xs, d = .tup ds ∧ v = .ref a ∧ Rd H a (.tup xs) ∧ RepL H m ds xs
structure IsIt (Y : YT) (J : It) (H : Hp) (m : Wd) (c : Src) : Prop where
  item : ∀ H1 m1 S1 i d, Grow H m H1 m1 → StoRel H1 m1 S1 → okS c S1 → c.items[i]? = some d → J.go i H1 ∧ ∀ x H2, J.yld i H1 x H2 → Grow H1 m1 H2 m1 ∧ StoRel H2 m1 S1 ∧ Y H2 m1 d x
  stop : ∀ H1 m1 S1, Grow H m H1 m1 → StoRel H1 m1 S1 → okS c S1 → J.stop c.items.length H1
abbrev ExI := En → Sto → Option (Src × Sto)
def tI (Y : YT) (it : ExI) : TI := fun σ H R => ∃ env m S c S', EnvRel H m env σ ∧ StoRel H m S ∧ it env S = some (c, S') ∧
  ∀ J H' m', Grow H m H' m' → StoRel H' m' S' → IsIt Y J H' m' c → R J H'
/-- a target that stores at the places vs alone -/
def tGY (vs : List Nat) (Y : YT) (f : ExT) : TG := fun v σ H Q => ∃ env m S d env' S', EnvRel H m env σ ∧ StoRel H m S ∧ Y H m d v ∧ f d env S = some (env', S') ∧
  ∀ σ' H' m', Grow H m H' m' → StoRel H' m' S' → EnvRel H' m' env' σ' → L2.wipe σ' vs = L2.wipe σ vs → Q σ' H'
open Classical in
noncomputable def loopF (c : Src) (g : ExT) (b : ExS) : List D → ExS
  | [] => fun env S => if okS c S then some (.nx env, S) else none
  | d :: ds => fun env S => if okS c S then bnd (g d env S) fun env1 S1 => bnd (b env1 S1) fun r S2 => match r with
    | .nx e => loopF c g b ds e S2
    | .ct e => loopF c g b ds e S2
    | .bk e => some (.nx e, S2)
    | .rt v => some (.rt v, S2) else none
noncomputable def sFor (it : ExI) (g : ExT) (b : ExS) : ExS := fun env S => bnd (it env S) fun c S1 => loopF c g b c.items env S1
section
variable {X : Cx}
theorem piI {tg e : Expr} {t t' : TI} (h : PI X tg e t) (i : ∀ σ H Q, t' σ H Q → t σ H Q) : PI X tg e t' := ⟨fun pins s σ H Q I q => h.run pins s σ H Q I (i σ H Q q)⟩
theorem ss_for {tg iter : Expr} {body : List Stmt} {pos : Pos} {Y : YT} {vs : List Nat} {it : ExI} {g : ExT} {b : ExS} (hp : PassesOwn (model X.prog X.w) X.A X.env X.xe) (hc : X.calm = true) (hi : PI X tg iter (tI Y it)) (hg : PG X tg (tGY vs Y g)) (hb : PSs X body (tS b))
    (hs : ∀ x, foldedSetIterable iter X.env x = pure x := by intro _; rfl) : PS X (.For tg iter body [] pos) (tS (sFor it g b)) := psI (ps_for hp hc hi hg hb hs) fun Dn σ H ⟨env, m, S, r, S', er, sr, e, q⟩ => by
  obtain ⟨c, S1, e1, e2⟩ := bnd_inv e
  refine ⟨env, m, S, c, S1, er, sr, e1, fun J H1 m1 g1 s1 isit => ?_⟩
  refine ⟨fun i n σ H => ∃ env m S, n = c.items.length - i ∧ i ≤ c.items.length ∧ Grow H1 m1 H m ∧ EnvRel H m env σ ∧ StoRel H m S ∧ loopF c g b (c.items.drop i) env S = some (r, S'), ⟨c.items.length, env, m1, S1, by simp, Nat.zero_le _, Grow.refl, er.grow g1, s1, e2⟩, ?_⟩
  rintro i n σ2 H2 ⟨env2, m2, S2, hn, hi, g2, er2, s2, e3⟩
  by_cases hlt : i < c.items.length
  · have hd : c.items.drop i = c.items[i] :: c.items.drop (i + 1) := (List.drop_eq_getElem_cons hlt)
    rw [hd] at e3
    unfold loopF at e3
    split at e3
    · rename_i hok
      obtain ⟨env3, S3, e4, e3⟩ := bnd_inv e3
      obtain ⟨fl, S4, e5, e3⟩ := bnd_inv e3
      obtain ⟨hgo, hy⟩ := isit.item H2 m2 S2 i _ g2 s2 hok (List.getElem?_eq_getElem hlt)
      refine .inr ⟨hgo, fun σ H => ∃ env m S, Grow H1 m1 H m ∧ EnvRel H m env σ ∧ StoRel H m S ∧ loopF c g b (c.items.drop (i + 1)) env S = some (r, S'), fun σ' H' hN => ?_, fun x H3 y => ?_⟩
      · obtain ⟨env', m', S', h1, h2, h3, h4⟩ := hN
        exact ⟨c.items.length - (i + 1), by omega, env', m', S', rfl, hlt, h1, h2, h3, h4⟩
      · obtain ⟨gy, sy, yy⟩ := hy x H3 y
        refine ⟨env2, m2, S2, _, env3, S3, er2.grow gy, sy, yy, e4, fun σ4 H4 m4 g4 s4 er4 _ => ?_⟩
        refine ⟨env3, m4, S3, fl, S4, er4, s4, e5, fun H5 m5 g5 s5 => ?_⟩
        have gt := g2.trans (gy.trans (g4.trans g5))
        cases fl with
        | nx ee => exact fun σ6 er6 => ⟨ee, m5, S4, gt, er6, s5, e3⟩
        | ct ee => exact fun σ6 er6 => ⟨ee, m5, S4, gt, er6, s5, e3⟩
        | bk ee =>
          cases e3
          exact fun σ6 er6 => q _ _ (g1.trans gt) s5 σ6 er6
        | rt v =>
          cases e3
          exact fun w rw' => q _ _ (g1.trans gt) s5 w rw'
    · cases e3
  · have hi' : i = c.items.length := by omega
    subst hi'
    rw [List.drop_length] at e3
    unfold loopF at e3
    split at e3
    · rename_i hok
      cases e3
      exact .inl ⟨isit.stop H2 m2 _ g2 s2 hok, q _ _ (g1.trans g2) s2 σ2 er2⟩
    · cases e3
/-! ### sources -/
/-- a tuple, a list -/
def iSeq (f : Ex) : ExI := fun env S => bnd (f env S) fun d S1 => match d with
  | .tup ds => some (⟨ds, none⟩, S1)
  | .lst ds => some (⟨ds, none⟩, S1)
  | .rol ds => some (⟨ds, none⟩, S1)
  | .loc n => match S1[n]? with
    | some (.lst ds) => some (⟨ds, some n⟩, S1)
    | _ => none
  | _ => none
theorem isIt_list {K : PySem.W.Frag} {H : Hp} {m : Wd} {a : Addr} {ds : List D} {xs : List V} (h : Rd H a (.lst xs)) (ho : m.out a) (r : RepL H m ds xs) : IsIt Rep (Itl K a) H m ⟨ds, none⟩ where
  item := fun H1 m1 S1 i d g s _ e => by
    obtain ⟨v, hv, rv⟩ := r.get e
    have h1 := (g.rd h ho).1
    refine ⟨⟨xs, v, sqL_of h1, hv⟩, fun x H2 y => ?_⟩
    obtain ⟨rfl, y⟩ := y
    have := (y xs (sqL_of h1)).symm.trans hv
    cases this
    exact ⟨Grow.refl, s, Rep.grow g _ _ rv⟩
  stop := fun H1 m1 S1 g s _ => ⟨xs, sqL_of (g.rd h ho).1, by rw [r.len]; exact Nat.le_refl _⟩
theorem isIt_tup {K : PySem.W.Frag} {H : Hp} {m : Wd} {a : Addr} {ds : List D} {xs : List V} (h : Rd H a (.tup xs)) (ho : m.out a) (r : RepL H m ds xs) : IsIt Rep (Itt K a) H m ⟨ds, none⟩ where
  item := fun H1 m1 S1 i d g s _ e => by
    obtain ⟨v, hv, rv⟩ := r.get e
    have h1 : SqT K H1 a xs := .inl (g.rd h ho).1
    refine ⟨⟨xs, v, h1, hv⟩, fun x H2 y => ?_⟩
    obtain ⟨rfl, y⟩ := y
    have := (y xs h1).symm.trans hv
    cases this
    exact ⟨Grow.refl, s, Rep.grow g _ _ rv⟩
  stop := fun H1 m1 S1 g s _ => ⟨xs, .inl (g.rd h ho).1, by rw [r.len]; exact Nat.le_refl _⟩
theorem isIt_loc {K : PySem.W.Frag} {H : Hp} {m : Wd} {a : Addr} {n : Nat} {ds : List D} (h : m.m[n]? = some a) : IsIt Rep (Itl K a) H m ⟨ds, some n⟩ where
  item := fun H1 m1 S1 i d g s ok e => by
    have hn := ok n rfl
    have ha := g.ix h
    obtain ⟨xs, h1, r⟩ := s.obj n _ a hn ha
    obtain ⟨v, hv, rv⟩ := r.get e
    refine ⟨⟨xs, v, sqL_of (.inl h1), hv⟩, fun x H2 y => ?_⟩
    obtain ⟨rfl, y⟩ := y
    have := (y xs (sqL_of (.inl h1))).symm.trans hv
    cases this
    exact ⟨Grow.refl, s, rv⟩
  stop := fun H1 m1 S1 g s ok => by
    have hn := ok n rfl
    have ha := g.ix h
    obtain ⟨xs, h1, r⟩ := s.obj n _ a hn ha
    exact ⟨xs, sqL_of (.inl h1), by rw [r.len]; exact Nat.le_refl _⟩
/-- whatever walks a list or a tuple -/
def iAny (K : PySem.W.Frag) (t : TE) : TI := fun σ H R => t σ H fun x H1 => ∃ a, x = .ref a ∧ (((∃ xs, SqL K H1 a xs) ∧ R (Itl K a) H1) ∨ ((∃ xs, SqT K H1 a xs) ∧ R (Itt K a) H1))
theorem pi_any {tg l : Expr} {tl : TE} (hl : PE X l tl) : PI X tg l (iAny X.K tl) := by
  refine ⟨fun pins s σ H R I h => ?_⟩
  refine thn (hl.run pins s σ H _ I h) fun v s1 ⟨x, H1, I1, r1, q1⟩ => ?_
  obtain ⟨a, e, q⟩ := q1
  subst e
  cases r1
  rcases q with ⟨⟨xs, hq⟩, q⟩ | ⟨⟨xs, hq⟩, q⟩
  · obtain ⟨its, rv, p, hz⟩ := I1.list hq
    refine wpAny_pyIter_list p.isList ?_
    refine ⟨s1.heap.objs.size, [s1.heap.objs.size], _, _, H1, rfl, I1.kept (t' := s1.toks) fun b o e => Heap.get?_push_of_some _ e, turn_list a _, ⟨_, Heap.get?_push_size _ rfl, rfl, rfl⟩, fun b hb => ?_, q⟩
    have e : b = s1.heap.objs.size := by simpa using hb
    subst e
    exact I1.fpOk (Nat.le_refl _) (I1.hok.fresh (Nat.le_refl _))
  · obtain ⟨its, rv, p, hz⟩ := I1.tuple hq
    refine wpAny_pyIter_tuple (show s1.heap.IsTuple a its.toArray from p) ?_
    refine ⟨s1.heap.objs.size, [s1.heap.objs.size], _, _, H1, rfl, I1.kept (t' := s1.toks) fun b o e => Heap.get?_push_of_some _ e, turn_tuple a _, ⟨_, Heap.get?_push_size _ rfl, rfl, rfl⟩, fun b hb => ?_, q⟩
    have e : b = s1.heap.objs.size := by simpa using hb
    subst e
    exact I1.fpOk (Nat.le_refl _) (I1.hok.fresh (Nat.le_refl _))
theorem ii_seq {tg l : Expr} {f : Ex} (hl : PE X l (tE f)) : PI X tg l (tI Rep (iSeq f)) := piI (pi_any hl) fun σ H R ⟨env, m, S, c, S', er, sr, e, q⟩ => by
  obtain ⟨d, S1, e1, e2⟩ := bnd_inv e
  refine ⟨env, m, S, d, S1, er, sr, e1, fun v H1 m1 g1 s1 r1 => ?_⟩
  cases d with
  | tup ds =>
    cases e2
    obtain ⟨a, xs, rfl, h1, ho, h2⟩ := r1
    exact ⟨a, rfl, .inr ⟨⟨xs, sqT_of h1⟩, q _ _ _ g1 s1 (isIt_tup h1.rd ho h2)⟩⟩
  | lst ds =>
    cases e2
    obtain ⟨a, xs, rfl, h1, ho, h2⟩ := r1
    exact ⟨a, rfl, .inl ⟨⟨xs, sqL_of (.inl h1)⟩, q _ _ _ g1 s1 (isIt_list (.inl h1) ho h2)⟩⟩
  | rol ds =>
    cases e2
    obtain ⟨a, xs, rfl, h1, ho, h2⟩ := r1
    exact ⟨a, rfl, .inl ⟨⟨xs, sqL_of h1⟩, q _ _ _ g1 s1 (isIt_list h1 ho h2)⟩⟩
  | loc n =>
    have e' : (match S1[n]? with
      | some (.lst ds) => some ((⟨ds, some n⟩ : Src), S1)
      | _ => none) = some (c, S') := e2
    split at e'
    · rename_i ds hn
      cases e'
      obtain ⟨a, xs, rfl, hm, h1, h2⟩ := loc_rep s1 r1 hn
      exact ⟨a, rfl, .inl ⟨⟨xs, sqL_of (.inl h1)⟩, q _ _ _ g1 s1 (isIt_loc hm)⟩⟩
    · cases e'
  | _ => cases e2
/-- range -/
def rgD (lo : Int) (n : Nat) : List D := (List.range n).map fun i => D.int (lo + (i : Nat))
theorem isIt_rg {H : Hp} {m : Wd} {lo : Int} {n : Nat} : IsIt Rep (Itr lo n) H m ⟨rgD lo n, none⟩ where
  item := fun H1 m1 S1 i d g s _ e => by
    have hi : i < n := by
      have := (List.getElem?_eq_some_iff.mp e).1
      simpa [rgD] using this
    refine ⟨hi, fun x H2 y => ?_⟩
    obtain ⟨rfl, rfl⟩ := y
    unfold rgD at e
    rw [List.getElem?_map, List.getElem?_range hi] at e
    cases e
    exact ⟨Grow.refl, s, rfl⟩
  stop := fun H1 m1 S1 g s _ => by
    show n ≤ (rgD lo n).length
    simp [rgD]
def fit62 (i : Int) : Prop := -(2 ^ 62) ≤ i ∧ i < 2 ^ 62
open Classical in
noncomputable def iRg1 (f : ExL) : ExI := fun env S => bnd (f env S) fun ds S1 => match ds with
  | [.int j] => if fit62 j then some (⟨rgD 0 j.toNat, none⟩, S1) else none
  | _ => none
open Classical in
noncomputable def iRg2 (f : ExL) : ExI := fun env S => bnd (f env S) fun ds S1 => match ds with
  | [.int i, .int j] => if fit62 i ∧ fit62 j then some (⟨rgD i (j - i).toNat, none⟩, S1) else none
  | _ => none
theorem ii_rg1 {tg a : Expr} {p pos : Pos} {f : ExL} (hm : X.mg "range" = none) (ha : PA X [a] (tA f)) (hg : Gl X "range" := by rfl) (hs : starEach [a] X.env = [(false, eval a X.env)] := by rfl) : PI X tg (.Call (.Name "range" p) [a] [] pos) (tI Rep (iRg1 f)) :=
  piI (pi_range1 hg hm ha hs) fun σ H R ⟨env, m, S, c, S', er, sr, e, q⟩ => by
    obtain ⟨ds, S1, e1, e2⟩ := bnd_inv e
    refine ⟨env, m, S, ds, S1, er, sr, e1, fun vs H1 m1 g1 s1 r1 => ?_⟩
    split at e2
    · split at e2
      · rename_i h
        cases e2
        obtain ⟨v, rfl, rv⟩ := rep1 r1
        exact ⟨_, by rw [show v = _ from rv], h.1, h.2, q _ _ _ g1 s1 isIt_rg⟩
      · cases e2
    · cases e2
theorem ii_rg2 {tg a b : Expr} {p pos : Pos} {f : ExL} (hm : X.mg "range" = none) (ha : PA X [a, b] (tA f)) (hg : Gl X "range" := by rfl) (hs : starEach [a, b] X.env = [(false, eval a X.env), (false, eval b X.env)] := by rfl) (hs2 : starEach [b] X.env = [(false, eval b X.env)] := by rfl) : PI X tg (.Call (.Name "range" p) [a, b] [] pos) (tI Rep (iRg2 f)) :=
  piI (pi_range2 hg hm ha hs hs2) fun σ H R ⟨env, m, S, c, S', er, sr, e, q⟩ => by
    obtain ⟨ds, S1, e1, e2⟩ := bnd_inv e
    refine ⟨env, m, S, ds, S1, er, sr, e1, fun vs H1 m1 g1 s1 r1 => ?_⟩
    split at e2
    · split at e2
      · rename_i h
        cases e2
        obtain ⟨v, w, rfl, rv, rw'⟩ := rep2 r1
        exact ⟨_, _, by rw [show v = _ from rv, show w = _ from rw'], ⟨h.1.1, h.1.2, h.2.1, h.2.2⟩, q _ _ _ g1 s1 isIt_rg⟩
      · cases e2
    · cases e2
/-! ### targets of a loop: names, tuples of names -/
theorem wipe_set {i : Nat} {o : Option V} : ∀ (σ : L2.St) (vs : List Nat), L2.wipe (σ.set i o) vs = if i ∈ vs then L2.wipe σ vs else (L2.wipe σ vs).set i o
  | σ, [] => by simp [L2.wipe]
  | σ, v :: vs => by
    show (L2.wipe (σ.set i o) vs).set v none = if i ∈ v :: vs then (L2.wipe σ vs).set v none else ((L2.wipe σ vs).set v none).set i o
    rw [wipe_set σ vs]
    by_cases h1 : i ∈ vs
    · rw [if_pos h1, if_pos (List.mem_cons_of_mem _ h1)]
    · rw [if_neg h1]
      by_cases h2 : i = v
      · subst h2
        rw [if_pos List.mem_cons_self, List.set_set]
      · rw [if_neg (by simp [h1, h2]), List.set_comm _ _ h2]
theorem gy_name {e : Expr} {i : Nat} {vs : List Nat} (h : PG X e (gName i)) (hi : i ∈ vs) : PG X e (tGY vs Rep (gNm i)) := pgI h fun v σ H Q ⟨env, m, S, d, env', S', er, sr, rv, e, q⟩ => by
  cases e
  exact q _ _ _ Grow.refl sr (er.set i rv) (by rw [wipe_set, if_pos hi])
def tGYs (vs : List Nat) (f : ExTs) : TGs := fun ws σ H Q => ∃ env m S ds env' S', EnvRel H m env σ ∧ StoRel H m S ∧ RepL H m ds ws ∧ f ds env S = some (env', S') ∧
  ∀ σ' H' m', Grow H m H' m' → StoRel H' m' S' → EnvRel H' m' env' σ' → L2.wipe σ' vs = L2.wipe σ vs → Q σ' H'
theorem gys_nil {vs : List Nat} : PGs X [] (tGYs vs gsNil) := pgsI pgs_nil fun v σ H Q ⟨env, m, S, ds, env', S', er, sr, rv, e, q⟩ => by
  cases ds with
  | nil =>
    cases e
    exact ⟨rv, q _ _ _ Grow.refl sr er rfl⟩
  | cons _ _ => cases e
theorem gys_cons {vs : List Nat} {e : Expr} {es : List Expr} {f : ExT} {g : ExTs} (h1 : PG X e (tGY vs Rep f)) (h2 : PGs X es (tGYs vs g)) (hs : (assignEach (e :: es) X.env).map (·.2) = assign e X.env :: (assignEach es X.env).map (·.2) := by rfl) : PGs X (e :: es) (tGYs vs (gsCons f g)) :=
  pgsI (pgs_cons h1 h2 hs) fun v σ H Q ⟨env, m, S, ds, env', S', er, sr, rv, e, q⟩ => by
    cases ds with
    | nil => cases e
    | cons d ds =>
      obtain ⟨x, xs, rfl, h1, h2⟩ := rv
      obtain ⟨env1, S1, e1, e2⟩ := bnd_inv (show bnd (f d env S) (fun env' S1 => g ds env' S1) = some (env', S') from e)
      refine ⟨x, xs, rfl, env, m, S, d, env1, S1, er, sr, h1, e1, fun σ1 H1 m1 g1 s1 er1 w1 => ?_⟩
      exact ⟨env1, m1, S1, ds, env', S', er1, s1, RepL.grow g1 _ _ h2, e2, fun σ2 H2 m2 g2 s2 er2 w2 => q _ _ _ (g1.trans g2) s2 er2 (w2.trans w1)⟩
theorem gy_tup {vs : List Nat} {es : List Expr} {k n : Nat} {pos : Pos} {g : ExTs} (hc : X.calm = true) (h : PGs X es (tGYs vs g)) (hn : (assignEach es X.env).length = n := by rfl) (hst : (assignEach es X.env).findIdx? (·.1) = none := by rfl) : PG X (.Tuple es k pos) (tGY vs Rep (gTp n g)) :=
  pgI (pg_tup hc h hn hst) fun v σ H Q ⟨env, m, S, d, env', S', er, sr, rv, e, q⟩ => by
    cases d with
    | tup ds =>
      have e' : (if ds.length = n then g ds env S else none) = some (env', S') := e
      split at e'
      · rename_i hl
        obtain ⟨a, xs, rfl, h1, h2⟩ := tup_rep rv
        exact ⟨a, xs, rfl, sqT_of h1, by rw [h2.len]; exact hl, env, m, S, ds, env', S', er, sr, h2, e', q⟩
      · cases e'
    | _ => cases e
/-- of a pair just made -/
theorem gz_tup {vs : List Nat} {es : List Expr} {k n : Nat} {pos : Pos} {g : ExTs} (hc : X.calm = true) (h : PGs X es (tGYs vs g)) (hn : (assignEach es X.env).length = n := by rfl) (hst : (assignEach es X.env).findIdx? (·.1) = none := by rfl) : PG X (.Tuple es k pos) (tGY vs YZ (gTp n g)) :=
  pgI (pg_tup hc h hn hst) fun v σ H Q ⟨env, m, S, d, env', S', er, sr, rv, e, q⟩ => by
    obtain ⟨ds, a, xs, rfl, rfl, h1, h2⟩ := rv
    have e' : (if ds.length = n then g ds env S else none) = some (env', S') := e
    split at e'
    · rename_i hl
      exact ⟨a, xs, rfl, .inl h1, by rw [h2.len]; exact hl, env, m, S, ds, env', S', er, sr, h2, e', q⟩
    · cases e'
/-! ### zip of two tuples, of two lists -/
def zipD : List D → List D → List D
  | d :: ds, e :: es => .tup [d, e] :: zipD ds es
  | _, _ => []
theorem zipD_get : ∀ {ds es : List D} {i : Nat} {x : D}, (zipD ds es)[i]? = some x → ∃ d e, ds[i]? = some d ∧ es[i]? = some e ∧ x = .tup [d, e]
  | d :: ds, e :: es, 0, x, h => ⟨d, e, rfl, rfl, (Option.some.inj h).symm⟩
  | d :: ds, e :: es, i + 1, x, h => zipD_get (ds := ds) (es := es) (i := i) h
  | [], _, i, x, h => by simp [zipD] at h
  | _ :: _, [], i, x, h => by simp [zipD] at h
theorem zipD_len : ∀ {ds es : List D}, ds.length ≤ (zipD ds es).length ∨ es.length ≤ (zipD ds es).length
  | d :: ds, e :: es => by
    rcases zipD_len (ds := ds) (es := es) with h | h
    · exact .inl (Nat.succ_le_succ h)
    · exact .inr (Nat.succ_le_succ h)
  | [], _ => .inl (Nat.zero_le _)
  | _ :: _, [] => .inr (Nat.zero_le _)
theorem yz_of {H : Hp} {m : Wd} {S : Sto} {T : Addr} {d e : D} {x y : V} (s : StoRel H m S) (hT : H T = none) (rx : Rep H m d x) (ry : Rep H m e y) :
    Grow H m (upd H T (.tup [x, y])) m ∧ StoRel (upd H T (.tup [x, y])) m S ∧ YZ (upd H T (.tup [x, y])) m (.tup [d, e]) (.ref T) := by
  have g := Grow.upd (m := m) (o := .tup [x, y]) hT
  exact ⟨g, s.upd hT, [d, e], T, [x, y], rfl, rfl, .inl upd_same, x, [y], rfl, Rep.grow g _ _ rx, y, [], rfl, Rep.grow g _ _ ry, rfl⟩
theorem isIt_zipL {K : PySem.W.Frag} {H : Hp} {m : Wd} {a b : Addr} {ds es : List D} {xs ys : List V} (h : Rd H a (.lst xs)) (ho : m.out a) (r : RepL H m ds xs) (h' : Rd H b (.lst ys)) (ho' : m.out b) (r' : RepL H m es ys) : IsIt YZ (Itz K a b) H m ⟨zipD ds es, none⟩ where
  item := fun H1 m1 S1 i d g s _ e => by
    obtain ⟨d1, d2, e1, e2, rfl⟩ := zipD_get e
    obtain ⟨v, hv, rv⟩ := r.get e1
    obtain ⟨w, hw, rw'⟩ := r'.get e2
    have h1 := sqL_of (K := K) (g.rd h ho).1
    have h2 := sqL_of (K := K) (g.rd h' ho').1
    refine ⟨⟨xs, ys, v, w, h1, h2, hv, hw⟩, fun x H2 y => ?_⟩
    obtain ⟨T, x1, x2, rfl, hT, rfl, q1, q2⟩ := y
    have t1 := (q1 xs h1).symm.trans hv
    have t2 := (q2 ys h2).symm.trans hw
    cases t1
    cases t2
    exact yz_of s hT (Rep.grow g _ _ rv) (Rep.grow g _ _ rw')
  stop := fun H1 m1 S1 g s _ => ⟨xs, ys, sqL_of (g.rd h ho).1, sqL_of (g.rd h' ho').1, by
    rw [r.len, r'.len]
    exact zipD_len⟩
theorem isIt_zipT {K : PySem.W.Frag} {H : Hp} {m : Wd} {a b : Addr} {ds es : List D} {xs ys : List V} (h : Rd H a (.tup xs)) (ho : m.out a) (r : RepL H m ds xs) (h' : Rd H b (.tup ys)) (ho' : m.out b) (r' : RepL H m es ys) : IsIt YZ (ItzT K a b) H m ⟨zipD ds es, none⟩ where
  item := fun H1 m1 S1 i d g s _ e => by
    obtain ⟨d1, d2, e1, e2, rfl⟩ := zipD_get e
    obtain ⟨v, hv, rv⟩ := r.get e1
    obtain ⟨w, hw, rw'⟩ := r'.get e2
    have h1 : SqT K H1 a xs := .inl (g.rd h ho).1
    have h2 : SqT K H1 b ys := .inl (g.rd h' ho').1
    refine ⟨⟨xs, ys, v, w, h1, h2, hv, hw⟩, fun x H2 y => ?_⟩
    obtain ⟨T, x1, x2, rfl, hT, rfl, q1, q2⟩ := y
    have t1 := (q1 xs h1).symm.trans hv
    have t2 := (q2 ys h2).symm.trans hw
    cases t1
    cases t2
    exact yz_of s hT (Rep.grow g _ _ rv) (Rep.grow g _ _ rw')
  stop := fun H1 m1 S1 g s _ => ⟨xs, ys, .inl (g.rd h ho).1, .inl (g.rd h' ho').1, by
    rw [r.len, r'.len]
    exact zipD_len⟩
def frzOf : D → Option (List D)
  | .lst ds => some ds
  | .rol ds => some ds
  | _ => none
theorem frz_rep {H : Hp} {m : Wd} {d : D} {v : V} {ds : List D} (r : Rep H m d v) (e : frzOf d = some ds) : ∃ a xs, v = .ref a ∧ Rd H a (.lst xs) ∧ m.out a ∧ RepL H m ds xs := by
  cases d with
  | lst ds' => cases e; obtain ⟨a, xs, e1, e2, e3, e4⟩ := r; exact ⟨a, xs, e1, .inl e2, e3, e4⟩
  | rol ds' => cases e; obtain ⟨a, xs, e1, e2, e3, e4⟩ := r; exact ⟨a, xs, e1, e2, e3, e4⟩
  | _ => cases e
def iZp (f : ExL) : ExI := fun env S => bnd (f env S) fun ds S1 => match ds with
  | [.tup a, .tup b] => some (⟨zipD a b, none⟩, S1)
  | [x, y] => match frzOf x, frzOf y with
    | some a, some b => some (⟨zipD a b, none⟩, S1)
    | _, _ => none
  | _ => none
theorem ii_zip {e e2 : Expr} {p pos tpos : Pos} {elts : List Expr} {kk : Nat} {f : ExL} (hm : X.mg "zip" = none) (ha : PA X [e, e2] (tA f)) (hg : Gl X "zip" := by rfl)
    (hs : starEach [e, e2] X.env = (false, eval e X.env) :: starEach [e2] X.env := by rfl) (hpl : (backTo pos (starEach [e2] X.env)).any (·.1) = false := by rfl) :
    PI X (.Tuple elts kk tpos) (.Call (.Name "zip" p) [e, e2] [] pos) (tI YZ (iZp f)) := piI (pi_zipA hg hm ha hs hpl) fun σ H R ⟨env, m, S, c, S', er, sr, e, q⟩ => by
  obtain ⟨ds, S1, e1, e2⟩ := bnd_inv e
  refine ⟨env, m, S, ds, S1, er, sr, e1, fun vs H1 m1 g1 s1 r1 => ?_⟩
  split at e2
  · cases e2
    obtain ⟨v, w, rfl, rv, rw'⟩ := rep2 r1
    obtain ⟨a, xs, rfl, h1, h2, h3⟩ := rv
    obtain ⟨b, ys, rfl, h4, h5, h6⟩ := rw'
    exact ⟨a, b, xs, ys, rfl, .inr ⟨sqT_of h1, sqT_of h4, q _ _ _ g1 s1 (isIt_zipT h1.rd h2 h3 h4.rd h5 h6)⟩⟩
  · split at e2
    · rename_i a' b' ha hb
      cases e2
      obtain ⟨v, w, rfl, rv, rw'⟩ := rep2 r1
      obtain ⟨a, xs, rfl, h1, h2, h3⟩ := frz_rep rv ha
      obtain ⟨b, ys, rfl, h4, h5, h6⟩ := frz_rep rw' hb
      exact ⟨a, b, xs, ys, rfl, .inl ⟨sqL_of h1, sqL_of h4, q _ _ _ g1 s1 (isIt_zipL h1 h2 h3 h4 h5 h6)⟩⟩
    · cases e2
  · cases e2

/-! ### while -/
def whileN (c : ExB) (b : ExS) : Nat → ExS
  | 0 => fun _ _ => none
  | n + 1 => fun env S => bnd (c env S) fun k S1 => if k = true then bnd (b env S1) fun r S2 => match r with
    | .nx e => whileN c b n e S2
    | .ct e => whileN c b n e S2
    | .bk e => some (.nx e, S2)
    | .rt v => some (.rt v, S2) else some (.nx env, S1)
open Classical in
noncomputable def sWhile (c : ExB) (b : ExS) : ExS := fun env S => if h : ∃ n r, whileN c b n env S = some r then some (Classical.choose (Classical.choose_spec h)) else none
theorem whileN_mono {c : ExB} {b : ExS} : ∀ {n k : Nat} {env : En} {S : Sto} {r : Fl × Sto}, whileN c b n env S = some r → n ≤ k → whileN c b k env S = some r
  | 0, _, _, _, _, h, _ => by cases h
  | n + 1, 0, _, _, _, _, hk => by omega
  | n + 1, k + 1, env, S, r, h, hk => by
    have h : (bnd (c env S) fun k S1 => if k = true then bnd (b env S1) fun r S2 => match r with
      | .nx e => whileN c b n e S2
      | .ct e => whileN c b n e S2
      | .bk e => some (.nx e, S2)
      | .rt v => some (.rt v, S2) else some (.nx env, S1)) = some r := h
    show (bnd (c env S) fun k' S1 => if k' = true then bnd (b env S1) fun r S2 => match r with
      | .nx e => whileN c b k e S2
      | .ct e => whileN c b k e S2
      | .bk e => some (.nx e, S2)
      | .rt v => some (.rt v, S2) else some (.nx env, S1)) = some r
    obtain ⟨t, S1, e1, h⟩ := bnd_inv h
    rw [e1, bnd_some]
    split at h
    · rename_i ht
      rw [if_pos ht]
      obtain ⟨fl, S2, e2, h⟩ := bnd_inv h
      rw [e2, bnd_some]
      cases fl with
      | nx e => exact whileN_mono h (by omega)
      | ct e => exact whileN_mono h (by omega)
      | bk e => exact h
      | rt v => exact h
    · rename_i ht
      rw [if_neg ht]
      exact h
theorem sWhile_of {c : ExB} {b : ExS} {n : Nat} {env : En} {S : Sto} {r : Fl × Sto} (h : whileN c b n env S = some r) : sWhile c b env S = some r := by
  have hx : ∃ n r, whileN c b n env S = some r := ⟨n, r, h⟩
  unfold sWhile
  rw [dif_pos hx]
  have h2 := Classical.choose_spec (Classical.choose_spec hx)
  have a1 := whileN_mono h (Nat.le_max_left n (Classical.choose hx))
  have a2 := whileN_mono h2 (Nat.le_max_right n (Classical.choose hx))
  rw [a1] at a2
  exact a2.symm
theorem sWhile_inv {c : ExB} {b : ExS} {env : En} {S : Sto} {r : Fl × Sto} (h : sWhile c b env S = some r) : ∃ n, whileN c b n env S = some r := by
  unfold sWhile at h
  split at h
  · rename_i hx
    cases h
    exact ⟨_, Classical.choose_spec (Classical.choose_spec hx)⟩
  · cases h
theorem ss_while {c : Expr} {body : List Stmt} {pos : Pos} {h : ExB} {b : ExS} (hp : PassesOwn (model X.prog X.w) X.A X.env X.xe) (hc : PT X c (tT h)) (hb : PSs X body (tS b)) : PS X (.While c body [] pos) (tS (sWhile h b)) := psI (ps_while hp hc hb) fun Dn σ H ⟨env, m, S, r, S', er, sr, e, q⟩ => by
  obtain ⟨n, en⟩ := sWhile_inv e
  refine ⟨fun n σ H2 => ∃ env m2 S2, Grow H m H2 m2 ∧ EnvRel H2 m2 env σ ∧ StoRel H2 m2 S2 ∧ whileN h b n env S2 = some (r, S'), ⟨n, env, m, S, Grow.refl, er, sr, en⟩, ?_⟩
  rintro n σ2 H2 ⟨env2, m2, S2, g2, er2, s2, e3⟩
  cases n with
  | zero => cases e3
  | succ n =>
    have e3 : (bnd (h env2 S2) fun k S1 => if k = true then bnd (b env2 S1) fun r S2 => match r with
      | .nx e => whileN h b n e S2
      | .ct e => whileN h b n e S2
      | .bk e => some (.nx e, S2)
      | .rt v => some (.rt v, S2) else some (.nx env2, S1)) = some (r, S') := e3
    obtain ⟨t, S3, e1, e3⟩ := bnd_inv e3
    refine ⟨env2, m2, S2, t, S3, er2, s2, e1, fun H3 m3 g3 s3 => ?_⟩
    cases t with
    | true =>
      rw [if_pos rfl] at e3
      obtain ⟨fl, S4, e5, e3⟩ := bnd_inv e3
      refine iteT ⟨fun σ H4 => ∃ env m4 S4, Grow H m H4 m4 ∧ EnvRel H4 m4 env σ ∧ StoRel H4 m4 S4 ∧ whileN h b n env S4 = some (r, S'), fun σ' H' hN => ⟨n, Nat.lt_succ_self n, hN⟩, ?_⟩
      refine ⟨env2, m3, S3, fl, S4, er2.grow g3, s3, e5, fun H5 m5 g5 s5 => ?_⟩
      have gt := g2.trans (g3.trans g5)
      cases fl with
      | nx ee => exact fun σ6 er6 => ⟨ee, m5, S4, gt, er6, s5, e3⟩
      | ct ee => exact fun σ6 er6 => ⟨ee, m5, S4, gt, er6, s5, e3⟩
      | bk ee =>
        cases e3
        exact fun σ6 er6 => q _ _ gt s5 σ6 er6
      | rt v =>
        cases e3
        exact fun w rw' => q _ _ gt s5 w rw'
    | false =>
      rw [if_neg Bool.false_ne_true] at e3
      cases e3
      exact iteF (q _ _ (g2.trans g3) s3 _ (er2.grow g3))
end
end PU

namespace PU
open PySem PySem.Spec PyProof.Rows L2

/-! ### list comprehensions -/
abbrev ExBs := ExB
def bYes : ExB := fun _ S => some (true, S)
open Classical in
noncomputable def lcF (c : Src) (g : ExT) (t : ExB) (f : Ex) (env0 : En) : List D → List D → Sto → Option (List D × Sto)
  | [], acc, S => if okS c S then some (acc, S) else none
  | d :: ds, acc, S => if okS c S then bnd (g d env0 S) fun env1 S1 => bnd (t env1 S1) fun b S2 => if b = true then bnd (f env1 S2) fun y S3 => (if acc.length < sizeLine then lcF c g t f env0 ds (acc ++ [y]) S3 else none) else lcF c g t f env0 ds acc S2 else none
noncomputable def fLc (it : ExI) (g : ExT) (t : ExB) (f : Ex) (vs : List Nat) : ExL := fun env S => bnd (it env S) fun c S1 => lcF c g t f (wipeE env vs) c.items [] S1
section
variable {X : Cx}
theorem pts_of_nil : PTs X [] (tT bYes) := ⟨fun pins s σ H Q I h => by
  obtain ⟨env, m, S, b, S', er, sr, e, q⟩ := h
  cases e
  exact (pts_nil (X := X)).run pins s σ H Q I (q _ _ Grow.refl sr)⟩
theorem pts_of_one {e : Expr} {f : ExB} (h : PT X e (tT f)) : PTs X [e] (tT f) := pts_one h
theorem lc_tE {Y : YT} {it : ExI} {g : ExT} {t : ExB} {f : Ex} {vs : List Nat} (σ : L2.St) (H : Hp) (Q : VK) (h : tF (fLc it g t f vs) σ H Q) : tLc (tI Y it) (tGY vs Y g) (tT t) (tE f) vs σ H Q := by
  obtain ⟨env, m, S, ds, S', er, sr, e, q⟩ := h
  obtain ⟨c, S1, e1, e2⟩ := bnd_inv e
  refine ⟨env, m, S, c, S1, er, sr, e1, fun J H1 m1 g1 s1 isit => ?_⟩
  intro D hD
  have er1 := (er.grow g1).wipe vs
  refine ⟨fun i n H => ∃ (m2 : Wd) (S2 : Sto) (acc : List PU.D) (xs : List V), n = c.items.length - i ∧ i ≤ c.items.length ∧ Grow H1 m1 H m2 ∧ Grow H1 m1 (del H D) ⟨m2.m, m1.x⟩ ∧ D ∈ m2.x ∧ EnvRel H m2 (wipeE env vs) (L2.wipe σ vs) ∧ StoRel H m2 S2 ∧ H D = some (.lst xs) ∧ RepL H m2 acc xs ∧ lcF c g t f (wipeE env vs) (c.items.drop i) acc S2 = some (ds, S'),
    ⟨c.items.length, m1.res D, S1, [], [], by simp, Nat.zero_le _, Grow.enter hD, ?_, List.mem_cons_self, er1.grow (Grow.enter hD), s1.enter hD, upd_same, rfl, e2⟩, ?_⟩
  · rw [del_upd, del_of hD]
    exact Grow.refl
  rintro i n H2 ⟨m2, S2, acc, xs, hn, hi, g2, gd, hx, er2, s2, hDx, ra, e3⟩
  by_cases hlt : i < c.items.length
  · have hd : c.items.drop i = c.items[i] :: c.items.drop (i + 1) := (List.drop_eq_getElem_cons hlt)
    rw [hd] at e3
    unfold lcF at e3
    split at e3
    · rename_i hok
      obtain ⟨env3, S3, e4, e3⟩ := bnd_inv e3
      obtain ⟨b, S4, e5, e3⟩ := bnd_inv e3
      obtain ⟨hgo, hy⟩ := isit.item H2 m2 S2 i _ g2 s2 hok (List.getElem?_eq_getElem hlt)
      have nxt : ∀ (H' : Hp) (m' : Wd) (S5 : Sto) (acc' : List PU.D) (xs' : List V), Grow H2 m2 H' m' → StoRel H' m' S5 → H' D = some (.lst xs') → RepL H' m' acc' xs' → lcF c g t f (wipeE env vs) (c.items.drop (i + 1)) acc' S5 = some (ds, S') →
          ∃ (m2 : Wd) (S2 : Sto) (acc : List PU.D) (xs : List V), i + 1 ≤ c.items.length ∧ Grow H1 m1 H' m2 ∧ Grow H1 m1 (del H' D) ⟨m2.m, m1.x⟩ ∧ D ∈ m2.x ∧ EnvRel H' m2 (wipeE env vs) (L2.wipe σ vs) ∧ StoRel H' m2 S2 ∧ H' D = some (.lst xs) ∧ RepL H' m2 acc xs ∧ lcF c g t f (wipeE env vs) (c.items.drop (i + 1)) acc S2 = some (ds, S') :=
        fun H' m' S5 acc' xs' gg ss hh rr ee => ⟨m', S5, acc', xs', hlt, g2.trans gg, gg.within hD gd hx (s2.res D hx).2, gg.sub D hx, er2.grow gg, ss, hh, rr, ee⟩
      refine .inr ⟨hgo, fun H' => ∃ (m2 : Wd) (S2 : Sto) (acc : List PU.D) (xs : List V), i + 1 ≤ c.items.length ∧ Grow H1 m1 H' m2 ∧ Grow H1 m1 (del H' D) ⟨m2.m, m1.x⟩ ∧ D ∈ m2.x ∧ EnvRel H' m2 (wipeE env vs) (L2.wipe σ vs) ∧ StoRel H' m2 S2 ∧ H' D = some (.lst xs) ∧ RepL H' m2 acc xs ∧ lcF c g t f (wipeE env vs) (c.items.drop (i + 1)) acc S2 = some (ds, S'), fun H' hN => ?_, fun x H3 y => ?_⟩
      · obtain ⟨m', S', acc', xs', h1, h2⟩ := hN
        exact ⟨c.items.length - (i + 1), by omega, m', S', acc', xs', rfl, h1, h2⟩
      · obtain ⟨gy, sy, yy⟩ := hy x H3 y
        refine ⟨wipeE env vs, m2, S2, _, env3, S3, er2.grow gy, sy, yy, e4, fun σ4 H4 m4 g4 s4 er4 w4 => ⟨?_, ?_⟩⟩
        · rw [w4]
          have ww : ∀ (us : List Nat) (σ : L2.St), (∀ v ∈ us, v ∈ vs) → L2.wipe (L2.wipe σ vs) us = L2.wipe σ vs := by
            intro us
            induction us with
            | nil => intro σ _; rfl
            | cons u us ih =>
              intro σ hs
              show (L2.wipe (L2.wipe σ vs) us).set u none = _
              rw [ih σ fun v hv => hs v (List.mem_cons_of_mem _ hv)]
              have hu : u ∈ vs := hs u List.mem_cons_self
              have wn : ∀ (l : List Nat), u ∈ l → (L2.wipe σ l).set u none = L2.wipe σ l := by
                intro l
                induction l with
                | nil => intro h; cases h
                | cons a l ihl =>
                  intro h
                  show ((L2.wipe σ l).set a none).set u none = (L2.wipe σ l).set a none
                  by_cases ha : u = a
                  · subst ha
                    rw [List.set_set]
                  · rcases List.mem_cons.mp h with h | h
                    · exact absurd h ha
                    · rw [List.set_comm _ _ (fun z => ha z.symm), ihl h]
              exact wn vs hu
          exact ww vs σ fun _ h => h
        · refine ⟨env3, m4, S3, b, S4, er4, s4, e5, fun H5 m5 g5 s5 => ?_⟩
          have g25 := gy.trans (g4.trans g5)
          have hD5 : H5 D = some (.lst xs) := g25.keep D _ hDx (s2.res D hx).2
          cases b with
          | true =>
            rw [if_pos rfl] at e3
            obtain ⟨y, S6, e6, e3⟩ := bnd_inv e3
            split at e3
            · rename_i hsz
              refine iteT ⟨env3, m5, S4, y, S6, er4.grow g5, s5, e6, fun v H6 m6 g6 s6 r6 => ?_⟩
              have g26 := g25.trans g6
              have hD6 : H6 D = some (.lst xs) := g26.keep D _ hDx (s2.res D hx).2
              have hx6 := g26.sub D hx
              have ra6 := RepL.grow g26 _ _ ra
              refine ⟨xs, hD6, by rw [ra.len]; exact hsz, ?_⟩
              have qq : ∀ b, b ≠ D → upd H6 D (.lst (xs ++ [v])) b = H6 b := fun b hb => upd_ne hb
              have s7 := s6.rewrite (o := .lst (xs ++ [v])) hx6
              have r7 : RepL (upd H6 D (.lst (xs ++ [v]))) m6 (acc ++ [y]) (xs ++ [v]) := RepL.exch hx6 qq _ _ (ra6.append (show RepL H6 m6 [y] [v] from ⟨v, [], rfl, r6, rfl⟩))
              refine ⟨m6, S6, acc ++ [y], xs ++ [v], hlt, ?_, ?_, hx6, ((er2.grow g26).rewrite hx6), s7, upd_same, r7, e3⟩
              · have g17 := g2.trans g26
                exact ⟨g17.pre, g17.sub, fun a o e n => by
                  rw [upd_ne (ne_of_none e hD)]
                  exact g17.keep a o e n, g17.new, g17.newx⟩
              · rw [del_upd]
                exact g26.within hD gd hx (s2.res D hx).2
            · cases e3
          | false =>
            rw [if_neg Bool.false_ne_true] at e3
            exact iteF (nxt H5 m5 S4 acc xs g25 s5 hD5 (RepL.grow g25 _ _ ra) e3)
    · cases e3
  · have hi' : i = c.items.length := by omega
    subst hi'
    rw [List.drop_length] at e3
    unfold lcF at e3
    split at e3
    · rename_i hok
      cases e3
      refine .inl ⟨isit.stop H2 m2 _ g2 s2 hok, ?_⟩
      have hax : D ∉ m1.x := (s1.fresh hD).2
      have sub : ∀ b, b ∈ m1.x → b ∈ m2.x := g2.sub
      have h3 := q D xs (del H2 D) ⟨m2.m, m1.x⟩ (g1.trans gd) (s2.leave hx sub hax) (ra.out hx sub) del_same
      rw [upd_del, upd_eq hDx] at h3
      exact h3
    · cases e3
theorem ff_lc {elt tg iter : Expr} {ifs : List Expr} {scope : Scope} {own : List (Str × Nat)} {pos : Pos} {Y : YT} {it : ExI} {g : ExT} {t : ExB} {f : Ex} (hc : X.calm = true) (hN : X.N.Nodup) (hi : PI X tg iter (tI Y it)) (ok : BlkOk X.N X.env.scope scope own)
    (hg : ∀ (s : Shared) (H : Hp) (C : Addr) (cl : List (Str × Addr)) (fp : List Addr), PG (X.blk s H scope (compEnvC scope cl C X.env) fp) tg (tGY (own.map (·.2)) Y g)) (ht : ∀ (s : Shared) (H : Hp) (C : Addr) (cl : List (Str × Addr)) (fp : List Addr), PTs (X.blk s H scope (compEnvC scope cl C X.env) fp) ifs (tT t))
    (he : ∀ (s : Shared) (H : Hp) (C : Addr) (cl : List (Str × Addr)) (fp : List Addr), PE (X.blk s H scope (compEnvC scope cl C X.env) fp) elt (tE f)) (hs : ∀ x, foldedSetIterable iter X.env x = pure x := by intro _; rfl) :
    PE X (.ListComp elt [⟨tg, iter, ifs, 0⟩] scope pos) (tF (fLc it g t f (own.map (·.2)))) := peI (pe_lc hc hN hi ok hg ht he hs) lc_tE
/-- x = [..]: the list stored within -/
theorem setLc_tS {Y : YT} {it : ExI} {g : ExT} {t : ExB} {f : Ex} {vs : List Nat} {i : Nat} (Dn : Ends) (σ : L2.St) (H : Hp) (h : tS (sAsg (eFz (fLc it g t f vs)) (gNm i)) Dn σ H) : tAsg (tLc (tI Y it) (tGY vs Y g) (tT t) (tE f) vs) (gName i) Dn σ H := by
  obtain ⟨env, m, S, r, S', er, sr, e, q⟩ := h
  obtain ⟨d, S1, e1, e⟩ := bnd_inv e
  obtain ⟨env2, S2, e2, e⟩ := bnd_inv e
  cases e
  cases e2
  obtain ⟨ds, S3, e3, e1⟩ := bnd_inv e1
  cases e1
  refine lc_tE σ H _ ⟨env, m, S, ds, _, er, sr, e3, fun p xs H1 m1 g1 s1 r1 hp => ?_⟩
  have g2 := Grow.upd (m := m1) (o := .lst xs) hp
  exact q _ _ (g1.trans g2) (s1.upd hp) _ ((er.grow (g1.trans g2)).set i ⟨p, xs, rfl, upd_same, s1.fresh hp, RepL.grow g2 _ _ r1⟩)
theorem setLcN_tS {Y : YT} {it : ExI} {g : ExT} {t : ExB} {f : Ex} {vs : List Nat} {i : Nat} (Dn : Ends) (σ : L2.St) (H : Hp) (h : tS (sAsg (eNew (fLc it g t f vs)) (gNm i)) Dn σ H) : tAsg (tLc (tI Y it) (tGY vs Y g) (tT t) (tE f) vs) (gName i) Dn σ H := by
  obtain ⟨env, m, S, r, S', er, sr, e, q⟩ := h
  obtain ⟨d, S1, e1, e⟩ := bnd_inv e
  obtain ⟨env2, S2, e2, e⟩ := bnd_inv e
  cases e
  cases e2
  obtain ⟨ds, S3, e3, e1⟩ := bnd_inv e1
  cases e1
  refine lc_tE σ H _ ⟨env, m, S, ds, _, er, sr, e3, fun p xs H1 m1 g1 s1 r1 hp => ?_⟩
  have g2 := Grow.newloc (m := m1) (o := .lst xs) hp
  exact q _ _ (g1.trans g2) (s1.newloc hp r1) _ ((er.grow (g1.trans g2)).set i ⟨p, rfl, by rw [← s1.len]; show (m1.m ++ [p])[m1.m.length]? = some p; simp⟩)
theorem ss_setLc {i : Nat} {y : Str} {py : Pos} {elt tg iter : Expr} {ifs : List Expr} {scope : Scope} {own : List (Str × Nat)} {pos spos : Pos} {Y : YT} {it : ExI} {g : ExT} {t : ExB} {f : Ex} (hc : X.calm = true) (hN : X.N.Nodup) (hy : X.N[i]? = some y) (hyl : X.env.scope.names.lookup y = some .local)
    (hsw : swapsWith (.ListComp elt [⟨tg, iter, ifs, 0⟩] scope pos) (some (.Name y py)) spos.line X.env = pure true) (hi : PI X tg iter (tI Y it)) (ok : BlkOk X.N X.env.scope scope own)
    (hg : ∀ (s : Shared) (H : Hp) (C : Addr) (cl : List (Str × Addr)) (fp : List Addr), PG (X.blk s H scope (compEnvC scope cl C X.env) fp) tg (tGY (own.map (·.2)) Y g)) (ht : ∀ (s : Shared) (H : Hp) (C : Addr) (cl : List (Str × Addr)) (fp : List Addr), PTs (X.blk s H scope (compEnvC scope cl C X.env) fp) ifs (tT t))
    (he : ∀ (s : Shared) (H : Hp) (C : Addr) (cl : List (Str × Addr)) (fp : List Addr), PE (X.blk s H scope (compEnvC scope cl C X.env) fp) elt (tE f)) (hs : ∀ x, foldedSetIterable iter X.env x = pure x := by intro _; rfl) :
    PS X (.Assign [.Name y py] (.ListComp elt [⟨tg, iter, ifs, 0⟩] scope pos) spos) (tS (sAsg (eFz (fLc it g t f (own.map (·.2)))) (gNm i))) := psI (ps_setLc hc hN hy hyl hsw hi ok hg ht he hs) setLc_tS
theorem ss_setLcN {i : Nat} {y : Str} {py : Pos} {elt tg iter : Expr} {ifs : List Expr} {scope : Scope} {own : List (Str × Nat)} {pos spos : Pos} {Y : YT} {it : ExI} {g : ExT} {t : ExB} {f : Ex} (hc : X.calm = true) (hN : X.N.Nodup) (hy : X.N[i]? = some y) (hyl : X.env.scope.names.lookup y = some .local)
    (hsw : swapsWith (.ListComp elt [⟨tg, iter, ifs, 0⟩] scope pos) (some (.Name y py)) spos.line X.env = pure true) (hi : PI X tg iter (tI Y it)) (ok : BlkOk X.N X.env.scope scope own)
    (hg : ∀ (s : Shared) (H : Hp) (C : Addr) (cl : List (Str × Addr)) (fp : List Addr), PG (X.blk s H scope (compEnvC scope cl C X.env) fp) tg (tGY (own.map (·.2)) Y g)) (ht : ∀ (s : Shared) (H : Hp) (C : Addr) (cl : List (Str × Addr)) (fp : List Addr), PTs (X.blk s H scope (compEnvC scope cl C X.env) fp) ifs (tT t))
    (he : ∀ (s : Shared) (H : Hp) (C : Addr) (cl : List (Str × Addr)) (fp : List Addr), PE (X.blk s H scope (compEnvC scope cl C X.env) fp) elt (tE f)) (hs : ∀ x, foldedSetIterable iter X.env x = pure x := by intro _; rfl) :
    PS X (.Assign [.Name y py] (.ListComp elt [⟨tg, iter, ifs, 0⟩] scope pos) spos) (tS (sAsg (eNew (fLc it g t f (own.map (·.2)))) (gNm i))) := psI (ps_setLc hc hN hy hyl hsw hi ok hg ht he hs) setLcN_tS
end

/-! ### defs -/
def runF (N : Nat) (g : ExS) : List D → Sto → Option (D × Sto) := fun ds S => bnd (g (ds.map some ++ List.replicate (N - ds.length) none) S) fun r S1 => match r with
  | .rt d => some (d, S1)
  | .nx _ => some (.non, S1)
  | _ => none
structure Fx (P : Program) (w : World) (K : PySem.W.Frag) (mg : Str → Option Value) (base : Heap) (k : Nat) (x : Str) (n : Nat) (φ : List D → Sto → Option (D × Sto)) : Prop where
  ex : ∃ (f : Addr) (fd : FuncData) (ps : List Str), FnOk P w K mg base CX0 k f fd ps (spF n φ) ∧ Binds K fd ps [] ∧ PySem.W.keepIn K (.ref f) = true ∧ mg x = some (.ref f)
section
variable {P : Program} {w : World} {K : PySem.W.Frag} {mg : Str → Option Value} {base : Heap}
abbrev FnP (K : PySem.W.Frag) (x : Str) (st : Stmt) (f : Addr) (fd : FuncData) : Prop := FunD K x x (defArgs st) (defBody st) (defScope st) [] [] f fd
theorem start_rel {H : Hp} {m : Wd} {ds : List D} {vs : List V} (N : List Str) (r : RepL H m ds vs) : EnvRel H m (ds.map some ++ List.replicate (N.length - ds.length) none) (L2.start N vs) := by
  have hl := r.len
  refine ⟨by unfold L2.start; simp [hl], fun i d e => ?_⟩
  by_cases hi : i < ds.length
  · rw [List.getElem?_append_left (by simpa using hi), List.getElem?_map] at e
    cases hd : ds[i]? with
    | none => rw [hd] at e; cases e
    | some d' =>
      rw [hd] at e
      cases e
      obtain ⟨v, hv, rv⟩ := r.get hd
      refine ⟨v, ?_, rv⟩
      unfold L2.start
      rw [List.getElem?_append_left (by rw [List.length_map, hl]; exact hi), List.getElem?_map, hv]
      rfl
  · rw [List.getElem?_append_right (by simpa using hi), List.getElem?_replicate] at e
    split at e <;> cases e
theorem fn_ok {x : Str} {st : Stmt} {f : Addr} {fd : FuncData} {N ps : List Str} {k n : Nat} {g : ExS} (F : FnP K x st f fd) (S : FnScope N ps (defScope st)) (hn : ps.length = n)
    (hbody : ∀ (cdv : Value) (A : Around) (outer : List Env) (s : Shared) (H : Hp) (E : XK), Room k (A.deeper (envOfC x (defScope st) s.heap.objs.size f cdv)) → PSs (cxOf CX0 P w K mg base N x (defScope st) f cdv A outer s H E).nox (defBody st) (tS g)) :
    FnOk P w K mg base CX0 (k + 1) f fd ps (spF n (runF N.length g)) := by
  refine F.ok S (fun vs H Q E h => by rw [h.1, hn]) (fun cdv A outer s H vs Q E hr h => ⟨_, PSs.nox (hbody cdv A outer s H E hr), ?_⟩)
  obtain ⟨hl, ds, m, S0, d, S', r, sr, e, q⟩ := h
  obtain ⟨fl, S1, e1, e2⟩ := bnd_inv e
  refine ⟨_, m, S0, fl, S1, start_rel N r, sr, e1, fun H' m' g' s' => ?_⟩
  cases fl with
  | rt d' =>
    cases e2
    exact fun v rv => q v _ _ g' s' rv
  | nx env =>
    cases e2
    exact fun σ _ => q .non _ _ g' s' rfl
  | bk _ => cases e2
  | ct _ => cases e2
theorem fx_ok {x : Str} {st : Stmt} {f : Addr} {fd : FuncData} {N ps : List Str} {k n : Nat} {g : ExS} (F : FnP K x st f fd) (S : FnScope N ps (defScope st)) (hn : ps.length = n) (hb : Binds K fd ps []) (hm : mg x = some (.ref f))
    (hbody : ∀ (cdv : Value) (A : Around) (outer : List Env) (s : Shared) (H : Hp) (E : XK), Room k (A.deeper (envOfC x (defScope st) s.heap.objs.size f cdv)) → PSs (cxOf CX0 P w K mg base N x (defScope st) f cdv A outer s H E).nox (defBody st) (tS g)) :
    Fx P w K mg base (k + 1) x n (runF N.length g) :=
  ⟨f, fd, ps, fn_ok F S hn hbody, hb, F.kp, hm⟩
/-- the same, more told -/
theorem Fx.eq {k n : Nat} {x : Str} {φ ψ : List D → Sto → Option (D × Sto)} (F : Fx P w K mg base k x n φ) (h : ∀ ds S d S', ψ ds S = some (d, S') → φ ds S = some (d, S')) : Fx P w K mg base k x n ψ := by
  obtain ⟨f, fd, ps, h1, h2⟩ := F.ex
  refine ⟨f, fd, ps, h1.imp fun vs H Q E hs => ?_, h2⟩
  obtain ⟨hl, ds, m, S0, d, S', r, sr, e, q⟩ := hs
  exact ⟨hl, ds, m, S0, d, S', r, sr, h _ _ _ _ e, q⟩
/-- what is left in the store and not handed back is forgotten -/
def GcOk (S S1 : Sto) (d : D) : Prop := S1.length = S.length ∧ clo S.length d = true ∧ ∀ (i : Nat) (o : O), S1[i]? = some o → S[i]? = some o ∨ cloO S.length o = true
theorem Fx.gc {k n : Nat} {x : Str} {φ ψ : List D → Sto → Option (D × Sto)} (F : Fx P w K mg base k x n φ) (h : ∀ ds S d S1, cloL S.length ds = true → ψ ds S = some (d, S1) → (∃ G, φ ds S = some (d, S1 ++ G)) ∧ GcOk S S1 d) : Fx P w K mg base k x n ψ := by
  obtain ⟨f, fd, ps, h1, h2⟩ := F.ex
  refine ⟨f, fd, ps, h1.imp fun vs H Q E hs => ?_, h2⟩
  obtain ⟨hl, ds, m, S0, d, S', r, sr, e, q⟩ := hs
  obtain ⟨⟨G, e2⟩, c1, c2, c3⟩ := h _ _ _ _ (by
    have := RepL.clo ds vs r
    rw [sr.len] at this
    exact this) e
  refine ⟨hl, ds, m, S0, d, S' ++ G, r, sr, e2, fun v H' m' g' s' r' => ?_⟩
  have le : Wd.Le m m' := ⟨g'.pre, g'.sub⟩
  have gm : Grow H m H' m := ⟨⟨[], by simp⟩, fun _ h => h, g'.keep, fun _ h h' => absurd h h', fun _ h h' => absurd h h'⟩
  refine q v H' m gm ⟨by rw [sr.len, c1], sr.nd, fun i o a e3 e4 => ?_, fun a ha => ?_⟩ (Rep.shrink le d v (by rw [sr.len]; exact c2) r')
  · have e5 : (S' ++ G)[i]? = some o := by
      rw [List.getElem?_append_left (List.getElem?_eq_some_iff.mp e3).1]
      exact e3
    have q5 := s'.obj i o a e5 (g'.ix e4)
    have co : cloO m.m.length o = true := by
      rcases c3 i o e3 with h | h
      · exact (sr.obj i o a h e4).clo
      · rw [sr.len]
        exact h
    exact q5.shrink le co
  · obtain ⟨⟨o, h3⟩, h4⟩ := sr.res a ha
    exact ⟨⟨o, g'.keep a o h3 h4⟩, h4⟩
theorem Fx.mono {j k n : Nat} {x : Str} {φ : List D → Sto → Option (D × Sto)} (F : Fx P w K mg base j x n φ) (h : j ≤ k) : Fx P w K mg base k x n φ := by
  obtain ⟨f, fd, ps, h1, h2⟩ := F.ex
  exact ⟨f, fd, ps, h1.mono h, h2⟩
end
section
variable {X : Cx}
theorem ee_f {k j n : Nat} {x : Str} {p pos : Pos} {e : Expr} {es : List Expr} {φ : List D → Sto → Option (D × Sto)} {g : ExL}
    (F : Fx X.prog X.w X.K X.mg X.base k x n φ) (hr : Room j X.A) (hk : k ≤ j)
    (ha : PA X (e :: es) (tA g)) (hg : Gl X x := by rfl) (hdb : (x == ("__debug__" : Str)) = false := by decide) (he : starEach (e :: es) X.env = (false, eval e X.env) :: starEach es X.env := by rfl) (hpl : (backTo pos (starEach es X.env)).any (·.1) = false := by rfl) :
    PE X (.Call (.Name x p) (e :: es) [] pos) (tE (eCall φ n g)) := by
  obtain ⟨f, fd, ps, h1, h2, h3, h4⟩ := F.ex
  exact ee_call h1 (hr.mono hk) h4 h3 h2 ha hg hdb he hpl
end
end PU

namespace PU
open PySem PySem.Spec PyProof.Rows L2
section
variable {X : Cx}
theorem ee_int {i j pos} : PE X (.Constant (.int i) j pos) (tE (eC (.int i))) := ee_c pe_int
theorem ee_bl {b j pos} : PE X (.Constant (.bool b) j pos) (tE (eC (.bl b))) := ee_c pe_bl
theorem ee_non {j pos} : PE X (.Constant .none j pos) (tE (eC .non)) := ee_c pe_non
theorem ee_str {x j pos} : PE X (.Constant (.str x) j pos) (tE (eC (.str x))) := ee_c pe_str
theorem ee_gint {x : Str} {i : Int} {pos : Pos} (h : ∃ t, X.mg x = some (.int i t)) (hg : Gl X x := by rfl) (hd : (x == ("__debug__" : Str)) = false := by decide) : PE X (.Name x pos) (tE (eC (.int i))) := by
  obtain ⟨t, h⟩ := h
  exact ee_c (v := .int i) (pe_glob hg h ⟨t, rfl⟩ hd)
end
theorem s_mul : Op2S (rI CMulW fun i j => .int (i * j)) mulD := s_int _ _
theorem s_fdiv : Op2S (rI CDivW fun i j => .int (i / j)) fdivD := s_int _ _
theorem s_mod : Op2S (rI (fun _ j => 0 < j) fun i j => .int (i % j)) modD := s_int _ _
theorem s_pow : Op2S (rI CPow fun i j => .int (i ^ j.toNat)) powD := s_int _ _
theorem s_lt : Op2S (rI0 fun i j => .bl (decide (i < j))) cmpLt := s_icmp _
theorem s_le : Op2S (rI0 fun i j => .bl (decide (i ≤ j))) cmpLe := s_icmp _
theorem s_gt : Op2S (rI0 fun i j => .bl (decide (j < i))) cmpGt := s_icmp _
theorem s_ge : Op2S (rI0 fun i j => .bl (decide (j ≤ i))) cmpGe := s_icmp _
/-- n += m -/
def addI : D → D → Sto → Option (D × Sto)
  | .int i, .int j, S => some (.int (i + j), S)
  | _, _, _ => none
theorem iop_addI {X : Cx} : OpR X (inplaceOp .Add) (rI0 fun i j => .int (i + j)) := iop_add
theorem s_addI : Op2S (rI0 fun i j => .int (i + j)) addI := by
  intro H m S dx dy x y d S' Q s rx ry e q
  cases dx with
  | int i => cases dy with
    | int j =>
      cases e
      exact ⟨i, j, rx, ry, q _ _ _ Grow.refl s rfl⟩
    | _ => cases e
  | _ => cases e
/-! ### sum(xss, []) of a list of lists -/
def flatL : List D → Sto → Option (List D)
  | [], _ => some []
  | d :: ds, S => match itemsOf d S, flatL ds S with
    | some a, some b => some (a ++ b)
    | _, _ => none
end PU

namespace PU
open PySem PySem.Spec PyProof.Rows L2

/-! ### sum(xss, []) -/
section
variable {prog : Program} {w : World} {A : Around} {R : Result → Shared → Prop} {I S : Addr} {fp wr : List Addr} {P : Nat → Value → Prop} {St : Nat → Heap → Prop}
theorem sumL_loop (h₀ : Heap) (Ls : List (List Value)) (W : Walks prog w A.in1 I fp wr Ls.length P St) (hSf : S ∉ fp) (hS0 : ∀ b o, h₀.get? b = some o → b ≠ S ∧ b ∉ wr) (hwS : ∀ b, b ∈ wr → b ≤ S)
    (hP : ∀ i v vs, P i v → Ls[i]? = some vs → ∃ b n, v = .ref b ∧ IsL h₀ b vs.toArray n) (Z : Nat → Addr → Prop) (hZ : ∀ i p, S < p → Z (i + 1) p) :
    ∀ (k i : Nat) (s : Shared) (cur : Addr) (acc : List Value) (n c : Nat), Ls.length - i = k → i ≤ Ls.length → St i s.heap →
      s.heap.get? S = some { cls := .type "list", dict := none, data := .seq #[.ref cur] c, slots := #[] } → IsL s.heap cur acc.toArray n → cur ∉ wr → cur ≠ S → Z i cur →
      (∀ b o, h₀.get? b = some o → s.heap.get? b = some o) → (acc ++ (Ls.drop i).flatten).length ≤ sizeLine →
      (∀ h' tk p m, (∀ b o, h₀.get? b = some o → h'.get? b = some o) → IsL h' p (acc ++ (Ls.drop i).flatten).toArray m → Z Ls.length p → R (.ok (.ret (.ref p))) { s with heap := h', toks := tk }) →
      codeAny (model prog w) A (.builtin "sum.loop" ⟨[.ref I, .ref S, rawInt 2, rawInt 0], []⟩) R s := by
  have hSw : S ∉ wr := fun h => hSf (W.sub _ h)
  intro k
  induction k with
  | zero =>
    intro i s cur acc n c hk hi hst hS hcur hcw hcS hz hkeep hlen hR
    have hin : i = Ls.length := by omega
    subst hin
    rw [List.drop_length, List.flatten_nil, List.append_nil] at hR
    refine codeAny_builtin F.entry_sum_loop ?_
    rw [Around.under_plainId F.plain_sum_loop _]
    show wpAny _ A.in1 (seqItems? (.ref S) >>= _) _ _ s
    refine wpAny_bind (wpAny_seqItems hS rfl ?_)
    show wpAny _ A.in1 (tryCatch (pyNext (.ref I)) _ >>= _) _ _ s
    refine wpAny_bind (wpAny_tryCatch (W.done s _ _ hst fun h' tk hk' => ?_))
    exact wpAny_pure (hR h' tk cur n (fun b o e => hk' b o (hS0 b o e).2 (hkeep b o e)) (hk' _ _ hcw hcur) hz)
  | succ k ih =>
    intro i s cur acc n c hk hi hst hS hcur hcw hcS hz hkeep hlen hR
    have hlt : i < Ls.length := by omega
    have hd : Ls.drop i = Ls[i] :: Ls.drop (i + 1) := List.drop_eq_getElem_cons hlt
    rw [hd, List.flatten_cons, ← List.append_assoc] at hR hlen
    refine codeAny_builtin F.entry_sum_loop ?_
    rw [Around.under_plainId F.plain_sum_loop _]
    show wpAny _ A.in1 (seqItems? (.ref S) >>= _) _ _ s
    refine wpAny_bind (wpAny_seqItems hS rfl ?_)
    show wpAny _ A.in1 (tryCatch (pyNext (.ref I)) _ >>= _) _ _ s
    refine wpAny_bind (wpAny_tryCatch (W.item i s _ _ hlt hst fun v h' tk hPv hst' hk' => ?_))
    obtain ⟨b, n2, rfl, hb⟩ := hP i v _ hPv (List.getElem?_eq_getElem hlt)
    have hS' := hk' S _ hSw hS
    have hcur' : IsL h' cur acc.toArray n := hk' _ _ hcw hcur
    have hb' : IsL h' b Ls[i].toArray n2 := hk' _ _ (hS0 _ _ hb).2 (hkeep _ _ hb)
    have hsz : acc.toArray.size + Ls[i].toArray.size ≤ sizeLine := by
      have h1 : (acc ++ Ls[i] ++ (Ls.drop (i + 1)).flatten).length = acc.length + Ls[i].length + (Ls.drop (i + 1)).flatten.length := by rw [List.length_append, List.length_append]
      have h2 : acc.toArray.size = acc.length := List.size_toArray
      have h3 : Ls[i].toArray.size = Ls[i].length := List.size_toArray
      omega
    show wpAny _ A.in1 ((holding [Value.ref b] (binaryOp .Add (.ref cur) (.ref b))).attempt >>= _) _ _ _
    refine wpAny_bind (wpAny_attempt (wpAny_holding (PySem.P.add_list (s := { s with heap := h', toks := tk }) hcur' hb' ?_ hsz)))
    have hSlt : S < h'.objs.size := Heap.lt_size hS'
    have hS2 := Heap.get?_push_of_some { cls := .type "list", data := .seq (acc.toArray ++ Ls[i].toArray) } hS'
    show wpAny _ A.in1 (updateSeq S (fun _ => #[Value.ref h'.objs.size]) >>= _) _ _ _
    refine wpAny_bind (wpAny_updateSeq hS2 rfl ?_)
    refine wpAny_bind (wpAny_letGo ?_)
    have hS3 := Heap.get?_update_self (Obj.mapSeq fun _ => #[Value.ref h'.objs.size]) hS2 rfl
    refine wpAny_bind (wpAny_updateSeq hS3 rfl (wpAny_pure ⟨plainId_quiet F.plain_sum_loop _, ?_⟩))
    have other : ∀ b o, b ≠ S → h'.get? b = some o → (((h'.push { cls := .type "list", data := .seq (acc.toArray ++ Ls[i].toArray) }).update S (Obj.mapSeq fun _ => #[Value.ref h'.objs.size])).update S (Obj.mapSeq fun _ => #[Value.ref h'.objs.size])).get? b = some o := fun b o hbS e =>
      (Heap.get?_update_other _ _ (Ne.symm hbS)).trans ((Heap.get?_update_other _ _ (Ne.symm hbS)).trans (Heap.get?_push_of_some _ e))
    have ea : acc.toArray ++ Ls[i].toArray = (acc ++ Ls[i]).toArray := by simp
    refine ih (i + 1) _ h'.objs.size (acc ++ Ls[i]) 0 _ (by omega) hlt (W.frame _ _ _ hst' fun b hb o e => other b o (fun h => hSf (by rw [← h]; exact hb)) e) (Heap.get?_update_self _ hS3 rfl) ?_ ?_ (Nat.ne_of_gt hSlt) (hZ i _ hSlt) (fun b o e => other b o (hS0 b o e).1 (hk' b o (hS0 b o e).2 (hkeep b o e))) hlen hR
    · refine (Heap.get?_update_other _ _ (Nat.ne_of_lt hSlt)).trans ((Heap.get?_update_other _ _ (Nat.ne_of_lt hSlt)).trans ?_)
      rw [ea]
      exact Heap.get?_push_size _ rfl
    · intro hm
      exact absurd (Nat.lt_of_lt_of_le hSlt (hwS _ hm)) (Nat.lt_irrefl _)
end
section
variable {prog : Program} {w : World} {A : Around} {E : Value → Shared → Prop} {s : Shared}
theorem args_sum2 (a b : Value) : argsOk "sum" ⟨[a, b], []⟩ := by unfold argsOk; kernel_rfl
theorem call_sumL {l st : Addr} {its : List Value} {Ls : List (List Value)} {n0 : Nat} {Q : Value → Shared → Prop} (hh : A.handled = none) (hl : s.heap.IsList l its.toArray) (hz : its.length = Ls.length)
    (hi : ∀ (i : Nat) (v : Value) (vs : List Value), its[i]? = some v → Ls[i]? = some vs → ∃ b n, v = .ref b ∧ IsL s.heap b vs.toArray n) (hst : IsL s.heap st #[] n0) (hlen : Ls.flatten.length ≤ sizeLine)
    (h : ∀ h' tk p m, (∀ b o, s.heap.get? b = some o → h'.get? b = some o) → IsL h' p Ls.flatten.toArray m → (s.heap.objs.size ≤ p ∨ (Ls = [] ∧ p = st)) → Q (.ref p) { s with heap := h', toks := tk }) :
    wpAny (model prog w) A (call (.builtin "sum") [.ref l, .ref st]) Q E s := by
  refine call_function_tree F.kind_sum F.plain_sum F.entry_sum (args_sum2 _ _) ?_
  unfold Builtin.«sum»
  simp only [List.length_cons, List.length_nil]
  rw [if_neg (by decide)]
  refine wpAny_bind (wpAny_of_eq (show Builtin.Builtins.bindParams "sum" ["start"] 0 ⟨[.ref st], []⟩ = pure [some (.ref st)] from rfl) ?_)
  refine wpAny_bind (wpAny_pyIter_list hl ?_)
  have hlt : l < s.heap.objs.size := by obtain ⟨_, e, _⟩ := hl; exact Heap.lt_size e
  have hst1 := Heap.get?_push_of_some { cls := .type "list_iterator", data := .fields #[.ref l, .int 0 0] } hst
  refine wpAny_bind (wpAny_pure ?_)
  simp only [List.forIn_cons, List.forIn_nil]
  have ty : ∀ s' : Shared, s'.heap.get? st = some { cls := .type "list", dict := none, data := .seq #[] n0, slots := #[] } → s'.TypeIs (.ref st) "list" := fun s' e => ⟨_, e, rfl⟩
  refine wpAny_bind (wpAny_bind (wpAny_bind (wpAny_isInstance (T := "list") (b := false) (ty _ hst1) F.sub_list_str ?_)))
  simp only [Bool.false_eq_true, if_false]
  refine wpAny_pure (wpAny_bind (wpAny_bind (wpAny_isInstance (T := "list") (b := false) (ty _ hst1) F.sub_list_bytes ?_)))
  simp only [Bool.false_eq_true, if_false]
  refine wpAny_pure (wpAny_bind (wpAny_bind (wpAny_isInstance (T := "list") (b := false) (ty _ hst1) F.sub_list_bytearray ?_)))
  simp only [Bool.false_eq_true, if_false]
  refine wpAny_pure (wpAny_pure ?_)
  refine wpAny_bind (wpAny_newObj_type ?_)
  have hsz1 : (s.heap.push { cls := .type "list_iterator", data := .fields #[.ref l, .int 0 0] }).objs.size = s.heap.objs.size + 1 := Heap.size_push _ _
  refine wpAny_pure ⟨plainId_quiet F.plain_sum_loop _, ?_⟩
  have W := Walks.list (prog := prog) (w := w) (A := A.in1) hh s.heap.objs.size l (Nat.ne_of_lt hlt) its.toArray
  rw [show its.toArray.size = Ls.length by rw [List.size_toArray, hz]] at W
  refine sumL_loop (S := (s.heap.push { cls := .type "list_iterator", data := .fields #[.ref l, .int 0 0] }).objs.size) s.heap Ls W ?_ ?_ ?_ ?_ (fun i p => (s.heap.objs.size ≤ p) ∨ (i = 0 ∧ p = st)) (fun i p hp => .inl ?_) _ 0 _ st [] n0 0 rfl (Nat.zero_le _) ⟨⟨_, Heap.get?_push_of_some _ (Heap.get?_push_size _ rfl), rfl, rfl⟩, (hl.push _).push _⟩ (Heap.get?_push_size _ rfl) (Heap.get?_push_of_some _ hst1) ?_ ?_ (.inr ⟨rfl, rfl⟩) (fun b o e => Heap.get?_push_of_some _ (Heap.get?_push_of_some _ e)) (by simpa using hlen) ?_
  · rw [hsz1]
    intro hm
    rcases List.mem_cons.mp hm with e | hm
    · exact absurd e (Nat.succ_ne_self _)
    · rw [← List.mem_singleton.mp hm] at hlt
      exact absurd (Nat.lt_of_succ_lt hlt) (Nat.lt_irrefl _)
  · intro b o e
    have hb := Heap.lt_size e
    rw [hsz1]
    refine ⟨Nat.ne_of_lt (Nat.lt_succ_of_lt hb), fun hm => ?_⟩
    rw [List.mem_singleton.mp hm] at hb
    exact Nat.lt_irrefl _ hb
  · intro b hb
    rw [hsz1, List.mem_singleton.mp hb]
    exact Nat.le_succ _
  · intro i v vs hv hL
    exact hi i v vs (by simpa using hv) hL
  · rw [hsz1] at hp
    exact Nat.le_of_lt (Nat.lt_of_succ_lt hp)
  · intro hm
    have hb := Heap.lt_size hst
    rw [List.mem_singleton.mp hm] at hb
    exact Nat.lt_irrefl _ hb
  · have hb := Heap.lt_size hst
    rw [hsz1]
    exact Nat.ne_of_lt (Nat.lt_succ_of_lt hb)
  · intro h' tk p m hk hp hz'
    refine h h' tk p m hk (by simpa using hp) ?_
    rcases hz' with hz' | ⟨e1, e2⟩
    · exact .inl hz'
    · exact .inr ⟨List.eq_nil_of_length_eq_zero e1, e2⟩
end
end PU

namespace PU
open PySem PySem.Spec PyProof.Rows L2
def AreL (H : Hp) : List V → List (List V) → Prop
  | [], yss => yss = []
  | x :: xs, yss => ∃ b ys r, x = .ref b ∧ H b = some (.lst ys) ∧ yss = ys :: r ∧ AreL H xs r
def rSumL (K : PySem.W.Frag) : List V → Hp → VK → Prop := fun vs H Q => ∃ a st xs yss, vs = [.ref a, .ref st] ∧ SqL K H a xs ∧ AreL H xs yss ∧ H st = some (.lst []) ∧ yss.flatten.length ≤ sizeLine ∧
  (∀ p, H p = none → Q (.ref p) (upd H p (.lst yss.flatten))) ∧ (yss = [] → Q (.ref st) H)
section
variable {X : Cx}
theorem vals_append {xs ys : List V} {us vs : List Value} (a : Vals xs us) (b : Vals ys vs) : Vals (xs ++ ys) (us ++ vs) := a.append b
theorem areL_vals {pins : List (Addr × Obj)} {σ : L2.St} {H : Hp} {s : Shared} (I : Inv X pins σ H s) : ∀ (xs : List V) (yss : List (List V)) (its : List Value), AreL H xs yss → Vals xs its →
    ∃ Ls : List (List Value), its.length = Ls.length ∧ (∀ (i : Nat) (v : Value) (vs : List Value), its[i]? = some v → Ls[i]? = some vs → ∃ b n, v = .ref b ∧ IsL s.heap b vs.toArray n) ∧ Vals yss.flatten Ls.flatten ∧ (Ls = [] → yss = [])
  | [], yss, its, h, r => by
    cases r
    rw [show yss = [] from h]
    exact ⟨[], rfl, fun i v vs e => by simp at e, .nil, fun _ => rfl⟩
  | x :: xs, yss, its, h, r => by
    obtain ⟨b, ys, yr, rfl, hb, rfl, h2⟩ := h
    cases r with
    | cons r1 r2 =>
      rename_i u us
      cases r1
      obtain ⟨Ls, h3, h4, h5, _⟩ := areL_vals I xs yr us h2 r2
      obtain ⟨_, its2, n, r6, _, e6⟩ := I.lstM hb
      refine ⟨its2 :: Ls, by simp [h3], fun i v vs e e' => ?_, ?_, fun z => by cases z⟩
      · cases i with
        | zero =>
          simp at e e'
          subst e e'
          exact ⟨b, n, rfl, e6⟩
        | succ i =>
          simp at e e'
          exact h4 i v vs e e'
      · rw [List.flatten_cons, List.flatten_cons]
        exact r6.append h5
theorem cr_sumL (hc : X.calm = true) : CallR X (.builtin "sum") (rSumL X.K) := by
  intro pins s σ H vs us Q I r h
  obtain ⟨a, st, xs, yss, rfl, hs, har, hst, hz, q1, q2⟩ := h
  obtain ⟨its, rv, hl, _⟩ := I.list hs
  obtain ⟨u, w', rfl, r1, r2⟩ := vals2 r
  cases r1
  cases r2
  obtain ⟨Ls, h1, h2, h3, h4⟩ := areL_vals I xs yss its har rv
  obtain ⟨_, its0, n0, r0, _, e0⟩ := I.lstM hst
  cases r0
  refine call_sumL (Ls := Ls) (I.ok.hd hc) hl.isList h1 h2 e0 (by rw [← h3.length]; exact hz) fun h' tk p m hk hp hfr => ?_
  by_cases hL : Ls = []
  · rcases hfr with hfr | ⟨_, rfl⟩
    · have hy := h4 hL
      subst hL hy
      exact ⟨.ref p, _, I.laid (t' := tk) (o := .lst []) hk hfr ⟨Nat.zero_le _, [], m, .nil, hp⟩, rfl, q1 p (I.hok.fresh hfr)⟩
    · exact ⟨.ref p, _, I.kept (t' := tk) hk, rfl, q2 (h4 hL)⟩
  · have hfr : s.heap.objs.size ≤ p := hfr.elim id fun z => absurd z.1 hL
    exact ⟨.ref p, _, I.laid (t' := tk) (o := .lst yss.flatten) hk hfr ⟨hz, Ls.flatten, m, h3, hp⟩, rfl, q1 p (I.hok.fresh hfr)⟩
theorem flatL_are {H : Hp} {m : Wd} {S : Sto} (s : StoRel H m S) : ∀ (ds : List D) (xs : List V) (fs : List D), RepL H m ds xs → flatL ds S = some fs → ∃ yss, AreL H xs yss ∧ RepL H m fs yss.flatten
  | [], xs, fs, r, e => by
    cases e
    rw [show xs = [] from r]
    exact ⟨[], rfl, rfl⟩
  | d :: ds, xs, fs, r, e => by
    obtain ⟨x, xs, rfl, r1, r2⟩ := r
    have e' : (match itemsOf d S, flatL ds S with
      | some a, some b => some (a ++ b)
      | _, _ => none) = some fs := e
    split at e'
    · rename_i a b e1 e2
      cases e'
      obtain ⟨p, ys, rfl, h1, h2⟩ := items_rep s r1 e1
      obtain ⟨yss, h3, h4⟩ := flatL_are s ds xs b r2 e2
      exact ⟨ys :: yss, ⟨p, ys, yss, rfl, h1, rfl, h3⟩, h2.append h4⟩
    · cases e'
theorem AreL.grow {H : Hp} {p : Addr} {o : HO} (hp : H p = none) : ∀ (xs : List V) (yss : List (List V)), AreL H xs yss → AreL (upd H p o) xs yss
  | [], _, h => h
  | x :: xs, _, h => by
    obtain ⟨b, ys, r, e1, e2, e3, e4⟩ := h
    exact ⟨b, ys, r, e1, by rw [upd_ne (ne_of_none e2 hp)]; exact e2, e3, AreL.grow hp xs r e4⟩
/-- sum(xss, []) -/
def fSumL (f : Ex) : ExL := fun env S => bnd (f env S) fun d S1 => match readOf d S1 with
  | some ds => match flatL ds S1 with
    | some fs => if fs.length ≤ sizeLine then some (fs, S1) else none
    | none => none
  | none => none
theorem ff_sumL {e : Expr} {p p2 pos : Pos} {f : Ex} (hc : X.calm = true) (hm : X.mg "sum" = none) (he : PE X e (tE f)) (hg : Gl X "sum" := by rfl)
    (hs : starEach [e, .List [] p2] X.env = (false, eval e X.env) :: starEach [.List [] p2] X.env := by rfl) (hs2 : starEach [.List [] p2] X.env = (false, eval (.List [] p2) X.env) :: starEach [] X.env := by rfl) (hpl : (backTo pos (starEach [.List [] p2] X.env)).any (·.1) = false := by rfl) :
    PE X (.Call (.Name "sum" p) [e, .List [] p2] [] pos) (tF (fSumL f)) :=
  peI (pe_callB (cr_sumL hc) hg hm (by decide +kernel) (pa_cons he (pa_cons (pe_lst pa_nil) pa_nil hs2) hs) (by decide) (by decide) hs hpl) fun σ H Q ⟨env, m, S, d, S', er, sr, e, q⟩ => by
    obtain ⟨dx, S1, e1, e2⟩ := bnd_inv e
    split at e2
    · rename_i ds e3
      split at e2
      · rename_i fs e4
        split at e2
        · rename_i hz
          cases e2
          refine ⟨env, m, S, dx, _, er, sr, e1, fun v H1 m1 g1 s1 r1 => ⟨Nat.zero_le _, fun p0 hp0 => ?_⟩⟩
          obtain ⟨a, xs, rfl, h1, h2⟩ := read_rep s1 r1 e3
          obtain ⟨yss, h3, h4⟩ := flatL_are s1 ds xs _ h2 e4
          have g2 := Grow.upd (m := m1) (o := .lst []) hp0
          have h1' : Rd (upd H1 p0 (.lst [])) a (.lst xs) := by
            rcases h1 with h1 | ⟨o, h1⟩
            · exact .inl (by rw [upd_ne (ne_of_none h1 hp0)]; exact h1)
            · exact .inr ⟨o, by rw [upd_ne (ne_of_none h1 hp0)]; exact h1⟩
          refine ⟨a, p0, xs, yss, rfl, sqL_of h1', h3.grow hp0, upd_same, by rw [h4.len]; exact hz, fun p hp => ?_, fun z => ?_⟩
          · exact q p _ _ _ (g1.trans g2) (s1.upd hp0) (RepL.grow g2 _ _ h4) hp
          · subst z
            exact q p0 _ _ _ g1 s1 h4 hp0
        · cases e2
      · cases e2
    · cases e2
end
end PU

namespace PU
open PySem PySem.Spec PyProof.Rows L2

/-! ### keys -/
mutual
theorem kD_hash : ∀ (d : D) (k : NestedKey), kD d = some k → ∀ w w' : World, k.hash w = k.hash w'
  | .non, k, e => by cases e; exact fun _ _ => rfl
  | .bl b, k, e => by cases e; exact fun _ _ => rfl
  | .int i, k, e => by cases e; exact fun _ _ => rfl
  | .str x, k, e => by cases e
  | .tup ds, k, e => by
    have e' : (match kDs ds with
      | some ks => some (NestedKey.tup ks)
      | none => none) = some k := e
    split at e'
    · rename_i ks h
      cases e'
      intro w w'
      show reduceHash (Builtin.Tuple.tupleHashOf (NestedKey.hashes w ks)) = reduceHash (Builtin.Tuple.tupleHashOf (NestedKey.hashes w' ks))
      rw [kDs_hash ds ks h w w']
    · cases e'
  | .lst ds, k, e => by cases e
  | .rol ds, k, e => by cases e
  | .loc n, k, e => by cases e
  | .dct ds es, k, e => by cases e
theorem kDs_hash : ∀ (ds : List D) (ks : List NestedKey), kDs ds = some ks → ∀ w w' : World, NestedKey.hashes w ks = NestedKey.hashes w' ks
  | [], ks, e => by cases e; exact fun _ _ => rfl
  | d :: ds, ks, e => by
    have e' : (match kD d, kDs ds with
      | some k, some ks => some (k :: ks)
      | _, _ => none) = some ks := e
    split at e'
    · rename_i k ks' h1 h2
      cases e'
      intro w w'
      show k.hash w :: NestedKey.hashes w ks' = k.hash w' :: NestedKey.hashes w' ks'
      rw [kD_hash d k h1 w w', kDs_hash ds ks' h2 w w']
    · cases e'
end
theorem kDs_cons {d : D} {ds : List D} {ks : List NestedKey} (e : kDs (d :: ds) = some ks) : ∃ k kr, ks = k :: kr ∧ kD d = some k ∧ kDs ds = some kr := by
  have e' : (match kD d, kDs ds with
    | some k, some ks => some (k :: ks)
    | _, _ => none) = some ks := e
  split at e'
  · rename_i k ks' h1 h2
    cases e'
    exact ⟨k, ks', rfl, h1, h2⟩
  · cases e'
theorem kDs_append : ∀ {ds es : List D} {ks ls : List NestedKey}, kDs ds = some ks → kDs es = some ls → kDs (ds ++ es) = some (ks ++ ls)
  | [], es, ks, ls, h, h' => by cases h; exact h'
  | d :: ds, es, ks, ls, h, h' => by
    obtain ⟨k, kr, rfl, h1, h2⟩ := kDs_cons h
    show (match kD d, kDs (ds ++ es) with
      | some k, some ks => some (k :: ks)
      | _, _ => none) = _
    rw [h1, kDs_append h2 h']
    rfl
theorem kDs_len : ∀ {ds : List D} {ks : List NestedKey}, kDs ds = some ks → ks.length = ds.length
  | [], ks, e => by cases e; rfl
  | d :: ds, ks, e => by
    obtain ⟨k, kr, rfl, h1, h2⟩ := kDs_cons e
    rw [List.length_cons, List.length_cons, kDs_len h2]
section
variable {X : Cx} {pins : List (Addr × Obj)} {σ : L2.St} {H : Hp} {s : Shared} {m : Wd}
mutual
theorem key_is (I : Inv X pins σ H s) : ∀ (d : D) (x : V) (u : Value) (k : NestedKey), Rep H m d x → RelV x u → kD d = some k → NestedIs s.heap k u
  | .non, x, u, k, r, ru, e => by
    cases e
    rw [show x = .non from r] at ru
    cases (show u = Value.none from ru)
    exact .none
  | .bl b, x, u, k, r, ru, e => by
    cases e
    rw [show x = .bl b from r] at ru
    cases (show u = Value.bool b from ru)
    exact .bool rfl
  | .int i, x, u, k, r, ru, e => by
    cases e
    rw [show x = .int i from r] at ru
    obtain ⟨t, rfl⟩ := (show ∃ t, u = Value.int i t from ru)
    exact .int _ _
  | .str x, _, _, k, _, _, e => by cases e
  | .tup ds, x, u, k, r, ru, e => by
    have e' : (match kDs ds with
      | some ks => some (NestedKey.tup ks)
      | none => none) = some k := e
    split at e'
    · rename_i ks h
      cases e'
      obtain ⟨a, xs, rfl, ⟨o, h1, _⟩, _, r2⟩ := r
      cases (show u = Value.ref a from ru)
      obtain ⟨_, _, its, rv, o2, h3, hc, n, hd⟩ := (show s.heap.get? a = some o ∧ ObjOk X.prog X.w H s.heap a (.tup xs) from I.hok a _ h1)
      exact .tup h3 hc hd (by simpa using keys_are I ds xs its ks r2 rv h)
    · cases e'
  | .lst ds, _, _, k, _, _, e => by cases e
  | .rol ds, _, _, k, _, _, e => by cases e
  | .loc n, _, _, k, _, _, e => by cases e
  | .dct ds es, _, _, k, _, _, e => by cases e
theorem keys_are (I : Inv X pins σ H s) : ∀ (ds : List D) (xs : List V) (us : List Value) (ks : List NestedKey), RepL H m ds xs → Vals xs us → kDs ds = some ks → NestedAll s.heap ks us
  | [], xs, us, ks, r, ru, e => by
    cases e
    rw [show xs = [] from r] at ru
    cases ru
    exact .nil
  | d :: ds, xs, us, ks, r, ru, e => by
    obtain ⟨k, kr, rfl, h1, h2⟩ := kDs_cons e
    obtain ⟨x, xr, rfl, r1, r2⟩ := r
    cases ru with
    | cons q1 q2 => exact .cons (key_is I d x _ k r1 q1 h1) (keys_are I ds xr _ kr r2 q2 h2)
end
end
def isTupD : D → Bool
  | .tup _ => true
  | _ => false
def isIntD : D → Bool
  | .int _ => true
  | _ => false

/-! ### dicts by tuples -/
section
variable {X : Cx} {pins : List (Addr × Obj)} {σ : L2.St} {H : Hp} {s : Shared} {m : Wd} {D0 : Addr}
abbrev Zs := List (NestedKey × Addr × Value)
theorem entT (I : Inv X pins σ H s) : ∀ (es : List DictEntry) (ds : List D) (ks : List NestedKey) (xs ys : List V), EntL es ks xs ys → kDs ds = some ks → ds.all isTupD = true → RepL H m ds xs →
    ∃ zs : Zs, es = zs.map (entryOfKey (nestedKind X.prog X.w)) ∧ zs.map (·.1) = ks ∧ xs = zs.map (fun z => V.ref z.2.1) ∧ Vals ys (zs.map (·.2.2)) ∧ (∀ z ∈ zs, NestedIs s.heap z.1 (.ref z.2.1)) ∧ ∀ z ∈ zs, ∀ w w' : World, z.1.hash w = z.1.hash w'
  | [], ds, ks, xs, ys, h, _, _, _ => by
    obtain ⟨rfl, rfl, rfl⟩ := h
    exact ⟨[], rfl, rfl, rfl, .nil, fun _ h => (nomatch h), fun _ h => (nomatch h)⟩
  | e :: es, ds, ks, xs, ys, h, hk, ht, r => by
    obtain ⟨k, kr, x, xr, y, yr, rfl, rfl, rfl, h1, h2, h3, h4⟩ := h
    cases ds with
    | nil => cases hk
    | cons d ds =>
      obtain ⟨k', kr', e5, e6, e7⟩ := kDs_cons hk
      cases e5
      obtain ⟨x', xr', e8, r1, r2⟩ := r
      cases e8
      have ht' : (isTupD d && ds.all isTupD) = true := ht
      obtain ⟨t1, t2⟩ := Bool.and_eq_true_iff.mp ht'
      obtain ⟨zs, a1, a2, a3, a4, a5, a6⟩ := entT I es ds kr xr yr h4 e7 t2 r2
      cases d with
      | tup dd =>
        have hx : ∃ b, x = .ref b := let ⟨b, _, e, _⟩ := r1; ⟨b, e⟩
        obtain ⟨b, rfl⟩ := hx
        have hkey : e.key = .ref b := h2
        have isk := key_is I (.tup dd) (.ref b) (.ref b) k r1 rfl e6
        refine ⟨(k, b, e.val) :: zs, ?_, by rw [List.map_cons, a2], by rw [List.map_cons, a3], .cons h3 a4, ?_, ?_⟩
        · rw [List.map_cons, ← a1]
          congr 1
          obtain ⟨eh, ek, ev⟩ := e
          simp only at hkey h1
          subst hkey
          show DictEntry.mk eh (.ref b) ev = DictEntry.mk (k.hash X.w) (.ref b) ev
          rw [h1 X.w]
        · intro z hz
          rcases List.mem_cons.mp hz with rfl | hz
          · exact isk
          · exact a5 z hz
        · intro z hz
          rcases List.mem_cons.mp hz with rfl | hz
          · exact kD_hash _ _ e6
          · exact a6 z hz
      | _ => cases t1
/-- the dict as the library tells it -/
theorem dicT_zs {ds : List D} {ks : List NestedKey} {xs ys : List V} (I : Inv X pins σ H s) (hD : DicAt H D0 ks xs ys) (hk : kDs ds = some ks) (ht : ds.all isTupD = true) (r : RepL H m ds xs) :
    ∃ zs : Zs, s.heap.DictOfH (nestedKind X.prog X.w) D0 zs ∧ zs.map (·.1) = ks ∧ xs = zs.map (fun z => V.ref z.2.1) ∧ Vals ys (zs.map (·.2.2)) ∧ ∀ z ∈ zs, ∀ w w' : World, z.1.hash w = z.1.hash w' := by
  obtain ⟨h1, h2, o, h3, h4⟩ := hD
  obtain ⟨es, ep, h5, h6⟩ := h4.es
  have ho : s.heap.get? D0 = some o := (I.hok D0 _ h3).1
  obtain ⟨zs, a1, a2, a3, a4, a5, a6⟩ := entT I es.toList ds ks xs ys h6 hk ht r
  refine ⟨zs, ⟨o, es, ep, ho, h4.ex, h5, a1, fun z hz => ⟨a5 z hz, h4.dp _ ?_⟩, ?_⟩, a2, a3, a4, a6⟩
  · rw [← a2]
    exact List.mem_map_of_mem hz
  · rw [a2]
    exact h4.nd
theorem entB : ∀ (zs : Zs) (ys : List V), Vals ys (zs.map (·.2.2)) → (∀ z ∈ zs, ∀ w w' : World, z.1.hash w = z.1.hash w') → EntL (zs.map (entryOfKey (nestedKind X.prog X.w))) (zs.map (·.1)) (zs.map (fun z => V.ref z.2.1)) ys
  | [], ys, h, _ => by
    cases h
    exact ⟨rfl, rfl, rfl⟩
  | z :: zs, ys, h, hh => by
    cases h with
    | cons h1 h2 => exact ⟨_, _, _, _, _, _, rfl, rfl, rfl, fun w => hh z List.mem_cons_self _ _, rfl, h1, entB zs _ h2 fun z hz => hh z (List.mem_cons_of_mem _ hz)⟩
theorem dicT_back {h' : Heap} {zs : Zs} {ys : List V} (hd : h'.DictOfH (nestedKind X.prog X.w) D0 zs) (hv : Vals ys (zs.map (·.2.2))) (hh : ∀ z ∈ zs, ∀ w w' : World, z.1.hash w = z.1.hash w') :
    ∃ o, h'.get? D0 = some o ∧ DicRaw o (zs.map (·.1)) (zs.map (fun z => V.ref z.2.1)) ys := by
  obtain ⟨o, es, ep, h1, h2, h3, h4, h5, h6⟩ := hd
  refine ⟨o, h1, h2, ⟨es, ep, h3, ?_⟩, h6, fun k hk => ?_⟩
  · rw [h4]
    exact entB zs ys hv hh
  · obtain ⟨z, hz, rfl⟩ := List.mem_map.mp hk
    exact (h5 z hz).2
/-- the object written -/
theorem raw_write {h' : Heap} {o o' : Obj} {t' : Nat} (I : Inv X pins σ H s) (h3 : H D0 = some (rawO D0 o)) (hs : Heap.SameBut D0 s.heap h') (ho : h'.get? D0 = some o') : Inv X pins σ (upd H D0 (rawO D0 o')) { s with heap := h', toks := t' } :=
  I.write (by rw [h3]; exact True.intro) (.inl rfl) (fun b u hb e => (hs.2 b hb).trans e) ⟨o', ho⟩ ⟨ho, ⟨o', ho⟩, fun h1 h2 e k => k _ e⟩
/-- what is stored -/
def putV {α : Type} (ks : List NestedKey) (k : NestedKey) (v : α) (vs : List α) : List α := List.zipWith (fun k' e => if k' = k then v else e) ks vs
def setK (ks : List NestedKey) (k : NestedKey) : List NestedKey := if k ∈ ks then ks else ks ++ [k]
def setX {α : Type} (ks : List NestedKey) (k : NestedKey) (x : α) (xs : List α) : List α := if k ∈ ks then xs else xs ++ [x]
def setY {α : Type} (ks : List NestedKey) (k : NestedKey) (y : α) (ys : List α) : List α := if k ∈ ks then putV ks k y ys else ys ++ [y]
theorem atKey_some {zs : Zs} {k : NestedKey} : (atKey zs k).isSome = true ↔ k ∈ zs.map (·.1) := by
  unfold atKey
  rw [Option.isSome_map, List.find?_isSome]
  constructor
  · rintro ⟨z, hz, e⟩
    rw [← of_decide_eq_true e]
    exact List.mem_map_of_mem hz
  · intro h
    obtain ⟨z, hz, e⟩ := List.mem_map.mp h
    exact ⟨z, hz, decide_eq_true e⟩
theorem putAt_vals {k : NestedKey} {v : Value} {y : V} (rv : RelV y v) : ∀ (zs : Zs) (ys : List V), Vals ys (zs.map (·.2.2)) → Vals (putV (zs.map (·.1)) k y ys) ((zs.map (putAt k v)).map (·.2.2))
  | [], ys, h => by
    cases h
    exact .nil
  | z :: zs, ys, h => by
    cases h with
    | cons h1 h2 =>
      refine .cons ?_ (putAt_vals rv zs _ h2)
      show RelV (if z.1 = k then y else _) (putAt k v z).2.2
      unfold putAt
      split
      · exact rv
      · exact h1
theorem storedH_facts {zs : Zs} {k : NestedKey} {b : Addr} {v : Value} {y : V} {ys : List V} (rv : RelV y v) (hv : Vals ys (zs.map (·.2.2))) :
    (storedH zs k b v).map (·.1) = setK (zs.map (·.1)) k ∧ (storedH zs k b v).map (fun z => V.ref z.2.1) = setX (zs.map (·.1)) k (V.ref b) (zs.map (fun z => V.ref z.2.1)) ∧ Vals (setY (zs.map (·.1)) k y ys) ((storedH zs k b v).map (·.2.2)) := by
  unfold storedH setK setX setY
  by_cases h : k ∈ zs.map (·.1)
  · rw [if_pos (atKey_some.mpr h), if_pos h, if_pos h, if_pos h]
    refine ⟨?_, ?_, putAt_vals rv zs ys hv⟩
    · rw [List.map_map]
      refine List.map_congr_left fun z _ => ?_
      show (putAt k v z).1 = z.1
      unfold putAt
      split <;> rfl
    · rw [List.map_map]
      refine List.map_congr_left fun z _ => ?_
      show V.ref (putAt k v z).2.1 = V.ref z.2.1
      unfold putAt
      split <;> rfl
  · rw [if_neg (fun z => h (atKey_some.mp z)), if_neg h, if_neg h, if_neg h]
    refine ⟨by simp, by simp, ?_⟩
    rw [List.map_append]
    exact hv.append (.cons rv .nil)
theorem storedH_mem {zs : Zs} {k : NestedKey} {b : Addr} {v : Value} {z : NestedKey × Addr × Value} (h : z ∈ storedH zs k b v) : z.1 = k ∨ ∃ z' ∈ zs, z'.1 = z.1 := by
  unfold storedH at h
  split at h
  · obtain ⟨z', hz, rfl⟩ := List.mem_map.mp h
    refine .inr ⟨z', hz, ?_⟩
    unfold putAt
    split <;> rfl
  · rcases List.mem_append.mp h with h | h
    · exact .inr ⟨z, h, rfl⟩
    · rw [List.mem_singleton.mp h]
      exact .inl rfl
theorem setK_len (ks : List NestedKey) (k : NestedKey) : (setK ks k).length ≤ ks.length + 1 := by
  unfold setK
  split
  · omega
  · rw [List.length_append]
    exact Nat.le_refl _
/-- what a store by a tuple asks -/
def SetT (D0 : Addr) (y z : V) (H : Hp) (Nx : Hp → Prop) : Prop := ∃ m ds ks xs ys d k, DicAt H D0 ks xs ys ∧ kDs ds = some ks ∧ ds.all isTupD = true ∧ RepL H m ds xs ∧ Rep H m d y ∧ isTupD d = true ∧ kD d = some k ∧ k.depth ≤ 8 ∧ ks.length < sizeLine ∧
  ∀ o, DicAt (upd H D0 (rawO D0 o)) D0 (setK ks k) (setX ks k y xs) (setY ks k z ys) → Nx (upd H D0 (rawO D0 o))
theorem dictSetT {E : Value → Shared → Prop} {y z : V} {u r : Value} {Nx : Hp → Prop} {Q : Unit → Shared → Prop} (hu : X.A.units + 8 < cLine) (I : Inv X pins σ H s) (ry : RelV y u) (rz : RelV z r) (h : SetT D0 y z H Nx)
    (hq : ∀ s' H', Inv X pins σ H' s' → Nx H' → Q () s') : wpAny (model X.prog X.w) X.A (dictSet D0 u r) Q E s := by
  obtain ⟨m, ds, ks, xs, ys, d, k, hD, hk, ht, rx, rd, htd, hkd, hdp, hz, nx⟩ := h
  obtain ⟨zs, z1, z2, z3, z4, z5⟩ := dicT_zs I hD hk ht rx
  have isk := key_is I d y u k rd ry hkd
  cases d with
  | tup dd =>
    obtain ⟨b, _, rfl, _⟩ := id rd
    cases (show u = Value.ref b from ry)
    obtain ⟨h1, h2, o, h3, h4⟩ := id hD
    have hlen : zs.length ≤ sizeLine := by
      have e := congrArg List.length z2
      rw [List.length_map] at e
      rw [e]
      exact h2
    refine wpAny_dictSet_heap (knd := nestedKind X.prog X.w) (hsz := hlen) hu ⟨isk, hdp⟩ z1 fun h' hd' hs => ?_
    obtain ⟨f1, f2, f3⟩ := storedH_facts (k := k) (b := b) rz z4
    obtain ⟨o', ho', hr'⟩ := dicT_back hd' f3 fun z hz => by
      rcases storedH_mem hz with e | ⟨z', hz', e⟩
      · rw [e]
        exact kD_hash _ _ hkd
      · rw [← e]
        exact z5 z' hz'
    rw [f1, f2, z2, ← z3] at hr'
    exact hq _ _ (raw_write I h3 hs ho') (nx o' ⟨h1, Nat.le_trans (setK_len ks k) hz, o', upd_same, hr'⟩)
  | _ => cases htd
end
end PU

namespace PU
open PySem PySem.Spec PyProof.Rows L2

/-- what a store asks, by the kind of its keys -/
def SetD (D0 : Addr) (y z : V) (H : Hp) (Nx : Hp → Prop) : Prop := SetT D0 y z H Nx
theorem dictSetD {X : Cx} {pins : List (Addr × Obj)} {σ : L2.St} {H : Hp} {s : Shared} {D0 : Addr} {E : Value → Shared → Prop} {y z : V} {u r : Value} {Nx : Hp → Prop} {Q : Unit → Shared → Prop} (hu : X.A.units + 8 < cLine) (I : Inv X pins σ H s) (ry : RelV y u) (rz : RelV z r) (h : SetD D0 y z H Nx)
    (hq : ∀ s' H', Inv X pins σ H' s' → Nx H' → Q () s') : wpAny (model X.prog X.w) X.A (dictSet D0 u r) Q E s := dictSetT hu I ry rz h hq
section
variable {X : Cx}
/-- {k: v for target in iter if ..}, keys ints or texts: D the new dict -/
def tDcO (wi : TI) (g : TG) (tt : TT) (tk tv : TE) (vs : List Nat) : TE := fun σ H Q => wi σ H fun J H1 => ∀ D o0, H1 D = none → (D == sysModules) = false → DicRaw o0 [] [] [] → ∃ W : Nat → Nat → Hp → Prop, (∃ m, W 0 m (upd H1 D (rawO D o0))) ∧ ∀ i m H, W i m H →
  (J.stop i H ∧ Q (.ref D) H) ∨ (J.go i H ∧ ∃ Nx : Hp → Prop, (∀ H', Nx H' → ∃ m', m' < m ∧ W (i + 1) m' H') ∧ ∀ x H', J.yld i H x H' → g x (wipe σ vs) H' fun σ2 H2 => wipe σ2 vs = wipe σ vs ∧ tt σ2 H2 fun b H3 =>
    if b = true then tk σ2 H3 fun y H4 => tv σ2 H4 fun z H5 => SetD D y z H5 Nx else Nx H3)
theorem dcO_core {pins : List (Addr × Obj)} {s : Shared} {σ : L2.St} {H : Hp} {Q : VK} {kx vx tg iter : Expr} {ifs : List Expr} {scope : Scope} {own : List (Str × Nat)} {pos pos' : Pos} {wi : TI} {g : TG} {tt : TT} {tk tv : TE} {use : Option (Value → Sem Unit)} {Qf : Value → Shared → Prop}
    (hu : X.A.units + 8 < cLine) (hc : X.calm = true) (hN : X.N.Nodup) (I : Inv X pins σ H s) (hi : PI X tg iter wi) (ok : BlkOk X.N X.env.scope scope own)
    (hg : ∀ (s : Shared) (H : Hp) (C : Addr) (cl : List (Str × Addr)) (fp : List Addr), PG (X.blk s H scope (compEnvC scope cl C X.env) fp) tg g) (ht : ∀ (s : Shared) (H : Hp) (C : Addr) (cl : List (Str × Addr)) (fp : List Addr), PTs (X.blk s H scope (compEnvC scope cl C X.env) fp) ifs tt)
    (hk : ∀ (s : Shared) (H : Hp) (C : Addr) (cl : List (Str × Addr)) (fp : List Addr), PE (X.blk s H scope (compEnvC scope cl C X.env) fp) kx tk)
    (he : ∀ (s : Shared) (H : Hp) (C : Addr) (cl : List (Str × Addr)) (fp : List Addr), PE (X.blk s H scope (compEnvC scope cl C X.env) fp) vx tv) (hs : ∀ x, foldedSetIterable iter X.env x = pure x)
    (h : tDcO wi g tt tk tv (own.map (·.2)) σ H Q)
    (hRR : ∀ D C s' m H', Inv X pins σ H' s' → Q (.ref D) H' → s'.heap.Ns C m → FpOk X pins H' C → compPost (model X.prog X.w) X.A X.xe use Qf (.ref D) C (.ok .next) s') :
    wpAny (model X.prog X.w) X.A (comprehension (.DictComp kx vx [⟨tg, iter, ifs, 0⟩] scope pos) scope X.env pos' newDict false (eval iter X.env) use) Qf X.xe s := by
  have hfree : ∀ y ∈ scope.names, y.2 = .free → ∃ c, X.env.cells.lookup y.1 = some c := fun y hy e => by
    rcases ok.free y hy e with k | k
    · exact I.ok.has _ (.inl k)
    · exact I.ok.has _ (.inr k)
  refine wpAny_comprehension_free (use := use) rfl hs (closure_ok hfree) ok.kind (fun y hy e => by rw [ok.uniq y hy, e])
    (thn (hi.run pins s σ H _ I h) fun xv s1 hx => thn hx fun itv s2 h2 => ?_)
  obtain ⟨it, fp, tn, J, H2, e, I2, T, st2, f2, q⟩ := h2
  subst e
  refine wpAny_newObj_type (newEnv_comp ?_)
  generalize hD : s2.heap.objs.size = D
  have hDn : H2 D = none := I2.hok.fresh (Nat.le_of_eq hD)
  have hDm : (D == sysModules) = false := by rw [← hD]; exact beq_eq_false_iff_ne.mpr (Ne.symm (Nat.ne_of_lt I2.big))
  have hraw0 : DicRaw { cls := .type "dict", data := .dict #[] } [] [] [] := ⟨⟨rfl, rfl, rfl⟩, ⟨#[], 0, rfl, rfl, rfl, rfl⟩, List.nodup_nil, fun _ h => (nomatch h)⟩
  obtain ⟨W, ⟨m0, w0⟩, turn⟩ := q D _ hDn hDm hraw0
  -- the new list
  generalize hs3 : ({ s2 with heap := s2.heap.push { cls := .type "dict", data := .dict #[] } } : Shared) = s3
  have I3 : Inv X pins σ (upd H2 D (rawO D { cls := .type "dict", data := .dict #[] })) s3 := by
    rw [← hs3]
    refine I2.laid (t' := s2.toks) (fun b o e => Heap.get?_push_of_some _ e) (Nat.le_of_eq hD) ?_
    have hg : (s2.heap.push { cls := .type "dict", data := .dict #[] }).get? D = some { cls := .type "dict", data := .dict #[] } := by rw [← hD]; exact Heap.get?_push_size _ rfl
    exact ⟨hg, ⟨_, hg⟩, fun h1 h2 e k => k _ e⟩
  have h3 : s3.heap = s2.heap.push { cls := .type "dict", data := .dict #[] } := by rw [← hs3]
  have sz : ∀ b ∈ fp, b < s2.heap.objs.size := fun b hb => by
    obtain ⟨o, e, _⟩ := T.obj _ _ st2 b hb
    exact Heap.lt_size e
  have f3 : ∀ b ∈ fp, FpOk X pins (upd H2 D (rawO D { cls := .type "dict", data := .dict #[] })) b ∧ b < s3.heap.objs.size := fun b hb => by
    have hlt := sz b hb
    refine ⟨⟨?_, (f2 b hb).2⟩, by rw [h3, Heap.size_push]; exact Nat.lt_succ_of_lt hlt⟩
    rw [upd_ne (by rw [← hD]; exact Nat.ne_of_lt hlt)]
    exact (f2 b hb).1
  have st3 : tn 0 s3.heap := T.keep _ _ _ st2 fun b _ o e => by rw [h3]; exact Heap.get?_push_of_some _ e
  have I4 := block_start I3 ok hN f3
  have pg := hg s3 (upd H2 D (rawO D { cls := .type "dict", data := .dict #[] })) s3.heap.objs.size (cellsFrom (s3.heap.objs.size + 1) scope.names (cloFrom X.env.cells scope.names [])) fp
  have pt := ht s3 (upd H2 D (rawO D { cls := .type "dict", data := .dict #[] })) s3.heap.objs.size (cellsFrom (s3.heap.objs.size + 1) scope.names (cloFrom X.env.cells scope.names [])) fp
  have pk := hk s3 (upd H2 D (rawO D { cls := .type "dict", data := .dict #[] })) s3.heap.objs.size (cellsFrom (s3.heap.objs.size + 1) scope.names (cloFrom X.env.cells scope.names [])) fp
  have pe := he s3 (upd H2 D (rawO D { cls := .type "dict", data := .dict #[] })) s3.heap.objs.size (cellsFrom (s3.heap.objs.size + 1) scope.names (cloFrom X.env.cells scope.names [])) fp
  show codeAny _ _ (.compStart (.DictComp kx vx [⟨tg, iter, ifs, 0⟩] scope pos) 0 (.ref it) (.ref D) (compEnvC scope (cellsFrom (s3.heap.objs.size + 1) scope.names (cloFrom X.env.cells scope.names [])) s3.heap.objs.size X.env)) (compPost (model X.prog X.w) X.A X.xe use Qf (.ref D) s3.heap.objs.size) { s3 with heap := pushCells (s3.heap.push { cls := .type "dict", data := .dict #[] }) scope.names }
  have nfp : ∀ b ∈ fp, (upd H2 D (rawO D { cls := .type "dict", data := .dict #[] })) b = none := fun b hb => (f3 b hb).1.1
  generalize hce : compEnvC scope (cellsFrom (s3.heap.objs.size + 1) scope.names (cloFrom X.env.cells scope.names [])) s3.heap.objs.size X.env = ce at I4 pg pt pk pe ⊢
  have cL : ce.locals = s3.heap.objs.size := by subst hce; rfl
  generalize hH3 : upd H2 D (rawO D { cls := .type "dict", data := .dict #[] }) = H3 at I3 I4 pg pt pk pe w0 nfp f3
  generalize hs4 : ({ s3 with heap := pushCells (s3.heap.push { cls := .type "dict", data := .dict #[] }) scope.names } : Shared) = s4 at I4 ⊢
  have st4 : tn 0 s4.heap := T.keep _ _ _ st3 fun b _ o e => by rw [← hs4]; exact pushCells_keeps _ _ _ _ (Heap.get?_push_of_some _ e)
  have stat : ∀ {σ' : L2.St} {H' : Hp} {s' : Shared}, Inv (X.blk s3 H3 scope ce fp) [] σ' H' s' → (∀ b ∈ fp, H' b = none) → ∀ b ∈ fp, FpOk (X.blk s3 H3 scope ce fp) [] H' b := fun {σ' H' s'} I' hn b hb =>
    ⟨hn b hb, (I'.ok.exf b hb).1, I'.ok.exfs b hb, .inl hb, fun x c e => (I'.ok.exf b hb).2 x c e, fun p hp => absurd (show p ∈ ([] : List (Addr × Obj)) ++ [] from hp) (by simp)⟩
  have loop : codeAny (model X.prog X.w) X.A (.compLoop (.DictComp kx vx [⟨tg, iter, ifs, 0⟩] scope pos) 0 (.ref it) (.ref D) ce) (compPost (model X.prog X.w) X.A X.xe use Qf (.ref D) s3.heap.objs.size) s4 := by
    refine compLoop_anyD (fun n s' => ∃ i H', Inv (X.blk s3 H3 scope ce fp) [] (wipe σ (own.map (·.2))) H' s' ∧ tn i s'.heap ∧ (∀ b ∈ fp, H' b = none) ∧ W i n H') ?_ m0 ⟨0, H3, I4, st4, nfp, w0⟩
    rintro n s5 ⟨i, H5, I5, st5, n5, w5⟩
    rcases turn i n H5 w5 with ⟨stop, qq⟩ | ⟨go, Nx, hNx, step⟩
    · have td := T.done (X.blk s3 H3 scope ce fp) rfl rfl rfl hc i [] s5 _ H5 (fun _ _ => False) I5 (stat I5 n5) st5 stop
      refine thnF td fun r s6 ⟨hr, I6⟩ => ?_
      subst hr
      -- back in the def's context
      have I7 : Inv X pins σ H5 s6 := I3.call' (ch := fp) I6.os I6.base I6.hok I6.bare fun b hb => ⟨(f3 b hb).1.2.2.2.1, (f3 b hb).1.2.1, (f3 b hb).1.2.2.2.2.1, (f3 b hb).1.2.2.2.2.2⟩
      have nC : H5 s3.heap.objs.size = none := by
        have z : H5 ce.locals = none := I6.free
        rw [cL] at z
        exact z
      obtain ⟨m, hn, _⟩ := I6.loc
      have hn : s6.heap.Ns ce.locals m := hn
      rw [cL] at hn
      exact hRR D s3.heap.objs.size s6 m H5 I7 qq hn (I3.fpOk (Nat.le_refl _) nC)
    · have ti := T.item (X.blk s3 H3 scope ce fp) rfl rfl rfl hc i [] s5 _ H5 (fun _ _ => False) I5 (stat I5 n5) st5 go
      refine thnF ti fun r s6 ⟨u, hr, h6⟩ => ?_
      subst hr
      refine thnF h6 fun _ s7 ⟨x, H7, I7, r7, y7, st7, n7⟩ => ?_
      have I7' := I7.pinned (stat I7 n7) (T.obj _ _ st7)
      refine thnF (pg.run _ s7 _ H7 x u _ I7' r7 (step x H7 y7)) fun _ s8 ⟨σ8, H8, I8, hw8, q8⟩ => ?_
      refine thnF (pt.run _ s8 σ8 H8 _ I8 q8) fun b s9 ⟨H9, I9, q9⟩ => ?_
      -- the turn's end
      have fin : ∀ {s' : Shared} {H' : Hp}, Inv (X.blk s3 H3 scope ce fp) ([] ++ pinsAt fp s7.heap) σ8 H' s' → Nx H' → ∃ m, m < n ∧ ∃ i H', Inv (X.blk s3 H3 scope ce fp) [] (wipe σ (own.map (·.2))) H' s' ∧ tn i s'.heap ∧ (∀ b ∈ fp, H' b = none) ∧ W i m H' := fun {s' H'} I' nx => by
        obtain ⟨m', hm, w'⟩ := hNx H' nx
        have pin' : ∀ b ∈ fp, ∀ o, s7.heap.get? b = some o → s'.heap.get? b = some o ∧ H' b = none := fun b hb o e =>
          let z := I'.pin (b, o) (List.mem_append_right _ (List.mem_append_right _ (mem_pinsAt hb e)))
          ⟨z.1, z.2.1⟩
        have hl : (wipe σ (own.map (·.2))).length = σ8.length := by rw [← hw8, wipe_length]
        refine ⟨m', hm, i + 1, H', (I'.unpinned (pins := [])).weak hl (fun j v e => ?_), T.keep _ _ _ st7 fun b hb o e => (pin' b hb o e).1, fun b hb => ?_, w'⟩
        · rw [← hw8] at e
          exact (wipe_some e).1
        · obtain ⟨o, e, _⟩ := T.obj _ _ st7 b hb
          exact (pin' b hb o e).2
      cases b with
      | false =>
        simp only [Bool.false_eq_true, if_false] at q9 ⊢
        exact fin I9 q9
      | true =>
        simp only [if_true] at q9 ⊢
        refine thnF (pk.run _ s9 σ8 H9 _ I9 q9) fun z s10 ⟨yk, H10, I10, r10, q10⟩ => ?_
        refine thnF (pe.run _ s10 σ8 H10 _ I10 q10) fun z2 s11 ⟨yv, H11, I11, r11, st11⟩ => ?_
        exact dictSetD (X := X.blk s3 H3 scope ce fp) hu I11 r10 r11 st11 fun s12 H12 I12 nx => fin I12 nx
  exact codeAny_compStart_dict loop (T.self X.A 0 _ _ _ st4 loop)
/-- as a value -/
theorem pe_dcO {kx vx tg iter : Expr} {ifs : List Expr} {scope : Scope} {own : List (Str × Nat)} {pos : Pos} {wi : TI} {g : TG} {tt : TT} {tk tv : TE} (hu : X.A.units + 8 < cLine) (hc : X.calm = true) (hN : X.N.Nodup) (hi : PI X tg iter wi) (ok : BlkOk X.N X.env.scope scope own)
    (hg : ∀ (s : Shared) (H : Hp) (C : Addr) (cl : List (Str × Addr)) (fp : List Addr), PG (X.blk s H scope (compEnvC scope cl C X.env) fp) tg g) (ht : ∀ (s : Shared) (H : Hp) (C : Addr) (cl : List (Str × Addr)) (fp : List Addr), PTs (X.blk s H scope (compEnvC scope cl C X.env) fp) ifs tt)
    (hk : ∀ (s : Shared) (H : Hp) (C : Addr) (cl : List (Str × Addr)) (fp : List Addr), PE (X.blk s H scope (compEnvC scope cl C X.env) fp) kx tk)
    (he : ∀ (s : Shared) (H : Hp) (C : Addr) (cl : List (Str × Addr)) (fp : List Addr), PE (X.blk s H scope (compEnvC scope cl C X.env) fp) vx tv) (hs : ∀ x, foldedSetIterable iter X.env x = pure x := by intro _; rfl) :
    PE X (.DictComp kx vx [⟨tg, iter, ifs, 0⟩] scope pos) (tDcO wi g tt tk tv (own.map (·.2))) := by
  refine ⟨fun pins s σ H Q I h => ?_⟩
  rw [arm_eval_DictComp]
  refine dcO_core hu hc hN I hi ok hg ht hk he hs h fun D C s' m H' I' q hn f => ⟨m, hn, fun h'' sb => ?_⟩
  obtain ⟨f0, f1, f2, f3, f4, f5⟩ := f
  exact ⟨.ref D, H', I'.turned (t' := s'.toks) (fun b o hb e => (sb.2 b hb).trans e) f0 f1 f3 f4 f5, rfl, q⟩

/-! ### on data -/
abbrev ExDT := En → Sto → Option ((List D × List D) × Sto)
/-- a new dict at a new place -/
def tDf (f : ExDT) : TE := fun σ H Q => ∃ env m S ds es S', EnvRel H m env σ ∧ StoRel H m S ∧ f env S = some ((ds, es), S') ∧
  ∀ p o ks xs ys H' m', Grow H m H' m' → StoRel H' m' S' → kDs ds = some ks → RepL H' m' ds xs → RepL H' m' es ys → DicAt (upd H' p (rawO p o)) p ks xs ys → H' p = none → Q (.ref p) (upd H' p (rawO p o))
def dSetS (ds es : List D) (d y : D) : Option (List D × List D) := match kDs ds, kD d with
  | some ks, some k => if (isTupD d && ds.all isTupD) = true ∧ k.depth ≤ 8 ∧ ks.length < sizeLine then some (setX ks k d ds, setY ks k y es) else none
  | _, _ => none
theorem dSetS_inv {ds es ds' es' : List D} {d y : D} (h : dSetS ds es d y = some (ds', es')) : ∃ ks k, kDs ds = some ks ∧ kD d = some k ∧ isTupD d = true ∧ ds.all isTupD = true ∧ k.depth ≤ 8 ∧ ks.length < sizeLine ∧ ds' = setX ks k d ds ∧ es' = setY ks k y es := by
  unfold dSetS at h
  split at h
  · rename_i ks k h1 h2
    split at h
    · rename_i h3
      cases h
      obtain ⟨h4, h5⟩ := Bool.and_eq_true_iff.mp h3.1
      exact ⟨ks, k, h1, h2, h4, h5, h3.2.1, h3.2.2, rfl, rfl⟩
    · cases h
  · cases h
theorem kDs_set {ds : List D} {ks : List NestedKey} {d : D} {k : NestedKey} (h : kDs ds = some ks) (h' : kD d = some k) : kDs (setX ks k d ds) = some (setK ks k) := by
  unfold setX setK
  split
  · exact h
  · refine kDs_append h ?_
    show (match kD d, kDs [] with
      | some k, some ks => some (k :: ks)
      | _, _ => none) = _
    rw [h']
    rfl
theorem all_set {ds : List D} {ks : List NestedKey} {d : D} {k : NestedKey} (h : ds.all isTupD = true) (h' : isTupD d = true) : (setX ks k d ds).all isTupD = true := by
  unfold setX
  split
  · exact h
  · simp [List.all_append, h, h']
theorem RepL.setX {H : Hp} {m : Wd} {ds : List D} {xs : List V} {ks : List NestedKey} {k : NestedKey} {d : D} {x : V} (r : RepL H m ds xs) (r' : Rep H m d x) : RepL H m (PU.setX ks k d ds) (PU.setX ks k x xs) := by
  unfold PU.setX
  split
  · exact r
  · exact r.append ⟨x, [], rfl, r', rfl⟩
theorem RepL.putV {H : Hp} {m : Wd} {k : NestedKey} {d : D} {x : V} (r' : Rep H m d x) : ∀ {ks : List NestedKey} {ds : List D} {xs : List V}, RepL H m ds xs → RepL H m (PU.putV ks k d ds) (PU.putV ks k x xs)
  | [], _, _, _ => rfl
  | _ :: _, [], xs, r => by
    rw [show xs = [] from r]
    exact rfl
  | k' :: ks, d' :: ds, xs, r => by
    obtain ⟨x', xr, rfl, h1, h2⟩ := r
    refine ⟨if k' = k then x else x', PU.putV ks k x xr, rfl, ?_, RepL.putV r' h2⟩
    show Rep H m (if k' = k then d else d') (if k' = k then x else x')
    split
    · exact r'
    · exact h1
theorem RepL.setY {H : Hp} {m : Wd} {ds : List D} {xs : List V} {ks : List NestedKey} {k : NestedKey} {d : D} {x : V} (r : RepL H m ds xs) (r' : Rep H m d x) : RepL H m (PU.setY ks k d ds) (PU.setY ks k x xs) := by
  unfold PU.setY
  split
  · exact r.putV r'
  · exact r.append ⟨x, [], rfl, r', rfl⟩
/-- the dict that grows -/
structure AccD (H : Hp) (m : Wd) (D0 : Addr) (ds es : List D) : Prop where
  ok : ∃ ks xs ys, DicAt H D0 ks xs ys ∧ kDs ds = some ks ∧ RepL H m ds xs ∧ RepL H m es ys
  tu : ds.all isTupD = true
theorem AccD.at {H H' : Hp} {m m' : Wd} {D0 : Addr} {ds es : List D} (a : AccD H m D0 ds es) (g : Grow H m H' m') (h : D0 ∈ m.x) (n : D0 ∉ m.m) : AccD H' m' D0 ds es := by
  obtain ⟨ks, xs, ys, ⟨h1, h2, o, h3, h4⟩, h5, h6, h7⟩ := a.ok
  exact ⟨⟨ks, xs, ys, ⟨h1, h2, o, g.keep _ _ h3 n, h4⟩, h5, RepL.grow g _ _ h6, RepL.grow g _ _ h7⟩, a.tu⟩
open Classical in
noncomputable def dcF (c : Src) (g : ExT) (t : ExB) (fk fv : Ex) (env0 : En) : List D → List D → List D → Sto → Option ((List D × List D) × Sto)
  | [], ds, es, S => if okS c S then some ((ds, es), S) else none
  | d :: r, ds, es, S => if okS c S then bnd (g d env0 S) fun env1 S1 => bnd (t env1 S1) fun b S2 => if b = true then bnd (fk env1 S2) fun y S3 => bnd (fv env1 S3) fun z S4 => (match dSetS ds es y z with
    | some (ds', es') => dcF c g t fk fv env0 r ds' es' S4
    | none => none) else dcF c g t fk fv env0 r ds es S2 else none
noncomputable def fDc (it : ExI) (g : ExT) (t : ExB) (fk fv : Ex) (vs : List Nat) : ExDT := fun env S => bnd (it env S) fun c S1 => dcF c g t fk fv (wipeE env vs) c.items [] [] S1
theorem wipe_wipe (vs : List Nat) (σ : L2.St) : L2.wipe (L2.wipe σ vs) vs = L2.wipe σ vs := by
  have ww : ∀ (us : List Nat) (σ : L2.St), (∀ v ∈ us, v ∈ vs) → L2.wipe (L2.wipe σ vs) us = L2.wipe σ vs := by
    intro us
    induction us with
    | nil => intro σ _; rfl
    | cons u us ih =>
      intro σ hs
      show (L2.wipe (L2.wipe σ vs) us).set u none = _
      rw [ih σ fun v hv => hs v (List.mem_cons_of_mem _ hv)]
      have hu : u ∈ vs := hs u List.mem_cons_self
      have wn : ∀ (l : List Nat), u ∈ l → (L2.wipe σ l).set u none = L2.wipe σ l := by
        intro l
        induction l with
        | nil => intro h; cases h
        | cons a l ihl =>
          intro h
          show ((L2.wipe σ l).set a none).set u none = (L2.wipe σ l).set a none
          by_cases ha : u = a
          · subst ha
            rw [List.set_set]
          · rcases List.mem_cons.mp h with h | h
            · exact absurd h ha
            · rw [List.set_comm _ _ (fun z => ha z.symm), ihl h]
      exact wn vs hu
  exact ww vs σ fun _ h => h
theorem dc_tE {Y : YT} {it : ExI} {g : ExT} {t : ExB} {fk fv : Ex} {vs : List Nat} (σ : L2.St) (H : Hp) (Q : VK) (h : tDf (fDc it g t fk fv vs) σ H Q) : tDcO (tI Y it) (tGY vs Y g) (tT t) (tE fk) (tE fv) vs σ H Q := by
  obtain ⟨env, m, S, ds, es, S', er, sr, e, q⟩ := h
  obtain ⟨c, S1, e1, e2⟩ := bnd_inv e
  refine ⟨env, m, S, c, S1, er, sr, e1, fun J H1 m1 g1 s1 isit => ?_⟩
  intro D o0 hD hDm hr0
  have er1 := (er.grow g1).wipe vs
  let P := fun (i : Nat) (H : Hp) => ∃ (m2 : Wd) (S2 : Sto) (ads aes : List PU.D), i ≤ c.items.length ∧ Grow H1 m1 H m2 ∧ Grow H1 m1 (del H D) ⟨m2.m, m1.x⟩ ∧ D ∈ m2.x ∧ EnvRel H m2 (wipeE env vs) (L2.wipe σ vs) ∧ StoRel H m2 S2 ∧ AccD H m2 D ads aes ∧ dcF c g t fk fv (wipeE env vs) (c.items.drop i) ads aes S2 = some ((ds, es), S')
  refine ⟨fun i n H => n = c.items.length - i ∧ P i H, ⟨c.items.length, by simp, m1.res D, S1, [], [], Nat.zero_le _, Grow.enter hD, ?_, List.mem_cons_self, er1.grow (Grow.enter hD), s1.enter hD, ⟨⟨[], [], [], ⟨hDm, Nat.zero_le _, o0, upd_same, hr0⟩, rfl, rfl, rfl⟩, rfl⟩, e2⟩, ?_⟩
  · rw [del_upd, del_of hD]
    exact Grow.refl
  rintro i n H2 ⟨hn, m2, S2, ads, aes, hi, g2, gd, hx, er2, s2, ra, e3⟩
  by_cases hlt : i < c.items.length
  · have hd : c.items.drop i = c.items[i] :: c.items.drop (i + 1) := (List.drop_eq_getElem_cons hlt)
    rw [hd] at e3
    unfold dcF at e3
    split at e3
    · rename_i hok
      obtain ⟨env3, S3, e4, e3⟩ := bnd_inv e3
      obtain ⟨b, S4, e5, e3⟩ := bnd_inv e3
      obtain ⟨hgo, hy⟩ := isit.item H2 m2 S2 i _ g2 s2 hok (List.getElem?_eq_getElem hlt)
      refine .inr ⟨hgo, P (i + 1), fun H' hN => ⟨c.items.length - (i + 1), by omega, rfl, hN⟩, fun x H3 y => ?_⟩
      obtain ⟨gy, sy, yy⟩ := hy x H3 y
      refine ⟨wipeE env vs, m2, S2, _, env3, S3, er2.grow gy, sy, yy, e4, fun σ4 H4 m4 g4 s4 er4 w4 => ⟨?_, ?_⟩⟩
      · rw [w4]
        exact wipe_wipe vs σ
      · refine ⟨env3, m4, S3, b, S4, er4, s4, e5, fun H5 m5 g5 s5 => ?_⟩
        have g25 := gy.trans (g4.trans g5)
        cases b with
        | true =>
          rw [if_pos rfl] at e3
          obtain ⟨yk, S6, e6, e3⟩ := bnd_inv e3
          obtain ⟨yv, S7, e7, e3⟩ := bnd_inv e3
          refine iteT ⟨env3, m5, S4, yk, S6, er4.grow g5, s5, e6, fun v H6 m6 g6 s6 r6 => ?_⟩
          refine ⟨env3, m6, S6, yv, S7, (er4.grow g5).grow g6, s6, e7, fun u H7 m7 g7 s7 r7 => ?_⟩
          split at e3
          · rename_i ds' es' hset
            obtain ⟨ks0, k, f1, f2, f3, f4, f5, f6, rfl, rfl⟩ := dSetS_inv hset
            have g27 := g25.trans (g6.trans g7)
            obtain ⟨⟨ks, xs, ys, hda, hk, rx, ry⟩, _⟩ := ra.at g27 hx (s2.res D hx).2
            cases hk.symm.trans f1
            have hx7 := g27.sub D hx
            have r6' := Rep.grow g7 _ _ r6
            refine ⟨m7, ads, ks0, xs, ys, yk, k, hda, f1, f4, rx, r6', f3, f2, f5, f6, fun o' hd' => ?_⟩
            have qq : ∀ b, b ≠ D → upd H7 D (rawO D o') b = H7 b := fun b hb => upd_ne hb
            refine ⟨m7, S7, _, _, hlt, ?_, ?_, hx7, (er2.grow g27).rewrite hx7, s7.rewrite hx7, ⟨⟨_, _, _, hd', kDs_set f1 f2, RepL.exch hx7 qq _ _ (rx.setX r6'), RepL.exch hx7 qq _ _ (ry.setY r7)⟩, all_set f4 f3⟩, e3⟩
            · have g17 := g2.trans g27
              exact ⟨g17.pre, g17.sub, fun a o e n => by
                rw [upd_ne (ne_of_none e hD)]
                exact g17.keep a o e n, g17.new, g17.newx⟩
            · rw [del_upd]
              exact g27.within hD gd hx (s2.res D hx).2
          · cases e3
        | false =>
          rw [if_neg Bool.false_ne_true] at e3
          exact iteF ⟨m5, S4, ads, aes, hlt, g2.trans g25, g25.within hD gd hx (s2.res D hx).2, g25.sub D hx, er2.grow g25, s5, ra.at g25 hx (s2.res D hx).2, e3⟩
    · cases e3
  · have hi' : i = c.items.length := by omega
    subst hi'
    rw [List.drop_length] at e3
    unfold dcF at e3
    split at e3
    · rename_i hok
      cases e3
      refine .inl ⟨isit.stop H2 m2 _ g2 s2 hok, ?_⟩
      have hax : D ∉ m1.x := (s1.fresh hD).2
      have sub : ∀ b, b ∈ m1.x → b ∈ m2.x := g2.sub
      obtain ⟨ks, xs, ys, hda, hk, rx, ry⟩ := ra.ok
      obtain ⟨_, _, o, ho, _⟩ := id hda
      have e9 : upd (del H2 D) D (rawO D o) = H2 := by rw [upd_del, upd_eq ho]
      have h3 := q D o ks xs ys (del H2 D) ⟨m2.m, m1.x⟩ (g1.trans gd) (s2.leave hx sub hax) hk (rx.out hx sub) (ry.out hx sub) (by rw [e9]; exact hda) del_same
      rw [e9] at h3
      exact h3
    · cases e3
/-- {k: v for ..} -/
theorem dd_dc {kx vx tg iter : Expr} {ifs : List Expr} {scope : Scope} {own : List (Str × Nat)} {pos : Pos} {Y : YT} {it : ExI} {g : ExT} {t : ExB} {fk fv : Ex} (hu : X.A.units + 8 < cLine) (hc : X.calm = true) (hN : X.N.Nodup) (hi : PI X tg iter (tI Y it)) (ok : BlkOk X.N X.env.scope scope own)
    (hg : ∀ (s : Shared) (H : Hp) (C : Addr) (cl : List (Str × Addr)) (fp : List Addr), PG (X.blk s H scope (compEnvC scope cl C X.env) fp) tg (tGY (own.map (·.2)) Y g)) (ht : ∀ (s : Shared) (H : Hp) (C : Addr) (cl : List (Str × Addr)) (fp : List Addr), PTs (X.blk s H scope (compEnvC scope cl C X.env) fp) ifs (tT t))
    (hk : ∀ (s : Shared) (H : Hp) (C : Addr) (cl : List (Str × Addr)) (fp : List Addr), PE (X.blk s H scope (compEnvC scope cl C X.env) fp) kx (tE fk))
    (he : ∀ (s : Shared) (H : Hp) (C : Addr) (cl : List (Str × Addr)) (fp : List Addr), PE (X.blk s H scope (compEnvC scope cl C X.env) fp) vx (tE fv)) (hs : ∀ x, foldedSetIterable iter X.env x = pure x := by intro _; rfl) :
    PE X (.DictComp kx vx [⟨tg, iter, ifs, 0⟩] scope pos) (tDf (fDc it g t fk fv (own.map (·.2)))) := peI (pe_dcO hu hc hN hi ok hg ht hk he hs) dc_tE
/-- .. never to be changed -/
def eFzD (f : ExDT) : Ex := fun env S => bnd (f env S) fun p S1 => some (.dct p.1 p.2, S1)
theorem ee_fzD {e : Expr} {f : ExDT} (h : PE X e (tDf f)) : PE X e (tE (eFzD f)) := peI h fun σ H Q ⟨env, m, S, d, S', er, sr, e, q⟩ => by
  obtain ⟨⟨ds, es⟩, S1, e1, e2⟩ := bnd_inv e
  cases e2
  refine ⟨env, m, S, ds, es, _, er, sr, e1, fun p o ks xs ys H1 m1 g1 s1 hk rx ry hd hp => ?_⟩
  have g2 := Grow.upd (m := m1) (o := rawO p o) hp
  exact q _ _ _ (g1.trans g2) (s1.upd hp) ⟨p, ks, xs, ys, rfl, hd, s1.fresh hp, hk, RepL.grow g2 _ _ rx, RepL.grow g2 _ _ ry⟩
/-- .. with a place in the store -/
def eNewD (f : ExDT) : Ex := fun env S => bnd (f env S) fun p S1 => some (.loc S1.length, S1 ++ [.dic p.1 p.2])
theorem ee_newD {e : Expr} {f : ExDT} (h : PE X e (tDf f)) : PE X e (tE (eNewD f)) := peI h fun σ H Q ⟨env, m, S, d, S', er, sr, e, q⟩ => by
  obtain ⟨⟨ds, es⟩, S1, e1, e2⟩ := bnd_inv e
  cases e2
  refine ⟨env, m, S, ds, es, _, er, sr, e1, fun p o ks xs ys H1 m1 g1 s1 hk rx ry hd hp => ?_⟩
  have g2 := Grow.newloc (m := m1) (o := rawO p o) hp
  exact q _ _ _ (g1.trans g2) (s1.newO hp ⟨ks, xs, ys, hd, hk, RepL.grow g2 _ _ rx, RepL.grow g2 _ _ ry⟩) ⟨p, rfl, by rw [← s1.len]; show (m1.m ++ [p])[m1.m.length]? = some p; simp⟩
end
end PU

namespace PU
open PySem PySem.Spec PyProof.Rows L2

/-! ### sorted(.., key=f), f a def -/
section
variable {X : Cx} {pins : List (Addr × Obj)} {σ : L2.St} {H : Hp} {s : Shared} {m : Wd} {S : Sto}
theorem run_fn2 {k : Nat} {f : Addr} {fd : FuncData} {ps : List Str} {sp : Sp} {Q : VK} {us : List Value} {vs : List V} {E : Value → Shared → Prop} (F : FnOk X.prog X.w X.K X.mg X.base CX0 k f fd ps sp) (hr : Room k X.A.in1.in1) (hb : Binds X.K fd ps [])
    (I : Inv X pins σ H s) (r : Vals vs us) (h : sp vs H Q fun _ _ _ => False) : wpAny (model X.prog X.w) X.A.in1.in1 (call (.ref f) us) (EP X pins σ Q) E s := by
  have hl : (us ++ []).length = ps.length := by rw [List.append_nil, ← r.length]; exact F.len _ _ _ _ h
  have hb' := hb s us I.kIn hl
  rw [List.append_nil] at hb'
  refine wpAny_call (codeAny_mono (F.run X.A.in1.in1 X.stack s H ⟨us, []⟩ us vs Q _ hr I.env0.in1.in1 hb' r h) fun r s' hq => ?_)
  cases r with
  | error e => exact (show False from hq).elim
  | ok fl =>
    cases fl with
    | ret u => exact I.after hq
    | next => exact False.elim hq
    | brk => exact False.elim hq
    | cont => exact False.elim hq
/-- an object held outside the tracked heap: two pins -/
theorem pins_two {a b : Addr} {oa ob : Obj} (I : Inv X pins σ H s) (fa : FpOk X pins H a) (fb : FpOk X pins H b) (ha : s.heap.get? a = some oa) (hb : s.heap.get? b = some ob) (na : ∀ v, oa.data ≠ .cell v) (nb : ∀ v, ob.data ≠ .cell v) : Inv X ((a, oa) :: (b, ob) :: pins) σ H s :=
  I.pins_of fun p hp => by
    rcases List.mem_cons.mp hp with rfl | hp
    · exact ⟨ha, fa.1, fa.2.1, fa.2.2.1, na⟩
    · rcases List.mem_cons.mp hp with rfl | hp
      · exact ⟨hb, fb.1, fb.2.1, fb.2.2.1, nb⟩
      · exact I.pin p (List.mem_append_right _ hp)
theorem reads_all {K : PySem.W.Frag} (I : Inv X pins σ H s) : ∀ (kds : List D) (yk : List V) (us : List Value) (kz : List PyData), RepL H m kds yk → Vals yk us → toPL kds = some kz → PySem.W.EachIs (fun v k => ∃ as, Reads s.heap v k as) us kz
  | [], yk, us, kz, r, v, e => by
    cases e
    rw [show yk = [] from r] at v
    cases v
    exact .nil
  | d :: ds, yk, us, kz, r, v, e => by
    obtain ⟨y, yr, rfl, r1, r2⟩ := r
    have e' : (match toP d, toPL ds with
      | some p, some ps => some (p :: ps)
      | _, _ => none) = some kz := e
    split at e'
    · rename_i p ps e1 e2
      cases e'
      cases v with
      | cons v1 v2 => exact .cons (Dp.reads I p y _ (dp_of d y p r1 e1) v1) (reads_all (K := K) I ds yr _ ps r2 v2 e2)
    · cases e'
open Classical in
/-- the keys of the items -/
noncomputable def keysF (φ : List D → Sto → Option (D × Sto)) (S : Sto) : List D → Option (List D)
  | [] => some []
  | d :: r => match φ [d] S, keysF φ S r with
    | some (kd, S'), some l => if S' = S then some (kd :: l) else none
    | _, _ => none
theorem keysF_len {φ : List D → Sto → Option (D × Sto)} : ∀ {ds kds : List D}, keysF φ S ds = some kds → kds.length = ds.length
  | [], _, e => by cases e; rfl
  | d :: r, kds, e => by
    unfold keysF at e
    split at e
    · rename_i kd S' l h1 h2
      split at e
      · cases e
        rw [List.length_cons, List.length_cons, keysF_len h2]
      · cases e
    · cases e
theorem keysF_at {φ : List D → Sto → Option (D × Sto)} : ∀ {ds kds : List D} {i : Nat} {d : D}, keysF φ S ds = some kds → ds[i]? = some d → ∃ kd, kds[i]? = some kd ∧ φ [d] S = some (kd, S)
  | [], _, _, _, _, e => by simp at e
  | d :: r, kds, i, d', e, hi => by
    unfold keysF at e
    split at e
    · rename_i kd S' l h1 h2
      split at e
      · rename_i hS
        cases e
        rw [hS] at h1
        cases i with
        | zero =>
          simp at hi
          subst hi
          exact ⟨kd, rfl, h1⟩
        | succ i =>
          simp at hi
          obtain ⟨kd', h3, h4⟩ := keysF_at h2 hi
          exact ⟨kd', by simpa using h3, h4⟩
      · cases e
    · cases e
theorem freed_none (h : Heap) (a : Addr) : (h.update a fun o => { o with data := .freed }).get? a = none := by
  cases h
  simp only [Heap.update, Heap.get?, Array.getElem?_modify, if_true]
  rename_i objs l
  cases objs[a]? <;> rfl
theorem two_turned {h3 : Heap} {t3 : Nat} {a b : Addr} {pins' : List (Addr × Obj)} (I : Inv X pins' σ H s) (hp : ∀ p ∈ X.pn ++ pins', p.1 ≠ a ∧ p.1 ≠ b) (ha : H a = none) (hb : H b = none)
    (fa : a ≠ X.env.locals ∧ a ∉ X.fs ∧ (a ∈ X.ex ∨ X.s_0.heap.objs.size ≤ a) ∧ (∀ x c, X.env.cells.lookup x = some c → c ≠ a) ∧ ∀ p ∈ X.pn ++ pins, p.1 ≠ a)
    (fb : b ≠ X.env.locals ∧ b ∉ X.fs ∧ (b ∈ X.ex ∨ X.s_0.heap.objs.size ≤ b) ∧ (∀ x c, X.env.cells.lookup x = some c → c ≠ b) ∧ ∀ p ∈ X.pn ++ pins, p.1 ≠ b)
    (k : ∀ c o, c ≠ a → c ≠ b → s.heap.get? c = some o → h3.get? c = some o) : Inv X pins' σ H { s with heap := h3, toks := t3 } := by
  have nit : ∀ c u, H c = some u → c ≠ a ∧ c ≠ b := fun c u e => ⟨fun z => (by rw [z, ha] at e; cases e), fun z => (by rw [z, hb] at e; cases e)⟩
  have nch : ∀ c, c ∉ [a, b] → c ≠ a ∧ c ≠ b := fun c hc => ⟨fun z => hc (by simp [z]), fun z => hc (by simp [z])⟩
  refine I.step (g' := s.gens) (d' := s.drawn) (ch := [a, b]) (fun c hc => ?_) (fun c o _ _ hc e _ => k c o (nch c hc).1 (nch c hc).2 e) (fun c o _ _ hc e _ => ⟨o.slots, k c o (nch c hc).1 (nch c hc).2 e⟩) (fun _ _ _ _ n => n)
    (fun c o hc e => ⟨o, k c o (nch c hc).1 (nch c hc).2 e⟩) (fun _ _ e => e) (fun _ _ _ e => e) (fun c ps e => ⟨#[], by rw [e]; simp⟩) (fun m hm => ?_) (fun c u e => ?_) I.bare
  · rcases List.mem_cons.mp hc with rfl | hc
    · exact ⟨fa.2.2.1, fa.1, fa.2.2.2.1, fun p h => (hp p h).1⟩
    · rw [List.mem_singleton.mp hc]
      exact ⟨fb.2.2.1, fb.1, fb.2.2.2.1, fun p h => (hp p h).2⟩
  · obtain ⟨o, es, ep, ho, r⟩ := hm
    exact ⟨o, es, ep, k _ o (Ne.symm fa.1) (Ne.symm fb.1) ho, r⟩
  · refine (I.hok c u e).stay (fun d v hc q => k d v ?_ ?_ q) (fun _ q => q) fun _ _ q => q
    · rcases hc with z | z
      · rw [z]; exact (nit c u e).1
      · exact (nit d _ z).1
    · rcases hc with z | z
      · rw [z]; exact (nit c u e).2
      · exact (nit d _ z).2
open PySem.W in
theorem sort_tree_key {a f : Addr} {fd : FuncData} {ps : List Str} {k n : Nat} {φ : List D → Sto → Option (D × Sto)} {its : List Value} {ds kds : List D} {xs : List V} {kz : List PyData} {P : PySem.Fin → Shared → Prop} {E : Value → Shared → Prop}
    (I : Inv X pins σ H s) (sr : StoRel H m S) (F : FnOk X.prog X.w X.K X.mg X.base CX0 k f fd ps (spF 1 φ)) (hb : Binds X.K fd ps []) (hr : Room k X.A.in1.in1)
    (fa : FpOk X pins H a) (ho : s.heap.get? a = some (seqObj "list" its.toArray n)) (rx : RepL H m ds xs) (rv : Vals xs its) (hz : ds.length ≤ sizeLine) (hk : keysF φ S ds = some kds) (hkz : toPL kds = some kz) (hal : AllAlike kz) (hsk : Sortable kz) (hu : ∀ d, d ∈ kz → X.A.in1.in1.units + d.depth < cLine)
    (q : ∀ s' H' m' out c, Inv X [] σ H' s' → Inv X pins σ H' s' → FpOk X pins H' a → Grow H m H' m' → StoRel H' m' S → s'.heap.get? a = some (seqObj "list" (List.toArray out) c) → KeyedOut false kz its out → P (.done (.ret .none)) s') :
    wpAny (model X.prog X.w) X.A.in1.in1 (ksk_tree a (.ref f) false) P E s := by
  have hil : its.length = ds.length := by rw [← rv.length, rx.len]
  have hkl := keysF_len hk
  have ha : a < s.heap.objs.size := Heap.lt_size ho
  obtain ⟨e1, ho1⟩ : ∃ e1, (s.heap.update a (Obj.mapSeq fun _ => (#[] : Array Value))).get? a = some (seqObj "list" #[] e1) := ⟨_, get?_update_seq ho fun _ => #[]⟩
  have hkS : ((s.heap.update a (Obj.mapSeq fun _ => (#[] : Array Value))).push (seqObj "tuple" its.toArray 0)).objs.size = s.heap.objs.size + 1 := by rw [size_push', Heap.size_update]
  unfold ksk_tree
  refine wpAny_bind (listItems_at ho rfl ?_)
  refine wpAny_bind (listUpdate_at ho rfl ?_ (by rw [List.size_toArray, hil]; exact hz) (Nat.zero_le _))
  refine wpAny_bind (seqEpoch_at ho1 rfl ?_)
  refine wpAny_bind (wpAny_newTuple ?_ (by show its.length ≤ _; rw [hil]; exact hz))
  refine wpAny_bind (wpAny_newList ?_ (Nat.zero_le _))
  refine wpAny_holding ?_
  generalize hK : ((s.heap.update a (Obj.mapSeq fun _ => (#[] : Array Value))).push (seqObj "tuple" its.toArray 0)).objs.size = kS at *
  have hka : kS ≠ a := by rw [hkS]; exact Nat.ne_of_gt (Nat.lt_succ_of_lt ha)
  have fk : FpOk X pins H kS := I.fpOk (by rw [hkS]; exact Nat.le_succ _) (I.hok.fresh (by rw [hkS]; exact Nat.le_succ _))
  -- the state the keys start from
  have I0 : Inv X pins σ H { s with heap := ((s.heap.update a (Obj.mapSeq fun _ => (#[] : Array Value))).push (seqObj "tuple" its.toArray 0)).push (seqObj "list" #[] 0) } := by
    have sb := Heap.SameBut.update s.heap a (Obj.mapSeq fun _ => (#[] : Array Value))
    exact I.turned (t' := s.toks) (it := a) (fun b o hb e => Heap.get?_push_of_some _ (Heap.get?_push_of_some _ ((sb.2 b hb).trans e))) fa.1 fa.2.1 fa.2.2.2.1 fa.2.2.2.2.1 fa.2.2.2.2.2
  have nS : (((s.heap.update a (Obj.mapSeq fun _ => (#[] : Array Value))).push (seqObj "tuple" its.toArray 0)).push (seqObj "list" #[] 0)).get? kS = some (seqObj "list" #[] 0) := by rw [← hK]; exact Heap.get?_push_size _ rfl
  have nA : (((s.heap.update a (Obj.mapSeq fun _ => (#[] : Array Value))).push (seqObj "tuple" its.toArray 0)).push (seqObj "list" #[] 0)).get? a = some (seqObj "list" #[] e1) := Heap.get?_push_of_some _ (Heap.get?_push_of_some _ ho1)
  generalize hs0 : ({ s with heap := ((s.heap.update a (Obj.mapSeq fun _ => (#[] : Array Value))).push (seqObj "tuple" its.toArray 0)).push (seqObj "list" #[] 0) } : Shared) = s0 at I0 ⊢
  have nS' : s0.heap.get? kS = some (seqObj "list" #[] 0) := by rw [← hs0]; exact nS
  have nA' : s0.heap.get? a = some (seqObj "list" #[] e1) := by rw [← hs0]; exact nA
  show wpAny _ _ (ksk_rest a (.ref f) false its.toArray e1 (.ref kS)) P E s0
  unfold ksk_rest
  refine wpAny_bind (wpAny_rule ?_)
  first
    | rw [List.forIn_toArray]
    | (rw [← Array.forIn_toList]; simp only [List.toList_toArray])
    | rw [← Array.forIn_toList]
  have nocell : ∀ (x : String) (v : Array Value) (c : Nat) (u : Option Value), (seqObj x v c).data ≠ .cell u := fun x v c u z => nomatch z
  refine wpAny_bind (ksk_fold (fun i s' => ∃ (H' : Hp) (m' : Wd) (kA : Array Value) (e : Nat) (yk : List V), Inv X ((kS, seqObj "list" kA e) :: (a, seqObj "list" #[] e1) :: pins) σ H' s' ∧ Grow H m H' m' ∧ StoRel H' m' S ∧ RepL H' m' (kds.take i) yk ∧ Vals yk kA.toList) its 0 s0
    ⟨H, m, #[], 0, [], pins_two I0 fk fa nS' nA' (nocell _ _ _) (nocell _ _ _), Grow.refl, sr, by rw [List.take_zero]; rfl, .nil⟩ ?step ?done)
  case step =>
    rintro j x s' hx ⟨H', m', kA, e, yk, I', g', sr', ry, rvy⟩
    simp only [Nat.zero_add] at ry ⊢
    have hj : j < its.length := (List.getElem?_eq_some_iff.mp hx).1
    have hjd : ds[j]? = some ds[j] := List.getElem?_eq_getElem (by omega)
    obtain ⟨kd, hkd, hφ⟩ := keysF_at hk hjd
    obtain ⟨xv, hxv, rxv⟩ := rx.get hjd
    obtain ⟨x', hx', rel⟩ := rv.get hxv
    rw [hx] at hx'
    cases hx'
    have hsz : kA.size = j := by
      have h1 := rvy.length
      have h2 : kA.toList.length = kA.size := Array.length_toList
      rw [ry.len, List.length_take, h2] at h1
      omega
    refine wpAny_bind (wpAny_attempt (wpAny_mono (run_fn2 (E := fun _ _ => False) F hr hb I' (Q := fun y H2 => ∃ m2, Grow H' m' H2 m2 ∧ StoRel H2 m2 S ∧ Rep H2 m2 kd y) (.cons rel .nil) ⟨rfl, [ds[j]], m', S, kd, S, ⟨xv, [], rfl, Rep.grow g' _ _ rxv, rfl⟩, sr', hφ, fun y H2 m2 g2 s2 r2 => ⟨m2, g2, s2, r2⟩⟩) (fun v s'' he => ?_) fun _ _ hF => hF.elim))
    obtain ⟨y, H2, I2, rely, m2, g2, sr2, r2⟩ := he
    try dsimp only
    have nk2 : s''.heap.get? kS = some (seqObj "list" kA e) := (I2.pin (kS, _) (List.mem_append_right _ List.mem_cons_self)).1
    have hkn : H2 kS = none := (I2.pin (kS, _) (List.mem_append_right _ List.mem_cons_self)).2.1
    have na2 : s''.heap.get? a = some (seqObj "list" #[] e1) := (I2.pin (a, _) (List.mem_append_right _ (List.mem_cons_of_mem _ List.mem_cons_self))).1
    have han : H2 a = none := (I2.pin (a, _) (List.mem_append_right _ (List.mem_cons_of_mem _ List.mem_cons_self))).2.1
    have sb := Heap.SameBut.update s''.heap kS (Obj.mapSeq (·.push v))
    obtain ⟨c2, hc2⟩ : ∃ c2, (s''.heap.update kS (Obj.mapSeq (·.push v))).get? kS = some (seqObj "list" (kA.push v) c2) := ⟨_, get?_update_seq nk2 (·.push v)⟩
    refine wpAny_bind (listUpdate_at nk2 rfl ?_ (by rw [hsz]; omega) (by rw [Array.size_push, hsz]; omega))
    have I3 : Inv X pins σ H2 s'' := I2.pins_of fun p hp => I2.pin p (List.mem_append_right _ (List.mem_cons_of_mem _ (List.mem_cons_of_mem _ hp)))
    have I4 : Inv X pins σ H2 { s'' with heap := s''.heap.update kS (Obj.mapSeq (·.push v)) } := I3.turned (t' := s''.toks) (it := kS) (fun b o hb e => (sb.2 b hb).trans e) hkn fk.2.1 fk.2.2.2.1 fk.2.2.2.2.1 fk.2.2.2.2.2
    have I5 := pins_two I4 (a := kS) (b := a) ⟨hkn, fk.2⟩ ⟨han, fa.2⟩ hc2 ((sb.2 a (Ne.symm hka)).trans na2) (nocell _ _ _) (nocell _ _ _)
    refine wpAny_pure ⟨rfl, H2, m2, kA.push v, c2, yk ++ [y], I5, g'.trans g2, sr2, ?_, ?_⟩
    · rw [List.take_add_one, hkd]
      exact (RepL.grow g2 _ _ ry).append ⟨y, [], rfl, r2, rfl⟩
    · have e2 : (kA.push v).toList = kA.toList ++ [v] := by simp
      rw [e2]
      exact rvy.append (.cons rely .nil)
  case done =>
    rintro s' ⟨H', m', kA, e, yk, I', g', sr', ry, rvy⟩
    have e3 : kds.take (0 + its.length) = kds := List.take_of_length_le (by omega)
    rw [e3] at ry
    have hk' := reads_all (K := X.K) I' kds yk kA.toList kz ry rvy hkz
    have hsz : kA.size = its.length := by
      have h1 := rvy.length
      have h2 : kA.toList.length = kA.size := Array.length_toList
      rw [ry.len, h2] at h1
      omega
    have nk2 : s'.heap.get? kS = some (seqObj "list" kA e) := (I'.pin (kS, _) (List.mem_append_right _ List.mem_cons_self)).1
    have hkn : H' kS = none := (I'.pin (kS, _) (List.mem_append_right _ List.mem_cons_self)).2.1
    have na2 : s'.heap.get? a = some (seqObj "list" #[] e1) := (I'.pin (a, _) (List.mem_append_right _ (List.mem_cons_of_mem _ List.mem_cons_self))).1
    have han : H' a = none := (I'.pin (a, _) (List.mem_append_right _ (List.mem_cons_of_mem _ List.mem_cons_self))).2.1
    have I3 : Inv X pins σ H' s' := I'.pins_of fun p hp => I'.pin p (List.mem_append_right _ (List.mem_cons_of_mem _ (List.mem_cons_of_mem _ hp)))
    -- a heap without the keys' list
    have hfree : (s'.heap.update kS fun o => { o with data := .freed }).get? kS = none := freed_none s'.heap kS
    have hother : ∀ b o, b ≠ kS → s'.heap.get? b = some o → (s'.heap.update kS fun o => { o with data := .freed }).get? b = some o := fun b o hb e => (Heap.get?_update_other _ _ (Ne.symm hb)).trans e
    have kp : KeepsBut a (s'.heap.update kS fun o => { o with data := .freed }) s'.heap := fun b o hb e => by
      by_cases hbk : b = kS
      · rw [hbk, hfree] at e
        cases e
      · exact (Heap.get?_update_other _ _ (Ne.symm hbk)).symm.trans e
    try dsimp only
    refine wpAny_bind (listItems_at nk2 rfl ?_)
    refine keyH_end (κ := dataKind s'.heap kz) kp hfree nk2 na2 hka (SortsAt.data hk' hal hsk hu) hsz (by omega) fun h3 tk3 c k3 n3 => ?_
    have kk : ∀ b o, b ≠ a → b ≠ kS → s'.heap.get? b = some o → h3.get? b = some o := fun b o h1 h2 e => k3 b o h1 (hother b o h2 e)
    have two : ∀ pins', (∀ p ∈ X.pn ++ pins', p.1 ≠ a ∧ p.1 ≠ kS) → Inv X pins' σ H' s' → Inv X pins' σ H' { s' with heap := h3, toks := tk3 } := fun pins' hp I => two_turned I hp han hkn fa.2 fk.2 kk
    have hpn : ∀ p ∈ X.pn ++ pins, p.1 ≠ a ∧ p.1 ≠ kS := fun p hp => ⟨fa.2.2.2.2.2 p hp, fk.2.2.2.2.2 p hp⟩
    refine q _ H' m' _ c (two [] (fun p hp => hpn p ?_) (I3.pins_of fun p hp => nomatch hp)) (two pins hpn I3) ⟨han, fa.2⟩ g' sr' n3 ⟨s'.heap, kA.toList, hal, rfl, hk'⟩
    rw [List.append_nil] at hp
    exact List.mem_append_left _ hp
end
end PU

namespace PU
open PySem PySem.Spec PyProof.Rows L2

section
variable {X : Cx} {pins : List (Addr × Obj)} {σ : L2.St} {H : Hp} {s : Shared} {m : Wd} {S : Sto}
/-- an object that stood outside is tracked -/
theorem adopt {a : Addr} {o : HO} (I : Inv X pins σ H s) (fa : FpOk X pins H a) (new : ObjOk X.prog X.w (upd H a o) s.heap a o) : Inv X pins σ (upd H a o) s := by
  have nit : ∀ c u, H c = some u → c ≠ a := fun c u e z => by rw [z, fa.1] at e; cases e
  refine I.step (h' := s.heap) (g' := s.gens) (d' := s.drawn) (t' := s.toks) (ch := [a]) (fun c hc => ?_) (fun c o _ _ hc e _ => e) (fun c o _ _ hc e _ => ⟨o.slots, e⟩) (fun c o' hc e n => ?_)
    (fun c o hc e => ⟨o, e⟩) (fun c xs e => by rw [upd_ne (nit c _ e)]; exact e) (fun c o u e => by rw [upd_ne (nit c _ e)]; exact e) (fun c ps e => ⟨#[], by rw [upd_ne (nit c _ e), e]; simp⟩) (fun m hm => hm) (fun c u e => ?_) I.bare
  · rw [List.mem_singleton.mp hc]
    exact ⟨fa.2.2.2.1, fa.2.1, fa.2.2.2.2.1, fa.2.2.2.2.2⟩
  · rw [upd_ne (fun z => hc (by simp [z]))]
    exact n
  · by_cases hca : c = a
    · subst hca
      rw [upd_same] at e
      cases e
      exact new
    · rw [upd_ne hca] at e
      exact (I.hok c u e).stay (fun d v hc q => q) (fun b q => by rw [upd_ne (nit b _ q)]; exact q) fun b xs q => by rw [upd_ne (nit b _ q)]; exact q
open PySem.W in
theorem each_rep {φ : D × PyData → D} : ∀ (out : List Value) (bs : List (D × PyData)), EachIs (fun v b => ∃ x, RelV x v ∧ Rep H m b.1 x) out bs → ∃ xs, Vals xs out ∧ RepL H m (bs.map Prod.fst) xs
  | _, _, .nil => ⟨[], .nil, rfl⟩
  | _, _, .cons (as := as) (bs := bs) h1 h2 => by
    obtain ⟨x, r1, r2⟩ := h1
    obtain ⟨xs, r3, r4⟩ := each_rep (φ := φ) as bs h2
    exact ⟨x :: xs, .cons r1 r3, ⟨x, xs, rfl, r2, r4⟩⟩
open PySem.W in
theorem each_zip : ∀ (its : List Value) (ds : List D) (xs : List V) (kz : List PyData), RepL H m ds xs → Vals xs its → kz.length = ds.length → EachIs (fun v (b : D × PyData) => ∃ x, RelV x v ∧ Rep H m b.1 x) its (ds.zip kz)
  | its, [], xs, kz, r, v, _ => by
    rw [show xs = [] from r] at v
    cases v
    exact .nil
  | its, d :: ds, xs, [], r, v, h => by simp at h
  | its, d :: ds, xs, k :: kz, r, v, h => by
    obtain ⟨x, xr, rfl, r1, r2⟩ := r
    cases v with
    | cons v1 v2 => exact .cons ⟨x, v1, r1⟩ (each_zip _ ds xr kz r2 v2 (by simpa using h))
theorem zip_snd : ∀ (ds : List D) (kz : List PyData), kz.length = ds.length → (ds.zip kz).map Prod.snd = kz
  | [], [], _ => rfl
  | d :: ds, k :: kz, h => by
    show k :: (ds.zip kz).map Prod.snd = k :: kz
    rw [zip_snd ds kz (by simpa using h)]
  | [], k :: kz, h => by simp at h
  | d :: ds, [], h => by simp at h
theorem toPL_len : ∀ {ds : List D} {kz : List PyData}, toPL ds = some kz → kz.length = ds.length
  | [], kz, e => by cases e; rfl
  | d :: ds, kz, e => by
    have e' : (match toP d, toPL ds with
      | some p, some ps => some (p :: ps)
      | _, _ => none) = some kz := e
    split at e'
    · rename_i p ps e1 e2
      cases e'
      rw [List.length_cons, List.length_cons, toPL_len e2]
    · cases e'
def sortK (ds : List D) (kz : List PyData) : List D := ((ds.zip kz).mergeSort (PySem.W.dataLe false Prod.snd)).map Prod.fst
theorem sortK_len {ds : List D} {kz : List PyData} (h : kz.length = ds.length) : (sortK ds kz).length = ds.length := by
  unfold sortK
  rw [List.length_map, List.length_mergeSort, List.length_zip, h, Nat.min_self]
/-- what gives its items to sorted: what it holds -/
def rItems (K : PySem.W.Frag) (a : Addr) (xs : List V) (H : Hp) : Prop := SqL K H a xs ∨ ∃ ks ys, DicAt H a ks xs ys
theorem entKeys : ∀ (es : List DictEntry) (ks : List NestedKey) (xs ys : List V), EntL es ks xs ys → Vals xs (es.map (·.key))
  | [], ks, xs, ys, h => by
    obtain ⟨_, rfl, _⟩ := h
    exact .nil
  | e :: es, ks, xs, ys, h => by
    obtain ⟨k, kr, x, xr, y, yr, rfl, rfl, rfl, h1, h2, h3, h4⟩ := h
    exact .cons h2 (entKeys es kr xr yr h4)
theorem entLen : ∀ (es : List DictEntry) (ks : List NestedKey) (xs ys : List V), EntL es ks xs ys → es.length = ks.length
  | [], ks, xs, ys, h => by
    obtain ⟨rfl, _⟩ := h
    rfl
  | e :: es, ks, xs, ys, h => by
    obtain ⟨k, kr, x, xr, y, yr, rfl, rfl, rfl, h1, h2, h3, h4⟩ := h
    rw [List.length_cons, List.length_cons, entLen es kr xr yr h4]
theorem collect_items {A : Around} {E : Value → Shared → Prop} {a : Addr} {xs : List V} (hh : A.handled = none) (I : Inv X pins σ H s) (h : rItems X.K a xs H) : ∃ its, Vals xs its ∧ its.length ≤ sizeLine ∧
    ∀ R : List Value → Shared → Prop, (∀ h' tk, (∀ b o, s.heap.get? b = some o → h'.get? b = some o) → R its { s with heap := h', toks := tk }) → wpAny (model X.prog X.w) A (collect (.ref a)) R E s := by
  rcases h with h | ⟨ks, ys, h⟩
  · obtain ⟨its, rv, pl, hz⟩ := I.list h
    have hz' : its.length ≤ sizeLine := by rw [← rv.length]; exact hz
    refine ⟨its, rv, hz', fun R hR => collect_list (h := ?_) (hsz := hz') pl.isList⟩
    refine hR _ s.toks fun b o e => ?_
    rw [Heap.get?_update_ne _ _ _ _ (Nat.ne_of_lt (Heap.lt_size e))]
    exact Heap.get?_push_of_some _ e
  · obtain ⟨h1, h2, o, h3, h4⟩ := h
    obtain ⟨es, ep, h5, h6⟩ := h4.es
    have ho : s.heap.get? a = some o := (I.hok a _ h3).1
    have hl : es.toList.length ≤ sizeLine := by rw [entLen _ _ _ _ h6]; exact h2
    refine ⟨es.toList.map (·.key), entKeys _ _ _ _ h6, by rw [List.length_map]; exact hl, fun R hR => ?_⟩
    refine PySem.W.kdu_collect (KdlSrc.rawDict (es := es) (ep := ep) h1) hh ⟨o, ho, h4.ex, h5⟩ (by rw [← Array.length_toList]; exact hl) fun h' tk acc hk hacc => ?_
    have e : acc.toList = es.toList.map (·.key) := by
      refine List.ext_getElem? fun i => ?_
      by_cases hi : i < es.size
      · have ha : i < acc.size := by rw [hacc.1]; exact hi
        obtain ⟨hi', ev⟩ := hacc.2 i acc[i] (Array.getElem?_eq_getElem ha)
        rw [List.getElem?_map, Array.getElem?_toList, Array.getElem?_toList, Array.getElem?_eq_getElem ha, Array.getElem?_eq_getElem hi, ev]
        rfl
      · have ha : ¬ i < acc.size := by rw [hacc.1]; exact hi
        rw [List.getElem?_map, Array.getElem?_toList, Array.getElem?_toList, Array.getElem?_eq_none (by omega), Array.getElem?_eq_none (by omega)]
        rfl
    rw [e]
    exact hR h' tk hk
def rSortF (X : Cx) (k : Nat) : List V → List V → Hp → VK → Prop := fun vs zs H Q => ∃ a f fd ps φ m S ds kds xs kz, vs = [.ref a] ∧ zs = [.ref f] ∧ FnOk X.prog X.w X.K X.mg X.base CX0 k f fd ps (spF 1 φ) ∧ Binds X.K fd ps [] ∧
  StoRel H m S ∧ rItems X.K a xs H ∧ RepL H m ds xs ∧ keysF φ S ds = some kds ∧ toPL kds = some kz ∧ PySem.W.AllAlike kz ∧ PySem.W.Sortable kz ∧ (∀ d, d ∈ kz → d.depth ≤ 50) ∧
  ∀ p xs' H' m', Grow H m H' m' → StoRel H' m' S → RepL H' m' (sortK ds kz) xs' → H' p = none → Q (.ref p) (upd H' p (.lst xs'))
open PySem.W in
theorem cr_sortF {k : Nat} (hr : Room k X.A.in1.in1) : CallRK X (.builtin "sorted") [Str.ofString "key"] (rSortF X k) := by
  intro pins s σ H vs zs us ws Q I r rz h
  obtain ⟨a, f, fd, ps, φ, m, S, ds, kds, xs, kz, rfl, rfl, F, hb, sr, hit, rx, hk, hkz, hal, hsk, hdp, q⟩ := h
  obtain rfl := Vals.ref1 r
  obtain ⟨w1, rfl, e1⟩ := vals1 rz
  obtain rfl : w1 = Value.ref f := e1
  have hh : X.A.handled = none := hr.hd
  obtain ⟨its, rv, hzi, hcol⟩ := collect_items (A := X.A.in1) (E := X.xe) (show X.A.in1.handled = none from hh) I hit
  have hlen : its.length = ds.length := by rw [← rv.length, rx.len]
  have hkzl : kz.length = ds.length := by rw [toPL_len hkz, keysF_len hk]
  refine call_function_entry_kw kind_sorted plain_sorted entry_sorted (ksk_s1 _ _) ?_
  unfold Builtin.«sorted»
  refine wpAny_bind (m := checkCount "sorted" 1 1 _) (wpAny_pure ?_)
  refine wpAny_bind (hcol _ fun h' tk kp => ?_)
  refine wpAny_bind (wpAny_newList ?_ hzi)
  have I1 : Inv X pins σ H { s with heap := h', toks := tk } := I.kept (t' := tk) kp
  have fa : FpOk X pins H h'.objs.size := I1.fpOk (Nat.le_refl _) (I1.hok.fresh (Nat.le_refl _))
  have I2 : Inv X pins σ H { s with heap := h'.push (seqObj "list" its.toArray 0), toks := tk } := I1.kept (t' := tk) fun b o e => Heap.get?_push_of_some _ e
  have ho : (h'.push (seqObj "list" its.toArray 0)).get? h'.objs.size = some (seqObj "list" its.toArray 0) := Heap.get?_push_size _ rfl
  refine wpAny_bind (wpAny_holding (wpAny_call_entry_kw slot_list_sort ⟨_, ho, rfl⟩ entry_list_sort ?body (ksk_l1 _ _)))
  case body =>
    show wpAny (model X.prog X.w) X.A.in1.in1 (Builtin.«list.sort» ⟨[.ref h'.objs.size], [(Str.ofString "key", .ref f)]⟩) _ _ _
    rw [ksk_t1]
    refine sort_tree_key (n := 0) I2 sr F hb hr fa ho rx rv (by rw [← hlen]; exact hzi) hk hkz hal hsk (fun d hd => ?_) fun s' H' m' out c _ I3 f3 g3 s3 ho3 hout => ?_
    · have h1 := hdp d hd
      have h2 := hr.un
      omega
    have hkz' : (ds.zip kz).map Prod.snd = kz := zip_snd ds kz hkzl
    have hea := keyedOut_each (rev := false) (R := fun v (b : D × PyData) => ∃ x, RelV x v ∧ Rep H m b.1 x) (bs := ds.zip kz) (vs := its) (out := out) Prod.snd (by rw [hkz']; exact hout) (each_zip its ds xs kz rx rv hkzl)
    obtain ⟨xs', rv', rx'⟩ := each_rep (φ := Prod.fst) _ _ hea
    have hl' : xs'.length ≤ sizeLine := by
      rw [rx'.len]
      show (sortK ds kz).length ≤ _
      rw [sortK_len hkzl, ← hlen]
      exact hzi
    have I4 := adopt I3 f3 (o := .lst xs') ⟨hl', out, c, rv', ho3⟩
    exact ⟨.none, rfl, wpAny_pure ⟨_, rfl, .ref _, _, I4, rfl, q _ xs' H' m' g3 s3 (RepL.grow g3 _ _ rx') f3.1⟩⟩
/-- sorted(x, key=f) -/
def itD : D → Sto → Option (List D)
  | .dct ds _, _ => some ds
  | .loc n, S => match S[n]? with
    | some (.lst ds) => some ds
    | some (.dic ds _) => some ds
    | none => none
  | .lst ds, _ => some ds
  | .rol ds, _ => some ds
  | _, _ => none
theorem it_rep {K : PySem.W.Frag} {d : D} {v : V} {ds : List D} (s : StoRel H m S) (r : Rep H m d v) (e : itD d S = some ds) : ∃ a xs, v = .ref a ∧ rItems K a xs H ∧ RepL H m ds xs := by
  cases d with
  | dct ks vs =>
    cases e
    obtain ⟨a, ks, xs, ys, rfl, hd, _, _, h, _⟩ := r
    exact ⟨a, xs, rfl, .inr ⟨ks, ys, hd⟩, h⟩
  | lst ds' =>
    cases e
    obtain ⟨a, xs, rfl, h1, _, h2⟩ := r
    exact ⟨a, xs, rfl, .inl (sqL_of (.inl h1)), h2⟩
  | rol ds' =>
    cases e
    obtain ⟨a, xs, rfl, h1, _, h2⟩ := r
    exact ⟨a, xs, rfl, .inl (sqL_of h1), h2⟩
  | loc n =>
    have e' : (match S[n]? with
      | some (.lst ds) => some ds
      | some (.dic ds _) => some ds
      | none => none) = some ds := e
    obtain ⟨a, rfl, hm⟩ := r
    split at e'
    · rename_i ds' hn
      cases e'
      obtain ⟨xs, h1, h2⟩ := s.obj n _ a hn hm
      exact ⟨a, xs, rfl, .inl (sqL_of (.inl h1)), h2⟩
    · rename_i ds' es' hn
      cases e'
      obtain ⟨ks, xs, ys, hd, _, h2, _⟩ := s.obj n _ a hn hm
      exact ⟨a, xs, rfl, .inr ⟨ks, ys, hd⟩, h2⟩
    · cases e'
  | _ => cases e
open Classical in
noncomputable def sortFD (φ : List D → Sto → Option (D × Sto)) (ds : List D) (S : Sto) : Option (List D) := match keysF φ S ds with
  | some kds => match toPL kds with
    | some kz => if PySem.W.AllAlike kz ∧ PySem.W.Sortable kz ∧ ∀ d, d ∈ kz → d.depth ≤ 50 then some (sortK ds kz) else none
    | none => none
  | none => none
noncomputable def fSortF (φ : List D → Sto → Option (D × Sto)) (f : Ex) : ExL := fun env S => bnd (f env S) fun d S1 => match itD d S1 with
  | some ds => match sortFD φ ds S1 with
    | some out => some (out, S1)
    | none => none
  | none => none
end
section
variable {X : Cx}
theorem ff_sortF {k j : Nat} {x : Str} {p p2 pos kpos : Pos} {e : Expr} {f : Ex} {φ : List D → Sto → Option (D × Sto)} (F : Fx X.prog X.w X.K X.mg X.base k x 1 φ) (hr : Room j X.A) (hkj : k + 2 ≤ j) (hm : X.mg "sorted" = none) (he : PE X e (tE f)) (hg : Gl X "sorted" := by rfl) (hg2 : Gl X x := by rfl) (hdb2 : (x == ("__debug__" : Str)) = false := by decide)
    (hst : backTo pos (starEach [e] X.env) = (false, eval e X.env) :: backTo pos (starEach [] X.env) := by rfl) (hpl : (backTo pos (starEach [e] X.env)).any (·.1) = false := by rfl) (hst2 : starEach [e] X.env = (false, eval e X.env) :: starEach [] X.env := by rfl)
    (hall : (backToKw pos (keywordEach [⟨some "key", .Name x p2, kpos⟩] X.env)).all (·.1.isSome) = true := by rfl) (hnone : (backToKw pos (keywordEach [⟨some "key", .Name x p2, kpos⟩] X.env)).any (·.1.isNone) = false := by rfl) (hks : (backToKw pos (keywordEach [⟨some "key", .Name x p2, kpos⟩] X.env)).filterMap (·.1) = [Str.ofString "key"] := by rfl) :
    PE X (.Call (.Name "sorted" p) [e] [⟨some "key", .Name x p2, kpos⟩] pos) (tF (fSortF φ f)) := by
  obtain ⟨fa, fd, ps, h1, h2, h3, h4⟩ := F.ex
  have hr2 : Room k X.A.in1.in1 := (hr.mono hkj).in1.in1
  refine peI (pe_callBK (cr_sortF hr2) hg hm (by decide +kernel) (pa_cons he pa_nil hst2) (pk_cons (pe_glob (v := .ref fa) hg2 h4 rfl hdb2) pk_nil) (by decide) (by decide) hst hpl hall hnone hks) fun σ H Q ⟨env, m, S, d, S', er, sr, e, q⟩ => ?_
  obtain ⟨dx, S1, e1, e2⟩ := bnd_inv e
  split at e2
  · rename_i ds e3
    split at e2
    · rename_i out e4
      cases e2
      unfold sortFD at e4
      split at e4
      · rename_i kds e5
        split at e4
        · rename_i kz e6
          split at e4
          · rename_i hc
            cases e4
            refine ⟨env, m, S, dx, _, er, sr, e1, fun v H1 m1 g1 s1 r1 => ?_⟩
            obtain ⟨a, xs, rfl, hit, rx⟩ := it_rep (K := X.K) s1 r1 e3
            exact ⟨a, fa, fd, ps, φ, m1, _, ds, kds, xs, kz, rfl, rfl, h1, h2, s1, hit, rx, e5, e6, hc.1, hc.2.1, hc.2.2, fun p xs' H' m' g' s' r' hp => q p xs' H' m' (g1.trans g') s' r' hp⟩
          · cases e4
        · cases e4
      · cases e4
    · cases e2
  · cases e2
theorem u65 {k : Nat} {A : Around} (h : Room k A) : A.units + 65 < cLine := by have := h.un; omega
theorem u8 {k : Nat} {A : Around} (h : Room k A) : A.units + 8 < cLine := by have := h.un; omega
/-! ### x < y by data, x in xs -/
def rLtD (K : PySem.W.Frag) : R2 := fun x y H Q => ∃ d e, Dp K H x d ∧ Dp K H y e ∧ PySem.W.alike d e = true ∧ d ≠ .none ∧ SeqAt.shaped d = true ∧ Q (.bl (PySem.W.dataLt d e)) H
theorem op_ltD (hu : X.A.units + 64 < cLine) : OpR X (compareOp .Lt) (rLtD X.K) := by
  intro pins s σ H x y v u Q I rx ry h
  obtain ⟨d, e, hd, he, hal, hn, sd, q⟩ := h
  obtain ⟨as, r1⟩ := Dp.reads I d x v hd rx
  obtain ⟨bs, r2⟩ := Dp.reads I e y u he ry
  exact PySem.W.rcLt_alike d e X.A s v u as bs r1 r2 hal hn (SeqAt.room_of_shaped sd hu) _ _ _ _ ⟨.bl _, H, I, rfl, q⟩
def notNone : PyData → Bool
  | .none => false
  | _ => true
def ltD (x y : D) (S : Sto) : Option (D × Sto) := match toPS x S, toPS y S with
  | some p, some q => if PySem.W.alike p q = true ∧ notNone p = true ∧ SeqAt.shaped p = true then some (.bl (PySem.W.dataLt p q), S) else none
  | _, _ => none
theorem s_ltD {K : PySem.W.Frag} : Op2S (rLtD K) ltD := by
  intro H m S dx dy x y d S' Q s rx ry e q
  unfold ltD at e
  split at e
  · rename_i p p' e1 e2
    split at e
    · rename_i hc
      cases e
      refine ⟨p, p', dpS_of s rx e1, dpS_of s ry e2, hc.1, fun z => ?_, hc.2.2, q _ _ _ Grow.refl s rfl⟩
      rw [z] at hc
      exact absurd hc.2.1 (by decide)
    · cases e
  · cases e
def inD (neg : Bool) (x y : D) (S : Sto) : Option (D × Sto) := match toPS x S, toPS y S with
  | some p, some (.list qs) => if SeqAt.shaped p = true ∧ SeqAt.shaped (.list qs) = true then some (.bl (xor neg (qs.any fun z => PyData.eqv z p)), S) else none
  | _, _ => none
theorem s_inD {K : PySem.W.Frag} : Op2S (rInD K) (inD false) := by
  intro H m S dx dy x y d S' Q s rx ry e q
  unfold inD at e
  split at e
  · rename_i p qs e1 e2
    split at e
    · rename_i hc
      cases e
      exact ⟨p, qs, dpS_of s rx e1, dpS_of s ry e2, hc.1, hc.2, q _ _ _ Grow.refl s (by simp [Rep])⟩
    · cases e
  · cases e
theorem s_notInD {K : PySem.W.Frag} : Op2S (rNotInD K) (inD true) := by
  intro H m S dx dy x y d S' Q s rx ry e q
  unfold inD at e
  split at e
  · rename_i p qs e1 e2
    split at e
    · rename_i hc
      cases e
      exact ⟨p, qs, dpS_of s rx e1, dpS_of s ry e2, hc.1, hc.2, q _ _ _ Grow.refl s (by simp [Rep])⟩
    · cases e
  · cases e
end
end PU

namespace PU
open PySem PySem.Spec PyProof.Rows L2

/-! ### what a def leaves behind is forgotten; what it hands back is never written again -/
def fzL (g : D → Option D) : List D → Option (List D)
  | [] => some []
  | d :: ds => match g d, fzL g ds with
    | some e, some es => some (e :: es)
    | _, _ => none
/-- places from n on, by what stands there -/
def fz (T : Sto) (n : Nat) : Nat → D → Option D
  | 0, d => if clo n d = true then some d else none
  | k + 1, d => if clo n d = true then some d else match d with
    | .tup ds => match fzL (fz T n k) ds with
      | some es => some (.tup es)
      | none => none
    | .lst ds => match fzL (fz T n k) ds with
      | some es => some (.lst es)
      | none => none
    | .loc j => match T[j]? with
      | some (.lst ds) => match fzL (fz T n k) ds with
        | some es => some (.lst es)
        | none => none
      | some (.dic ks vs) => match fzL (fz T n k) vs with
        | some es => if cloL n ks = true then some (.dct ks es) else none
        | none => none
      | none => none
    | _ => none
section
variable {H : Hp} {m m' : Wd} {T : Sto}
theorem fzL_rep {g : D → Option D} (hg : ∀ d e v, g d = some e → Rep H m' d v → Rep H m e v) : ∀ (ds es : List D) (vs : List V), fzL g ds = some es → RepL H m' ds vs → RepL H m es vs
  | [], es, vs, e, r => by
    cases e
    exact r
  | d :: ds, es, vs, e, r => by
    have e' : (match g d, fzL g ds with
      | some e, some es => some (e :: es)
      | _, _ => none) = some es := e
    split at e'
    · rename_i e1 es1 h1 h2
      cases e'
      obtain ⟨x, xs, rfl, r1, r2⟩ := r
      exact ⟨x, xs, rfl, hg d _ x h1 r1, fzL_rep hg ds _ xs h2 r2⟩
    · cases e'
theorem fz_rep (s : StoRel H m' T) (l : Wd.Le m m') : ∀ (k : Nat) (d e : D) (v : V), fz T m.m.length k d = some e → Rep H m' d v → Rep H m e v := by
  intro k
  induction k with
  | zero =>
    intro d e v h r
    unfold fz at h
    split at h
    · rename_i hc
      cases h
      exact Rep.shrink l d v hc r
    · cases h
  | succ k ih =>
    intro d e v h r
    unfold fz at h
    split at h
    · rename_i hc
      cases h
      exact Rep.shrink l d v hc r
    · rename_i hc
      cases d with
      | tup ds =>
        simp only at h
        split at h
        · rename_i es h1
          cases h
          obtain ⟨a, xs, rfl, r1, n, r2⟩ := r
          exact ⟨a, xs, rfl, r1, l.out n, fzL_rep ih ds es xs h1 r2⟩
        · cases h
      | lst ds =>
        simp only at h
        split at h
        · rename_i es h1
          cases h
          obtain ⟨a, xs, rfl, r1, n, r2⟩ := r
          exact ⟨a, xs, rfl, r1, l.out n, fzL_rep ih ds es xs h1 r2⟩
        · cases h
      | loc j =>
        have hj : ¬ j < m.m.length := fun z => hc (decide_eq_true z)
        obtain ⟨a, rfl, hm⟩ := r
        have out : m.out a := by
          obtain ⟨t, e2⟩ := l.pre
          refine ⟨fun z => ?_, fun z => (s.res a (l.sub a z)).2 (List.mem_of_getElem? hm)⟩
          obtain ⟨i, hi, e3⟩ := List.getElem_of_mem z
          have h3 : m'.m[i]? = some a := by rw [e2, List.getElem?_append_left hi, List.getElem?_eq_getElem hi, e3]
          have := get_inj s.nd hm h3
          omega
        simp only at h
        split at h
        · rename_i ds hT
          split at h
          · rename_i es h1
            cases h
            obtain ⟨xs, h2, h3⟩ := s.obj j _ a hT hm
            exact ⟨a, xs, rfl, h2, out, fzL_rep ih ds es xs h1 h3⟩
          · cases h
        · rename_i ks vs hT
          split at h
          · rename_i es h1
            split at h
            · rename_i hk
              cases h
              obtain ⟨nk, xs, ys, h2, h3, h4, h5⟩ := s.obj j _ a hT hm
              exact ⟨a, nk, xs, ys, rfl, h2, out, h3, RepL.shrink l ks xs hk h4, fzL_rep ih vs es ys h1 h5⟩
            · cases h
          · cases h
        · cases h
      | _ => cases h
end
open Classical in
/-- f, its garbage gone -/
noncomputable def gzF (f : List D → Sto → Option (D × Sto)) : List D → Sto → Option (D × Sto) := fun ds S => match f ds S with
  | some (d, T) => match fz T S.length 9 d with
    | some e => if S.length ≤ T.length ∧ GcOk S (T.take S.length) e then some (e, T.take S.length) else none
    | none => none
  | none => none
section
variable {P : Program} {w : World} {K : PySem.W.Frag} {mg : Str → Option Value} {base : Heap}
theorem fn_gz {k n : Nat} {fa : Addr} {fd : FuncData} {ps : List Str} {f : List D → Sto → Option (D × Sto)} (h1 : FnOk P w K mg base CX0 k fa fd ps (spF n f)) : FnOk P w K mg base CX0 k fa fd ps (spF n (gzF f)) := by
  refine h1.imp fun vs H Q E hs => ?_
  obtain ⟨hl, ds, m, S0, d, S', r, sr, e, q⟩ := hs
  unfold gzF at e
  split at e
  · rename_i d0 T e1
    split at e
    · rename_i d1 e2
      split at e
      · rename_i hc
        cases e
        obtain ⟨hle, c1, c2, c3⟩ := hc
        refine ⟨hl, ds, m, S0, d0, T, r, sr, e1, fun v H' m' g' s' r' => ?_⟩
        have le : Wd.Le m m' := ⟨g'.pre, g'.sub⟩
        have gm : Grow H m H' m := ⟨⟨[], by simp⟩, fun _ h => h, g'.keep, fun _ h h' => absurd h h', fun _ h h' => absurd h h'⟩
        refine q v H' m gm ⟨by rw [sr.len, c1], sr.nd, fun i o a e3 e4 => ?_, fun a ha => ?_⟩ (fz_rep s' le 9 d0 d v (by rw [sr.len]; exact e2) r')
        · have hi : i < S0.length := by
            rw [← c1]
            exact (List.getElem?_eq_some_iff.mp e3).1
          have e5 : T[i]? = some o := by
            rw [List.getElem?_take_of_lt hi] at e3
            exact e3
          have q5 := s'.obj i o a e5 (g'.ix e4)
          have co : cloO m.m.length o = true := by
            rcases c3 i o e3 with h | h
            · exact (sr.obj i o a h e4).clo
            · rw [sr.len]
              exact h
          exact q5.shrink le co
        · obtain ⟨⟨o, h3⟩, h4⟩ := sr.res a ha
          exact ⟨⟨o, g'.keep a o h3 h4⟩, h4⟩
      · cases e
    · cases e
  · cases e
theorem Fx.gz {k n : Nat} {x : Str} {f : List D → Sto → Option (D × Sto)} (F : Fx P w K mg base k x n f) : Fx P w K mg base k x n (gzF f) := by
  obtain ⟨fa, fd, ps, h1, h2⟩ := F.ex
  exact ⟨fa, fd, ps, fn_gz h1, h2⟩
end
mutual
theorem clo_mono {n k : Nat} (h : n ≤ k) : ∀ d : D, clo n d = true → clo k d = true
  | .non, _ => rfl
  | .bl _, _ => rfl
  | .int _, _ => rfl
  | .str _, _ => rfl
  | .tup ds, e => cloL_mono h ds e
  | .lst ds, e => cloL_mono h ds e
  | .rol ds, e => cloL_mono h ds e
  | .loc j, e => decide_eq_true (Nat.lt_of_lt_of_le (of_decide_eq_true e) h)
  | .dct ds es, e => by
    obtain ⟨c1, c2⟩ := Bool.and_eq_true_iff.mp (show (cloL n ds && cloL n es) = true from e)
    exact Bool.and_eq_true_iff.mpr ⟨cloL_mono h ds c1, cloL_mono h es c2⟩
theorem cloL_mono {n k : Nat} (h : n ≤ k) : ∀ ds : List D, cloL n ds = true → cloL k ds = true
  | [], _ => rfl
  | d :: ds, e => by
    obtain ⟨c1, c2⟩ := Bool.and_eq_true_iff.mp (show (clo n d && cloL n ds) = true from e)
    exact Bool.and_eq_true_iff.mpr ⟨clo_mono h d c1, cloL_mono h ds c2⟩
end
theorem cloO_mono {n k : Nat} (h : n ≤ k) (o : O) (e : cloO n o = true) : cloO k o = true := by
  cases o with
  | lst ds => exact cloL_mono h ds e
  | dic ds es =>
    obtain ⟨c1, c2⟩ := Bool.and_eq_true_iff.mp (show (cloL n ds && cloL n es) = true from e)
    exact Bool.and_eq_true_iff.mpr ⟨cloL_mono h ds c1, cloL_mono h es c2⟩
theorem fz_clo {T : Sto} {n k : Nat} {d : D} (h : clo n d = true) : fz T n k d = some d := by
  cases k <;> (unfold fz; rw [if_pos h])
theorem fzL_clo {T : Sto} {n k : Nat} : ∀ {ds : List D}, cloL n ds = true → fzL (fz T n k) ds = some ds
  | [], _ => rfl
  | d :: ds, e => by
    obtain ⟨c1, c2⟩ := Bool.and_eq_true_iff.mp (show (clo n d && cloL n ds) = true from e)
    show (match fz T n k d, fzL (fz T n k) ds with
      | some e, some es => some (e :: es)
      | _, _ => none) = _
    rw [fz_clo c1, fzL_clo c2]
theorem fz_loc {T : Sto} {n k j : Nat} {ds : List D} (hj : n ≤ j) (hT : T[j]? = some (.lst ds)) (h : cloL n ds = true) : fz T n (k + 1) (.loc j) = some (.lst ds) := by
  unfold fz
  rw [if_neg (show ¬ clo n (.loc j) = true from fun z => by
    have := of_decide_eq_true (show decide (j < n) = true from z)
    omega)]
  simp only [hT, fzL_clo h]
section
variable {f : List D → Sto → Option (D × Sto)} {ds : List D} {S S' G : Sto} {d e : D}
theorem gz_of {T : Sto} (h : f ds S = some (d, T)) (hT : T = S' ++ G) (hl : S'.length = S.length) (hz : fz T S.length 9 d = some e) (hc : clo S.length e = true) (ho : ∀ (i : Nat) (o : O), S'[i]? = some o → S[i]? = some o ∨ cloO S.length o = true) : gzF f ds S = some (e, S') := by
  have ht : T.take S.length = S' := by rw [hT, ← hl, List.take_left']; rfl
  unfold gzF
  rw [h]
  simp only [hz]
  rw [if_pos (show S.length ≤ T.length ∧ GcOk S (T.take S.length) e from ⟨by rw [hT, List.length_append, hl]; exact Nat.le_add_right _ _, by rw [ht]; exact hl, hc, by rw [ht]; exact ho⟩), ht]
/-- a closed result, the store as it was -/
theorem gz_pure (h : f ds S = some (d, S ++ G)) (hc : clo 0 d = true) : gzF f ds S = some (d, S) :=
  gz_of h rfl rfl (fz_clo (clo_mono (Nat.zero_le _) d hc)) (clo_mono (Nat.zero_le _) d hc) fun _ _ e => .inl e
theorem gz_pure0 (h : f ds S = some (d, S)) (hc : clo 0 d = true) : gzF f ds S = some (d, S) := gz_pure (G := []) (by rw [List.append_nil]; exact h) hc
/-- a new list handed back -/
theorem gz_list {j : Nat} {es : List D} (h : f ds S = some (.loc j, S ++ G)) (hj : S.length ≤ j) (hT : (S ++ G)[j]? = some (.lst es)) (hc : cloL 0 es = true) : gzF f ds S = some (.lst es, S) :=
  gz_of h rfl rfl (fz_loc hj hT (cloL_mono (Nat.zero_le _) es hc)) (cloL_mono (Nat.zero_le _) es hc) fun _ _ e => .inl e
/-- an object written, a closed result -/
theorem gz_set {n : Nat} {o : O} (h : f ds S = some (d, S.set n o ++ G)) (hc : clo 0 d = true) (hoc : cloO 0 o = true) : gzF f ds S = some (d, S.set n o) :=
  gz_of h rfl (List.length_set) (fz_clo (clo_mono (Nat.zero_le _) d hc)) (clo_mono (Nat.zero_le _) d hc) fun i u e => by
    by_cases hi : n = i
    · subst hi
      by_cases hn : n < S.length
      · rw [List.getElem?_set_self hn] at e
        cases e
        exact .inr (cloO_mono (Nat.zero_le _) o hoc)
      · rw [List.getElem?_eq_none (by rw [List.length_set]; omega)] at e
        cases e
    · rw [List.getElem?_set_ne hi] at e
      exact .inl e
theorem gz_setList {n j : Nat} {o : O} {es : List D} (h : f ds S = some (.loc j, S.set n o ++ G)) (hj : S.length ≤ j) (hT : (S.set n o ++ G)[j]? = some (.lst es)) (hc : cloL 0 es = true) (hoc : cloO 0 o = true) : gzF f ds S = some (.lst es, S.set n o) :=
  gz_of h rfl (List.length_set) (fz_loc hj hT (cloL_mono (Nat.zero_le _) es hc)) (cloL_mono (Nat.zero_le _) es hc) fun i u e => by
    by_cases hi : n = i
    · subst hi
      by_cases hn : n < S.length
      · rw [List.getElem?_set_self hn] at e
        cases e
        exact .inr (cloO_mono (Nat.zero_le _) o hoc)
      · rw [List.getElem?_eq_none (by rw [List.length_set]; omega)] at e
        cases e
    · rw [List.getElem?_set_ne hi] at e
      exact .inl e
end
end PU

namespace PU
open PySem PySem.Spec PyProof.Rows L2

/-! ### the functions, applied -/
section
variable {env env' : En} {S S' : Sto} {d e : D} {f g h : Ex} {k l : ExL} {i : Nat} {F F' : D → D → Sto → Option (D × Sto)} {F1 : D → Sto → Option (D × Sto)} {FL : List D → Sto → Option (D × Sto)} {FM : D → List D → Sto → Option (D × Sto)} {b c : ExB} {s t : ExS}
theorem ap_runF {N : Nat} {ds : List D} : runF N s ds S = bnd (s (ds.map some ++ List.replicate (N - ds.length) none) S) fun r S1 => match r with
  | .rt d => some (d, S1)
  | .nx _ => some (.non, S1)
  | _ => none := rfl
theorem ap_seq : sSeq s t env S = bnd (s env S) fun r S1 => match r with
  | .nx env' => t env' S1
  | r => some (r, S1) := rfl
theorem ap_next : sNext env S = some (.nx env, S) := rfl
theorem ap_expr : sExpr f env S = bnd (f env S) fun _ S1 => some (.nx env, S1) := rfl
theorem ap_ret : sRet f env S = bnd (f env S) fun d S1 => some (.rt d, S1) := rfl
theorem ap_if : sIf b s t env S = bnd (b env S) fun b S1 => if b = true then s env S1 else t env S1 := rfl
theorem ap_asg {x : ExT} : sAsg f x env S = bnd (f env S) fun d S1 => bnd (x d env S1) fun env' S2 => some (.nx env', S2) := rfl
theorem ap_par {j : Nat} : sPar i j k env S = bnd (k env S) fun ds S1 => match ds with
  | [d, d2] => some (.nx ((env.set i (some d)).set j (some d2)), S1)
  | _ => none := rfl
theorem ap_aug : sAug i f F env S = match env[i]? with
  | some (some x) => bnd (f env S) fun y S1 => bnd (F x y S1) fun z S2 => some (.nx (env.set i (some z)), S2)
  | _ => none := rfl
theorem ap_nm : gNm i d env S = some (env.set i (some d), S) := rfl
theorem ap_tp {x : ExTs} {n : Nat} {ds : List D} : gTp n x (.tup ds) env S = if ds.length = n then x ds env S else none := rfl
theorem ap_gnil : gsNil [] env S = some (env, S) := rfl
theorem ap_gcons {x : ExT} {y : ExTs} {ds : List D} : gsCons x y (d :: ds) env S = bnd (x d env S) fun env' S1 => y ds env' S1 := rfl
theorem ap_gix : gIx f g d env S = bnd (f env S) fun o S1 => bnd (g env S1) fun i S2 => match o, i with
  | .loc n, .int k => match S2[n]? with
    | some (.lst ds) => match ixN ds.length k with
      | some j => some (env, S2.set n (.lst (ds.set j d)))
      | none => none
    | _ => none
  | _, _ => none := rfl
theorem ap_var : eVar i env S = match env[i]? with
  | some (some d) => some (d, S)
  | _ => none := rfl
theorem ap_c : eC d env S = some (d, S) := rfl
theorem ap_op1 : eOp1 F1 f env S = bnd (f env S) F1 := rfl
theorem ap_op2 : eOp2 F f g env S = bnd (f env S) fun x S1 => bnd (g env S1) fun y S2 => F x y S2 := rfl
theorem ap_opL : eOpL FL k env S = bnd (k env S) FL := rfl
theorem ap_anil : aNil env S = some ([], S) := rfl
theorem ap_acons : aCons f k env S = bnd (f env S) fun d S1 => bnd (k env S1) fun ds S2 => some (d :: ds, S2) := rfl
theorem ap_tup : eTup k env S = bnd (k env S) fun ds S1 => if ds.length ≤ sizeLine then some (.tup ds, S1) else none := rfl
theorem ap_lst : fLst k env S = bnd (k env S) fun ds S1 => if ds.length ≤ sizeLine then some (ds, S1) else none := rfl
theorem ap_fz : eFz k env S = bnd (k env S) fun ds S1 => some (.lst ds, S1) := rfl
theorem ap_new : eNew k env S = bnd (k env S) fun ds S1 => some (.loc S1.length, S1 ++ [.lst ds]) := rfl
theorem ap_call {φ : List D → Sto → Option (D × Sto)} {n : Nat} : eCall φ n k env S = bnd (k env S) fun ds S1 => if ds.length = n then φ ds S1 else none := rfl
theorem ap_mth : eMth FM f k env S = bnd (f env S) fun x S1 => if isLst x S1 = true then bnd (k env S1) fun ds S2 => FM x ds S2 else none := rfl
theorem ap_bl : bBl f env S = bnd (f env S) fun d S1 => match d with
  | .bl b => some (b, S1)
  | _ => none := rfl
theorem ap_tru : bTru f env S = bnd (f env S) fun d S1 => match truD d S1 with
  | some b => some (b, S1)
  | none => none := rfl
theorem ap_bnot : bNot b env S = bnd (b env S) fun b S1 => some (!b, S1) := rfl
theorem ap_band : bAnd b c env S = bnd (b env S) fun b S1 => if b = true then c env S1 else some (false, S1) := rfl
theorem ap_bor : bOr b c env S = bnd (b env S) fun b S1 => if b = true then some (true, S1) else c env S1 := rfl
theorem ap_and : eAnd f g env S = bnd (f env S) fun d S1 => match truD d S1 with
  | some true => g env S1
  | some false => some (d, S1)
  | none => none := rfl
theorem ap_or : eOr f g env S = bnd (f env S) fun d S1 => match truD d S1 with
  | some true => some (d, S1)
  | some false => g env S1
  | none => none := rfl
theorem ap_not : eNot f env S = bnd (f env S) fun d S1 => match truD d S1 with
  | some b => some (.bl (!b), S1)
  | none => none := rfl
theorem ap_eif : eIf b f g env S = bnd (b env S) fun b S1 => if b = true then f env S1 else g env S1 := rfl
theorem ap_for {it : ExI} {x : ExT} : sFor it x s env S = bnd (it env S) fun c S1 => loopF c x s c.items env S1 := rfl
theorem ap_lc {it : ExI} {x : ExT} {vs : List Nat} : fLc it x b f vs env S = bnd (it env S) fun c S1 => lcF c x b f (wipeE env vs) c.items [] S1 := rfl
theorem ap_wipe {v : Nat} {vs : List Nat} : wipeE env (v :: vs) = (wipeE env vs).set v none := rfl
theorem ap_wipe0 : wipeE env [] = env := rfl
open Classical in
theorem ap_rg1 : iRg1 k env S = bnd (k env S) fun ds S1 => match ds with
  | [.int j] => if fit62 j then some (⟨rgD 0 j.toNat, none⟩, S1) else none
  | _ => none := rfl
open Classical in
theorem ap_rg2 : iRg2 k env S = bnd (k env S) fun ds S1 => match ds with
  | [.int i, .int j] => if fit62 i ∧ fit62 j then some (⟨rgD i (j - i).toNat, none⟩, S1) else none
  | _ => none := rfl
theorem ap_zp : iZp k env S = bnd (k env S) fun ds S1 => match ds with
  | [.tup a, .tup b] => some (⟨zipD a b, none⟩, S1)
  | [x, y] => match frzOf x, frzOf y with
    | some a, some b => some (⟨zipD a b, none⟩, S1)
    | _, _ => none
  | _ => none := rfl
theorem ap_iseq : iSeq f env S = bnd (f env S) fun d S1 => match d with
  | .tup ds => some (⟨ds, none⟩, S1)
  | .lst ds => some (⟨ds, none⟩, S1)
  | .rol ds => some (⟨ds, none⟩, S1)
  | .loc n => match S1[n]? with
    | some (.lst ds) => some (⟨ds, some n⟩, S1)
    | _ => none
  | _ => none := rfl
theorem ap_slc {x y : En → Sto → Option (Option Int × Sto)} : eSlc f x y env S = bnd (f env S) fun a S1 => bnd (x env S1) fun lo S2 => bnd (y env S2) fun hi S3 => slcD a lo hi S3 := rfl
theorem ap_onone : oNone env S = some (none, S) := rfl
theorem ap_osome : oSome f env S = bnd (f env S) fun d S1 => match d with
  | .int i => some (some i, S1)
  | _ => none := rfl
theorem ap_chain : eChain F F' f g h env S = bnd (f env S) fun x S1 => bnd (g env S1) fun y S2 => bnd (F x y S2) fun z S3 => match z with
  | .bl true => bnd (h env S3) fun w S4 => F' y w S4
  | .bl false => some (.bl false, S3)
  | _ => none := by first | rfl | (unfold eChain; rfl)
theorem ap_lstof : fLstOf f env S = bnd (f env S) fun d S1 => match seqOf d S1 with
  | some ds => some (ds, S1)
  | none => none := rfl
theorem ap_suml : fSumL f env S = bnd (f env S) fun d S1 => match readOf d S1 with
  | some ds => match flatL ds S1 with
    | some fs => if fs.length ≤ sizeLine then some (fs, S1) else none
    | none => none
  | none => none := rfl
end
/-! ### the store -/
theorem get_new {S : Sto} {o : O} : (S ++ [o])[S.length]? = some o := by simp
theorem set_new {S : Sto} {o u : O} : (S ++ [o]).set S.length u = S ++ [u] := by simp
theorem get_old {S G : Sto} {n : Nat} {o : O} (h : S[n]? = some o) : (S ++ G)[n]? = some o := by
  rw [List.getElem?_append_left (List.getElem?_eq_some_iff.mp h).1]
  exact h
/-! ### data -/
abbrev iL (w : List Int) : List D := w.map .int
def wD (w : List Int) : D := .tup (iL w)
theorem iL_len {w : List Int} : (iL w).length = w.length := List.length_map _
theorem iL_app {a b : List Int} : iL a ++ iL b = iL (a ++ b) := (List.map_append).symm
theorem iL_one {a : Int} : [D.int a] = iL [a] := rfl
theorem iL_rev {w : List Int} : (iL w).reverse = iL w.reverse := (List.map_reverse).symm
theorem iL_get {w : List Int} {i : Nat} : (iL w)[i]? = (w[i]?).map .int := List.getElem?_map
theorem iL_clo {n : Nat} : ∀ {w : List Int}, cloL n (iL w) = true
  | [] => rfl
  | _ :: w => iL_clo (w := w)
theorem wD_clo {n : Nat} {w : List Int} : clo n (wD w) = true := iL_clo
theorem toPL_iL : ∀ (w : List Int), toPL (iL w) = some (w.map .int)
  | [] => rfl
  | i :: w => by
    show (match toP (.int i), toPL (iL w) with
      | some p, some ps => some (p :: ps)
      | _, _ => none) = _
    rw [toPL_iL w]
    rfl
theorem toP_wD (w : List Int) : toP (wD w) = some (.tuple (w.map .int)) := by
  show (toPL (iL w)).map PyData.tuple = _
  rw [toPL_iL]
  rfl
theorem canInts : ∀ w : List Int, PyData.canLayAll0 (w.map .int) = true
  | [] => by simp [PyData.canLayAll0]
  | i :: w => by
    rw [List.map_cons, PyData.canLayAll0, canInts w]
    simp [PyData.canLay0]
theorem depthInts : ∀ w : List Int, PyData.depthAll (w.map .int) = 0
  | [] => by simp [PyData.depthAll]
  | i :: w => by
    rw [List.map_cons, PyData.depthAll, depthInts w]
    simp [PyData.depth]
theorem shaped_tup (w : List Int) : SeqAt.shaped (.tuple (w.map .int)) = true := by
  unfold SeqAt.shaped
  rw [PyData.canLay0, canInts, PyData.depth, depthInts]
  rfl
theorem shaped_lst (w : List Int) : SeqAt.shaped (.list (w.map .int)) = true := by
  unfold SeqAt.shaped
  rw [PyData.canLay0, canInts, PyData.depth, depthInts]
  rfl
theorem eqvInts : ∀ a b : List Int, PyData.eqvAll (a.map .int) (b.map .int) = decide (a = b)
  | [], [] => by simp [PyData.eqvAll]
  | [], y :: b => by simp [PyData.eqvAll]
  | x :: a, [] => by simp [PyData.eqvAll]
  | x :: a, y :: b => by
    rw [List.map_cons, List.map_cons, PyData.eqvAll, eqvInts a b]
    simp only [PyData.eqv, List.cons.injEq, Bool.decide_and]
    congr 1
theorem eqv_tup (a b : List Int) : PyData.eqv (.tuple (a.map .int)) (.tuple (b.map .int)) = decide (a = b) := by
  rw [PyData.eqv, eqvInts]
section
variable {S : Sto} {a b : List Int} {i j : Int} {p q : Bool}
theorem eqD_of {x y : D} {p q : PyData} (h1 : toPS x S = some p) (h2 : toPS y S = some q) (s1 : SeqAt.shaped p = true) (s2 : SeqAt.shaped q = true) : eqD x y S = some (PyData.eqv p q) := by
  unfold eqD
  rw [h1, h2]
  simp only
  rw [if_pos ⟨s1, s2⟩]
theorem eq_w : cmpEq (wD a) (wD b) S = some (.bl (decide (a = b)), S) := by
  unfold cmpEq
  rw [eqD_of (x := wD a) (y := wD b) (p := .tuple (a.map .int)) (q := .tuple (b.map .int)) (toP_wD a) (toP_wD b) (shaped_tup a) (shaped_tup b), eqv_tup]
  rfl
theorem ne_w : cmpNe (wD a) (wD b) S = some (.bl (!decide (a = b)), S) := by
  unfold cmpNe
  rw [eqD_of (x := wD a) (y := wD b) (p := .tuple (a.map .int)) (q := .tuple (b.map .int)) (toP_wD a) (toP_wD b) (shaped_tup a) (shaped_tup b), eqv_tup]
  rfl
theorem shaped_int : SeqAt.shaped (.int i) = true := by
  unfold SeqAt.shaped
  rw [PyData.canLay0, PyData.depth]
  rfl
theorem shaped_bl : SeqAt.shaped (.bool p) = true := by
  unfold SeqAt.shaped
  rw [PyData.canLay0, PyData.depth]
  rfl
theorem eq_i : cmpEq (.int i) (.int j) S = some (.bl (decide (i = j)), S) := by
  unfold cmpEq
  rw [eqD_of (p := .int i) (q := .int j) rfl rfl shaped_int shaped_int, PyData.eqv]
  rfl
theorem ne_i : cmpNe (.int i) (.int j) S = some (.bl (!decide (i = j)), S) := by
  unfold cmpNe
  rw [eqD_of (p := .int i) (q := .int j) rfl rfl shaped_int shaped_int, PyData.eqv]
  rfl
theorem ne_b : cmpNe (.bl p) (.bl q) S = some (.bl (!decide (p = q)), S) := by
  unfold cmpNe
  rw [eqD_of (p := .bool p) (q := .bool q) rfl rfl shaped_bl shaped_bl, PyData.eqv]
  cases p <;> cases q <;> rfl
theorem eq_b : cmpEq (.bl p) (.bl q) S = some (.bl (decide (p = q)), S) := by
  unfold cmpEq
  rw [eqD_of (p := .bool p) (q := .bool q) rfl rfl shaped_bl shaped_bl, PyData.eqv]
  cases p <;> cases q <;> rfl
theorem lt_i : cmpLt (.int i) (.int j) S = some (.bl (decide (i < j)), S) := rfl
theorem le_i : cmpLe (.int i) (.int j) S = some (.bl (decide (i ≤ j)), S) := rfl
theorem gt_i : cmpGt (.int i) (.int j) S = some (.bl (decide (j < i)), S) := rfl
theorem ge_i : cmpGe (.int i) (.int j) S = some (.bl (decide (j ≤ i)), S) := rfl
theorem add_i : addD (.int i) (.int j) S = some (.int (i + j), S) := rfl
theorem add_ib : addD (.int i) (.bl p) S = some (.int (i + b2i p), S) := rfl
theorem addI_i : addI (.int i) (.int j) S = some (.int (i + j), S) := rfl
theorem sub_i : subD (.int i) (.int j) S = some (.int (i - j), S) := rfl
theorem sub_b : subD (.bl p) (.bl q) S = some (.int (b2i p - b2i q), S) := rfl
theorem neg_i : negD (.int i) S = some (.int (-i), S) := rfl
theorem add_w (h : a.length + b.length ≤ sizeLine) : addD (wD a) (wD b) S = some (wD (a ++ b), S) := by
  show (if (iL a).length + (iL b).length ≤ sizeLine then some (D.tup (iL a ++ iL b), S) else none) = _
  rw [iL_len, iL_len, if_pos h, iL_app]
  rfl
theorem rev_w : revD (wD a) S = some (wD a.reverse, S) := by
  show some (D.tup (iL a).reverse, S) = _
  rw [iL_rev]
  rfl
theorem len_w : lenD [wD a] S = some (.int a.length, S) := by
  show some (D.int ((iL a).length : Nat), S) = _
  rw [iL_len]
theorem tup_l {ds : List D} : tupD [.lst ds] S = some (.tup ds, S) := rfl
theorem tup_loc {n : Nat} {ds : List D} (h : S[n]? = some (.lst ds)) : tupD [.loc n] S = some (.tup ds, S) := by
  show (match (match S[n]? with
    | some (.lst ds) => some ds
    | _ => none) with
    | some ds => some (D.tup ds, S)
    | none => none) = _
  rw [h]
theorem tup_new {ds : List D} : tupD [.loc S.length] (S ++ [.lst ds]) = some (.tup ds, S ++ [.lst ds]) := tup_loc get_new
theorem isLst_loc {n : Nat} {ds : List D} (h : S[n]? = some (.lst ds)) : isLst (.loc n) S = true := by
  show (match S[n]? with
    | some (.lst ds) => some ds
    | _ => none : Option (List D)).isSome = true
  rw [h]
  rfl
theorem app_loc {n : Nat} {ds : List D} {y : D} (h : S[n]? = some (.lst ds)) (hz : ds.length < sizeLine) : appD (.loc n) [y] S = some (.non, S.set n (.lst (ds ++ [y]))) := by
  show (match S[n]? with
    | some (.lst ds) => if ds.length < sizeLine then some (D.non, S.set n (.lst (ds ++ [y]))) else none
    | _ => none) = _
  rw [h]
  simp only
  rw [if_pos hz]
theorem pop_loc {n : Nat} {ds : List D} {y : D} (h : S[n]? = some (.lst (ds ++ [y]))) : popD (.loc n) [] S = some (y, S.set n (.lst ds)) := by
  show (match S[n]? with
    | some (.lst ds) => match ds[ds.length - 1]? with
      | some y => some (y, S.set n (.lst ds.dropLast))
      | _ => none
    | _ => none) = _
  rw [h]
  simp
theorem ext_loc {n : Nat} {ds es : List D} {y : D} (h : S[n]? = some (.lst ds)) (hy : itemsOf y S = some es) (hz : ds.length + es.length ≤ sizeLine) : extD (.loc n) [y] S = some (.non, S.set n (.lst (ds ++ es))) := by
  show (match S[n]?, itemsOf y S with
    | some (.lst ds), some es => if ds.length + es.length ≤ sizeLine then some (D.non, S.set n (.lst (ds ++ es))) else none
    | _, _ => none) = _
  rw [h, hy]
  simp only
  rw [if_pos hz]
theorem idx_w {i : Nat} {x : Int} (h : a[i]? = some x) : idxD (wD a) (.int i) S = some (.int x, S) := by
  show (match atI (iL a) (i : Int) with
    | some d => some (d, S)
    | none => none) = _
  have hl := (List.getElem?_eq_some_iff.mp h).1
  have e : atI (iL a) (i : Int) = some (.int x) := by
    unfold atI ixN
    rw [if_pos (by omega), if_pos (by simpa using hl)]
    simp [h]
  rw [e]
theorem idx_last {n : Nat} {ds : List D} {y : D} (h : S[n]? = some (.lst (ds ++ [y]))) : idxD (.loc n) (.int (-1)) S = some (y, S) := by
  show (match readOf (.loc n) S with
    | some ds => match atI ds (-1) with
      | some d => some (d, S)
      | none => none
    | none => none) = _
  have e1 : readOf (.loc n) S = some (ds ++ [y]) := by
    show (match S[n]? with
      | some (.lst ds) => some ds
      | _ => none) = _
    rw [h]
  rw [e1]
  have e : atI (ds ++ [y]) (-1) = some y := by
    unfold atI ixN
    rw [if_neg (by omega), if_pos (by simp; omega)]
    have e3 : ((-1 : Int) + ((ds ++ [y]).length : Nat)).toNat = ds.length := by
      rw [List.length_append]
      simp
      omega
    show (ds ++ [y])[((-1 : Int) + ((ds ++ [y]).length : Nat)).toNat]? = some y
    rw [e3]
    simp
  simp only [e]
theorem nil_loc {n : Nat} {neg : Bool} (h : S[n]? = some (.lst (iL a))) : nilD neg (.loc n) S = some (.bl (xor neg (decide (a = []))), S) := by
  have e : toPS (.loc n) S = some (.list (a.map .int)) := by
    show (match S[n]? with
      | some (.lst ds) => (toPL ds).map PyData.list
      | _ => none) = _
    rw [h]
    simp only [toPL_iL]
    rfl
  unfold nilD
  rw [e]
  simp only
  rw [if_pos (shaped_lst a)]
  have e2 : PyData.eqv (.list (a.map .int)) (.list []) = decide (a = []) := by
    rw [PyData.eqv]
    exact eqvInts a []
  rw [e2]
theorem abs_i : absD [.int i] S = some (.int (if i < 0 then -i else i), S) := rfl
theorem mul_i (h : CMulW i j) : mulD (.int i) (.int j) S = some (.int (i * j), S) := by
  unfold mulD intOp
  simp only
  rw [if_pos h]
theorem fdiv_i (h : CDivW i j) : fdivD (.int i) (.int j) S = some (.int (i / j), S) := by
  unfold fdivD intOp
  simp only
  rw [if_pos h]
theorem mod_i (h : 0 < j) : modD (.int i) (.int j) S = some (.int (i % j), S) := by
  unfold modD intOp
  simp only
  rw [if_pos h]
theorem log2_lt {n k : Nat} (h : n < 2 ^ k) (hk : 0 < k) : n.log2 < k := by
  by_cases h0 : n = 0
  · rw [h0]
    simpa using hk
  · exact (Nat.log2_lt h0).mpr h
theorem mulW_of {i j : Int} (h1 : i.natAbs < 2 ^ 200) (h2 : j.natAbs < 2 ^ 200) : CMulW i j := by
  have a := log2_lt h1 (by decide)
  have b := log2_lt h2 (by decide)
  unfold CMulW
  omega
theorem divW_of {i j : Int} (h1 : 0 < j) (h2 : j.natAbs < 2 ^ 200) : CDivW i j := by
  have b := log2_lt h2 (by decide)
  exact ⟨h1, by omega⟩
theorem fit_of {i : Int} (h : -1000000 ≤ i ∧ i ≤ 1000000) : fit62 i := by
  unfold fit62
  omega
theorem sizeBig {n : Nat} (h : n ≤ 1000000) : n ≤ sizeLine := by rw [sizeLine_eq]; omega
end
theorem allBls_map' {α : Type} (r : α → Bool) (l : List α) : allBls (l.map fun a => D.bl (r a)) = some (l.map r) := by
  rw [show (l.map fun a => D.bl (r a)) = (l.map r).map D.bl by rw [List.map_map]; rfl]
  exact allBls_map _
theorem all_l {α : Type} {r : α → Bool} {l : List α} {S : Sto} : allD [.lst (l.map fun a => D.bl (r a))] S = some (.bl (l.all r), S) := by
  show (match allBls (l.map fun a => D.bl (r a)) with
    | some l => some (D.bl (l.all id), S)
    | none => none) = _
  rw [allBls_map']
  simp [List.all_map, Function.comp_def]
theorem allInts_map' {α : Type} (r : α → Int) (l : List α) : allInts (l.map fun a => D.int (r a)) = some (l.map r) := by
  rw [show (l.map fun a => D.int (r a)) = (l.map r).map D.int by rw [List.map_map]; rfl]
  exact allInts_map _
theorem sum_l {α : Type} {r : α → Int} {l : List α} {S : Sto} : sumD [.lst (l.map fun a => D.int (r a))] S = some (.int (l.map r).sum, S) := by
  show (match allInts (l.map fun a => D.int (r a)) with
    | some l => some (D.int l.sum, S)
    | none => none) = _
  rw [allInts_map']
theorem cnt_w {w : List Int} {i : Int} {S : Sto} : cntD (wD w) (.int i) S = some (.int (w.count i), S) := by
  show (match allInts (w.map D.int) with
    | some l => some (D.int (l.count i), S)
    | none => none) = _
  rw [allInts_map]
def wsD (ws : List (List Int)) : D := .tup (ws.map wD)
theorem toPL_ws : ∀ ws : List (List Int), toPL (ws.map wD) = some (ws.map fun w => .tuple (w.map .int))
  | [] => rfl
  | w :: ws => by
    show (match toP (wD w), toPL (ws.map wD) with
      | some p, some ps => some (p :: ps)
      | _, _ => none) = _
    rw [toP_wD, toPL_ws ws]
    rfl
theorem canWs : ∀ ws : List (List Int), PyData.canLayAll0 (ws.map fun w => .tuple (w.map .int)) = true
  | [] => by simp [PyData.canLayAll0]
  | w :: ws => by
    rw [List.map_cons, PyData.canLayAll0, canWs ws, PyData.canLay0, canInts]
    rfl
theorem depthWs : ∀ ws : List (List Int), PyData.depthAll (ws.map fun w => .tuple (w.map .int)) ≤ 1
  | [] => by simp [PyData.depthAll]
  | w :: ws => by
    rw [List.map_cons, PyData.depthAll, PyData.depth, depthInts]
    have := depthWs ws
    omega
theorem shaped_ws (ws : List (List Int)) : SeqAt.shaped (.tuple (ws.map fun w => .tuple (w.map .int))) = true := by
  unfold SeqAt.shaped
  rw [PyData.canLay0, canWs, PyData.depth]
  have := depthWs ws
  simp
  omega
theorem shaped_wl (ws : List (List Int)) : SeqAt.shaped (.list (ws.map fun w => .tuple (w.map .int))) = true := by
  unfold SeqAt.shaped
  rw [PyData.canLay0, canWs, PyData.depth]
  have := depthWs ws
  simp
  omega
theorem eqvWs : ∀ a b : List (List Int), PyData.eqvAll (a.map fun w => .tuple (w.map .int)) (b.map fun w => .tuple (w.map .int)) = decide (a = b)
  | [], [] => by simp [PyData.eqvAll]
  | [], y :: b => by simp [PyData.eqvAll]
  | x :: a, [] => by simp [PyData.eqvAll]
  | x :: a, y :: b => by
    rw [List.map_cons, List.map_cons, PyData.eqvAll, eqvWs a b, eqv_tup]
    simp only [List.cons.injEq, Bool.decide_and]
theorem eq_ws {a b : List (List Int)} {S : Sto} : cmpEq (wsD a) (wsD b) S = some (.bl (decide (a = b)), S) := by
  have h : ∀ ws : List (List Int), toPS (wsD ws) S = some (.tuple (ws.map fun w => .tuple (w.map .int))) := fun ws => by
    show (toPL (ws.map wD)).map PyData.tuple = _
    rw [toPL_ws]
    rfl
  unfold cmpEq
  rw [eqD_of (h a) (h b) (shaped_ws a) (shaped_ws b), PyData.eqv, eqvWs]
  rfl
theorem in_ws {w : List Int} {ws : List (List Int)} {S : Sto} : inD false (wD w) (.lst (ws.map wD)) S = some (.bl (decide (w ∈ ws)), S) := by
  have h : toPS (.lst (ws.map wD)) S = some (.list (ws.map fun w => .tuple (w.map .int))) := by
    show (toPL (ws.map wD)).map PyData.list = _
    rw [toPL_ws]
    rfl
  have h2 : toPS (wD w) S = some (.tuple (w.map .int)) := toP_wD w
  unfold inD
  rw [h, h2]
  simp only
  rw [if_pos ⟨shaped_tup w, shaped_wl ws⟩]
  congr 3
  rw [List.any_map, Bool.false_xor]
  rw [Bool.eq_iff_iff, List.any_eq_true, decide_eq_true_iff]
  simp only [Function.comp_def, eqv_tup, decide_eq_true_iff]
  constructor
  · rintro ⟨x, hx, rfl⟩
    exact hx
  · exact fun h => ⟨w, h, rfl⟩
theorem ws_len {ws : List (List Int)} {S : Sto} : lenD [wsD ws] S = some (.int ws.length, S) := by
  show some (D.int ((ws.map wD).length : Nat), S) = _
  rw [List.length_map]
/-! ### loops -/
theorem okS_none {ds : List D} {S : Sto} : okS ⟨ds, none⟩ S := fun n h => nomatch h
theorem loopF_nil {ds0 : List D} {g : ExT} {b : ExS} {env : En} {S : Sto} : loopF ⟨ds0, none⟩ g b [] env S = some (.nx env, S) := by
  unfold loopF
  rw [if_pos okS_none]
theorem loopF_cons {ds0 : List D} {g : ExT} {b : ExS} {d : D} {ds : List D} {env : En} {S : Sto} : loopF ⟨ds0, none⟩ g b (d :: ds) env S = bnd (g d env S) fun env1 S1 => bnd (b env1 S1) fun r S2 => match r with
    | .nx e => loopF ⟨ds0, none⟩ g b ds e S2
    | .ct e => loopF ⟨ds0, none⟩ g b ds e S2
    | .bk e => some (.nx e, S2)
    | .rt v => some (.rt v, S2) := by
  conv => lhs; unfold loopF
  rw [if_pos okS_none]
  try rfl
/-- a fold: R tells the state -/
theorem loopF_fold {α σ : Type} {ds0 : List D} {g : ExT} {b : ExS} (enc : α → D) (step : σ → α → σ) (R : σ → En → Sto → Prop) : ∀ (l : List α) (st : σ) (env : En) (S : Sto),
    (∀ a ∈ l, ∀ (st : σ) (env : En) (S : Sto), R st env S → ∃ env1 S1 env2 S2, g (enc a) env S = some (env1, S1) ∧ b env1 S1 = some (.nx env2, S2) ∧ R (step st a) env2 S2) → R st env S →
    ∃ env' S', loopF ⟨ds0, none⟩ g b (l.map enc) env S = some (.nx env', S') ∧ R (l.foldl step st) env' S'
  | [], st, env, S, _, hR => ⟨env, S, loopF_nil, hR⟩
  | a :: l, st, env, S, h, hR => by
    obtain ⟨env1, S1, env2, S2, h1, h2, h3⟩ := h a List.mem_cons_self st env S hR
    obtain ⟨env', S', h4, h5⟩ := loopF_fold enc step R l (step st a) env2 S2 (fun a ha => h a (List.mem_cons_of_mem _ ha)) h3
    refine ⟨env', S', ?_, h5⟩
    rw [List.map_cons, loopF_cons, h1, bnd_some, h2, bnd_some]
    exact h4
/-- the state told by a relation of its own -/
theorem loopF_rel {α : Type} {ds0 : List D} {g : ExT} {b : ExS} (enc : α → D) (R : Nat → En → Sto → Prop) : ∀ (l : List α) (i : Nat) (env : En) (S : Sto),
    (∀ (j : Nat) (a : α), l[j]? = some a → ∀ (env : En) (S : Sto), R (i + j) env S → ∃ env1 S1 env2 S2, g (enc a) env S = some (env1, S1) ∧ b env1 S1 = some (.nx env2, S2) ∧ R (i + j + 1) env2 S2) → R i env S →
    ∃ env' S', loopF ⟨ds0, none⟩ g b (l.map enc) env S = some (.nx env', S') ∧ R (i + l.length) env' S'
  | [], i, env, S, _, hR => ⟨env, S, loopF_nil, hR⟩
  | a :: l, i, env, S, h, hR => by
    obtain ⟨env1, S1, env2, S2, h1, h2, h3⟩ := h 0 a rfl env S hR
    obtain ⟨env', S', h4, h5⟩ := loopF_rel enc R l (i + 1) env2 S2 (fun j a ha env S hr => by
      have := h (j + 1) a (by simpa using ha) env S (by rw [show i + (j + 1) = i + 1 + j by omega]; exact hr)
      rw [show i + (j + 1) + 1 = i + 1 + j + 1 by omega] at this
      exact this) h3
    refine ⟨env', S', ?_, by rw [List.length_cons, show i + (l.length + 1) = i + 1 + l.length by omega]; exact h5⟩
    rw [List.map_cons, loopF_cons, h1, bnd_some, h2, bnd_some]
    exact h4
theorem loopF_rel0 {α : Type} {ds0 : List D} {g : ExT} {b : ExS} (enc : α → D) (R : Nat → En → Sto → Prop) (l : List α) (env : En) (S : Sto)
    (h : ∀ (j : Nat) (a : α), l[j]? = some a → ∀ (env : En) (S : Sto), R j env S → ∃ env1 S1 env2 S2, g (enc a) env S = some (env1, S1) ∧ b env1 S1 = some (.nx env2, S2) ∧ R (j + 1) env2 S2) (h0 : R 0 env S) :
    ∃ env' S', loopF ⟨ds0, none⟩ g b (l.map enc) env S = some (.nx env', S') ∧ R l.length env' S' := by
  have := loopF_rel (ds0 := ds0) (g := g) (b := b) enc R l 0 env S (fun j a ha env S hr => by
    rw [Nat.zero_add] at hr ⊢
    exact h j a ha env S hr) h0
  rw [Nat.zero_add] at this
  exact this
theorem bnd_ex {β : Type} {x : Option (Fl × Sto)} {P : En → Sto → Prop} {k : Fl → Sto → Option β} {r : Option β} (h : ∃ e S', x = some (.nx e, S') ∧ P e S') (hk : ∀ e S', P e S' → k (.nx e) S' = r) : bnd x k = r := by
  obtain ⟨e, S', h1, h2⟩ := h
  rw [h1, bnd_some]
  exact hk e S' h2
theorem bnd_ex2 {β γ : Type} {x : Option (Fl × Sto)} {P : En → Sto → Prop} {k : Fl → Sto → Option (β × Sto)} {k2 : β → Sto → Option γ} {r : Option γ} (h : ∃ e S', x = some (.nx e, S') ∧ P e S') (hk : ∀ e S', P e S' → bnd (k (.nx e) S') k2 = r) : bnd (bnd x k) k2 = r := by
  obtain ⟨e, S', h1, h2⟩ := h
  rw [h1, bnd_some]
  exact hk e S' h2
theorem bnd_exQ {β γ : Type} {x : Option (Fl × Sto)} {P : En → Sto → Prop} {k : Fl → Sto → Option (β × Sto)} {k2 : β → Sto → Option γ} {Z : Option γ → Prop} (h : ∃ e S', x = some (.nx e, S') ∧ P e S') (hk : ∀ e S', P e S' → Z (bnd (k (.nx e) S') k2)) : Z (bnd (bnd x k) k2) := by
  obtain ⟨e, S', h1, h2⟩ := h
  rw [h1, bnd_some]
  exact hk e S' h2
theorem lcF_nil {ds0 : List D} {g : ExT} {t : ExB} {f : Ex} {env : En} {acc : List D} {S : Sto} : lcF ⟨ds0, none⟩ g t f env [] acc S = some (acc, S) := by
  unfold lcF
  rw [if_pos okS_none]
theorem lcF_cons {ds0 : List D} {g : ExT} {t : ExB} {f : Ex} {env : En} {d : D} {ds acc : List D} {S : Sto} : lcF ⟨ds0, none⟩ g t f env (d :: ds) acc S = bnd (g d env S) fun env1 S1 => bnd (t env1 S1) fun b S2 => if b = true then bnd (f env1 S2) fun y S3 => (if acc.length < sizeLine then lcF ⟨ds0, none⟩ g t f env ds (acc ++ [y]) S3 else none) else lcF ⟨ds0, none⟩ g t f env ds acc S2 := by
  conv => lhs; unfold lcF
  rw [if_pos okS_none]
/-- a comprehension that leaves the store as it is -/
theorem lcF_map {α : Type} {ds0 : List D} {g : ExT} {t : ExB} {f : Ex} {env : En} {S : Sto} (enc : α → D) (p : α → Bool) (r : α → D) : ∀ (l : List α) (acc : List D),
    (∀ a ∈ l, ∃ env1, g (enc a) env S = some (env1, S) ∧ t env1 S = some (p a, S) ∧ (p a = true → f env1 S = some (r a, S))) → acc.length + l.length ≤ sizeLine →
    lcF ⟨ds0, none⟩ g t f env (l.map enc) acc S = some (acc ++ (l.filter p).map r, S)
  | [], acc, _, _ => by
    rw [List.map_nil, lcF_nil]
    simp
  | a :: l, acc, h, hz => by
    obtain ⟨env1, h1, h2, h3⟩ := h a List.mem_cons_self
    rw [List.length_cons] at hz
    rw [List.map_cons, lcF_cons, h1, bnd_some, h2, bnd_some]
    cases hp : p a with
    | true =>
      rw [if_pos rfl, h3 hp, bnd_some, if_pos (by omega), lcF_map enc p r l _ (fun a ha => h a (List.mem_cons_of_mem _ ha)) (by rw [List.length_append]; simp; omega)]
      simp [List.filter_cons, hp]
    | false =>
      rw [if_neg Bool.false_ne_true, lcF_map enc p r l acc (fun a ha => h a (List.mem_cons_of_mem _ ha)) (by omega)]
      simp [List.filter_cons, hp]
/-- .. that changes the store -/
theorem lcF_rel {α : Type} {ds0 : List D} {g : ExT} {t : ExB} {f : Ex} {env : En} (enc : α → D) (R : List D → Sto → Prop) : ∀ (l : List α) (acc : List D) (S : Sto),
    (∀ a ∈ l, ∀ (acc : List D) (S : Sto), R acc S → ∃ env1 S1 S2 y S3, g (enc a) env S = some (env1, S1) ∧ t env1 S1 = some (true, S2) ∧ f env1 S2 = some (y, S3) ∧ R (acc ++ [y]) S3) → acc.length + l.length ≤ sizeLine → R acc S →
    ∃ out S', lcF ⟨ds0, none⟩ g t f env (l.map enc) acc S = some (out, S') ∧ R out S' ∧ out.length = acc.length + l.length
  | [], acc, S, _, _, hR => ⟨acc, S, lcF_nil, hR, rfl⟩
  | a :: l, acc, S, h, hz, hR => by
    obtain ⟨env1, S1, S2, y, S3, h1, h2, h3, h4⟩ := h a List.mem_cons_self acc S hR
    rw [List.length_cons] at hz
    obtain ⟨out, S', h5, h6, h7⟩ := lcF_rel enc R l (acc ++ [y]) S3 (fun a ha => h a (List.mem_cons_of_mem _ ha)) (by rw [List.length_append]; simp; omega) h4
    refine ⟨out, S', ?_, h6, by rw [h7, List.length_append, List.length_cons]; simp; omega⟩
    rw [List.map_cons, lcF_cons, h1, bnd_some, h2, bnd_some, if_pos rfl, h3, bnd_some, if_pos (by omega)]
    exact h5
theorem rgD_map (lo : Int) (n : Nat) : rgD lo n = (List.range n).map fun i => D.int (lo + (i : Nat)) := rfl
end PU

set_option maxHeartbeats 0
namespace Hx
open PySem PySem.Spec PyProof.Rows L2
def top (i : Nat) : Stmt := PySem.Challenge.pw_undonewords_k30_whole_all_rows_of_letter.main.body.getD i (.Pass ⟨0, 0, 0, 0⟩)
abbrev s_is_whole : Stmt := top 7
def d_is_whole : He.DefD := ⟨("is_whole", none), "is_whole", "is_whole", defArgs s_is_whole, defBody s_is_whole, defScope s_is_whole, [], []⟩
abbrev s_is_near : Stmt := top 8
def d_is_near : He.DefD := ⟨("is_near", none), "is_near", "is_near", defArgs s_is_near, defBody s_is_near, defScope s_is_near, [], []⟩
abbrev s_is_within : Stmt := top 9
def d_is_within : He.DefD := ⟨("is_within", none), "is_within", "is_within", defArgs s_is_within, defBody s_is_within, defScope s_is_within, [], []⟩
abbrev s_require_number : Stmt := top 10
def d_require_number : He.DefD := ⟨("require_number", none), "require_number", "require_number", defArgs s_require_number, defBody s_require_number, defScope s_require_number, [], []⟩
abbrev s_is_letter_in : Stmt := top 15
def d_is_letter_in : He.DefD := ⟨("is_letter_in", none), "is_letter_in", "is_letter_in", defArgs s_is_letter_in, defBody s_is_letter_in, defScope s_is_letter_in, [], []⟩
abbrev s_is_word_in : Stmt := top 16
def d_is_word_in : He.DefD := ⟨("is_word_in", none), "is_word_in", "is_word_in", defArgs s_is_word_in, defBody s_is_word_in, defScope s_is_word_in, [], []⟩
abbrev s_are_words_in : Stmt := top 17
def d_are_words_in : He.DefD := ⟨("are_words_in", none), "are_words_in", "are_words_in", defArgs s_are_words_in, defBody s_are_words_in, defScope s_are_words_in, [], []⟩
abbrev s_letters_in : Stmt := top 18
def d_letters_in : He.DefD := ⟨("letters_in", none), "letters_in", "letters_in", defArgs s_letters_in, defBody s_letters_in, defScope s_letters_in, [], []⟩
abbrev s_shortened_in : Stmt := top 19
def d_shortened_in : He.DefD := ⟨("shortened_in", none), "shortened_in", "shortened_in", defArgs s_shortened_in, defBody s_shortened_in, defScope s_shortened_in, [], []⟩
abbrev s_undone_in : Stmt := top 20
def d_undone_in : He.DefD := ⟨("undone_in", none), "undone_in", "undone_in", defArgs s_undone_in, defBody s_undone_in, defScope s_undone_in, [], []⟩
abbrev s_product_in : Stmt := top 21
def d_product_in : He.DefD := ⟨("product_in", none), "product_in", "product_in", defArgs s_product_in, defBody s_product_in, defScope s_product_in, [], []⟩
abbrev s_lost_in : Stmt := top 22
def d_lost_in : He.DefD := ⟨("lost_in", none), "lost_in", "lost_in", defArgs s_lost_in, defBody s_lost_in, defScope s_lost_in, [], []⟩
abbrev s_counts_in : Stmt := top 23
def d_counts_in : He.DefD := ⟨("counts_in", none), "counts_in", "counts_in", defArgs s_counts_in, defBody s_counts_in, defScope s_counts_in, [], []⟩
abbrev s_place_of_letter : Stmt := top 24
def d_place_of_letter : He.DefD := ⟨("place_of_letter", none), "place_of_letter", "place_of_letter", defArgs s_place_of_letter, defBody s_place_of_letter, defScope s_place_of_letter, [], []⟩
abbrev s_sequence_key : Stmt := top 25
def d_sequence_key : He.DefD := ⟨("sequence_key", none), "sequence_key", "sequence_key", defArgs s_sequence_key, defBody s_sequence_key, defScope s_sequence_key, [], []⟩
abbrev s_is_short_in : Stmt := top 26
def d_is_short_in : He.DefD := ⟨("is_short_in", none), "is_short_in", "is_short_in", defArgs s_is_short_in, defBody s_is_short_in, defScope s_is_short_in, [], []⟩
abbrev s_require_letters : Stmt := top 27
def d_require_letters : He.DefD := ⟨("require_letters", none), "require_letters", "require_letters", defArgs s_require_letters, defBody s_require_letters, defScope s_require_letters, [], []⟩
abbrev s_require_word : Stmt := top 28
def d_require_word : He.DefD := ⟨("require_word", none), "require_word", "require_word", defArgs s_require_word, defBody s_require_word, defScope s_require_word, [], []⟩
abbrev s_require_words : Stmt := top 29
def d_require_words : He.DefD := ⟨("require_words", none), "require_words", "require_words", defArgs s_require_words, defBody s_require_words, defScope s_require_words, [], []⟩
abbrev s_require_told_word : Stmt := top 30
def d_require_told_word : He.DefD := ⟨("require_told_word", none), "require_told_word", "require_told_word", defArgs s_require_told_word, defBody s_require_told_word, defScope s_require_told_word, [], []⟩
abbrev s_require_two_words : Stmt := top 31
def d_require_two_words : He.DefD := ⟨("require_two_words", none), "require_two_words", "require_two_words", defArgs s_require_two_words, defBody s_require_two_words, defScope s_require_two_words, [], []⟩
abbrev s_require_told_words : Stmt := top 32
def d_require_told_words : He.DefD := ⟨("require_told_words", none), "require_told_words", "require_told_words", defArgs s_require_told_words, defBody s_require_told_words, defScope s_require_told_words, [], []⟩
abbrev s_is_word : Stmt := top 33
def d_is_word : He.DefD := ⟨("is_word", none), "is_word", "is_word", defArgs s_is_word, defBody s_is_word, defScope s_is_word, [], []⟩
abbrev s_is_short : Stmt := top 34
def d_is_short : He.DefD := ⟨("is_short", none), "is_short", "is_short", defArgs s_is_short, defBody s_is_short, defScope s_is_short, [], []⟩
abbrev s_alphabet : Stmt := top 35
def d_alphabet : He.DefD := ⟨("alphabet", none), "alphabet", "alphabet", defArgs s_alphabet, defBody s_alphabet, defScope s_alphabet, [], []⟩
abbrev s_shortened : Stmt := top 36
def d_shortened : He.DefD := ⟨("shortened", none), "shortened", "shortened", defArgs s_shortened, defBody s_shortened, defScope s_shortened, [], []⟩
abbrev s_undoing : Stmt := top 37
def d_undoing : He.DefD := ⟨("undoing", none), "undoing", "undoing", defArgs s_undoing, defBody s_undoing, defScope s_undoing, [], []⟩
abbrev s_product : Stmt := top 38
def d_product : He.DefD := ⟨("product", none), "product", "product", defArgs s_product, defBody s_product, defScope s_product, [], []⟩
abbrev s_are_equal : Stmt := top 39
def d_are_equal : He.DefD := ⟨("are_equal", none), "are_equal", "are_equal", defArgs s_are_equal, defBody s_are_equal, defScope s_are_equal, [], []⟩
abbrev s_loss : Stmt := top 40
def d_loss : He.DefD := ⟨("loss", none), "loss", "loss", defArgs s_loss, defBody s_loss, defScope s_loss, [], []⟩
abbrev s_counts_of : Stmt := top 41
def d_counts_of : He.DefD := ⟨("counts_of", none), "counts_of", "counts_of", defArgs s_counts_of, defBody s_counts_of, defScope s_counts_of, [], []⟩
abbrev s_do_pass : Stmt := top 42
def d_do_pass : He.DefD := ⟨("do_pass", none), "do_pass", "do_pass", defArgs s_do_pass, defBody s_do_pass, defScope s_do_pass, [], []⟩
abbrev s_compared : Stmt := top 43
def d_compared : He.DefD := ⟨("compared", none), "compared", "compared", defArgs s_compared, defBody s_compared, defScope s_compared, [], []⟩
abbrev s_sorted_words : Stmt := top 44
def d_sorted_words : He.DefD := ⟨("sorted_words", none), "sorted_words", "sorted_words", defArgs s_sorted_words, defBody s_sorted_words, defScope s_sorted_words, [], []⟩
abbrev s_strikes : Stmt := top 45
def d_strikes : He.DefD := ⟨("strikes", none), "strikes", "strikes", defArgs s_strikes, defBody s_strikes, defScope s_strikes, [], []⟩
abbrev s_law_dice : Stmt := top 47
def d_law_dice : He.DefD := ⟨("_law_dice", none), "_law_dice", "_law_dice", defArgs s_law_dice, defBody s_law_dice, defScope s_law_dice, [], []⟩
abbrev s_law_roll : Stmt := top 48
def d_law_roll : He.DefD := ⟨("_law_roll", none), "_law_roll", "_law_roll", defArgs s_law_roll, defBody s_law_roll, defScope s_law_roll, [], []⟩
abbrev s_law_one_of : Stmt := top 49
def d_law_one_of : He.DefD := ⟨("_law_one_of", none), "_law_one_of", "_law_one_of", defArgs s_law_one_of, defBody s_law_one_of, defScope s_law_one_of, [], []⟩
abbrev s_law_made : Stmt := top 50
def d_law_made : He.DefD := ⟨("_law_made", none), "_law_made", "_law_made", defArgs s_law_made, defBody s_law_made, defScope s_law_made, [], []⟩
abbrev s_law_undone : Stmt := top 51
def d_law_undone : He.DefD := ⟨("_law_undone", none), "_law_undone", "_law_undone", defArgs s_law_undone, defBody s_law_undone, defScope s_law_undone, [], []⟩
abbrev s_law_letters : Stmt := top 52
def d_law_letters : He.DefD := ⟨("_law_letters", none), "_law_letters", "_law_letters", defArgs s_law_letters, defBody s_law_letters, defScope s_law_letters, [], []⟩
abbrev s_law_every : Stmt := top 53
def d_law_every : He.DefD := ⟨("_law_every", none), "_law_every", "_law_every", defArgs s_law_every, defBody s_law_every, defScope s_law_every, [], []⟩
abbrev s_law_mixed : Stmt := top 54
def d_law_mixed : He.DefD := ⟨("_law_mixed", none), "_law_mixed", "_law_mixed", defArgs s_law_mixed, defBody s_law_mixed, defScope s_law_mixed, [], []⟩
abbrev s_law_struck : Stmt := top 55
def d_law_struck : He.DefD := ⟨("_law_struck", none), "_law_struck", "_law_struck", defArgs s_law_struck, defBody s_law_struck, defScope s_law_struck, [], []⟩
abbrev s_law_rows : Stmt := top 56
def d_law_rows : He.DefD := ⟨("_law_rows", none), "_law_rows", "_law_rows", defArgs s_law_rows, defBody s_law_rows, defScope s_law_rows, [], []⟩
abbrev s_law_are_rows_right : Stmt := top 57
def d_law_are_rows_right : He.DefD := ⟨("_law_are_rows_right", none), "_law_are_rows_right", "_law_are_rows_right", defArgs s_law_are_rows_right, defBody s_law_are_rows_right, defScope s_law_are_rows_right, [], []⟩
abbrev s_law_power : Stmt := top 58
def d_law_power : He.DefD := ⟨("_law_power", none), "_law_power", "_law_power", defArgs s_law_power, defBody s_law_power, defScope s_law_power, [], []⟩
abbrev s_law_are_pairs_right : Stmt := top 59
def d_law_are_pairs_right : He.DefD := ⟨("_law_are_pairs_right", none), "_law_are_pairs_right", "_law_are_pairs_right", defArgs s_law_are_pairs_right, defBody s_law_are_pairs_right, defScope s_law_are_pairs_right, [], []⟩
abbrev s_law : Stmt := top 60
def d_law : He.DefD := ⟨("law", none), "law", "law", defArgs s_law, defBody s_law, defScope s_law, [], []⟩
def fn : List He.DefD := [d_is_whole, d_is_near, d_is_within, d_require_number, d_is_letter_in, d_is_word_in, d_are_words_in, d_letters_in, d_shortened_in, d_undone_in, d_product_in, d_lost_in, d_counts_in, d_place_of_letter, d_sequence_key, d_is_short_in, d_require_letters, d_require_word, d_require_words, d_require_told_word, d_require_two_words, d_require_told_words, d_is_word, d_is_short, d_alphabet, d_shortened, d_undoing, d_product, d_are_equal, d_loss, d_counts_of, d_do_pass, d_compared, d_sorted_words, d_strikes, d_law_dice, d_law_roll, d_law_one_of, d_law_made, d_law_undone, d_law_letters, d_law_every, d_law_mixed, d_law_struck, d_law_rows, d_law_are_rows_right, d_law_power, d_law_are_pairs_right, d_law]
def fa : List He.Fa := [.glo "is_whole", .glo "is_near", .glo "is_within", .glo "require_number", .glo "is_letter_in", .glo "is_word_in", .glo "are_words_in", .glo "letters_in", .glo "shortened_in", .glo "undone_in", .glo "product_in", .glo "lost_in", .glo "counts_in", .glo "place_of_letter", .glo "sequence_key", .glo "is_short_in", .glo "require_letters", .glo "require_word", .glo "require_words", .glo "require_told_word", .glo "require_two_words", .glo "require_told_words", .glo "is_word", .glo "is_short", .glo "alphabet", .glo "shortened", .glo "undoing", .glo "product", .glo "are_equal", .glo "loss", .glo "counts_of", .glo "do_pass", .glo "compared", .glo "sorted_words", .glo "strikes", .glo "_law_dice", .glo "_law_roll", .glo "_law_one_of", .glo "_law_made", .glo "_law_undone", .glo "_law_letters", .glo "_law_every", .glo "_law_mixed", .glo "_law_struck", .glo "_law_rows", .glo "_law_are_rows_right", .glo "_law_power", .glo "_law_are_pairs_right", .glo "law", .int "FAR" 1000000000000000000000000000000000000000000000000000000000000, .int "MOST_LONG" 400, .int "MOST_WORDS" 20, .int "MOST_RANK" 4, .free "IndexError", .free "ValueError", .free "abs", .free "all", .free "bool", .free "int", .free "isinstance", .free "len", .free "list", .free "max", .free "min", .free "range", .free "sorted", .free "sum", .free "super", .free "tuple", .free "zip"]
def gloL0 : List PySem.Str := ["is_whole", "is_near", "is_within", "require_number", "is_letter_in", "is_word_in", "are_words_in", "letters_in", "shortened_in", "undone_in", "product_in", "lost_in", "counts_in", "place_of_letter", "sequence_key", "is_short_in", "require_letters", "require_word", "require_words", "require_told_word", "require_two_words", "require_told_words", "is_word", "is_short", "alphabet", "shortened", "undoing", "product", "are_equal", "loss"]
def gloL1 : List PySem.Str := ["counts_of", "do_pass", "compared", "sorted_words", "strikes", "_law_dice", "_law_roll", "_law_one_of", "_law_made", "_law_undone", "_law_letters", "_law_every", "_law_mixed", "_law_struck", "_law_rows", "_law_are_rows_right", "_law_power", "_law_are_pairs_right", "law"]
def gloL : List PySem.Str := gloL0 ++ gloL1
def freL0 : List PySem.Str := ["IndexError", "ValueError", "abs", "all", "bool", "int", "isinstance", "len", "list", "max", "min", "range", "sorted", "sum", "super", "tuple", "zip"]
def freL : List PySem.Str := freL0
def intL : List (Str × Int) := [(("FAR" : Str), (1000000000000000000000000000000000000000000000000000000000000 : Int)), (("MOST_LONG" : Str), (400 : Int)), (("MOST_WORDS" : Str), (20 : Int)), (("MOST_RANK" : Str), (4 : Int))]
structure Tx (K : PySem.W.Frag) (mg : Str → Option Value) : Prop where
  c : He.SaysD fa fn K
  g : ∀ x ∈ gloL, mg x = some (.ref (He.ga K x))
  f : ∀ x ∈ freL, mg x = none
  i : ∀ p ∈ intL, ∃ t, mg p.1 = some (.int p.2 t)
section
variable {K : PySem.W.Frag} {mg : Str → Option Value}
theorem Tx.glo (T : Tx K mg) (x : Str) (h : x ∈ gloL) : mg x = some (.ref (He.ga K x)) := T.g x h
theorem Tx.fr (T : Tx K mg) (x : Str) (h : x ∈ freL) : mg x = none := T.f x h
theorem Tx.int (T : Tx K mg) (x : Str) (v : Int) (h : (x, v) ∈ intL) : ∃ t, mg x = some (.int v t) := T.i (x, v) h
theorem Tx.of {h : Heap} (X : K.In h) (G : h.Ns mainGlobals mg) (c : He.SaysD fa fn K) : Tx K mg where
  c := c
  g := fun x hx => He.glo_ok X G (He.SaysD.facts c (f := .glo x) (by
    have e : gloL.all (fun x => fa.any fun f => match f with
      | .glo y => decide (y = x)
      | _ => false) = true := by decide +kernel
    obtain ⟨f, hf, e2⟩ := List.any_eq_true.mp (List.all_eq_true.mp e x hx)
    cases f <;> first | (cases e2; done) | skip
    rw [← of_decide_eq_true e2]
    exact hf))
  f := fun x hx => He.free_ok X G (He.SaysD.facts c (f := .free x) (by
    have e : freL.all (fun x => fa.any fun f => match f with
      | .free y => decide (y = x)
      | _ => false) = true := by decide +kernel
    obtain ⟨f, hf, e2⟩ := List.any_eq_true.mp (List.all_eq_true.mp e x hx)
    cases f <;> first | (cases e2; done) | skip
    rw [← of_decide_eq_true e2]
    exact hf))
  i := fun p hp => He.int_ok X G (He.SaysD.facts c (f := .int p.1 p.2) (by
    have e : intL.all (fun p => fa.any fun f => match f with
      | .int y j => decide (y = p.1) && decide (j = p.2)
      | _ => false) = true := by decide +kernel
    obtain ⟨f, hf, e2⟩ := List.any_eq_true.mp (List.all_eq_true.mp e p hp)
    cases f <;> first | (cases e2; done) | skip
    obtain ⟨h1, h2⟩ := Bool.and_eq_true_iff.mp e2
    rw [← of_decide_eq_true h1, ← of_decide_eq_true h2]
    exact hf))
end
def loose0 : List PySem.Str := ["__name__", "UndoneError", "InvalidWord", "InvalidWords", "InvalidNumber", "FAR", "is_whole", "is_near", "is_within", "require_number", "MOST_LONG", "MOST_WORDS", "MOST_RANK", "is_letter_in", "is_word_in", "are_words_in", "letters_in", "shortened_in", "undone_in", "product_in", "lost_in", "counts_in", "place_of_letter", "sequence_key", "is_short_in", "require_letters", "require_word", "require_words", "require_told_word", "require_two_words"]
def loose1 : List PySem.Str := ["require_told_words", "is_word", "is_short", "alphabet", "shortened", "undoing", "product", "are_equal", "loss", "counts_of", "do_pass", "compared", "sorted_words", "strikes", "_law_dice", "_law_roll", "_law_one_of", "_law_made", "_law_undone", "_law_letters", "_law_every", "_law_mixed", "_law_struck", "_law_rows", "_law_are_rows_right", "_law_power", "_law_are_pairs_right"]
def loose : List PySem.Str := loose0 ++ loose1
abbrev R : PySem.W.OpenRow := PySem.W.OpenLaw.row PySem.Challenge.rw_undonewords_k30_whole_all_rows_of_letter
/-- no list among what is known -/
def noL (K : PySem.W.Frag) : Bool := K.all fun p => match p.2.cls with
  | .type c => decide (c ≠ "list")
  | _ => true
theorem noL_ok {K : PySem.W.Frag} (h : noL K = true) {a : Addr} {o : Obj} (e : K.lookup a = some o) : o.cls ≠ .type "list" := fun z => by
  have hm : (a, o) ∈ K := by
    clear h
    induction K with
    | nil => cases e
    | cons p K ih =>
      rw [List.lookup_cons] at e
      split at e
      · rename_i hb
        cases e
        rw [eq_of_beq hb]
        exact List.mem_cons_self
      · exact List.mem_cons_of_mem _ (ih e)
  have h1 := List.all_eq_true.mp h _ hm
  rw [show (a, o).2.cls = .type "list" from z] at h1
  exact of_decide_eq_true h1 rfl
abbrev hk : PySem.W.Hook where
  α := He.AlD × Bool
  obs := fun s => (He.obsDG 4 fa fn s.heap.get?, noL (He.frG s.heap.get? (He.asD s.heap.get? 4)))
  val := fun _ => (He.valD fn, true)
  says := fun _ h => ∃ K : PySem.W.Frag, K.In h ∧ He.SaysD fa fn K ∧ noL K = true
  of := fun _ _ e => ⟨_, He.frG_in, congrArg Prod.fst e, congrArg Prod.snd e⟩
  keeps := fun _ _ _ ⟨K, hK, c⟩ k => ⟨K, PySem.W.Frag.In.keeps hK k, c⟩
def ob (s : PySem.W.SharedT) : He.AlD × Bool := (He.obsDG 4 fa fn (HandSHeadRun.getT s), noL (He.frG (HandSHeadRun.getT s) (He.asD (HandSHeadRun.getT s) 4)))
theorem ob_eq (s : PySem.W.SharedT) : ob s = hk.obs s.abs := by
  have e : HandSHeadRun.getT s = s.abs.heap.get? := funext (HandSHeadRun.getT_eq s)
  unfold ob
  rw [e]
theorem run (w : World) : HandSHeadRun.RunEq R (PySem.W.view R.prog [60]) hk ob 6000 loose w := by
  intro os
  kernel_rfl
end Hx
namespace Hx
open PySem PySem.Spec PyProof.Rows L2 PU
theorem sc_is_whole : FnScope ["value"] ["value"] (defScope s_is_whole) := ⟨rfl, rfl, rfl, by decide +kernel, rfl, by decide +kernel, by decide +kernel⟩
noncomputable def f_is_whole : List D → Sto → Option (D × Sto) := runF 1 (sRet (eAnd (eOp1 (isiD "int") (eVar 0)) (eNot (eOp1 (isiD "bool") (eVar 0)))))
theorem w_is_whole {P : Program} {w : World} {K : PySem.W.Frag} {mg : Str → Option Value} {base : Heap} (T : Tx K mg) : Fx P w K mg base 1 "is_whole" 1 f_is_whole := by
  obtain ⟨fd, F⟩ := T.c.def_ 0 (d := d_is_whole) rfl
  have F' : FnP K "is_whole" s_is_whole _ fd := F
  exact fx_ok (N := ["value"]) (ps := ["value"]) (st := s_is_whole) F' sc_is_whole rfl (FunD.bindsN F' fun _ _ _ _ _ _ us hl => match us, hl with | [_], _ => rfl) (T.glo "is_whole" (by decide)) fun cdv A outer s H E hr => ss_one (ss_ret (ee_and (ee_isi (T.fr "isinstance" (by decide)) (ee_var (pv 0)) (pe_bltn (by rfl) (T.fr "int" (by decide)) boot_int rfl)) (ee_one (ee_not (ee_isi (T.fr "isinstance" (by decide)) (ee_var (pv 0)) (pe_bltn (by rfl) (T.fr "bool" (by decide)) boot_bool rfl))))))
noncomputable def φ_is_whole := gzF f_is_whole
theorem sc_letters_in : FnScope ["r", "found", "letter"] ["r"] (defScope s_letters_in) := ⟨rfl, rfl, rfl, by decide +kernel, rfl, by decide +kernel, by decide +kernel⟩
noncomputable def f_letters_in : List D → Sto → Option (D × Sto) := runF 3 (sSeq (sAsg (eNew (fLst (aNil))) (gNm 1)) (sSeq (sFor (iRg2 (aCons (eC (.int 1)) (aCons (eOp2 addD (eVar 0) (eC (.int 1))) (aNil)))) (gNm 2) (sExpr (eMth extD (eVar 1) (aCons (eFz (fLst (aCons (eVar 2) (aCons (eOp1 negD (eVar 2)) (aNil))))) (aNil))))) (sRet (eOpL tupD (aCons (eVar 1) (aNil))))))
theorem w_letters_in {P : Program} {w : World} {K : PySem.W.Frag} {mg : Str → Option Value} {base : Heap} (T : Tx K mg) : Fx P w K mg base 1 "letters_in" 1 f_letters_in := by
  obtain ⟨fd, F⟩ := T.c.def_ 7 (d := d_letters_in) rfl
  have F' : FnP K "letters_in" s_letters_in _ fd := F
  exact fx_ok (N := ["r", "found", "letter"]) (ps := ["r"]) (st := s_letters_in) F' sc_letters_in rfl (FunD.bindsN F' fun _ _ _ _ _ _ us hl => match us, hl with | [_], _ => rfl) (T.glo "letters_in" (by decide)) fun cdv A outer s H E hr => ss_cons (ss_set (i := 1) sc_letters_in.nd rfl (by first | exact Or.inl rfl | exact Or.inr rfl) (ee_new (ff_lst (aa_nil)))) (ss_cons (ss_for (vs := [2]) PassesOwn.never rfl (ii_rg2 (T.fr "range" (by decide)) (aa_cons (ee_int) (aa_cons (ee_op op_addA s_add (ee_var (pv 0)) (ee_int)) (aa_nil)))) (gy_name (pg_name (i := 2) sc_letters_in.nd rfl (by first | exact Or.inl rfl | exact Or.inr rfl)) (by decide)) (ss_one (ss_expr (ee_mth PySem.F.slot_list_extend PySem.F.type_list_extend mt_extend s_ext (ee_var (pv 1)) (aa_cons (ee_fz (ff_lst (aa_cons (ee_var (pv 2)) (aa_cons (ee_un un_neg s_neg (ee_var (pv 2))) (aa_nil))))) (aa_nil)))))) (ss_one (ss_ret (ee_callTy call_tupN s_tupN (T.fr "tuple" (by decide)) boot_tuple (aa_cons (ee_var (pv 1)) (aa_nil))))))
noncomputable def φ_letters_in := gzF f_letters_in
theorem sc_shortened_in : FnScope ["word", "found", "letter"] ["word"] (defScope s_shortened_in) := ⟨rfl, rfl, rfl, by decide +kernel, rfl, by decide +kernel, by decide +kernel⟩
noncomputable def f_shortened_in : List D → Sto → Option (D × Sto) := runF 3 (sSeq (sAsg (eNew (fLst (aNil))) (gNm 1)) (sSeq (sFor (iSeq (eVar 0)) (gNm 2) (sIf (bAnd (bBl (eOp1 (nilD true) (eVar 1))) (bBl (eOp2 cmpEq (eOp2 idxD (eVar 1) (eOp1 negD (eC (.int 1)))) (eOp1 negD (eVar 2))))) (sExpr (eMth popD (eVar 1) aNil)) (sExpr (eMth appD (eVar 1) (aCons (eVar 2) (aNil)))))) (sRet (eOpL tupD (aCons (eVar 1) (aNil))))))
theorem w_shortened_in {P : Program} {w : World} {K : PySem.W.Frag} {mg : Str → Option Value} {base : Heap} (T : Tx K mg) : Fx P w K mg base 1 "shortened_in" 1 f_shortened_in := by
  obtain ⟨fd, F⟩ := T.c.def_ 8 (d := d_shortened_in) rfl
  have F' : FnP K "shortened_in" s_shortened_in _ fd := F
  exact fx_ok (N := ["word", "found", "letter"]) (ps := ["word"]) (st := s_shortened_in) F' sc_shortened_in rfl (FunD.bindsN F' fun _ _ _ _ _ _ us hl => match us, hl with | [_], _ => rfl) (T.glo "shortened_in" (by decide)) fun cdv A outer s H E hr => ss_cons (ss_set (i := 1) sc_shortened_in.nd rfl (by first | exact Or.inl rfl | exact Or.inr rfl) (ee_new (ff_lst (aa_nil)))) (ss_cons (ss_for (vs := [2]) PassesOwn.never rfl (ii_seq (ee_var (pv 0))) (gy_name (pg_name (i := 2) sc_shortened_in.nd rfl (by first | exact Or.inl rfl | exact Or.inr rfl)) (by decide)) (ss_one (ss_if (PW.pt (tw_and (tt_neNil hr.units (ee_var (pv 1))) (tw_one_and (tt_cmp (op_eqD hr.units) s_eq (ee_ix ix_seq s_idx (ee_var (pv 1)) (ee_un un_neg s_neg (ee_int)) (fun _ _ => rfl)) (ee_un un_neg s_neg (ee_var (pv 2))) (nomark _))))) (ss_one (ss_expr (ee_mth0 PySem.F.slot_list_pop PySem.F.type_list_pop (MtR.or mt_pop mt_popAt) s_pop (ee_var (pv 1))))) (ss_one (ss_expr (ee_mth PySem.F.slot_list_append PySem.F.type_list_append mt_append s_app (ee_var (pv 1)) (aa_cons (ee_var (pv 2)) (aa_nil)))))))) (ss_one (ss_ret (ee_callTy call_tupN s_tupN (T.fr "tuple" (by decide)) boot_tuple (aa_cons (ee_var (pv 1)) (aa_nil))))))
noncomputable def φ_shortened_in := gzF f_shortened_in
theorem sc_undone_in : FnScope ["word", "letter"] ["word"] (defScope s_undone_in) := ⟨rfl, rfl, rfl, by decide +kernel, rfl, by decide +kernel, by decide +kernel⟩
noncomputable def f_undone_in : List D → Sto → Option (D × Sto) := runF 2 (sRet (eOpL tupD (aCons (eFz (fLc (iSeq (eOp1 revD (eVar 0))) (gNm 1) (bYes) (eOp1 negD (eVar 1)) [1])) (aNil))))
theorem w_undone_in {P : Program} {w : World} {K : PySem.W.Frag} {mg : Str → Option Value} {base : Heap} (T : Tx K mg) : Fx P w K mg base 1 "undone_in" 1 f_undone_in := by
  obtain ⟨fd, F⟩ := T.c.def_ 9 (d := d_undone_in) rfl
  have F' : FnP K "undone_in" s_undone_in _ fd := F
  exact fx_ok (N := ["word", "letter"]) (ps := ["word"]) (st := s_undone_in) F' sc_undone_in rfl (FunD.bindsN F' fun _ _ _ _ _ _ us hl => match us, hl with | [_], _ => rfl) (T.glo "undone_in" (by decide)) fun cdv A outer s H E hr => ss_one (ss_ret (ee_callTy call_tupN s_tupN (T.fr "tuple" (by decide)) boot_tuple (aa_cons (ee_fz (ff_lc (own := [("letter", 1)]) rfl sc_undone_in.nd (ii_seq (ee_rev (ee_var (pv 0)))) (blkOk_by (by kernel_rfl)) (fun _ _ _ _ _ => gy_name (pg_name (i := 1) sc_undone_in.nd rfl (by first | exact Or.inl rfl | exact Or.inr rfl)) (by decide)) (fun _ _ _ _ _ => pts_of_nil) (fun _ _ _ _ _ => ee_un un_neg s_neg (ee_var (pv 1))))) (aa_nil))))
noncomputable def φ_undone_in := gzF f_undone_in
theorem sc_product_in : FnScope ["words", "found", "word", "letter"] ["words"] (defScope s_product_in) := ⟨rfl, rfl, rfl, by decide +kernel, rfl, by decide +kernel, by decide +kernel⟩
noncomputable def f_product_in : List D → Sto → Option (D × Sto) := runF 4 (sSeq (sAsg (eNew (fLst (aNil))) (gNm 1)) (sSeq (sFor (iSeq (eVar 0)) (gNm 2) (sFor (iSeq (eVar 2)) (gNm 3) (sIf (bAnd (bBl (eOp1 (nilD true) (eVar 1))) (bBl (eOp2 cmpEq (eOp2 idxD (eVar 1) (eOp1 negD (eC (.int 1)))) (eOp1 negD (eVar 3))))) (sExpr (eMth popD (eVar 1) aNil)) (sExpr (eMth appD (eVar 1) (aCons (eVar 3) (aNil))))))) (sRet (eOpL tupD (aCons (eVar 1) (aNil))))))
theorem w_product_in {P : Program} {w : World} {K : PySem.W.Frag} {mg : Str → Option Value} {base : Heap} (T : Tx K mg) : Fx P w K mg base 1 "product_in" 1 f_product_in := by
  obtain ⟨fd, F⟩ := T.c.def_ 10 (d := d_product_in) rfl
  have F' : FnP K "product_in" s_product_in _ fd := F
  exact fx_ok (N := ["words", "found", "word", "letter"]) (ps := ["words"]) (st := s_product_in) F' sc_product_in rfl (FunD.bindsN F' fun _ _ _ _ _ _ us hl => match us, hl with | [_], _ => rfl) (T.glo "product_in" (by decide)) fun cdv A outer s H E hr => ss_cons (ss_set (i := 1) sc_product_in.nd rfl (by first | exact Or.inl rfl | exact Or.inr rfl) (ee_new (ff_lst (aa_nil)))) (ss_cons (ss_for (vs := [2]) PassesOwn.never rfl (ii_seq (ee_var (pv 0))) (gy_name (pg_name (i := 2) sc_product_in.nd rfl (by first | exact Or.inl rfl | exact Or.inr rfl)) (by decide)) (ss_one (ss_for (vs := [3]) PassesOwn.never rfl (ii_seq (ee_var (pv 2))) (gy_name (pg_name (i := 3) sc_product_in.nd rfl (by first | exact Or.inl rfl | exact Or.inr rfl)) (by decide)) (ss_one (ss_if (PW.pt (tw_and (tt_neNil hr.units (ee_var (pv 1))) (tw_one_and (tt_cmp (op_eqD hr.units) s_eq (ee_ix ix_seq s_idx (ee_var (pv 1)) (ee_un un_neg s_neg (ee_int)) (fun _ _ => rfl)) (ee_un un_neg s_neg (ee_var (pv 3))) (nomark _))))) (ss_one (ss_expr (ee_mth0 PySem.F.slot_list_pop PySem.F.type_list_pop (MtR.or mt_pop mt_popAt) s_pop (ee_var (pv 1))))) (ss_one (ss_expr (ee_mth PySem.F.slot_list_append PySem.F.type_list_append mt_append s_app (ee_var (pv 1)) (aa_cons (ee_var (pv 3)) (aa_nil)))))))))) (ss_one (ss_ret (ee_callTy call_tupN s_tupN (T.fr "tuple" (by decide)) boot_tuple (aa_cons (ee_var (pv 1)) (aa_nil))))))
noncomputable def φ_product_in := gzF f_product_in
theorem sc_lost_in : FnScope ["one", "other", "found", "letter", "more"] ["one", "other"] (defScope s_lost_in) := ⟨rfl, rfl, rfl, by decide +kernel, rfl, by decide +kernel, by decide +kernel⟩
noncomputable def f_lost_in : List D → Sto → Option (D × Sto) := runF 5 (sSeq (sAsg (eC (.int 0)) (gNm 2)) (sSeq (sFor (iZp (aCons (eOp1 revD (eVar 0)) (aCons (eVar 1) (aNil)))) (gTp 2 (gsCons (gNm 3) (gsCons (gNm 4) (gsNil)))) (sSeq (sIf (bBl (eOp2 cmpNe (eVar 3) (eOp1 negD (eVar 4)))) (sRet (eVar 2)) (sNext)) (sAug 2 (eC (.int 1)) addI))) (sRet (eVar 2))))
theorem w_lost_in {P : Program} {w : World} {K : PySem.W.Frag} {mg : Str → Option Value} {base : Heap} (T : Tx K mg) : Fx P w K mg base 1 "lost_in" 2 f_lost_in := by
  obtain ⟨fd, F⟩ := T.c.def_ 11 (d := d_lost_in) rfl
  have F' : FnP K "lost_in" s_lost_in _ fd := F
  exact fx_ok (N := ["one", "other", "found", "letter", "more"]) (ps := ["one", "other"]) (st := s_lost_in) F' sc_lost_in rfl (FunD.bindsN F' fun _ _ _ _ _ _ us hl => match us, hl with | [_, _], _ => rfl) (T.glo "lost_in" (by decide)) fun cdv A outer s H E hr => ss_cons (ss_set (i := 2) sc_lost_in.nd rfl (by first | exact Or.inl rfl | exact Or.inr rfl) (ee_int)) (ss_cons (ss_for (vs := [3, 4]) PassesOwn.never rfl (ii_zip (T.fr "zip" (by decide)) (aa_cons (ee_rev (ee_var (pv 0))) (aa_cons (ee_var (pv 1)) (aa_nil)))) (gz_tup rfl (gys_cons (gy_name (pg_name (i := 3) sc_lost_in.nd rfl (by first | exact Or.inl rfl | exact Or.inr rfl)) (by decide)) (gys_cons (gy_name (pg_name (i := 4) sc_lost_in.nd rfl (by first | exact Or.inl rfl | exact Or.inr rfl)) (by decide)) (gys_nil)))) (ss_cons (ss_if (tt_cmp (op_neD hr.units) s_ne (ee_var (pv 3)) (ee_un un_neg s_neg (ee_var (pv 4))) (nomark _)) (ss_one (ss_ret (ee_var (pv 2)))) (ss_nil)) (ss_one (ss_aug (i := 2) iop_addI s_addI sc_lost_in.nd rfl (by first | exact Or.inl rfl | exact Or.inr rfl) (ee_int))))) (ss_one (ss_ret (ee_var (pv 2)))))
noncomputable def φ_lost_in := gzF f_lost_in
theorem sc_counts_in : FnScope ["r", "word", "letter"] ["r", "word"] (defScope s_counts_in) := ⟨rfl, rfl, rfl, by decide +kernel, rfl, by decide +kernel, by decide +kernel⟩
noncomputable def f_counts_in : List D → Sto → Option (D × Sto) := runF 3 (sRet (eOpL tupD (aCons (eFz (fLc (iRg2 (aCons (eC (.int 1)) (aCons (eOp2 addD (eVar 0) (eC (.int 1))) (aNil)))) (gNm 2) (bYes) (eOp2 subD (eOp2 cntD (eVar 1) (eVar 2)) (eOp2 cntD (eVar 1) (eOp1 negD (eVar 2)))) [2])) (aNil))))
theorem w_counts_in {P : Program} {w : World} {K : PySem.W.Frag} {mg : Str → Option Value} {base : Heap} (T : Tx K mg) : Fx P w K mg base 1 "counts_in" 2 f_counts_in := by
  obtain ⟨fd, F⟩ := T.c.def_ 12 (d := d_counts_in) rfl
  have F' : FnP K "counts_in" s_counts_in _ fd := F
  exact fx_ok (N := ["r", "word", "letter"]) (ps := ["r", "word"]) (st := s_counts_in) F' sc_counts_in rfl (FunD.bindsN F' fun _ _ _ _ _ _ us hl => match us, hl with | [_, _], _ => rfl) (T.glo "counts_in" (by decide)) fun cdv A outer s H E hr => ss_one (ss_ret (ee_callTy call_tupN s_tupN (T.fr "tuple" (by decide)) boot_tuple (aa_cons (ee_fz (ff_lc (own := [("letter", 2)]) rfl sc_counts_in.nd (ii_rg2 (T.fr "range" (by decide)) (aa_cons (ee_int) (aa_cons (ee_op op_addA s_add (ee_var (pv 0)) (ee_int)) (aa_nil)))) (blkOk_by (by kernel_rfl)) (fun _ _ _ _ _ => gy_name (pg_name (i := 2) sc_counts_in.nd rfl (by first | exact Or.inl rfl | exact Or.inr rfl)) (by decide)) (fun _ _ _ _ _ => pts_of_nil) (fun _ _ _ _ _ => ee_op op_subA s_sub (ee_cnt (ee_var (pv 1)) (ee_var (pv 2))) (ee_cnt (ee_var (pv 1)) (ee_un un_neg s_neg (ee_var (pv 2))))))) (aa_nil))))
noncomputable def φ_counts_in := gzF f_counts_in
theorem sc_place_of_letter : FnScope ["letter"] ["letter"] (defScope s_place_of_letter) := ⟨rfl, rfl, rfl, by decide +kernel, rfl, by decide +kernel, by decide +kernel⟩
noncomputable def f_place_of_letter : List D → Sto → Option (D × Sto) := runF 1 (sRet (eOp2 subD (eOp2 mulD (eC (.int 2)) (eOpL absD (aCons (eVar 0) (aNil)))) (eIf (bBl (eOp2 cmpGt (eVar 0) (eC (.int 0)))) (eC (.int 2)) (eC (.int 1)))))
theorem w_place_of_letter {P : Program} {w : World} {K : PySem.W.Frag} {mg : Str → Option Value} {base : Heap} (T : Tx K mg) : Fx P w K mg base 1 "place_of_letter" 1 f_place_of_letter := by
  obtain ⟨fd, F⟩ := T.c.def_ 13 (d := d_place_of_letter) rfl
  have F' : FnP K "place_of_letter" s_place_of_letter _ fd := F
  exact fx_ok (N := ["letter"]) (ps := ["letter"]) (st := s_place_of_letter) F' sc_place_of_letter rfl (FunD.bindsN F' fun _ _ _ _ _ _ us hl => match us, hl with | [_], _ => rfl) (T.glo "place_of_letter" (by decide)) fun cdv A outer s H E hr => ss_one (ss_ret (ee_op op_subA s_sub (ee_op op_mulW s_mul (ee_int) (ee_callB call_abs s_abs (T.fr "abs" (by decide)) (by decide +kernel) (aa_cons (ee_var (pv 0)) (aa_nil)))) (ee_if (tt_cmp op_gt s_gt (ee_var (pv 0)) (ee_int) (nomark _)) (ee_int) (ee_int))))
noncomputable def φ_place_of_letter := gzF f_place_of_letter
theorem sc_is_short_in : FnScope ["word", "one", "other"] ["word"] (defScope s_is_short_in) := ⟨rfl, rfl, rfl, by decide +kernel, rfl, by decide +kernel, by decide +kernel⟩
noncomputable def f_is_short_in : List D → Sto → Option (D × Sto) := runF 3 (sRet (eOpL allD (aCons (eFz (fLc (iZp (aCons (eVar 0) (aCons (eSlc (eVar 0) (oSome (eC (.int 1))) (oNone)) (aNil)))) (gTp 2 (gsCons (gNm 1) (gsCons (gNm 2) (gsNil)))) (bYes) (eOp2 cmpNe (eVar 1) (eOp1 negD (eVar 2))) [1, 2])) (aNil))))
theorem w_is_short_in {P : Program} {w : World} {K : PySem.W.Frag} {mg : Str → Option Value} {base : Heap} (T : Tx K mg) : Fx P w K mg base 1 "is_short_in" 1 f_is_short_in := by
  obtain ⟨fd, F⟩ := T.c.def_ 15 (d := d_is_short_in) rfl
  have F' : FnP K "is_short_in" s_is_short_in _ fd := F
  exact fx_ok (N := ["word", "one", "other"]) (ps := ["word"]) (st := s_is_short_in) F' sc_is_short_in rfl (FunD.bindsN F' fun _ _ _ _ _ _ us hl => match us, hl with | [_], _ => rfl) (T.glo "is_short_in" (by decide)) fun cdv A outer s H E hr => ss_one (ss_ret (ee_callB (cr_all rfl) s_all (T.fr "all" (by decide)) (by decide +kernel) (aa_cons (ee_fz (ff_lc (own := [("one", 1), ("other", 2)]) rfl sc_is_short_in.nd (ii_zip (T.fr "zip" (by decide)) (aa_cons (ee_var (pv 0)) (aa_cons (ee_slc (ee_var (pv 0)) (oo_some (ee_int)) (oo_none)) (aa_nil)))) (blkOk_by (by kernel_rfl)) (fun _ _ _ _ _ => gz_tup rfl (gys_cons (gy_name (pg_name (i := 1) sc_is_short_in.nd rfl (by first | exact Or.inl rfl | exact Or.inr rfl)) (by decide)) (gys_cons (gy_name (pg_name (i := 2) sc_is_short_in.nd rfl (by first | exact Or.inl rfl | exact Or.inr rfl)) (by decide)) (gys_nil)))) (fun _ _ _ _ _ => pts_of_nil) (fun _ _ _ _ _ => ee_cmp (op_neD hr.units) s_ne (ee_var (pv 1)) (ee_un un_neg s_neg (ee_var (pv 2))) (nomark _)))) (aa_nil))))
noncomputable def φ_is_short_in := gzF f_is_short_in
theorem sc_law_dice : FnScope ["script", "spot", "cell", "great"] ["script", "spot"] (defScope s_law_dice) := ⟨rfl, rfl, rfl, by decide +kernel, rfl, by decide +kernel, by decide +kernel⟩
noncomputable def f_law_dice : List D → Sto → Option (D × Sto) := runF 4 (sSeq (sAsg (eIf (bBl (eOp2 cmpLt (eVar 1) (eOpL lenD (aCons (eVar 0) (aNil))))) (eOpL intD (aCons (eOp2 idxD (eVar 0) (eVar 1)) (aNil))) (eOp2 addD (eOp2 mulD (eC (.int 131)) (eVar 1)) (eC (.int 71)))) (gNm 2)) (sSeq (sAsg (eOp2 modD (eOpL max2D (aCons (eC (.int 0)) (aCons (eOp2 subD (eOpL absD (aCons (eVar 2) (aNil))) (eOp2 powD (eC (.int 10)) (eC (.int 16)))) (aNil)))) (eOp2 mulD (eOp2 powD (eC (.int 10)) (eC (.int 55))) (eOp2 powD (eC (.int 10)) (eC (.int 55))))) (gNm 3)) (sRet (eNew (fLst (aCons (eVar 3) (aCons (eOp2 modD (eOp2 addD (eOp2 addD (eOp2 modD (eOpL absD (aCons (eVar 2) (aNil))) (eC (.int 18446744073709551557))) (eOp2 mulD (eC (.int 7919)) (eVar 1))) (eOp2 mulD (eC (.int 31)) (eOpL intD (aCons (eOp2 cmpLt (eVar 2) (eC (.int 0))) (aNil))))) (eC (.int 18446744073709551616))) (aNil))))))))
theorem w_law_dice {P : Program} {w : World} {K : PySem.W.Frag} {mg : Str → Option Value} {base : Heap} (T : Tx K mg) : Fx P w K mg base 1 "_law_dice" 2 f_law_dice := by
  obtain ⟨fd, F⟩ := T.c.def_ 35 (d := d_law_dice) rfl
  have F' : FnP K "_law_dice" s_law_dice _ fd := F
  exact fx_ok (N := ["script", "spot", "cell", "great"]) (ps := ["script", "spot"]) (st := s_law_dice) F' sc_law_dice rfl (FunD.bindsN F' fun _ _ _ _ _ _ us hl => match us, hl with | [_, _], _ => rfl) (T.glo "_law_dice" (by decide)) fun cdv A outer s H E hr => ss_cons (ss_set (i := 2) sc_law_dice.nd rfl (by first | exact Or.inl rfl | exact Or.inr rfl) (ee_if (tt_cmp op_lt s_lt (ee_var (pv 1)) (ee_callB call_len_seq s_len (T.fr "len" (by decide)) (by decide +kernel) (aa_cons (ee_var (pv 0)) (aa_nil))) (nomark _)) (ee_callTy call_int1 s_int1 (T.fr "int" (by decide)) boot_int (aa_cons (ee_ix ix_seq s_idx (ee_var (pv 0)) (ee_var (pv 1)) (fun _ _ => rfl)) (aa_nil))) (ee_op op_addA s_add (ee_op op_mulW s_mul (ee_int) (ee_var (pv 1))) (ee_int)))) (ss_cons (ss_set (i := 3) sc_law_dice.nd rfl (by first | exact Or.inl rfl | exact Or.inr rfl) (ee_op op_mod s_mod (ee_callB (call_max2 rfl) s_max2 (T.fr "max" (by decide)) (by decide +kernel) (aa_cons (ee_int) (aa_cons (ee_op op_subA s_sub (ee_callB call_abs s_abs (T.fr "abs" (by decide)) (by decide +kernel) (aa_cons (ee_var (pv 2)) (aa_nil))) (ee_op op_pow s_pow (ee_int) (ee_int))) (aa_nil)))) (ee_op op_mulW s_mul (ee_op op_pow s_pow (ee_int) (ee_int)) (ee_op op_pow s_pow (ee_int) (ee_int))))) (ss_one (ss_ret (ee_new (ff_lst (aa_cons (ee_var (pv 3)) (aa_cons (ee_op op_mod s_mod (ee_op op_addA s_add (ee_op op_addA s_add (ee_op op_mod s_mod (ee_callB call_abs s_abs (T.fr "abs" (by decide)) (by decide +kernel) (aa_cons (ee_var (pv 2)) (aa_nil))) (ee_int)) (ee_op op_mulW s_mul (ee_int) (ee_var (pv 1)))) (ee_op op_mulW s_mul (ee_int) (ee_callTy call_int1 s_int1 (T.fr "int" (by decide)) boot_int (aa_cons (ee_cmp op_lt s_lt (ee_var (pv 2)) (ee_int) (nomark _)) (aa_nil))))) (ee_int)) (aa_nil))))))))
noncomputable def φ_law_dice :=  f_law_dice
theorem sc_law_roll : FnScope ["dice", "total", "found"] ["dice", "total"] (defScope s_law_roll) := ⟨rfl, rfl, rfl, by decide +kernel, rfl, by decide +kernel, by decide +kernel⟩
noncomputable def f_law_roll : List D → Sto → Option (D × Sto) := runF 3 (sSeq (sIf (bBl (eOp2 cmpGt (eOp2 idxD (eVar 0) (eC (.int 0))) (eC (.int 0)))) (sSeq (sAsg (eOpL intD (aCons (eOp2 modD (eOp2 idxD (eVar 0) (eC (.int 0))) (eVar 1)) (aNil))) (gNm 2)) (sSeq (sAsg (eOp2 fdivD (eOp2 idxD (eVar 0) (eC (.int 0))) (eVar 1)) (gIx (eVar 0) (eC (.int 0)))) (sRet (eVar 2)))) (sNext)) (sSeq (sAsg (eOp2 modD (eOp2 addD (eOp2 mulD (eOp2 idxD (eVar 0) (eC (.int 1))) (eC (.int 6364136223846793005))) (eC (.int 1442695040888963407))) (eC (.int 18446744073709551616))) (gIx (eVar 0) (eC (.int 1)))) (sRet (eOp2 modD (eOpL intD (aCons (eOp2 fdivD (eOp2 idxD (eVar 0) (eC (.int 1))) (eC (.int 4294967296))) (aNil))) (eVar 1)))))
theorem w_law_roll {P : Program} {w : World} {K : PySem.W.Frag} {mg : Str → Option Value} {base : Heap} (T : Tx K mg) : Fx P w K mg base 1 "_law_roll" 2 f_law_roll := by
  obtain ⟨fd, F⟩ := T.c.def_ 36 (d := d_law_roll) rfl
  have F' : FnP K "_law_roll" s_law_roll _ fd := F
  exact fx_ok (N := ["dice", "total", "found"]) (ps := ["dice", "total"]) (st := s_law_roll) F' sc_law_roll rfl (FunD.bindsN F' fun _ _ _ _ _ _ us hl => match us, hl with | [_, _], _ => rfl) (T.glo "_law_roll" (by decide)) fun cdv A outer s H E hr => ss_cons (ss_if (tt_cmp op_gt s_gt (ee_ix ix_seq s_idx (ee_var (pv 0)) (ee_int) (fun _ _ => rfl)) (ee_int) (nomark _)) (ss_cons (ss_set (i := 2) sc_law_roll.nd rfl (by first | exact Or.inl rfl | exact Or.inr rfl) (ee_callTy call_int1 s_int1 (T.fr "int" (by decide)) boot_int (aa_cons (ee_op op_mod s_mod (ee_ix ix_seq s_idx (ee_var (pv 0)) (ee_int) (fun _ _ => rfl)) (ee_var (pv 1))) (aa_nil)))) (ss_cons (ss_asg (ee_op op_fdivW s_fdiv (ee_ix ix_seq s_idx (ee_var (pv 0)) (ee_int) (fun _ _ => rfl)) (ee_var (pv 1))) (gg_ix (ee_var (pv 0)) (ee_int))) (ss_one (ss_ret (ee_var (pv 2)))))) (ss_nil)) (ss_cons (ss_asg (ee_op op_mod s_mod (ee_op op_addA s_add (ee_op op_mulW s_mul (ee_ix ix_seq s_idx (ee_var (pv 0)) (ee_int) (fun _ _ => rfl)) (ee_int)) (ee_int)) (ee_int)) (gg_ix (ee_var (pv 0)) (ee_int))) (ss_one (ss_ret (ee_op op_mod s_mod (ee_callTy call_int1 s_int1 (T.fr "int" (by decide)) boot_int (aa_cons (ee_op op_fdivW s_fdiv (ee_ix ix_seq s_idx (ee_var (pv 0)) (ee_int) (fun _ _ => rfl)) (ee_int)) (aa_nil))) (ee_var (pv 1))))))
noncomputable def φ_law_roll := gzF f_law_roll
theorem sc_law_made : FnScope ["words", "found", "word", "letter"] ["words"] (defScope s_law_made) := ⟨rfl, rfl, rfl, by decide +kernel, rfl, by decide +kernel, by decide +kernel⟩
noncomputable def f_law_made : List D → Sto → Option (D × Sto) := runF 4 (sSeq (sAsg (eNew (fLst (aNil))) (gNm 1)) (sSeq (sFor (iSeq (eVar 0)) (gNm 2) (sFor (iSeq (eVar 2)) (gNm 3) (sIf (bAnd (bBl (eOp1 (nilD true) (eVar 1))) (bBl (eOp2 cmpEq (eOp2 idxD (eVar 1) (eOp1 negD (eC (.int 1)))) (eOp2 subD (eC (.int 0)) (eVar 3))))) (sExpr (eMth popD (eVar 1) aNil)) (sExpr (eMth appD (eVar 1) (aCons (eVar 3) (aNil))))))) (sRet (eOpL tupD (aCons (eVar 1) (aNil))))))
theorem w_law_made {P : Program} {w : World} {K : PySem.W.Frag} {mg : Str → Option Value} {base : Heap} (T : Tx K mg) : Fx P w K mg base 1 "_law_made" 1 f_law_made := by
  obtain ⟨fd, F⟩ := T.c.def_ 38 (d := d_law_made) rfl
  have F' : FnP K "_law_made" s_law_made _ fd := F
  exact fx_ok (N := ["words", "found", "word", "letter"]) (ps := ["words"]) (st := s_law_made) F' sc_law_made rfl (FunD.bindsN F' fun _ _ _ _ _ _ us hl => match us, hl with | [_], _ => rfl) (T.glo "_law_made" (by decide)) fun cdv A outer s H E hr => ss_cons (ss_set (i := 1) sc_law_made.nd rfl (by first | exact Or.inl rfl | exact Or.inr rfl) (ee_new (ff_lst (aa_nil)))) (ss_cons (ss_for (vs := [2]) PassesOwn.never rfl (ii_seq (ee_var (pv 0))) (gy_name (pg_name (i := 2) sc_law_made.nd rfl (by first | exact Or.inl rfl | exact Or.inr rfl)) (by decide)) (ss_one (ss_for (vs := [3]) PassesOwn.never rfl (ii_seq (ee_var (pv 2))) (gy_name (pg_name (i := 3) sc_law_made.nd rfl (by first | exact Or.inl rfl | exact Or.inr rfl)) (by decide)) (ss_one (ss_if (PW.pt (tw_and (tt_neNil hr.units (ee_var (pv 1))) (tw_one_and (tt_cmp (op_eqD hr.units) s_eq (ee_ix ix_seq s_idx (ee_var (pv 1)) (ee_un un_neg s_neg (ee_int)) (fun _ _ => rfl)) (ee_op op_subA s_sub (ee_int) (ee_var (pv 3))) (nomark _))))) (ss_one (ss_expr (ee_mth0 PySem.F.slot_list_pop PySem.F.type_list_pop (MtR.or mt_pop mt_popAt) s_pop (ee_var (pv 1))))) (ss_one (ss_expr (ee_mth PySem.F.slot_list_append PySem.F.type_list_append mt_append s_app (ee_var (pv 1)) (aa_cons (ee_var (pv 3)) (aa_nil)))))))))) (ss_one (ss_ret (ee_callTy call_tupN s_tupN (T.fr "tuple" (by decide)) boot_tuple (aa_cons (ee_var (pv 1)) (aa_nil))))))
noncomputable def φ_law_made := gzF f_law_made
theorem sc_law_undone : FnScope ["word", "letter"] ["word"] (defScope s_law_undone) := ⟨rfl, rfl, rfl, by decide +kernel, rfl, by decide +kernel, by decide +kernel⟩
noncomputable def f_law_undone : List D → Sto → Option (D × Sto) := runF 2 (sRet (eOpL tupD (aCons (eFz (fLc (iSeq (eOp1 revD (eVar 0))) (gNm 1) (bYes) (eOp2 subD (eC (.int 0)) (eVar 1)) [1])) (aNil))))
theorem w_law_undone {P : Program} {w : World} {K : PySem.W.Frag} {mg : Str → Option Value} {base : Heap} (T : Tx K mg) : Fx P w K mg base 1 "_law_undone" 1 f_law_undone := by
  obtain ⟨fd, F⟩ := T.c.def_ 39 (d := d_law_undone) rfl
  have F' : FnP K "_law_undone" s_law_undone _ fd := F
  exact fx_ok (N := ["word", "letter"]) (ps := ["word"]) (st := s_law_undone) F' sc_law_undone rfl (FunD.bindsN F' fun _ _ _ _ _ _ us hl => match us, hl with | [_], _ => rfl) (T.glo "_law_undone" (by decide)) fun cdv A outer s H E hr => ss_one (ss_ret (ee_callTy call_tupN s_tupN (T.fr "tuple" (by decide)) boot_tuple (aa_cons (ee_fz (ff_lc (own := [("letter", 1)]) rfl sc_law_undone.nd (ii_seq (ee_rev (ee_var (pv 0)))) (blkOk_by (by kernel_rfl)) (fun _ _ _ _ _ => gy_name (pg_name (i := 1) sc_law_undone.nd rfl (by first | exact Or.inl rfl | exact Or.inr rfl)) (by decide)) (fun _ _ _ _ _ => pts_of_nil) (fun _ _ _ _ _ => ee_op op_subA s_sub (ee_int) (ee_var (pv 1))))) (aa_nil))))
noncomputable def φ_law_undone := gzF f_law_undone
theorem sc_law_letters : FnScope ["r", "at"] ["r"] (defScope s_law_letters) := ⟨rfl, rfl, rfl, by decide +kernel, rfl, by decide +kernel, by decide +kernel⟩
noncomputable def f_law_letters : List D → Sto → Option (D × Sto) := runF 2 (sRet (eFz (fSumL (eFz (fLc (iRg2 (aCons (eC (.int 1)) (aCons (eOp2 addD (eVar 0) (eC (.int 1))) (aNil)))) (gNm 1) (bYes) (eFz (fLst (aCons (eVar 1) (aCons (eOp2 subD (eC (.int 0)) (eVar 1)) (aNil))))) [1])))))
theorem w_law_letters {P : Program} {w : World} {K : PySem.W.Frag} {mg : Str → Option Value} {base : Heap} (T : Tx K mg) : Fx P w K mg base 1 "_law_letters" 1 f_law_letters := by
  obtain ⟨fd, F⟩ := T.c.def_ 40 (d := d_law_letters) rfl
  have F' : FnP K "_law_letters" s_law_letters _ fd := F
  exact fx_ok (N := ["r", "at"]) (ps := ["r"]) (st := s_law_letters) F' sc_law_letters rfl (FunD.bindsN F' fun _ _ _ _ _ _ us hl => match us, hl with | [_], _ => rfl) (T.glo "_law_letters" (by decide)) fun cdv A outer s H E hr => ss_one (ss_ret (ee_fz (ff_sumL rfl (T.fr "sum" (by decide)) (ee_fz (ff_lc (own := [("at", 1)]) rfl sc_law_letters.nd (ii_rg2 (T.fr "range" (by decide)) (aa_cons (ee_int) (aa_cons (ee_op op_addA s_add (ee_var (pv 0)) (ee_int)) (aa_nil)))) (blkOk_by (by kernel_rfl)) (fun _ _ _ _ _ => gy_name (pg_name (i := 1) sc_law_letters.nd rfl (by first | exact Or.inl rfl | exact Or.inr rfl)) (by decide)) (fun _ _ _ _ _ => pts_of_nil) (fun _ _ _ _ _ => ee_fz (ff_lst (aa_cons (ee_var (pv 1)) (aa_cons (ee_op op_subA s_sub (ee_int) (ee_var (pv 1))) (aa_nil))))))))))
noncomputable def φ_law_letters := gzF f_law_letters
theorem sc_law_power : FnScope ["number", "many", "found", "turn"] ["number", "many"] (defScope s_law_power) := ⟨rfl, rfl, rfl, by decide +kernel, rfl, by decide +kernel, by decide +kernel⟩
noncomputable def f_law_power : List D → Sto → Option (D × Sto) := runF 4 (sSeq (sAsg (eC (.int 1)) (gNm 2)) (sSeq (sFor (iRg1 (aCons (eVar 1) (aNil))) (gNm 3) (sAsg (eOp2 mulD (eVar 2) (eVar 0)) (gNm 2))) (sRet (eVar 2))))
theorem w_law_power {P : Program} {w : World} {K : PySem.W.Frag} {mg : Str → Option Value} {base : Heap} (T : Tx K mg) : Fx P w K mg base 1 "_law_power" 2 f_law_power := by
  obtain ⟨fd, F⟩ := T.c.def_ 46 (d := d_law_power) rfl
  have F' : FnP K "_law_power" s_law_power _ fd := F
  exact fx_ok (N := ["number", "many", "found", "turn"]) (ps := ["number", "many"]) (st := s_law_power) F' sc_law_power rfl (FunD.bindsN F' fun _ _ _ _ _ _ us hl => match us, hl with | [_, _], _ => rfl) (T.glo "_law_power" (by decide)) fun cdv A outer s H E hr => ss_cons (ss_set (i := 2) sc_law_power.nd rfl (by first | exact Or.inl rfl | exact Or.inr rfl) (ee_int)) (ss_cons (ss_for (vs := [3]) PassesOwn.never rfl (ii_rg1 (T.fr "range" (by decide)) (aa_cons (ee_var (pv 1)) (aa_nil))) (gy_name (pg_name (i := 3) sc_law_power.nd rfl (by first | exact Or.inl rfl | exact Or.inr rfl)) (by decide)) (ss_one (ss_set (i := 2) sc_law_power.nd rfl (by first | exact Or.inl rfl | exact Or.inr rfl) (ee_op op_mulW s_mul (ee_var (pv 2)) (ee_var (pv 0)))))) (ss_one (ss_ret (ee_var (pv 2)))))
noncomputable def φ_law_power := gzF f_law_power
theorem sc_is_near : FnScope ["value"] ["value"] (defScope s_is_near) := ⟨rfl, rfl, rfl, by decide +kernel, rfl, by decide +kernel, by decide +kernel⟩
noncomputable def f_is_near : List D → Sto → Option (D × Sto) := runF 1 (sRet (eAnd (eCall φ_is_whole 1 (aCons (eVar 0) (aNil))) (eChain cmpLt cmpLt (eOp1 negD (eC (.int 1000000000000000000000000000000000000000000000000000000000000))) (eVar 0) (eC (.int 1000000000000000000000000000000000000000000000000000000000000)))))
theorem w_is_near {P : Program} {w : World} {K : PySem.W.Frag} {mg : Str → Option Value} {base : Heap} (T : Tx K mg) (C_is_whole : Fx P w K mg base 1 "is_whole" 1 φ_is_whole) : Fx P w K mg base 2 "is_near" 1 f_is_near := by
  obtain ⟨fd, F⟩ := T.c.def_ 1 (d := d_is_near) rfl
  have F' : FnP K "is_near" s_is_near _ fd := F
  exact fx_ok (N := ["value"]) (ps := ["value"]) (st := s_is_near) F' sc_is_near rfl (FunD.bindsN F' fun _ _ _ _ _ _ us hl => match us, hl with | [_], _ => rfl) (T.glo "is_near" (by decide)) fun cdv A outer s H E hr => ss_one (ss_ret (ee_and (ee_f C_is_whole hr (by decide) (aa_cons (ee_var (pv 0)) (aa_nil))) (ee_one (ee_chain op_lt op_lt s_lt s_lt (ee_un un_neg s_neg (ee_gint (T.int "FAR" 1000000000000000000000000000000000000000000000000000000000000 (by decide)))) (ee_var (pv 0)) (ee_gint (T.int "FAR" 1000000000000000000000000000000000000000000000000000000000000 (by decide)))))))
noncomputable def φ_is_near := gzF f_is_near
theorem sc_is_within : FnScope ["value", "least", "most"] ["value", "least", "most"] (defScope s_is_within) := ⟨rfl, rfl, rfl, by decide +kernel, rfl, by decide +kernel, by decide +kernel⟩
noncomputable def f_is_within : List D → Sto → Option (D × Sto) := runF 3 (sRet (eAnd (eCall φ_is_whole 1 (aCons (eVar 0) (aNil))) (eChain cmpLe cmpLe (eVar 1) (eVar 0) (eVar 2))))
theorem w_is_within {P : Program} {w : World} {K : PySem.W.Frag} {mg : Str → Option Value} {base : Heap} (T : Tx K mg) (C_is_whole : Fx P w K mg base 1 "is_whole" 1 φ_is_whole) : Fx P w K mg base 2 "is_within" 3 f_is_within := by
  obtain ⟨fd, F⟩ := T.c.def_ 2 (d := d_is_within) rfl
  have F' : FnP K "is_within" s_is_within _ fd := F
  exact fx_ok (N := ["value", "least", "most"]) (ps := ["value", "least", "most"]) (st := s_is_within) F' sc_is_within rfl (FunD.bindsN F' fun _ _ _ _ _ _ us hl => match us, hl with | [_, _, _], _ => rfl) (T.glo "is_within" (by decide)) fun cdv A outer s H E hr => ss_one (ss_ret (ee_and (ee_f C_is_whole hr (by decide) (aa_cons (ee_var (pv 0)) (aa_nil))) (ee_one (ee_chain op_le op_le s_le s_le (ee_var (pv 1)) (ee_var (pv 0)) (ee_var (pv 2))))))
noncomputable def φ_is_within := gzF f_is_within
theorem sc_sequence_key : FnScope ["word", "letter"] ["word"] (defScope s_sequence_key) := ⟨rfl, rfl, rfl, by decide +kernel, rfl, by decide +kernel, by decide +kernel⟩
noncomputable def f_sequence_key : List D → Sto → Option (D × Sto) := runF 2 (sRet (eTup (aCons (eOpL lenD (aCons (eVar 0) (aNil))) (aCons (eOpL tupD (aCons (eFz (fLc (iSeq (eVar 0)) (gNm 1) (bYes) (eCall φ_place_of_letter 1 (aCons (eVar 1) (aNil))) [1])) (aNil))) (aNil)))))
theorem w_sequence_key {P : Program} {w : World} {K : PySem.W.Frag} {mg : Str → Option Value} {base : Heap} (T : Tx K mg) (C_place_of_letter : Fx P w K mg base 1 "place_of_letter" 1 φ_place_of_letter) : Fx P w K mg base 2 "sequence_key" 1 f_sequence_key := by
  obtain ⟨fd, F⟩ := T.c.def_ 14 (d := d_sequence_key) rfl
  have F' : FnP K "sequence_key" s_sequence_key _ fd := F
  exact fx_ok (N := ["word", "letter"]) (ps := ["word"]) (st := s_sequence_key) F' sc_sequence_key rfl (FunD.bindsN F' fun _ _ _ _ _ _ us hl => match us, hl with | [_], _ => rfl) (T.glo "sequence_key" (by decide)) fun cdv A outer s H E hr => ss_one (ss_ret (ee_tup (aa_cons (ee_callB call_len_seq s_len (T.fr "len" (by decide)) (by decide +kernel) (aa_cons (ee_var (pv 0)) (aa_nil))) (aa_cons (ee_callTy call_tupN s_tupN (T.fr "tuple" (by decide)) boot_tuple (aa_cons (ee_fz (ff_lc (own := [("letter", 1)]) rfl sc_sequence_key.nd (ii_seq (ee_var (pv 0))) (blkOk_by (by kernel_rfl)) (fun _ _ _ _ _ => gy_name (pg_name (i := 1) sc_sequence_key.nd rfl (by first | exact Or.inl rfl | exact Or.inr rfl)) (by decide)) (fun _ _ _ _ _ => pts_of_nil) (fun _ _ _ _ _ => ee_f C_place_of_letter hr (by decide) (aa_cons (ee_var (pv 1)) (aa_nil))))) (aa_nil))) (aa_nil)))))
noncomputable def φ_sequence_key := gzF f_sequence_key
theorem sc_law_one_of : FnScope ["dice", "items"] ["dice", "items"] (defScope s_law_one_of) := ⟨rfl, rfl, rfl, by decide +kernel, rfl, by decide +kernel, by decide +kernel⟩
noncomputable def f_law_one_of : List D → Sto → Option (D × Sto) := runF 2 (sRet (eOp2 idxD (eVar 1) (eCall φ_law_roll 2 (aCons (eVar 0) (aCons (eOpL lenD (aCons (eVar 1) (aNil))) (aNil))))))
theorem w_law_one_of {P : Program} {w : World} {K : PySem.W.Frag} {mg : Str → Option Value} {base : Heap} (T : Tx K mg) (C_law_roll : Fx P w K mg base 1 "_law_roll" 2 φ_law_roll) : Fx P w K mg base 2 "_law_one_of" 2 f_law_one_of := by
  obtain ⟨fd, F⟩ := T.c.def_ 37 (d := d_law_one_of) rfl
  have F' : FnP K "_law_one_of" s_law_one_of _ fd := F
  exact fx_ok (N := ["dice", "items"]) (ps := ["dice", "items"]) (st := s_law_one_of) F' sc_law_one_of rfl (FunD.bindsN F' fun _ _ _ _ _ _ us hl => match us, hl with | [_, _], _ => rfl) (T.glo "_law_one_of" (by decide)) fun cdv A outer s H E hr => ss_one (ss_ret (ee_ix ix_seq s_idx (ee_var (pv 1)) (ee_f C_law_roll hr (by decide) (aa_cons (ee_var (pv 0)) (aa_cons (ee_callB call_len_seq s_len (T.fr "len" (by decide)) (by decide +kernel) (aa_cons (ee_var (pv 1)) (aa_nil))) (aa_nil)))) (fun _ _ => rfl)))
noncomputable def φ_law_one_of := gzF f_law_one_of
theorem sc_law_every : FnScope ["r", "most", "found", "layer", "turn", "word", "letter"] ["r", "most"] (defScope s_law_every) := ⟨rfl, rfl, rfl, by decide +kernel, rfl, by decide +kernel, by decide +kernel⟩
noncomputable def f_law_every : List D → Sto → Option (D × Sto) := runF 7 (sSeq (sPar 2 3 (aCons (eFz (fLst (aCons (eTup (aNil)) (aNil)))) (aCons (eFz (fLst (aCons (eTup (aNil)) (aNil)))) aNil))) (sSeq (sFor (iRg1 (aCons (eVar 1) (aNil))) (gNm 4) (sSeq (sAsg (eFz (fSumL (eFz (fLc (iSeq (eVar 3)) (gNm 5) (bYes) (eFz (fLc (iSeq (eCall φ_law_letters 1 (aCons (eVar 0) (aNil)))) (gNm 6) (bOr (bBl (eOp2 cmpEq (eVar 5) (eTup (aNil)))) (bBl (eOp2 cmpNe (eVar 6) (eOp2 subD (eC (.int 0)) (eOp2 idxD (eVar 5) (eOp1 negD (eC (.int 1)))))))) (eOp2 addD (eVar 5) (eTup (aCons (eVar 6) (aNil)))) [6])) [5])))) (gNm 3)) (sAsg (eOp2 addD (eVar 2) (eVar 3)) (gNm 2)))) (sRet (eVar 2))))
theorem w_law_every {P : Program} {w : World} {K : PySem.W.Frag} {mg : Str → Option Value} {base : Heap} (T : Tx K mg) (C_law_letters : Fx P w K mg base 1 "_law_letters" 1 φ_law_letters) : Fx P w K mg base 2 "_law_every" 2 f_law_every := by
  obtain ⟨fd, F⟩ := T.c.def_ 41 (d := d_law_every) rfl
  have F' : FnP K "_law_every" s_law_every _ fd := F
  exact fx_ok (N := ["r", "most", "found", "layer", "turn", "word", "letter"]) (ps := ["r", "most"]) (st := s_law_every) F' sc_law_every rfl (FunD.bindsN F' fun _ _ _ _ _ _ us hl => match us, hl with | [_, _], _ => rfl) (T.glo "_law_every" (by decide)) fun cdv A outer s H E hr => ss_cons (ss_par (i := 2) (j := 3) rfl sc_law_every.nd rfl rfl (by decide) rfl rfl (aa_cons (ee_fz (ff_lst (aa_cons (ee_tup (aa_nil)) (aa_nil)))) (aa_cons (ee_fz (ff_lst (aa_cons (ee_tup (aa_nil)) (aa_nil)))) aa_nil)) (by rfl)) (ss_cons (ss_for (vs := [4]) PassesOwn.never rfl (ii_rg1 (T.fr "range" (by decide)) (aa_cons (ee_var (pv 1)) (aa_nil))) (gy_name (pg_name (i := 4) sc_law_every.nd rfl (by first | exact Or.inl rfl | exact Or.inr rfl)) (by decide)) (ss_cons (ss_set (i := 3) sc_law_every.nd rfl (by first | exact Or.inl rfl | exact Or.inr rfl) (ee_fz (ff_sumL rfl (T.fr "sum" (by decide)) (ee_fz (ff_lc (own := [("word", 5)]) rfl sc_law_every.nd (ii_seq (ee_var (pv 3))) (blkOk_by (by kernel_rfl)) (fun _ _ _ _ _ => gy_name (pg_name (i := 5) sc_law_every.nd rfl (by first | exact Or.inl rfl | exact Or.inr rfl)) (by decide)) (fun _ _ _ _ _ => pts_of_nil) (fun _ _ _ _ _ => ee_fz (ff_lc (own := [("letter", 6)]) rfl sc_law_every.nd (ii_seq (ee_f C_law_letters hr (by decide) (aa_cons (ee_var (pv 0)) (aa_nil)))) (blkOk_by (by kernel_rfl)) (fun _ _ _ _ _ => gy_name (pg_name (i := 6) sc_law_every.nd rfl (by first | exact Or.inl rfl | exact Or.inr rfl)) (by decide)) (fun _ _ _ _ _ => pts_of_one (PW.pt (tw_or (tt_cmp (op_eqD hr.units) s_eq (ee_var (pv 5)) (ee_tup (aa_nil)) (nomark _)) (tw_one_or (tt_cmp (op_neD hr.units) s_ne (ee_var (pv 6)) (ee_op op_subA s_sub (ee_int) (ee_ix ix_seq s_idx (ee_var (pv 5)) (ee_un un_neg s_neg (ee_int)) (fun _ _ => rfl))) (nomark _)))))) (fun _ _ _ _ _ => ee_op op_addA s_add (ee_var (pv 5)) (ee_tup (aa_cons (ee_var (pv 6)) (aa_nil))))))))))) (ss_one (ss_set (i := 2) sc_law_every.nd rfl (by first | exact Or.inl rfl | exact Or.inr rfl) (ee_op op_addA s_add (ee_var (pv 2)) (ee_var (pv 3))))))) (ss_one (ss_ret (ee_var (pv 2)))))
noncomputable def φ_law_every := gzF f_law_every
theorem sc_law_mixed : FnScope ["dice", "items", "left", "found"] ["dice", "items"] (defScope s_law_mixed) := ⟨rfl, rfl, rfl, by decide +kernel, rfl, by decide +kernel, by decide +kernel⟩
noncomputable def f_law_mixed : List D → Sto → Option (D × Sto) := runF 4 (sSeq (sPar 2 3 (aCons (eNew (fLstOf (eVar 1))) (aCons (eNew (fLst (aNil))) aNil))) (sSeq (sWhile (bBl (eOp1 (nilD true) (eVar 2))) (sExpr (eMth appD (eVar 3) (aCons (eMth popD (eVar 2) (aCons (eCall φ_law_roll 2 (aCons (eVar 0) (aCons (eOpL lenD (aCons (eVar 2) (aNil))) (aNil)))) (aNil))) (aNil))))) (sRet (eVar 3))))
theorem w_law_mixed {P : Program} {w : World} {K : PySem.W.Frag} {mg : Str → Option Value} {base : Heap} (T : Tx K mg) (C_law_roll : Fx P w K mg base 1 "_law_roll" 2 φ_law_roll) : Fx P w K mg base 2 "_law_mixed" 2 f_law_mixed := by
  obtain ⟨fd, F⟩ := T.c.def_ 42 (d := d_law_mixed) rfl
  have F' : FnP K "_law_mixed" s_law_mixed _ fd := F
  exact fx_ok (N := ["dice", "items", "left", "found"]) (ps := ["dice", "items"]) (st := s_law_mixed) F' sc_law_mixed rfl (FunD.bindsN F' fun _ _ _ _ _ _ us hl => match us, hl with | [_, _], _ => rfl) (T.glo "_law_mixed" (by decide)) fun cdv A outer s H E hr => ss_cons (ss_par (i := 2) (j := 3) rfl sc_law_mixed.nd rfl rfl (by decide) rfl rfl (aa_cons (ee_new (ff_listOf (T.fr "list" (by decide)) (ee_var (pv 1)))) (aa_cons (ee_new (ff_lst (aa_nil))) aa_nil)) (by rfl)) (ss_cons (ss_while PassesOwn.never (tt_neNil hr.units (ee_var (pv 2))) (ss_one (ss_expr (ee_mth PySem.F.slot_list_append PySem.F.type_list_append mt_append s_app (ee_var (pv 3)) (aa_cons (ee_mth PySem.F.slot_list_pop PySem.F.type_list_pop (MtR.or mt_pop mt_popAt) s_pop (ee_var (pv 2)) (aa_cons (ee_f C_law_roll hr (by decide) (aa_cons (ee_var (pv 0)) (aa_cons (ee_callB call_len_seq s_len (T.fr "len" (by decide)) (by decide +kernel) (aa_cons (ee_var (pv 2)) (aa_nil))) (aa_nil)))) (aa_nil))) (aa_nil)))))) (ss_one (ss_ret (ee_var (pv 3)))))
noncomputable def φ_law_mixed := gzF f_law_mixed
theorem sc_law_rows : FnScope ["r", "size", "found", "turn", "row", "letter"] ["r", "size"] (defScope s_law_rows) := ⟨rfl, rfl, rfl, by decide +kernel, rfl, by decide +kernel, by decide +kernel⟩
noncomputable def f_law_rows : List D → Sto → Option (D × Sto) := runF 6 (sSeq (sAsg (eFz (fLst (aCons (eTup (aNil)) (aNil)))) (gNm 2)) (sSeq (sFor (iRg1 (aCons (eVar 1) (aNil))) (gNm 3) (sAsg (eFz (fSumL (eFz (fLc (iSeq (eVar 2)) (gNm 4) (bYes) (eFz (fLc (iSeq (eCall φ_law_letters 1 (aCons (eVar 0) (aNil)))) (gNm 5) (bYes) (eOp2 addD (eVar 4) (eTup (aCons (eVar 5) (aNil)))) [5])) [4])))) (gNm 2))) (sRet (eVar 2))))
theorem w_law_rows {P : Program} {w : World} {K : PySem.W.Frag} {mg : Str → Option Value} {base : Heap} (T : Tx K mg) (C_law_letters : Fx P w K mg base 1 "_law_letters" 1 φ_law_letters) : Fx P w K mg base 2 "_law_rows" 2 f_law_rows := by
  obtain ⟨fd, F⟩ := T.c.def_ 44 (d := d_law_rows) rfl
  have F' : FnP K "_law_rows" s_law_rows _ fd := F
  exact fx_ok (N := ["r", "size", "found", "turn", "row", "letter"]) (ps := ["r", "size"]) (st := s_law_rows) F' sc_law_rows rfl (FunD.bindsN F' fun _ _ _ _ _ _ us hl => match us, hl with | [_, _], _ => rfl) (T.glo "_law_rows" (by decide)) fun cdv A outer s H E hr => ss_cons (ss_set (i := 2) sc_law_rows.nd rfl (by first | exact Or.inl rfl | exact Or.inr rfl) (ee_fz (ff_lst (aa_cons (ee_tup (aa_nil)) (aa_nil))))) (ss_cons (ss_for (vs := [3]) PassesOwn.never rfl (ii_rg1 (T.fr "range" (by decide)) (aa_cons (ee_var (pv 1)) (aa_nil))) (gy_name (pg_name (i := 3) sc_law_rows.nd rfl (by first | exact Or.inl rfl | exact Or.inr rfl)) (by decide)) (ss_one (ss_set (i := 2) sc_law_rows.nd rfl (by first | exact Or.inl rfl | exact Or.inr rfl) (ee_fz (ff_sumL rfl (T.fr "sum" (by decide)) (ee_fz (ff_lc (own := [("row", 4)]) rfl sc_law_rows.nd (ii_seq (ee_var (pv 2))) (blkOk_by (by kernel_rfl)) (fun _ _ _ _ _ => gy_name (pg_name (i := 4) sc_law_rows.nd rfl (by first | exact Or.inl rfl | exact Or.inr rfl)) (by decide)) (fun _ _ _ _ _ => pts_of_nil) (fun _ _ _ _ _ => ee_fz (ff_lc (own := [("letter", 5)]) rfl sc_law_rows.nd (ii_seq (ee_f C_law_letters hr (by decide) (aa_cons (ee_var (pv 0)) (aa_nil)))) (blkOk_by (by kernel_rfl)) (fun _ _ _ _ _ => gy_name (pg_name (i := 5) sc_law_rows.nd rfl (by first | exact Or.inl rfl | exact Or.inr rfl)) (by decide)) (fun _ _ _ _ _ => pts_of_nil) (fun _ _ _ _ _ => ee_op op_addA s_add (ee_var (pv 4)) (ee_tup (aa_cons (ee_var (pv 5)) (aa_nil))))))))))))) (ss_one (ss_ret (ee_var (pv 2)))))
noncomputable def φ_law_rows := gzF f_law_rows
theorem sc_require_number : FnScope ["value", "least", "most"] ["value", "least", "most"] (defScope s_require_number) := ⟨rfl, rfl, rfl, by decide +kernel, rfl, by decide +kernel, by decide +kernel⟩
noncomputable def f_require_number : List D → Sto → Option (D × Sto) := runF 3 (sIf (bOr (bNot (bTru (eCall φ_is_near 1 (aCons (eVar 0) (aNil))))) (bOr (bAnd (bBl (eOp2 (isD true) (eVar 1) (eC .non))) (bBl (eOp2 cmpLt (eVar 0) (eVar 1)))) (bAnd (bBl (eOp2 (isD true) (eVar 2) (eC .non))) (bBl (eOp2 cmpGt (eVar 0) (eVar 2)))))) (sFail) (sNext))
theorem w_require_number {P : Program} {w : World} {K : PySem.W.Frag} {mg : Str → Option Value} {base : Heap} (T : Tx K mg) (C_is_near : Fx P w K mg base 2 "is_near" 1 φ_is_near) : Fx P w K mg base 3 "require_number" 3 f_require_number := by
  obtain ⟨fd, F⟩ := T.c.def_ 3 (d := d_require_number) rfl
  have F' : FnP K "require_number" s_require_number _ fd := F
  exact fx_ok (N := ["value", "least", "most"]) (ps := ["value", "least", "most"]) (st := s_require_number) F' sc_require_number rfl (FunD.bindsN F' fun _ _ _ _ _ _ us hl => match us, hl with | [_, _, _], _ => rfl) (T.glo "require_number" (by decide)) fun cdv A outer s H E hr => ss_one (ss_if (PW.pt (tw_or (tt_not (tt_truth (ee_f C_is_near hr (by decide) (aa_cons (ee_var (pv 0)) (aa_nil))))) (tw_or (PW.pt (tw_and (tt_cmp op_notA (s_is true) (ee_var (pv 1)) (ee_non) (nomark _)) (tw_one_and (tt_cmp op_lt s_lt (ee_var (pv 0)) (ee_var (pv 1)) (nomark _))))) (tw_one_or (PW.pt (tw_and (tt_cmp op_notA (s_is true) (ee_var (pv 2)) (ee_non) (nomark _)) (tw_one_and (tt_cmp op_gt s_gt (ee_var (pv 0)) (ee_var (pv 2)) (nomark _))))))))) (ss_one (ss_fail)) (ss_nil))
noncomputable def φ_require_number := gzF f_require_number
theorem sc_is_letter_in : FnScope ["r", "value"] ["r", "value"] (defScope s_is_letter_in) := ⟨rfl, rfl, rfl, by decide +kernel, rfl, by decide +kernel, by decide +kernel⟩
noncomputable def f_is_letter_in : List D → Sto → Option (D × Sto) := runF 2 (sRet (eAnd (eCall φ_is_within 3 (aCons (eVar 1) (aCons (eOp1 negD (eVar 0)) (aCons (eVar 0) (aNil))))) (eOp2 cmpNe (eVar 1) (eC (.int 0)))))
theorem w_is_letter_in {P : Program} {w : World} {K : PySem.W.Frag} {mg : Str → Option Value} {base : Heap} (T : Tx K mg) (C_is_within : Fx P w K mg base 2 "is_within" 3 φ_is_within) : Fx P w K mg base 3 "is_letter_in" 2 f_is_letter_in := by
  obtain ⟨fd, F⟩ := T.c.def_ 4 (d := d_is_letter_in) rfl
  have F' : FnP K "is_letter_in" s_is_letter_in _ fd := F
  exact fx_ok (N := ["r", "value"]) (ps := ["r", "value"]) (st := s_is_letter_in) F' sc_is_letter_in rfl (FunD.bindsN F' fun _ _ _ _ _ _ us hl => match us, hl with | [_, _], _ => rfl) (T.glo "is_letter_in" (by decide)) fun cdv A outer s H E hr => ss_one (ss_ret (ee_and (ee_f C_is_within hr (by decide) (aa_cons (ee_var (pv 1)) (aa_cons (ee_un un_neg s_neg (ee_var (pv 0))) (aa_cons (ee_var (pv 0)) (aa_nil))))) (ee_one (ee_cmp (op_neD hr.units) s_ne (ee_var (pv 1)) (ee_int) (nomark _)))))
noncomputable def φ_is_letter_in := gzF f_is_letter_in
theorem sc_law_struck : FnScope ["dice", "word", "here", "many", "turn", "at", "spots"] ["dice", "word"] (defScope s_law_struck) := ⟨rfl, rfl, rfl, by decide +kernel, rfl, by decide +kernel, by decide +kernel⟩
noncomputable def f_law_struck : List D → Sto → Option (D × Sto) := runF 7 (sSeq (sAsg (eTup (aCons (eFz (fLstOf (eVar 1))) (aCons (eC (.int 0)) (aNil)))) (gTp 2 (gsCons (gNm 2) (gsCons (gNm 3) (gsNil))))) (sSeq (sFor (iRg1 (aCons (eOpL lenD (aCons (eVar 1) (aNil))) (aNil))) (gNm 4) (sSeq (sAsg (eFz (fLc (iRg1 (aCons (eOp2 subD (eOpL lenD (aCons (eVar 2) (aNil))) (eC (.int 1))) (aNil))) (gNm 5) (bBl (eOp2 cmpEq (eOp2 idxD (eVar 2) (eVar 5)) (eOp2 subD (eC (.int 0)) (eOp2 idxD (eVar 2) (eOp2 addD (eVar 5) (eC (.int 1))))))) (eVar 5) [5])) (gNm 6)) (sIf (bBl (eOp1 (nilD true) (eVar 6))) (sSeq (sAsg (eCall φ_law_one_of 2 (aCons (eVar 0) (aCons (eVar 6) (aNil)))) (gNm 5)) (sAsg (eTup (aCons (eOp2 addD (eSlc (eVar 2) (oNone) (oSome (eVar 5))) (eSlc (eVar 2) (oSome (eOp2 addD (eVar 5) (eC (.int 2)))) (oNone))) (aCons (eOp2 addD (eVar 3) (eC (.int 1))) (aNil)))) (gTp 2 (gsCons (gNm 2) (gsCons (gNm 3) (gsNil)))))) (sNext)))) (sRet (eTup (aCons (eOpL tupD (aCons (eVar 2) (aNil))) (aCons (eVar 3) (aNil)))))))
theorem w_law_struck {P : Program} {w : World} {K : PySem.W.Frag} {mg : Str → Option Value} {base : Heap} (T : Tx K mg) (C_law_one_of : Fx P w K mg base 2 "_law_one_of" 2 φ_law_one_of) : Fx P w K mg base 3 "_law_struck" 2 f_law_struck := by
  obtain ⟨fd, F⟩ := T.c.def_ 43 (d := d_law_struck) rfl
  have F' : FnP K "_law_struck" s_law_struck _ fd := F
  exact fx_ok (N := ["dice", "word", "here", "many", "turn", "at", "spots"]) (ps := ["dice", "word"]) (st := s_law_struck) F' sc_law_struck rfl (FunD.bindsN F' fun _ _ _ _ _ _ us hl => match us, hl with | [_, _], _ => rfl) (T.glo "_law_struck" (by decide)) fun cdv A outer s H E hr => ss_cons (ss_asg (ee_tup (aa_cons (ee_fz (ff_listOf (T.fr "list" (by decide)) (ee_var (pv 1)))) (aa_cons (ee_int) (aa_nil)))) (gg_tup rfl (ggs_cons (gg_name (pg_name (i := 2) sc_law_struck.nd rfl (by first | exact Or.inl rfl | exact Or.inr rfl))) (ggs_cons (gg_name (pg_name (i := 3) sc_law_struck.nd rfl (by first | exact Or.inl rfl | exact Or.inr rfl))) (ggs_nil))))) (ss_cons (ss_for (vs := [4]) PassesOwn.never rfl (ii_rg1 (T.fr "range" (by decide)) (aa_cons (ee_callB call_len_seq s_len (T.fr "len" (by decide)) (by decide +kernel) (aa_cons (ee_var (pv 1)) (aa_nil))) (aa_nil))) (gy_name (pg_name (i := 4) sc_law_struck.nd rfl (by first | exact Or.inl rfl | exact Or.inr rfl)) (by decide)) (ss_cons (ss_setLc (i := 6) (own := [("at", 5)]) rfl sc_law_struck.nd rfl rfl (sw_true rfl rfl rfl (by decide +kernel)) (ii_rg1 (T.fr "range" (by decide)) (aa_cons (ee_op op_subA s_sub (ee_callB call_len_seq s_len (T.fr "len" (by decide)) (by decide +kernel) (aa_cons (ee_var (pv 2)) (aa_nil))) (ee_int)) (aa_nil))) (blkOk_by (by kernel_rfl)) (fun _ _ _ _ _ => gy_name (pg_name (i := 5) sc_law_struck.nd rfl (by first | exact Or.inl rfl | exact Or.inr rfl)) (by decide)) (fun _ _ _ _ _ => pts_of_one (tt_cmp (op_eqD hr.units) s_eq (ee_ix ix_seq s_idx (ee_var (pv 2)) (ee_var (pv 5)) (fun _ _ => rfl)) (ee_op op_subA s_sub (ee_int) (ee_ix ix_seq s_idx (ee_var (pv 2)) (ee_op op_addA s_add (ee_var (pv 5)) (ee_int)) (fun _ _ => rfl))) (nomark _))) (fun _ _ _ _ _ => ee_var (pv 5))) (ss_one (ss_if (tt_neNil hr.units (ee_var (pv 6))) (ss_cons (ss_set (i := 5) sc_law_struck.nd rfl (by first | exact Or.inl rfl | exact Or.inr rfl) (ee_f C_law_one_of hr (by decide) (aa_cons (ee_var (pv 0)) (aa_cons (ee_var (pv 6)) (aa_nil))))) (ss_one (ss_asg (ee_tup (aa_cons (ee_op op_addA s_add (ee_slc (ee_var (pv 2)) (oo_none) (oo_some (ee_var (pv 5)))) (ee_slc (ee_var (pv 2)) (oo_some (ee_op op_addA s_add (ee_var (pv 5)) (ee_int))) (oo_none))) (aa_cons (ee_op op_addA s_add (ee_var (pv 3)) (ee_int)) (aa_nil)))) (gg_tup rfl (ggs_cons (gg_name (pg_name (i := 2) sc_law_struck.nd rfl (by first | exact Or.inl rfl | exact Or.inr rfl))) (ggs_cons (gg_name (pg_name (i := 3) sc_law_struck.nd rfl (by first | exact Or.inl rfl | exact Or.inr rfl))) (ggs_nil))))))) (ss_nil))))) (ss_one (ss_ret (ee_tup (aa_cons (ee_callTy call_tupN s_tupN (T.fr "tuple" (by decide)) boot_tuple (aa_cons (ee_var (pv 2)) (aa_nil))) (aa_cons (ee_var (pv 3)) (aa_nil)))))))
noncomputable def φ_law_struck := gzF f_law_struck
theorem sc_is_word_in : FnScope ["r", "value", "letter"] ["r", "value"] (defScope s_is_word_in) := ⟨rfl, rfl, rfl, by decide +kernel, rfl, by decide +kernel, by decide +kernel⟩
noncomputable def f_is_word_in : List D → Sto → Option (D × Sto) := runF 3 (sSeq (sIf (bOr (bNot (bTru (eOp1 (isiD "tuple") (eVar 1)))) (bBl (eOp2 cmpGt (eOpL lenD (aCons (eVar 1) (aNil))) (eC (.int 400))))) (sRet (eC (.bl false))) (sNext)) (sRet (eOpL allD (aCons (eFz (fLc (iSeq (eVar 1)) (gNm 2) (bYes) (eCall φ_is_letter_in 2 (aCons (eVar 0) (aCons (eVar 2) (aNil)))) [2])) (aNil)))))
theorem w_is_word_in {P : Program} {w : World} {K : PySem.W.Frag} {mg : Str → Option Value} {base : Heap} (T : Tx K mg) (C_is_letter_in : Fx P w K mg base 3 "is_letter_in" 2 φ_is_letter_in) : Fx P w K mg base 4 "is_word_in" 2 f_is_word_in := by
  obtain ⟨fd, F⟩ := T.c.def_ 5 (d := d_is_word_in) rfl
  have F' : FnP K "is_word_in" s_is_word_in _ fd := F
  exact fx_ok (N := ["r", "value", "letter"]) (ps := ["r", "value"]) (st := s_is_word_in) F' sc_is_word_in rfl (FunD.bindsN F' fun _ _ _ _ _ _ us hl => match us, hl with | [_, _], _ => rfl) (T.glo "is_word_in" (by decide)) fun cdv A outer s H E hr => ss_cons (ss_if (PW.pt (tw_or (tt_not (tt_truth (ee_isi (T.fr "isinstance" (by decide)) (ee_var (pv 1)) (pe_bltn (by rfl) (T.fr "tuple" (by decide)) boot_tuple rfl)))) (tw_one_or (tt_cmp op_gt s_gt (ee_callB call_len_seq s_len (T.fr "len" (by decide)) (by decide +kernel) (aa_cons (ee_var (pv 1)) (aa_nil))) (ee_gint (T.int "MOST_LONG" 400 (by decide))) (nomark _))))) (ss_one (ss_ret (ee_bl))) (ss_nil)) (ss_one (ss_ret (ee_callB (cr_all rfl) s_all (T.fr "all" (by decide)) (by decide +kernel) (aa_cons (ee_fz (ff_lc (own := [("letter", 2)]) rfl sc_is_word_in.nd (ii_seq (ee_var (pv 1))) (blkOk_by (by kernel_rfl)) (fun _ _ _ _ _ => gy_name (pg_name (i := 2) sc_is_word_in.nd rfl (by first | exact Or.inl rfl | exact Or.inr rfl)) (by decide)) (fun _ _ _ _ _ => pts_of_nil) (fun _ _ _ _ _ => ee_f C_is_letter_in hr (by decide) (aa_cons (ee_var (pv 0)) (aa_cons (ee_var (pv 2)) (aa_nil)))))) (aa_nil)))))
noncomputable def φ_is_word_in := gzF f_is_word_in
theorem sc_require_letters : FnScope ["r"] ["r"] (defScope s_require_letters) := ⟨rfl, rfl, rfl, by decide +kernel, rfl, by decide +kernel, by decide +kernel⟩
noncomputable def f_require_letters : List D → Sto → Option (D × Sto) := runF 1 (sExpr (eCall φ_require_number 3 (aCons (eVar 0) (aCons (eC (.int 1)) (aCons (eC (.int 4)) (aNil))))))
theorem w_require_letters {P : Program} {w : World} {K : PySem.W.Frag} {mg : Str → Option Value} {base : Heap} (T : Tx K mg) (C_require_number : Fx P w K mg base 3 "require_number" 3 φ_require_number) : Fx P w K mg base 4 "require_letters" 1 f_require_letters := by
  obtain ⟨fd, F⟩ := T.c.def_ 16 (d := d_require_letters) rfl
  have F' : FnP K "require_letters" s_require_letters _ fd := F
  exact fx_ok (N := ["r"]) (ps := ["r"]) (st := s_require_letters) F' sc_require_letters rfl (FunD.bindsN F' fun _ _ _ _ _ _ us hl => match us, hl with | [_], _ => rfl) (T.glo "require_letters" (by decide)) fun cdv A outer s H E hr => ss_one (ss_expr (ee_f C_require_number hr (by decide) (aa_cons (ee_var (pv 0)) (aa_cons (ee_int) (aa_cons (ee_gint (T.int "MOST_RANK" 4 (by decide))) (aa_nil))))))
noncomputable def φ_require_letters := gzF f_require_letters
theorem sc_are_words_in : FnScope ["r", "value", "word"] ["r", "value"] (defScope s_are_words_in) := ⟨rfl, rfl, rfl, by decide +kernel, rfl, by decide +kernel, by decide +kernel⟩
noncomputable def f_are_words_in : List D → Sto → Option (D × Sto) := runF 3 (sSeq (sIf (bOr (bNot (bTru (eOp1 (isiD "tuple") (eVar 1)))) (bOr (bBl (eOp2 cmpGt (eOpL lenD (aCons (eVar 1) (aNil))) (eC (.int 20)))) (bNot (bTru (eOpL allD (aCons (eFz (fLc (iSeq (eVar 1)) (gNm 2) (bYes) (eCall φ_is_word_in 2 (aCons (eVar 0) (aCons (eVar 2) (aNil)))) [2])) (aNil))))))) (sRet (eC (.bl false))) (sNext)) (sRet (eOp2 cmpLe (eOpL sumD (aCons (eFz (fLc (iSeq (eVar 1)) (gNm 2) (bYes) (eOpL lenD (aCons (eVar 2) (aNil))) [2])) (aNil))) (eC (.int 400)))))
theorem w_are_words_in {P : Program} {w : World} {K : PySem.W.Frag} {mg : Str → Option Value} {base : Heap} (T : Tx K mg) (C_is_word_in : Fx P w K mg base 4 "is_word_in" 2 φ_is_word_in) : Fx P w K mg base 5 "are_words_in" 2 f_are_words_in := by
  obtain ⟨fd, F⟩ := T.c.def_ 6 (d := d_are_words_in) rfl
  have F' : FnP K "are_words_in" s_are_words_in _ fd := F
  exact fx_ok (N := ["r", "value", "word"]) (ps := ["r", "value"]) (st := s_are_words_in) F' sc_are_words_in rfl (FunD.bindsN F' fun _ _ _ _ _ _ us hl => match us, hl with | [_, _], _ => rfl) (T.glo "are_words_in" (by decide)) fun cdv A outer s H E hr => ss_cons (ss_if (PW.pt (tw_or (tt_not (tt_truth (ee_isi (T.fr "isinstance" (by decide)) (ee_var (pv 1)) (pe_bltn (by rfl) (T.fr "tuple" (by decide)) boot_tuple rfl)))) (tw_or (tt_cmp op_gt s_gt (ee_callB call_len_seq s_len (T.fr "len" (by decide)) (by decide +kernel) (aa_cons (ee_var (pv 1)) (aa_nil))) (ee_gint (T.int "MOST_WORDS" 20 (by decide))) (nomark _)) (tw_one_or (tt_not (tt_truth (ee_callB (cr_all rfl) s_all (T.fr "all" (by decide)) (by decide +kernel) (aa_cons (ee_fz (ff_lc (own := [("word", 2)]) rfl sc_are_words_in.nd (ii_seq (ee_var (pv 1))) (blkOk_by (by kernel_rfl)) (fun _ _ _ _ _ => gy_name (pg_name (i := 2) sc_are_words_in.nd rfl (by first | exact Or.inl rfl | exact Or.inr rfl)) (by decide)) (fun _ _ _ _ _ => pts_of_nil) (fun _ _ _ _ _ => ee_f C_is_word_in hr (by decide) (aa_cons (ee_var (pv 0)) (aa_cons (ee_var (pv 2)) (aa_nil)))))) (aa_nil))))))))) (ss_one (ss_ret (ee_bl))) (ss_nil)) (ss_one (ss_ret (ee_cmp op_le s_le (ee_callB (cr_sum rfl) s_sum (T.fr "sum" (by decide)) (by decide +kernel) (aa_cons (ee_fz (ff_lc (own := [("word", 2)]) rfl sc_are_words_in.nd (ii_seq (ee_var (pv 1))) (blkOk_by (by kernel_rfl)) (fun _ _ _ _ _ => gy_name (pg_name (i := 2) sc_are_words_in.nd rfl (by first | exact Or.inl rfl | exact Or.inr rfl)) (by decide)) (fun _ _ _ _ _ => pts_of_nil) (fun _ _ _ _ _ => ee_callB call_len_seq s_len (T.fr "len" (by decide)) (by decide +kernel) (aa_cons (ee_var (pv 2)) (aa_nil))))) (aa_nil))) (ee_gint (T.int "MOST_LONG" 400 (by decide))) (nomark _))))
noncomputable def φ_are_words_in := gzF f_are_words_in
theorem sc_require_word : FnScope ["r", "value"] ["r", "value"] (defScope s_require_word) := ⟨rfl, rfl, rfl, by decide +kernel, rfl, by decide +kernel, by decide +kernel⟩
noncomputable def f_require_word : List D → Sto → Option (D × Sto) := runF 2 (sIf (bNot (bTru (eCall φ_is_word_in 2 (aCons (eVar 0) (aCons (eVar 1) (aNil)))))) (sFail) (sNext))
theorem w_require_word {P : Program} {w : World} {K : PySem.W.Frag} {mg : Str → Option Value} {base : Heap} (T : Tx K mg) (C_is_word_in : Fx P w K mg base 4 "is_word_in" 2 φ_is_word_in) : Fx P w K mg base 5 "require_word" 2 f_require_word := by
  obtain ⟨fd, F⟩ := T.c.def_ 17 (d := d_require_word) rfl
  have F' : FnP K "require_word" s_require_word _ fd := F
  exact fx_ok (N := ["r", "value"]) (ps := ["r", "value"]) (st := s_require_word) F' sc_require_word rfl (FunD.bindsN F' fun _ _ _ _ _ _ us hl => match us, hl with | [_, _], _ => rfl) (T.glo "require_word" (by decide)) fun cdv A outer s H E hr => ss_one (ss_if (tt_not (tt_truth (ee_f C_is_word_in hr (by decide) (aa_cons (ee_var (pv 0)) (aa_cons (ee_var (pv 1)) (aa_nil)))))) (ss_one (ss_fail)) (ss_nil))
noncomputable def φ_require_word := gzF f_require_word
theorem sc_is_word : FnScope ["r", "value"] ["r", "value"] (defScope s_is_word) := ⟨rfl, rfl, rfl, by decide +kernel, rfl, by decide +kernel, by decide +kernel⟩
noncomputable def f_is_word : List D → Sto → Option (D × Sto) := runF 2 (sSeq (sExpr (eCall φ_require_letters 1 (aCons (eVar 0) (aNil)))) (sRet (eCall φ_is_word_in 2 (aCons (eVar 0) (aCons (eVar 1) (aNil))))))
theorem w_is_word {P : Program} {w : World} {K : PySem.W.Frag} {mg : Str → Option Value} {base : Heap} (T : Tx K mg) (C_is_word_in : Fx P w K mg base 4 "is_word_in" 2 φ_is_word_in) (C_require_letters : Fx P w K mg base 4 "require_letters" 1 φ_require_letters) : Fx P w K mg base 5 "is_word" 2 f_is_word := by
  obtain ⟨fd, F⟩ := T.c.def_ 22 (d := d_is_word) rfl
  have F' : FnP K "is_word" s_is_word _ fd := F
  exact fx_ok (N := ["r", "value"]) (ps := ["r", "value"]) (st := s_is_word) F' sc_is_word rfl (FunD.bindsN F' fun _ _ _ _ _ _ us hl => match us, hl with | [_, _], _ => rfl) (T.glo "is_word" (by decide)) fun cdv A outer s H E hr => ss_cons (ss_expr (ee_f C_require_letters hr (by decide) (aa_cons (ee_var (pv 0)) (aa_nil)))) (ss_one (ss_ret (ee_f C_is_word_in hr (by decide) (aa_cons (ee_var (pv 0)) (aa_cons (ee_var (pv 1)) (aa_nil))))))
noncomputable def φ_is_word := gzF f_is_word
theorem sc_is_short : FnScope ["r", "value"] ["r", "value"] (defScope s_is_short) := ⟨rfl, rfl, rfl, by decide +kernel, rfl, by decide +kernel, by decide +kernel⟩
noncomputable def f_is_short : List D → Sto → Option (D × Sto) := runF 2 (sSeq (sExpr (eCall φ_require_letters 1 (aCons (eVar 0) (aNil)))) (sRet (eAnd (eCall φ_is_word_in 2 (aCons (eVar 0) (aCons (eVar 1) (aNil)))) (eCall φ_is_short_in 1 (aCons (eVar 1) (aNil))))))
theorem w_is_short {P : Program} {w : World} {K : PySem.W.Frag} {mg : Str → Option Value} {base : Heap} (T : Tx K mg) (C_is_short_in : Fx P w K mg base 1 "is_short_in" 1 φ_is_short_in) (C_is_word_in : Fx P w K mg base 4 "is_word_in" 2 φ_is_word_in) (C_require_letters : Fx P w K mg base 4 "require_letters" 1 φ_require_letters) : Fx P w K mg base 5 "is_short" 2 f_is_short := by
  obtain ⟨fd, F⟩ := T.c.def_ 23 (d := d_is_short) rfl
  have F' : FnP K "is_short" s_is_short _ fd := F
  exact fx_ok (N := ["r", "value"]) (ps := ["r", "value"]) (st := s_is_short) F' sc_is_short rfl (FunD.bindsN F' fun _ _ _ _ _ _ us hl => match us, hl with | [_, _], _ => rfl) (T.glo "is_short" (by decide)) fun cdv A outer s H E hr => ss_cons (ss_expr (ee_f C_require_letters hr (by decide) (aa_cons (ee_var (pv 0)) (aa_nil)))) (ss_one (ss_ret (ee_and (ee_f C_is_word_in hr (by decide) (aa_cons (ee_var (pv 0)) (aa_cons (ee_var (pv 1)) (aa_nil)))) (ee_one (ee_f C_is_short_in hr (by decide) (aa_cons (ee_var (pv 1)) (aa_nil)))))))
noncomputable def φ_is_short := gzF f_is_short
theorem sc_alphabet : FnScope ["r"] ["r"] (defScope s_alphabet) := ⟨rfl, rfl, rfl, by decide +kernel, rfl, by decide +kernel, by decide +kernel⟩
noncomputable def f_alphabet : List D → Sto → Option (D × Sto) := runF 1 (sSeq (sExpr (eCall φ_require_letters 1 (aCons (eVar 0) (aNil)))) (sRet (eCall φ_letters_in 1 (aCons (eVar 0) (aNil)))))
theorem w_alphabet {P : Program} {w : World} {K : PySem.W.Frag} {mg : Str → Option Value} {base : Heap} (T : Tx K mg) (C_letters_in : Fx P w K mg base 1 "letters_in" 1 φ_letters_in) (C_require_letters : Fx P w K mg base 4 "require_letters" 1 φ_require_letters) : Fx P w K mg base 5 "alphabet" 1 f_alphabet := by
  obtain ⟨fd, F⟩ := T.c.def_ 24 (d := d_alphabet) rfl
  have F' : FnP K "alphabet" s_alphabet _ fd := F
  exact fx_ok (N := ["r"]) (ps := ["r"]) (st := s_alphabet) F' sc_alphabet rfl (FunD.bindsN F' fun _ _ _ _ _ _ us hl => match us, hl with | [_], _ => rfl) (T.glo "alphabet" (by decide)) fun cdv A outer s H E hr => ss_cons (ss_expr (ee_f C_require_letters hr (by decide) (aa_cons (ee_var (pv 0)) (aa_nil)))) (ss_one (ss_ret (ee_f C_letters_in hr (by decide) (aa_cons (ee_var (pv 0)) (aa_nil)))))
noncomputable def φ_alphabet := gzF f_alphabet
theorem sc_require_words : FnScope ["r", "value"] ["r", "value"] (defScope s_require_words) := ⟨rfl, rfl, rfl, by decide +kernel, rfl, by decide +kernel, by decide +kernel⟩
noncomputable def f_require_words : List D → Sto → Option (D × Sto) := runF 2 (sIf (bNot (bTru (eCall φ_are_words_in 2 (aCons (eVar 0) (aCons (eVar 1) (aNil)))))) (sFail) (sNext))
theorem w_require_words {P : Program} {w : World} {K : PySem.W.Frag} {mg : Str → Option Value} {base : Heap} (T : Tx K mg) (C_are_words_in : Fx P w K mg base 5 "are_words_in" 2 φ_are_words_in) : Fx P w K mg base 6 "require_words" 2 f_require_words := by
  obtain ⟨fd, F⟩ := T.c.def_ 18 (d := d_require_words) rfl
  have F' : FnP K "require_words" s_require_words _ fd := F
  exact fx_ok (N := ["r", "value"]) (ps := ["r", "value"]) (st := s_require_words) F' sc_require_words rfl (FunD.bindsN F' fun _ _ _ _ _ _ us hl => match us, hl with | [_, _], _ => rfl) (T.glo "require_words" (by decide)) fun cdv A outer s H E hr => ss_one (ss_if (tt_not (tt_truth (ee_f C_are_words_in hr (by decide) (aa_cons (ee_var (pv 0)) (aa_cons (ee_var (pv 1)) (aa_nil)))))) (ss_one (ss_fail)) (ss_nil))
noncomputable def φ_require_words := gzF f_require_words
theorem sc_require_told_word : FnScope ["r", "word"] ["r", "word"] (defScope s_require_told_word) := ⟨rfl, rfl, rfl, by decide +kernel, rfl, by decide +kernel, by decide +kernel⟩
noncomputable def f_require_told_word : List D → Sto → Option (D × Sto) := runF 2 (sSeq (sExpr (eCall φ_require_letters 1 (aCons (eVar 0) (aNil)))) (sExpr (eCall φ_require_word 2 (aCons (eVar 0) (aCons (eVar 1) (aNil))))))
theorem w_require_told_word {P : Program} {w : World} {K : PySem.W.Frag} {mg : Str → Option Value} {base : Heap} (T : Tx K mg) (C_require_letters : Fx P w K mg base 4 "require_letters" 1 φ_require_letters) (C_require_word : Fx P w K mg base 5 "require_word" 2 φ_require_word) : Fx P w K mg base 6 "require_told_word" 2 f_require_told_word := by
  obtain ⟨fd, F⟩ := T.c.def_ 19 (d := d_require_told_word) rfl
  have F' : FnP K "require_told_word" s_require_told_word _ fd := F
  exact fx_ok (N := ["r", "word"]) (ps := ["r", "word"]) (st := s_require_told_word) F' sc_require_told_word rfl (FunD.bindsN F' fun _ _ _ _ _ _ us hl => match us, hl with | [_, _], _ => rfl) (T.glo "require_told_word" (by decide)) fun cdv A outer s H E hr => ss_cons (ss_expr (ee_f C_require_letters hr (by decide) (aa_cons (ee_var (pv 0)) (aa_nil)))) (ss_one (ss_expr (ee_f C_require_word hr (by decide) (aa_cons (ee_var (pv 0)) (aa_cons (ee_var (pv 1)) (aa_nil))))))
noncomputable def φ_require_told_word := gzF f_require_told_word
theorem sc_require_two_words : FnScope ["r", "one", "other"] ["r", "one", "other"] (defScope s_require_two_words) := ⟨rfl, rfl, rfl, by decide +kernel, rfl, by decide +kernel, by decide +kernel⟩
noncomputable def f_require_two_words : List D → Sto → Option (D × Sto) := runF 3 (sSeq (sExpr (eCall φ_require_told_word 2 (aCons (eVar 0) (aCons (eVar 1) (aNil))))) (sExpr (eCall φ_require_word 2 (aCons (eVar 0) (aCons (eVar 2) (aNil))))))
theorem w_require_two_words {P : Program} {w : World} {K : PySem.W.Frag} {mg : Str → Option Value} {base : Heap} (T : Tx K mg) (C_require_told_word : Fx P w K mg base 6 "require_told_word" 2 φ_require_told_word) (C_require_word : Fx P w K mg base 5 "require_word" 2 φ_require_word) : Fx P w K mg base 7 "require_two_words" 3 f_require_two_words := by
  obtain ⟨fd, F⟩ := T.c.def_ 20 (d := d_require_two_words) rfl
  have F' : FnP K "require_two_words" s_require_two_words _ fd := F
  exact fx_ok (N := ["r", "one", "other"]) (ps := ["r", "one", "other"]) (st := s_require_two_words) F' sc_require_two_words rfl (FunD.bindsN F' fun _ _ _ _ _ _ us hl => match us, hl with | [_, _, _], _ => rfl) (T.glo "require_two_words" (by decide)) fun cdv A outer s H E hr => ss_cons (ss_expr (ee_f C_require_told_word hr (by decide) (aa_cons (ee_var (pv 0)) (aa_cons (ee_var (pv 1)) (aa_nil))))) (ss_one (ss_expr (ee_f C_require_word hr (by decide) (aa_cons (ee_var (pv 0)) (aa_cons (ee_var (pv 2)) (aa_nil))))))
noncomputable def φ_require_two_words := gzF f_require_two_words
theorem sc_require_told_words : FnScope ["r", "words"] ["r", "words"] (defScope s_require_told_words) := ⟨rfl, rfl, rfl, by decide +kernel, rfl, by decide +kernel, by decide +kernel⟩
noncomputable def f_require_told_words : List D → Sto → Option (D × Sto) := runF 2 (sSeq (sExpr (eCall φ_require_letters 1 (aCons (eVar 0) (aNil)))) (sExpr (eCall φ_require_words 2 (aCons (eVar 0) (aCons (eVar 1) (aNil))))))
theorem w_require_told_words {P : Program} {w : World} {K : PySem.W.Frag} {mg : Str → Option Value} {base : Heap} (T : Tx K mg) (C_require_letters : Fx P w K mg base 4 "require_letters" 1 φ_require_letters) (C_require_words : Fx P w K mg base 6 "require_words" 2 φ_require_words) : Fx P w K mg base 7 "require_told_words" 2 f_require_told_words := by
  obtain ⟨fd, F⟩ := T.c.def_ 21 (d := d_require_told_words) rfl
  have F' : FnP K "require_told_words" s_require_told_words _ fd := F
  exact fx_ok (N := ["r", "words"]) (ps := ["r", "words"]) (st := s_require_told_words) F' sc_require_told_words rfl (FunD.bindsN F' fun _ _ _ _ _ _ us hl => match us, hl with | [_, _], _ => rfl) (T.glo "require_told_words" (by decide)) fun cdv A outer s H E hr => ss_cons (ss_expr (ee_f C_require_letters hr (by decide) (aa_cons (ee_var (pv 0)) (aa_nil)))) (ss_one (ss_expr (ee_f C_require_words hr (by decide) (aa_cons (ee_var (pv 0)) (aa_cons (ee_var (pv 1)) (aa_nil))))))
noncomputable def φ_require_told_words := gzF f_require_told_words
theorem sc_shortened : FnScope ["r", "word"] ["r", "word"] (defScope s_shortened) := ⟨rfl, rfl, rfl, by decide +kernel, rfl, by decide +kernel, by decide +kernel⟩
noncomputable def f_shortened : List D → Sto → Option (D × Sto) := runF 2 (sSeq (sExpr (eCall φ_require_told_word 2 (aCons (eVar 0) (aCons (eVar 1) (aNil))))) (sRet (eCall φ_shortened_in 1 (aCons (eVar 1) (aNil)))))
theorem w_shortened {P : Program} {w : World} {K : PySem.W.Frag} {mg : Str → Option Value} {base : Heap} (T : Tx K mg) (C_require_told_word : Fx P w K mg base 6 "require_told_word" 2 φ_require_told_word) (C_shortened_in : Fx P w K mg base 1 "shortened_in" 1 φ_shortened_in) : Fx P w K mg base 7 "shortened" 2 f_shortened := by
  obtain ⟨fd, F⟩ := T.c.def_ 25 (d := d_shortened) rfl
  have F' : FnP K "shortened" s_shortened _ fd := F
  exact fx_ok (N := ["r", "word"]) (ps := ["r", "word"]) (st := s_shortened) F' sc_shortened rfl (FunD.bindsN F' fun _ _ _ _ _ _ us hl => match us, hl with | [_, _], _ => rfl) (T.glo "shortened" (by decide)) fun cdv A outer s H E hr => ss_cons (ss_expr (ee_f C_require_told_word hr (by decide) (aa_cons (ee_var (pv 0)) (aa_cons (ee_var (pv 1)) (aa_nil))))) (ss_one (ss_ret (ee_f C_shortened_in hr (by decide) (aa_cons (ee_var (pv 1)) (aa_nil)))))
noncomputable def φ_shortened := gzF f_shortened
theorem sc_undoing : FnScope ["r", "word"] ["r", "word"] (defScope s_undoing) := ⟨rfl, rfl, rfl, by decide +kernel, rfl, by decide +kernel, by decide +kernel⟩
noncomputable def f_undoing : List D → Sto → Option (D × Sto) := runF 2 (sSeq (sExpr (eCall φ_require_told_word 2 (aCons (eVar 0) (aCons (eVar 1) (aNil))))) (sRet (eCall φ_shortened_in 1 (aCons (eCall φ_undone_in 1 (aCons (eVar 1) (aNil))) (aNil)))))
theorem w_undoing {P : Program} {w : World} {K : PySem.W.Frag} {mg : Str → Option Value} {base : Heap} (T : Tx K mg) (C_require_told_word : Fx P w K mg base 6 "require_told_word" 2 φ_require_told_word) (C_shortened_in : Fx P w K mg base 1 "shortened_in" 1 φ_shortened_in) (C_undone_in : Fx P w K mg base 1 "undone_in" 1 φ_undone_in) : Fx P w K mg base 7 "undoing" 2 f_undoing := by
  obtain ⟨fd, F⟩ := T.c.def_ 26 (d := d_undoing) rfl
  have F' : FnP K "undoing" s_undoing _ fd := F
  exact fx_ok (N := ["r", "word"]) (ps := ["r", "word"]) (st := s_undoing) F' sc_undoing rfl (FunD.bindsN F' fun _ _ _ _ _ _ us hl => match us, hl with | [_, _], _ => rfl) (T.glo "undoing" (by decide)) fun cdv A outer s H E hr => ss_cons (ss_expr (ee_f C_require_told_word hr (by decide) (aa_cons (ee_var (pv 0)) (aa_cons (ee_var (pv 1)) (aa_nil))))) (ss_one (ss_ret (ee_f C_shortened_in hr (by decide) (aa_cons (ee_f C_undone_in hr (by decide) (aa_cons (ee_var (pv 1)) (aa_nil))) (aa_nil)))))
noncomputable def φ_undoing := gzF f_undoing
theorem sc_counts_of : FnScope ["r", "word"] ["r", "word"] (defScope s_counts_of) := ⟨rfl, rfl, rfl, by decide +kernel, rfl, by decide +kernel, by decide +kernel⟩
noncomputable def f_counts_of : List D → Sto → Option (D × Sto) := runF 2 (sSeq (sExpr (eCall φ_require_told_word 2 (aCons (eVar 0) (aCons (eVar 1) (aNil))))) (sRet (eCall φ_counts_in 2 (aCons (eVar 0) (aCons (eVar 1) (aNil))))))
theorem w_counts_of {P : Program} {w : World} {K : PySem.W.Frag} {mg : Str → Option Value} {base : Heap} (T : Tx K mg) (C_counts_in : Fx P w K mg base 1 "counts_in" 2 φ_counts_in) (C_require_told_word : Fx P w K mg base 6 "require_told_word" 2 φ_require_told_word) : Fx P w K mg base 7 "counts_of" 2 f_counts_of := by
  obtain ⟨fd, F⟩ := T.c.def_ 30 (d := d_counts_of) rfl
  have F' : FnP K "counts_of" s_counts_of _ fd := F
  exact fx_ok (N := ["r", "word"]) (ps := ["r", "word"]) (st := s_counts_of) F' sc_counts_of rfl (FunD.bindsN F' fun _ _ _ _ _ _ us hl => match us, hl with | [_, _], _ => rfl) (T.glo "counts_of" (by decide)) fun cdv A outer s H E hr => ss_cons (ss_expr (ee_f C_require_told_word hr (by decide) (aa_cons (ee_var (pv 0)) (aa_cons (ee_var (pv 1)) (aa_nil))))) (ss_one (ss_ret (ee_f C_counts_in hr (by decide) (aa_cons (ee_var (pv 0)) (aa_cons (ee_var (pv 1)) (aa_nil))))))
noncomputable def φ_counts_of := gzF f_counts_of
theorem sc_strikes : FnScope ["r", "word"] ["r", "word"] (defScope s_strikes) := ⟨rfl, rfl, rfl, by decide +kernel, rfl, by decide +kernel, by decide +kernel⟩
noncomputable def f_strikes : List D → Sto → Option (D × Sto) := runF 2 (sSeq (sExpr (eCall φ_require_told_word 2 (aCons (eVar 0) (aCons (eVar 1) (aNil))))) (sRet (eOp2 fdivD (eOp2 subD (eOpL lenD (aCons (eVar 1) (aNil))) (eOpL lenD (aCons (eCall φ_shortened_in 1 (aCons (eVar 1) (aNil))) (aNil)))) (eC (.int 2)))))
theorem w_strikes {P : Program} {w : World} {K : PySem.W.Frag} {mg : Str → Option Value} {base : Heap} (T : Tx K mg) (C_require_told_word : Fx P w K mg base 6 "require_told_word" 2 φ_require_told_word) (C_shortened_in : Fx P w K mg base 1 "shortened_in" 1 φ_shortened_in) : Fx P w K mg base 7 "strikes" 2 f_strikes := by
  obtain ⟨fd, F⟩ := T.c.def_ 34 (d := d_strikes) rfl
  have F' : FnP K "strikes" s_strikes _ fd := F
  exact fx_ok (N := ["r", "word"]) (ps := ["r", "word"]) (st := s_strikes) F' sc_strikes rfl (FunD.bindsN F' fun _ _ _ _ _ _ us hl => match us, hl with | [_, _], _ => rfl) (T.glo "strikes" (by decide)) fun cdv A outer s H E hr => ss_cons (ss_expr (ee_f C_require_told_word hr (by decide) (aa_cons (ee_var (pv 0)) (aa_cons (ee_var (pv 1)) (aa_nil))))) (ss_one (ss_ret (ee_op op_fdivW s_fdiv (ee_op op_subA s_sub (ee_callB call_len_seq s_len (T.fr "len" (by decide)) (by decide +kernel) (aa_cons (ee_var (pv 1)) (aa_nil))) (ee_callB call_len_seq s_len (T.fr "len" (by decide)) (by decide +kernel) (aa_cons (ee_f C_shortened_in hr (by decide) (aa_cons (ee_var (pv 1)) (aa_nil))) (aa_nil)))) (ee_int))))
noncomputable def φ_strikes := gzF f_strikes
theorem sc_product : FnScope ["r", "words"] ["r", "words"] (defScope s_product) := ⟨rfl, rfl, rfl, by decide +kernel, rfl, by decide +kernel, by decide +kernel⟩
noncomputable def f_product : List D → Sto → Option (D × Sto) := runF 2 (sSeq (sExpr (eCall φ_require_told_words 2 (aCons (eVar 0) (aCons (eVar 1) (aNil))))) (sRet (eCall φ_product_in 1 (aCons (eVar 1) (aNil)))))
theorem w_product {P : Program} {w : World} {K : PySem.W.Frag} {mg : Str → Option Value} {base : Heap} (T : Tx K mg) (C_product_in : Fx P w K mg base 1 "product_in" 1 φ_product_in) (C_require_told_words : Fx P w K mg base 7 "require_told_words" 2 φ_require_told_words) : Fx P w K mg base 8 "product" 2 f_product := by
  obtain ⟨fd, F⟩ := T.c.def_ 27 (d := d_product) rfl
  have F' : FnP K "product" s_product _ fd := F
  exact fx_ok (N := ["r", "words"]) (ps := ["r", "words"]) (st := s_product) F' sc_product rfl (FunD.bindsN F' fun _ _ _ _ _ _ us hl => match us, hl with | [_, _], _ => rfl) (T.glo "product" (by decide)) fun cdv A outer s H E hr => ss_cons (ss_expr (ee_f C_require_told_words hr (by decide) (aa_cons (ee_var (pv 0)) (aa_cons (ee_var (pv 1)) (aa_nil))))) (ss_one (ss_ret (ee_f C_product_in hr (by decide) (aa_cons (ee_var (pv 1)) (aa_nil)))))
noncomputable def φ_product := gzF f_product
theorem sc_are_equal : FnScope ["r", "one", "other"] ["r", "one", "other"] (defScope s_are_equal) := ⟨rfl, rfl, rfl, by decide +kernel, rfl, by decide +kernel, by decide +kernel⟩
noncomputable def f_are_equal : List D → Sto → Option (D × Sto) := runF 3 (sSeq (sExpr (eCall φ_require_two_words 3 (aCons (eVar 0) (aCons (eVar 1) (aCons (eVar 2) (aNil)))))) (sRet (eOp2 cmpEq (eCall φ_shortened_in 1 (aCons (eVar 1) (aNil))) (eCall φ_shortened_in 1 (aCons (eVar 2) (aNil))))))
theorem w_are_equal {P : Program} {w : World} {K : PySem.W.Frag} {mg : Str → Option Value} {base : Heap} (T : Tx K mg) (C_require_two_words : Fx P w K mg base 7 "require_two_words" 3 φ_require_two_words) (C_shortened_in : Fx P w K mg base 1 "shortened_in" 1 φ_shortened_in) : Fx P w K mg base 8 "are_equal" 3 f_are_equal := by
  obtain ⟨fd, F⟩ := T.c.def_ 28 (d := d_are_equal) rfl
  have F' : FnP K "are_equal" s_are_equal _ fd := F
  exact fx_ok (N := ["r", "one", "other"]) (ps := ["r", "one", "other"]) (st := s_are_equal) F' sc_are_equal rfl (FunD.bindsN F' fun _ _ _ _ _ _ us hl => match us, hl with | [_, _, _], _ => rfl) (T.glo "are_equal" (by decide)) fun cdv A outer s H E hr => ss_cons (ss_expr (ee_f C_require_two_words hr (by decide) (aa_cons (ee_var (pv 0)) (aa_cons (ee_var (pv 1)) (aa_cons (ee_var (pv 2)) (aa_nil)))))) (ss_one (ss_ret (ee_cmp (op_eqD hr.units) s_eq (ee_f C_shortened_in hr (by decide) (aa_cons (ee_var (pv 1)) (aa_nil))) (ee_f C_shortened_in hr (by decide) (aa_cons (ee_var (pv 2)) (aa_nil))) (nomark _))))
noncomputable def φ_are_equal := gzF f_are_equal
theorem sc_loss : FnScope ["r", "one", "other"] ["r", "one", "other"] (defScope s_loss) := ⟨rfl, rfl, rfl, by decide +kernel, rfl, by decide +kernel, by decide +kernel⟩
noncomputable def f_loss : List D → Sto → Option (D × Sto) := runF 3 (sSeq (sExpr (eCall φ_require_two_words 3 (aCons (eVar 0) (aCons (eVar 1) (aCons (eVar 2) (aNil)))))) (sRet (eCall φ_lost_in 2 (aCons (eCall φ_shortened_in 1 (aCons (eVar 1) (aNil))) (aCons (eCall φ_shortened_in 1 (aCons (eVar 2) (aNil))) (aNil))))))
theorem w_loss {P : Program} {w : World} {K : PySem.W.Frag} {mg : Str → Option Value} {base : Heap} (T : Tx K mg) (C_lost_in : Fx P w K mg base 1 "lost_in" 2 φ_lost_in) (C_require_two_words : Fx P w K mg base 7 "require_two_words" 3 φ_require_two_words) (C_shortened_in : Fx P w K mg base 1 "shortened_in" 1 φ_shortened_in) : Fx P w K mg base 8 "loss" 3 f_loss := by
  obtain ⟨fd, F⟩ := T.c.def_ 29 (d := d_loss) rfl
  have F' : FnP K "loss" s_loss _ fd := F
  exact fx_ok (N := ["r", "one", "other"]) (ps := ["r", "one", "other"]) (st := s_loss) F' sc_loss rfl (FunD.bindsN F' fun _ _ _ _ _ _ us hl => match us, hl with | [_, _, _], _ => rfl) (T.glo "loss" (by decide)) fun cdv A outer s H E hr => ss_cons (ss_expr (ee_f C_require_two_words hr (by decide) (aa_cons (ee_var (pv 0)) (aa_cons (ee_var (pv 1)) (aa_cons (ee_var (pv 2)) (aa_nil)))))) (ss_one (ss_ret (ee_f C_lost_in hr (by decide) (aa_cons (ee_f C_shortened_in hr (by decide) (aa_cons (ee_var (pv 1)) (aa_nil))) (aa_cons (ee_f C_shortened_in hr (by decide) (aa_cons (ee_var (pv 2)) (aa_nil))) (aa_nil))))))
noncomputable def φ_loss := gzF f_loss
theorem sc_do_pass : FnScope ["r", "one", "other"] ["r", "one", "other"] (defScope s_do_pass) := ⟨rfl, rfl, rfl, by decide +kernel, rfl, by decide +kernel, by decide +kernel⟩
noncomputable def f_do_pass : List D → Sto → Option (D × Sto) := runF 3 (sSeq (sExpr (eCall φ_require_two_words 3 (aCons (eVar 0) (aCons (eVar 1) (aCons (eVar 2) (aNil)))))) (sRet (eOp2 cmpEq (eCall φ_product_in 1 (aCons (eFz (fLst (aCons (eVar 1) (aCons (eVar 2) (aNil))))) (aNil))) (eCall φ_product_in 1 (aCons (eFz (fLst (aCons (eVar 2) (aCons (eVar 1) (aNil))))) (aNil))))))
theorem w_do_pass {P : Program} {w : World} {K : PySem.W.Frag} {mg : Str → Option Value} {base : Heap} (T : Tx K mg) (C_product_in : Fx P w K mg base 1 "product_in" 1 φ_product_in) (C_require_two_words : Fx P w K mg base 7 "require_two_words" 3 φ_require_two_words) : Fx P w K mg base 8 "do_pass" 3 f_do_pass := by
  obtain ⟨fd, F⟩ := T.c.def_ 31 (d := d_do_pass) rfl
  have F' : FnP K "do_pass" s_do_pass _ fd := F
  exact fx_ok (N := ["r", "one", "other"]) (ps := ["r", "one", "other"]) (st := s_do_pass) F' sc_do_pass rfl (FunD.bindsN F' fun _ _ _ _ _ _ us hl => match us, hl with | [_, _, _], _ => rfl) (T.glo "do_pass" (by decide)) fun cdv A outer s H E hr => ss_cons (ss_expr (ee_f C_require_two_words hr (by decide) (aa_cons (ee_var (pv 0)) (aa_cons (ee_var (pv 1)) (aa_cons (ee_var (pv 2)) (aa_nil)))))) (ss_one (ss_ret (ee_cmp (op_eqD hr.units) s_eq (ee_f C_product_in hr (by decide) (aa_cons (ee_fz (ff_lst (aa_cons (ee_var (pv 1)) (aa_cons (ee_var (pv 2)) (aa_nil))))) (aa_nil))) (ee_f C_product_in hr (by decide) (aa_cons (ee_fz (ff_lst (aa_cons (ee_var (pv 2)) (aa_cons (ee_var (pv 1)) (aa_nil))))) (aa_nil))) (nomark _))))
noncomputable def φ_do_pass := gzF f_do_pass
theorem sc_compared : FnScope ["r", "one", "other", "first", "second"] ["r", "one", "other"] (defScope s_compared) := ⟨rfl, rfl, rfl, by decide +kernel, rfl, by decide +kernel, by decide +kernel⟩
noncomputable def f_compared : List D → Sto → Option (D × Sto) := runF 5 (sSeq (sExpr (eCall φ_require_two_words 3 (aCons (eVar 0) (aCons (eVar 1) (aCons (eVar 2) (aNil)))))) (sSeq (sPar 3 4 (aCons (eCall φ_sequence_key 1 (aCons (eCall φ_shortened_in 1 (aCons (eVar 1) (aNil))) (aNil))) (aCons (eCall φ_sequence_key 1 (aCons (eCall φ_shortened_in 1 (aCons (eVar 2) (aNil))) (aNil))) aNil))) (sRet (eIf (bBl (eOp2 cmpEq (eVar 3) (eVar 4))) (eC (.int 0)) (eIf (bBl (eOp2 ltD (eVar 3) (eVar 4))) (eOp1 negD (eC (.int 1))) (eC (.int 1)))))))
theorem w_compared {P : Program} {w : World} {K : PySem.W.Frag} {mg : Str → Option Value} {base : Heap} (T : Tx K mg) (C_require_two_words : Fx P w K mg base 7 "require_two_words" 3 φ_require_two_words) (C_sequence_key : Fx P w K mg base 2 "sequence_key" 1 φ_sequence_key) (C_shortened_in : Fx P w K mg base 1 "shortened_in" 1 φ_shortened_in) : Fx P w K mg base 8 "compared" 3 f_compared := by
  obtain ⟨fd, F⟩ := T.c.def_ 32 (d := d_compared) rfl
  have F' : FnP K "compared" s_compared _ fd := F
  exact fx_ok (N := ["r", "one", "other", "first", "second"]) (ps := ["r", "one", "other"]) (st := s_compared) F' sc_compared rfl (FunD.bindsN F' fun _ _ _ _ _ _ us hl => match us, hl with | [_, _, _], _ => rfl) (T.glo "compared" (by decide)) fun cdv A outer s H E hr => ss_cons (ss_expr (ee_f C_require_two_words hr (by decide) (aa_cons (ee_var (pv 0)) (aa_cons (ee_var (pv 1)) (aa_cons (ee_var (pv 2)) (aa_nil)))))) (ss_cons (ss_par (i := 3) (j := 4) rfl sc_compared.nd rfl rfl (by decide) rfl rfl (aa_cons (ee_f C_sequence_key hr (by decide) (aa_cons (ee_f C_shortened_in hr (by decide) (aa_cons (ee_var (pv 1)) (aa_nil))) (aa_nil))) (aa_cons (ee_f C_sequence_key hr (by decide) (aa_cons (ee_f C_shortened_in hr (by decide) (aa_cons (ee_var (pv 2)) (aa_nil))) (aa_nil))) aa_nil)) (by rfl)) (ss_one (ss_ret (ee_if (tt_cmp (op_eqD hr.units) s_eq (ee_var (pv 3)) (ee_var (pv 4)) (nomark _)) (ee_int) (ee_if (tt_cmp (op_ltD hr.units) s_ltD (ee_var (pv 3)) (ee_var (pv 4)) (nomark _)) (ee_un un_neg s_neg (ee_int)) (ee_int))))))
noncomputable def φ_compared := gzF f_compared
theorem sc_sorted_words : FnScope ["r", "words", "word"] ["r", "words"] (defScope s_sorted_words) := ⟨rfl, rfl, rfl, by decide +kernel, rfl, by decide +kernel, by decide +kernel⟩
noncomputable def f_sorted_words : List D → Sto → Option (D × Sto) := runF 3 (sSeq (sExpr (eCall φ_require_told_words 2 (aCons (eVar 0) (aCons (eVar 1) (aNil))))) (sRet (eOpL tupD (aCons (eFz (fSortF φ_sequence_key (eFzD (fDc (iSeq (eVar 1)) (gNm 2) (bYes) (eCall φ_shortened_in 1 (aCons (eVar 2) (aNil))) (eC (.bl true)) [2])))) (aNil)))))
theorem w_sorted_words {P : Program} {w : World} {K : PySem.W.Frag} {mg : Str → Option Value} {base : Heap} (T : Tx K mg) (C_require_told_words : Fx P w K mg base 7 "require_told_words" 2 φ_require_told_words) (C_sequence_key : Fx P w K mg base 2 "sequence_key" 1 φ_sequence_key) (C_shortened_in : Fx P w K mg base 1 "shortened_in" 1 φ_shortened_in) : Fx P w K mg base 8 "sorted_words" 2 f_sorted_words := by
  obtain ⟨fd, F⟩ := T.c.def_ 33 (d := d_sorted_words) rfl
  have F' : FnP K "sorted_words" s_sorted_words _ fd := F
  exact fx_ok (N := ["r", "words", "word"]) (ps := ["r", "words"]) (st := s_sorted_words) F' sc_sorted_words rfl (FunD.bindsN F' fun _ _ _ _ _ _ us hl => match us, hl with | [_, _], _ => rfl) (T.glo "sorted_words" (by decide)) fun cdv A outer s H E hr => ss_cons (ss_expr (ee_f C_require_told_words hr (by decide) (aa_cons (ee_var (pv 0)) (aa_cons (ee_var (pv 1)) (aa_nil))))) (ss_one (ss_ret (ee_callTy call_tupN s_tupN (T.fr "tuple" (by decide)) boot_tuple (aa_cons (ee_fz (ff_sortF C_sequence_key hr (by decide) (T.fr "sorted" (by decide)) (ee_fzD (dd_dc (own := [("word", 2)]) (u8 hr) rfl sc_sorted_words.nd (ii_seq (ee_var (pv 1))) (blkOk_by (by kernel_rfl)) (fun _ _ _ _ _ => gy_name (pg_name (i := 2) sc_sorted_words.nd rfl (by first | exact Or.inl rfl | exact Or.inr rfl)) (by decide)) (fun _ _ _ _ _ => pts_of_nil) (fun _ _ _ _ _ => ee_f C_shortened_in hr (by decide) (aa_cons (ee_var (pv 2)) (aa_nil))) (fun _ _ _ _ _ => ee_bl))))) (aa_nil)))))
noncomputable def φ_sorted_words := gzF f_sorted_words
theorem sc_law_are_rows_right : FnScope ["dice", "r", "size", "rows", "many", "row", "due", "struck", "other", "at"] ["dice", "r", "size"] (defScope s_law_are_rows_right) := ⟨rfl, rfl, rfl, by decide +kernel, rfl, by decide +kernel, by decide +kernel⟩
noncomputable def f_law_are_rows_right : List D → Sto → Option (D × Sto) := runF 10 (sSeq (sPar 3 4 (aCons (eCall φ_law_rows 2 (aCons (eVar 1) (aCons (eVar 2) (aNil)))) (aCons (eC (.int 0)) aNil))) (sSeq (sFor (iSeq (eSlc (eCall φ_law_mixed 2 (aCons (eVar 0) (aCons (eVar 3) (aNil)))) (oNone) (oSome (eC (.int 120))))) (gNm 5) (sSeq (sAsg (eCall φ_law_struck 2 (aCons (eVar 0) (aCons (eVar 5) (aNil)))) (gTp 2 (gsCons (gNm 6) (gsCons (gNm 7) (gsNil))))) (sSeq (sIf (bOr (bBl (eOp2 cmpNe (eVar 6) (eCall φ_law_made 1 (aCons (eFz (fLst (aCons (eVar 5) (aNil)))) (aNil))))) (bOr (bBl (eOp2 cmpNe (eCall φ_shortened 2 (aCons (eVar 1) (aCons (eVar 5) (aNil)))) (eVar 6))) (bOr (bBl (eOp2 cmpNe (eCall φ_strikes 2 (aCons (eVar 1) (aCons (eVar 5) (aNil)))) (eVar 7))) (bBl (eOp2 (isD true) (eCall φ_is_word 2 (aCons (eVar 1) (aCons (eVar 5) (aNil)))) (eC (.bl true))))))) (sRet (eC (.bl false))) (sNext)) (sSeq (sIf (bOr (bBl (eOp2 cmpNe (eCall φ_is_short 2 (aCons (eVar 1) (aCons (eVar 5) (aNil)))) (eOp2 cmpEq (eVar 7) (eC (.int 0))))) (bBl (eOp2 cmpNe (eCall φ_undoing 2 (aCons (eVar 1) (aCons (eVar 5) (aNil)))) (eCall φ_law_undone 1 (aCons (eVar 6) (aNil)))))) (sRet (eC (.bl false))) (sNext)) (sSeq (sIf (bOr (bBl (eOp2 cmpNe (eCall φ_counts_of 2 (aCons (eVar 1) (aCons (eVar 5) (aNil)))) (eOpL tupD (aCons (eFz (fLc (iRg2 (aCons (eC (.int 1)) (aCons (eOp2 addD (eVar 1) (eC (.int 1))) (aNil)))) (gNm 9) (bYes) (eOp2 subD (eOp2 cntD (eVar 5) (eVar 9)) (eOp2 cntD (eVar 5) (eOp2 subD (eC (.int 0)) (eVar 9)))) [9])) (aNil))))) (bBl (eOp2 (isD true) (eCall φ_are_equal 3 (aCons (eVar 1) (aCons (eVar 5) (aCons (eVar 6) (aNil))))) (eC (.bl true))))) (sRet (eC (.bl false))) (sNext)) (sSeq (sAsg (eCall φ_law_one_of 2 (aCons (eVar 0) (aCons (eVar 3) (aNil)))) (gNm 8)) (sIf (bBl (eOp2 cmpNe (eCall φ_are_equal 3 (aCons (eVar 1) (aCons (eVar 5) (aCons (eVar 8) (aNil))))) (eOp2 cmpEq (eCall φ_law_made 1 (aCons (eFz (fLst (aCons (eVar 8) (aNil)))) (aNil))) (eVar 6)))) (sRet (eC (.bl false))) (sNext)))))))) (sSeq (sFor (iSeq (eVar 3)) (gNm 5) (sAsg (eOp2 addD (eVar 4) (eOpL intD (aCons (eOp2 cmpEq (eOp2 idxD (eCall φ_law_struck 2 (aCons (eVar 0) (aCons (eVar 5) (aNil)))) (eC (.int 1))) (eC (.int 0))) (aNil)))) (gNm 4))) (sRet (eOr (eOp2 cmpEq (eVar 2) (eC (.int 0))) (eOp2 cmpEq (eVar 4) (eOp2 mulD (eOp2 mulD (eC (.int 2)) (eVar 1)) (eCall φ_law_power 2 (aCons (eOp2 subD (eOp2 mulD (eC (.int 2)) (eVar 1)) (eC (.int 1))) (aCons (eOp2 subD (eVar 2) (eC (.int 1))) (aNil)))))))))))
theorem w_law_are_rows_right {P : Program} {w : World} {K : PySem.W.Frag} {mg : Str → Option Value} {base : Heap} (T : Tx K mg) (C_law_made : Fx P w K mg base 1 "_law_made" 1 φ_law_made) (C_law_mixed : Fx P w K mg base 2 "_law_mixed" 2 φ_law_mixed) (C_law_one_of : Fx P w K mg base 2 "_law_one_of" 2 φ_law_one_of) (C_law_power : Fx P w K mg base 1 "_law_power" 2 φ_law_power) (C_law_rows : Fx P w K mg base 2 "_law_rows" 2 φ_law_rows) (C_law_struck : Fx P w K mg base 3 "_law_struck" 2 φ_law_struck) (C_law_undone : Fx P w K mg base 1 "_law_undone" 1 φ_law_undone) (C_are_equal : Fx P w K mg base 8 "are_equal" 3 φ_are_equal) (C_counts_of : Fx P w K mg base 7 "counts_of" 2 φ_counts_of) (C_is_short : Fx P w K mg base 5 "is_short" 2 φ_is_short) (C_is_word : Fx P w K mg base 5 "is_word" 2 φ_is_word) (C_shortened : Fx P w K mg base 7 "shortened" 2 φ_shortened) (C_strikes : Fx P w K mg base 7 "strikes" 2 φ_strikes) (C_undoing : Fx P w K mg base 7 "undoing" 2 φ_undoing) : Fx P w K mg base 9 "_law_are_rows_right" 3 f_law_are_rows_right := by
  obtain ⟨fd, F⟩ := T.c.def_ 45 (d := d_law_are_rows_right) rfl
  have F' : FnP K "_law_are_rows_right" s_law_are_rows_right _ fd := F
  exact fx_ok (N := ["dice", "r", "size", "rows", "many", "row", "due", "struck", "other", "at"]) (ps := ["dice", "r", "size"]) (st := s_law_are_rows_right) F' sc_law_are_rows_right rfl (FunD.bindsN F' fun _ _ _ _ _ _ us hl => match us, hl with | [_, _, _], _ => rfl) (T.glo "_law_are_rows_right" (by decide)) fun cdv A outer s H E hr => ss_cons (ss_par (i := 3) (j := 4) rfl sc_law_are_rows_right.nd rfl rfl (by decide) rfl rfl (aa_cons (ee_f C_law_rows hr (by decide) (aa_cons (ee_var (pv 1)) (aa_cons (ee_var (pv 2)) (aa_nil)))) (aa_cons (ee_int) aa_nil)) (by rfl)) (ss_cons (ss_for (vs := [5]) PassesOwn.never rfl (ii_seq (ee_slc (ee_f C_law_mixed hr (by decide) (aa_cons (ee_var (pv 0)) (aa_cons (ee_var (pv 3)) (aa_nil)))) (oo_none) (oo_some (ee_int)))) (gy_name (pg_name (i := 5) sc_law_are_rows_right.nd rfl (by first | exact Or.inl rfl | exact Or.inr rfl)) (by decide)) (ss_cons (ss_asg (ee_f C_law_struck hr (by decide) (aa_cons (ee_var (pv 0)) (aa_cons (ee_var (pv 5)) (aa_nil)))) (gg_tup rfl (ggs_cons (gg_name (pg_name (i := 6) sc_law_are_rows_right.nd rfl (by first | exact Or.inl rfl | exact Or.inr rfl))) (ggs_cons (gg_name (pg_name (i := 7) sc_law_are_rows_right.nd rfl (by first | exact Or.inl rfl | exact Or.inr rfl))) (ggs_nil))))) (ss_cons (ss_if (PW.pt (tw_or (tt_cmp (op_neD hr.units) s_ne (ee_var (pv 6)) (ee_f C_law_made hr (by decide) (aa_cons (ee_fz (ff_lst (aa_cons (ee_var (pv 5)) (aa_nil)))) (aa_nil))) (nomark _)) (tw_or (tt_cmp (op_neD hr.units) s_ne (ee_f C_shortened hr (by decide) (aa_cons (ee_var (pv 1)) (aa_cons (ee_var (pv 5)) (aa_nil)))) (ee_var (pv 6)) (nomark _)) (tw_or (tt_cmp (op_neD hr.units) s_ne (ee_f C_strikes hr (by decide) (aa_cons (ee_var (pv 1)) (aa_cons (ee_var (pv 5)) (aa_nil)))) (ee_var (pv 7)) (nomark _)) (tw_one_or (tt_cmp op_notA (s_is true) (ee_f C_is_word hr (by decide) (aa_cons (ee_var (pv 1)) (aa_cons (ee_var (pv 5)) (aa_nil)))) (ee_bl) (nomark _))))))) (ss_one (ss_ret (ee_bl))) (ss_nil)) (ss_cons (ss_if (PW.pt (tw_or (tt_cmp (op_neD hr.units) s_ne (ee_f C_is_short hr (by decide) (aa_cons (ee_var (pv 1)) (aa_cons (ee_var (pv 5)) (aa_nil)))) (ee_cmp (op_eqD hr.units) s_eq (ee_var (pv 7)) (ee_int) (nomark _)) (nomark _)) (tw_one_or (tt_cmp (op_neD hr.units) s_ne (ee_f C_undoing hr (by decide) (aa_cons (ee_var (pv 1)) (aa_cons (ee_var (pv 5)) (aa_nil)))) (ee_f C_law_undone hr (by decide) (aa_cons (ee_var (pv 6)) (aa_nil))) (nomark _))))) (ss_one (ss_ret (ee_bl))) (ss_nil)) (ss_cons (ss_if (PW.pt (tw_or (tt_cmp (op_neD hr.units) s_ne (ee_f C_counts_of hr (by decide) (aa_cons (ee_var (pv 1)) (aa_cons (ee_var (pv 5)) (aa_nil)))) (ee_callTy call_tupN s_tupN (T.fr "tuple" (by decide)) boot_tuple (aa_cons (ee_fz (ff_lc (own := [("at", 9)]) rfl sc_law_are_rows_right.nd (ii_rg2 (T.fr "range" (by decide)) (aa_cons (ee_int) (aa_cons (ee_op op_addA s_add (ee_var (pv 1)) (ee_int)) (aa_nil)))) (blkOk_by (by kernel_rfl)) (fun _ _ _ _ _ => gy_name (pg_name (i := 9) sc_law_are_rows_right.nd rfl (by first | exact Or.inl rfl | exact Or.inr rfl)) (by decide)) (fun _ _ _ _ _ => pts_of_nil) (fun _ _ _ _ _ => ee_op op_subA s_sub (ee_cnt (ee_var (pv 5)) (ee_var (pv 9))) (ee_cnt (ee_var (pv 5)) (ee_op op_subA s_sub (ee_int) (ee_var (pv 9))))))) (aa_nil))) (nomark _)) (tw_one_or (tt_cmp op_notA (s_is true) (ee_f C_are_equal hr (by decide) (aa_cons (ee_var (pv 1)) (aa_cons (ee_var (pv 5)) (aa_cons (ee_var (pv 6)) (aa_nil))))) (ee_bl) (nomark _))))) (ss_one (ss_ret (ee_bl))) (ss_nil)) (ss_cons (ss_set (i := 8) sc_law_are_rows_right.nd rfl (by first | exact Or.inl rfl | exact Or.inr rfl) (ee_f C_law_one_of hr (by decide) (aa_cons (ee_var (pv 0)) (aa_cons (ee_var (pv 3)) (aa_nil))))) (ss_one (ss_if (tt_cmp (op_neD hr.units) s_ne (ee_f C_are_equal hr (by decide) (aa_cons (ee_var (pv 1)) (aa_cons (ee_var (pv 5)) (aa_cons (ee_var (pv 8)) (aa_nil))))) (ee_cmp (op_eqD hr.units) s_eq (ee_f C_law_made hr (by decide) (aa_cons (ee_fz (ff_lst (aa_cons (ee_var (pv 8)) (aa_nil)))) (aa_nil))) (ee_var (pv 6)) (nomark _)) (nomark _)) (ss_one (ss_ret (ee_bl))) (ss_nil))))))))) (ss_cons (ss_for (vs := [5]) PassesOwn.never rfl (ii_seq (ee_var (pv 3))) (gy_name (pg_name (i := 5) sc_law_are_rows_right.nd rfl (by first | exact Or.inl rfl | exact Or.inr rfl)) (by decide)) (ss_one (ss_set (i := 4) sc_law_are_rows_right.nd rfl (by first | exact Or.inl rfl | exact Or.inr rfl) (ee_op op_addA s_add (ee_var (pv 4)) (ee_callTy call_int1 s_int1 (T.fr "int" (by decide)) boot_int (aa_cons (ee_cmp (op_eqD hr.units) s_eq (ee_ix ix_seq s_idx (ee_f C_law_struck hr (by decide) (aa_cons (ee_var (pv 0)) (aa_cons (ee_var (pv 5)) (aa_nil)))) (ee_int) (fun _ _ => rfl)) (ee_int) (nomark _)) (aa_nil))))))) (ss_one (ss_ret (ee_or (ee_cmp (op_eqD hr.units) s_eq (ee_var (pv 2)) (ee_int) (nomark _)) (ee_one (ee_cmp (op_eqD hr.units) s_eq (ee_var (pv 4)) (ee_op op_mulW s_mul (ee_op op_mulW s_mul (ee_int) (ee_var (pv 1))) (ee_f C_law_power hr (by decide) (aa_cons (ee_op op_subA s_sub (ee_op op_mulW s_mul (ee_int) (ee_var (pv 1))) (ee_int)) (aa_cons (ee_op op_subA s_sub (ee_var (pv 2)) (ee_int)) (aa_nil))))) (nomark _))))))))
noncomputable def φ_law_are_rows_right := gzF f_law_are_rows_right
theorem sc_law_are_pairs_right : FnScope ["dice", "r", "most", "every", "turn", "i", "j", "one", "other", "both", "some", "long", "word"] ["dice", "r", "most"] (defScope s_law_are_pairs_right) := ⟨rfl, rfl, rfl, by decide +kernel, rfl, by decide +kernel, by decide +kernel⟩
noncomputable def f_law_are_pairs_right : List D → Sto → Option (D × Sto) := runF 13 (sSeq (sAsg (eCall φ_law_every 2 (aCons (eVar 1) (aCons (eVar 2) (aNil)))) (gNm 3)) (sSeq (sIf (bBl (eOp2 cmpNe (eCall φ_alphabet 1 (aCons (eVar 1) (aNil))) (eOpL tupD (aCons (eCall φ_law_letters 1 (aCons (eVar 1) (aNil))) (aNil))))) (sRet (eC (.bl false))) (sNext)) (sSeq (sFor (iRg1 (aCons (eC (.int 60)) (aNil))) (gNm 4) (sSeq (sPar 5 6 (aCons (eCall φ_law_roll 2 (aCons (eVar 0) (aCons (eOpL lenD (aCons (eVar 3) (aNil))) (aNil)))) (aCons (eCall φ_law_roll 2 (aCons (eVar 0) (aCons (eOpL lenD (aCons (eVar 3) (aNil))) (aNil)))) aNil))) (sSeq (sPar 7 8 (aCons (eOp2 idxD (eVar 3) (eVar 5)) (aCons (eOp2 idxD (eVar 3) (eVar 6)) aNil))) (sSeq (sAsg (eCall φ_law_made 1 (aCons (eFz (fLst (aCons (eVar 7) (aCons (eVar 8) (aNil))))) (aNil))) (gNm 9)) (sSeq (sIf (bOr (bBl (eOp2 cmpNe (eCall φ_product 2 (aCons (eVar 1) (aCons (eTup (aCons (eVar 7) (aCons (eVar 8) (aNil)))) (aNil)))) (eVar 9))) (bBl (eOp2 cmpNe (eOp2 mulD (eC (.int 2)) (eCall φ_loss 3 (aCons (eVar 1) (aCons (eVar 7) (aCons (eVar 8) (aNil)))))) (eOp2 subD (eOp2 addD (eOpL lenD (aCons (eVar 7) (aNil))) (eOpL lenD (aCons (eVar 8) (aNil)))) (eOpL lenD (aCons (eVar 9) (aNil))))))) (sRet (eC (.bl false))) (sNext)) (sIf (bOr (bBl (eOp2 cmpNe (eCall φ_compared 3 (aCons (eVar 1) (aCons (eVar 7) (aCons (eVar 8) (aNil))))) (eOp2 subD (eOp2 cmpGt (eVar 5) (eVar 6)) (eOp2 cmpLt (eVar 5) (eVar 6))))) (bBl (eOp2 cmpNe (eCall φ_do_pass 3 (aCons (eVar 1) (aCons (eVar 7) (aCons (eVar 8) (aNil))))) (eOp2 cmpEq (eVar 9) (eCall φ_law_made 1 (aCons (eFz (fLst (aCons (eVar 8) (aCons (eVar 7) (aNil))))) (aNil))))))) (sRet (eC (.bl false))) (sNext))))))) (sSeq (sAsg (eFz (fLc (iRg1 (aCons (eCall φ_law_roll 2 (aCons (eVar 0) (aCons (eC (.int 15)) (aNil)))) (aNil))) (gNm 4) (bYes) (eCall φ_law_one_of 2 (aCons (eVar 0) (aCons (eVar 3) (aNil)))) [4])) (gNm 10)) (sSeq (sAsg (eFz (fLc (iSeq (eSlc (eVar 10) (oNone) (oSome (eC (.int 5))))) (gNm 12) (bYes) (eOp2 addD (eVar 12) (eTup (aCons (eC (.int 1)) (aCons (eOp1 negD (eC (.int 1))) (aNil))))) [12])) (gNm 11)) (sRet (eOp2 cmpEq (eCall φ_sorted_words 2 (aCons (eVar 1) (aCons (eOpL tupD (aCons (eOp2 addD (eVar 10) (eVar 11)) (aNil))) (aNil)))) (eOpL tupD (aCons (eFz (fLc (iSeq (eVar 3)) (gNm 12) (bBl (eOp2 (inD false) (eVar 12) (eVar 10))) (eVar 12) [12])) (aNil))))))))))
theorem w_law_are_pairs_right {P : Program} {w : World} {K : PySem.W.Frag} {mg : Str → Option Value} {base : Heap} (T : Tx K mg) (C_law_every : Fx P w K mg base 2 "_law_every" 2 φ_law_every) (C_law_letters : Fx P w K mg base 1 "_law_letters" 1 φ_law_letters) (C_law_made : Fx P w K mg base 1 "_law_made" 1 φ_law_made) (C_law_one_of : Fx P w K mg base 2 "_law_one_of" 2 φ_law_one_of) (C_law_roll : Fx P w K mg base 1 "_law_roll" 2 φ_law_roll) (C_alphabet : Fx P w K mg base 5 "alphabet" 1 φ_alphabet) (C_compared : Fx P w K mg base 8 "compared" 3 φ_compared) (C_do_pass : Fx P w K mg base 8 "do_pass" 3 φ_do_pass) (C_loss : Fx P w K mg base 8 "loss" 3 φ_loss) (C_product : Fx P w K mg base 8 "product" 2 φ_product) (C_sorted_words : Fx P w K mg base 8 "sorted_words" 2 φ_sorted_words) : Fx P w K mg base 9 "_law_are_pairs_right" 3 f_law_are_pairs_right := by
  obtain ⟨fd, F⟩ := T.c.def_ 47 (d := d_law_are_pairs_right) rfl
  have F' : FnP K "_law_are_pairs_right" s_law_are_pairs_right _ fd := F
  exact fx_ok (N := ["dice", "r", "most", "every", "turn", "i", "j", "one", "other", "both", "some", "long", "word"]) (ps := ["dice", "r", "most"]) (st := s_law_are_pairs_right) F' sc_law_are_pairs_right rfl (FunD.bindsN F' fun _ _ _ _ _ _ us hl => match us, hl with | [_, _, _], _ => rfl) (T.glo "_law_are_pairs_right" (by decide)) fun cdv A outer s H E hr => ss_cons (ss_set (i := 3) sc_law_are_pairs_right.nd rfl (by first | exact Or.inl rfl | exact Or.inr rfl) (ee_f C_law_every hr (by decide) (aa_cons (ee_var (pv 1)) (aa_cons (ee_var (pv 2)) (aa_nil))))) (ss_cons (ss_if (tt_cmp (op_neD hr.units) s_ne (ee_f C_alphabet hr (by decide) (aa_cons (ee_var (pv 1)) (aa_nil))) (ee_callTy call_tupN s_tupN (T.fr "tuple" (by decide)) boot_tuple (aa_cons (ee_f C_law_letters hr (by decide) (aa_cons (ee_var (pv 1)) (aa_nil))) (aa_nil))) (nomark _)) (ss_one (ss_ret (ee_bl))) (ss_nil)) (ss_cons (ss_for (vs := [4]) PassesOwn.never rfl (ii_rg1 (T.fr "range" (by decide)) (aa_cons (ee_int) (aa_nil))) (gy_name (pg_name (i := 4) sc_law_are_pairs_right.nd rfl (by first | exact Or.inl rfl | exact Or.inr rfl)) (by decide)) (ss_cons (ss_par (i := 5) (j := 6) rfl sc_law_are_pairs_right.nd rfl rfl (by decide) rfl rfl (aa_cons (ee_f C_law_roll hr (by decide) (aa_cons (ee_var (pv 0)) (aa_cons (ee_callB call_len_seq s_len (T.fr "len" (by decide)) (by decide +kernel) (aa_cons (ee_var (pv 3)) (aa_nil))) (aa_nil)))) (aa_cons (ee_f C_law_roll hr (by decide) (aa_cons (ee_var (pv 0)) (aa_cons (ee_callB call_len_seq s_len (T.fr "len" (by decide)) (by decide +kernel) (aa_cons (ee_var (pv 3)) (aa_nil))) (aa_nil)))) aa_nil)) (by rfl)) (ss_cons (ss_par (i := 7) (j := 8) rfl sc_law_are_pairs_right.nd rfl rfl (by decide) rfl rfl (aa_cons (ee_ix ix_seq s_idx (ee_var (pv 3)) (ee_var (pv 5)) (fun _ _ => rfl)) (aa_cons (ee_ix ix_seq s_idx (ee_var (pv 3)) (ee_var (pv 6)) (fun _ _ => rfl)) aa_nil)) (by rfl)) (ss_cons (ss_set (i := 9) sc_law_are_pairs_right.nd rfl (by first | exact Or.inl rfl | exact Or.inr rfl) (ee_f C_law_made hr (by decide) (aa_cons (ee_fz (ff_lst (aa_cons (ee_var (pv 7)) (aa_cons (ee_var (pv 8)) (aa_nil))))) (aa_nil)))) (ss_cons (ss_if (PW.pt (tw_or (tt_cmp (op_neD hr.units) s_ne (ee_f C_product hr (by decide) (aa_cons (ee_var (pv 1)) (aa_cons (ee_tup (aa_cons (ee_var (pv 7)) (aa_cons (ee_var (pv 8)) (aa_nil)))) (aa_nil)))) (ee_var (pv 9)) (nomark _)) (tw_one_or (tt_cmp (op_neD hr.units) s_ne (ee_op op_mulW s_mul (ee_int) (ee_f C_loss hr (by decide) (aa_cons (ee_var (pv 1)) (aa_cons (ee_var (pv 7)) (aa_cons (ee_var (pv 8)) (aa_nil)))))) (ee_op op_subA s_sub (ee_op op_addA s_add (ee_callB call_len_seq s_len (T.fr "len" (by decide)) (by decide +kernel) (aa_cons (ee_var (pv 7)) (aa_nil))) (ee_callB call_len_seq s_len (T.fr "len" (by decide)) (by decide +kernel) (aa_cons (ee_var (pv 8)) (aa_nil)))) (ee_callB call_len_seq s_len (T.fr "len" (by decide)) (by decide +kernel) (aa_cons (ee_var (pv 9)) (aa_nil)))) (nomark _))))) (ss_one (ss_ret (ee_bl))) (ss_nil)) (ss_one (ss_if (PW.pt (tw_or (tt_cmp (op_neD hr.units) s_ne (ee_f C_compared hr (by decide) (aa_cons (ee_var (pv 1)) (aa_cons (ee_var (pv 7)) (aa_cons (ee_var (pv 8)) (aa_nil))))) (ee_op op_subA s_sub (ee_cmp op_gt s_gt (ee_var (pv 5)) (ee_var (pv 6)) (nomark _)) (ee_cmp op_lt s_lt (ee_var (pv 5)) (ee_var (pv 6)) (nomark _))) (nomark _)) (tw_one_or (tt_cmp (op_neD hr.units) s_ne (ee_f C_do_pass hr (by decide) (aa_cons (ee_var (pv 1)) (aa_cons (ee_var (pv 7)) (aa_cons (ee_var (pv 8)) (aa_nil))))) (ee_cmp (op_eqD hr.units) s_eq (ee_var (pv 9)) (ee_f C_law_made hr (by decide) (aa_cons (ee_fz (ff_lst (aa_cons (ee_var (pv 8)) (aa_cons (ee_var (pv 7)) (aa_nil))))) (aa_nil))) (nomark _)) (nomark _))))) (ss_one (ss_ret (ee_bl))) (ss_nil)))))))) (ss_cons (ss_set (i := 10) sc_law_are_pairs_right.nd rfl (by first | exact Or.inl rfl | exact Or.inr rfl) (ee_fz (ff_lc (own := [("turn", 4)]) rfl sc_law_are_pairs_right.nd (ii_rg1 (T.fr "range" (by decide)) (aa_cons (ee_f C_law_roll hr (by decide) (aa_cons (ee_var (pv 0)) (aa_cons (ee_int) (aa_nil)))) (aa_nil))) (blkOk_by (by kernel_rfl)) (fun _ _ _ _ _ => gy_name (pg_name (i := 4) sc_law_are_pairs_right.nd rfl (by first | exact Or.inl rfl | exact Or.inr rfl)) (by decide)) (fun _ _ _ _ _ => pts_of_nil) (fun _ _ _ _ _ => ee_f C_law_one_of hr (by decide) (aa_cons (ee_var (pv 0)) (aa_cons (ee_var (pv 3)) (aa_nil))))))) (ss_cons (ss_setLc (i := 11) (own := [("word", 12)]) rfl sc_law_are_pairs_right.nd rfl rfl (sw_true rfl rfl rfl (by decide +kernel)) (ii_seq (ee_slc (ee_var (pv 10)) (oo_none) (oo_some (ee_int)))) (blkOk_by (by kernel_rfl)) (fun _ _ _ _ _ => gy_name (pg_name (i := 12) sc_law_are_pairs_right.nd rfl (by first | exact Or.inl rfl | exact Or.inr rfl)) (by decide)) (fun _ _ _ _ _ => pts_of_nil) (fun _ _ _ _ _ => ee_op op_addA s_add (ee_var (pv 12)) (ee_tup (aa_cons (ee_int) (aa_cons (ee_un un_neg s_neg (ee_int)) (aa_nil)))))) (ss_one (ss_ret (ee_cmp (op_eqD hr.units) s_eq (ee_f C_sorted_words hr (by decide) (aa_cons (ee_var (pv 1)) (aa_cons (ee_callTy call_tupN s_tupN (T.fr "tuple" (by decide)) boot_tuple (aa_cons (ee_op op_addA s_add (ee_var (pv 10)) (ee_var (pv 11))) (aa_nil))) (aa_nil)))) (ee_callTy call_tupN s_tupN (T.fr "tuple" (by decide)) boot_tuple (aa_cons (ee_fz (ff_lc (own := [("word", 12)]) rfl sc_law_are_pairs_right.nd (ii_seq (ee_var (pv 3))) (blkOk_by (by kernel_rfl)) (fun _ _ _ _ _ => gy_name (pg_name (i := 12) sc_law_are_pairs_right.nd rfl (by first | exact Or.inl rfl | exact Or.inr rfl)) (by decide)) (fun _ _ _ _ _ => pts_of_one (tt_cmp (op_inD (u65 hr)) s_inD (ee_var (pv 12)) (ee_var (pv 10)) (by rfl))) (fun _ _ _ _ _ => ee_var (pv 12)))) (aa_nil))) (nomark _))))))))
noncomputable def φ_law_are_pairs_right := gzF f_law_are_pairs_right
theorem sc_law : FnScope ["script", "at", "dice", "r", "size", "most"] ["script"] (defScope s_law) := ⟨rfl, rfl, rfl, by decide +kernel, rfl, by decide +kernel, by decide +kernel⟩
noncomputable def f_law : List D → Sto → Option (D × Sto) := runF 6 (sSeq (sFor (iRg1 (aCons (eOpL max2D (aCons (eC (.int 1)) (aCons (eOpL min2D (aCons (eC (.int 2)) (aCons (eOpL lenD (aCons (eVar 0) (aNil))) (aNil)))) (aNil)))) (aNil))) (gNm 1) (sSeq (sAsg (eCall φ_law_dice 2 (aCons (eVar 0) (aCons (eVar 1) (aNil)))) (gNm 2)) (sSeq (sAsg (eCall φ_law_one_of 2 (aCons (eVar 2) (aCons (eFz (fLst (aCons (eTup (aCons (eC (.int 1)) (aCons (eC (.int 7)) (aCons (eC (.int 9)) (aNil))))) (aCons (eTup (aCons (eC (.int 2)) (aCons (eC (.int 4)) (aCons (eC (.int 4)) (aNil))))) (aCons (eTup (aCons (eC (.int 2)) (aCons (eC (.int 5)) (aCons (eC (.int 3)) (aNil))))) (aCons (eTup (aCons (eC (.int 3)) (aCons (eC (.int 3)) (aCons (eC (.int 3)) (aNil))))) (aCons (eTup (aCons (eC (.int 4)) (aCons (eC (.int 2)) (aCons (eC (.int 2)) (aNil))))) (aCons (eTup (aCons (eC (.int 4)) (aCons (eC (.int 3)) (aCons (eC (.int 2)) (aNil))))) (aCons (eTup (aCons (eC (.int 3)) (aCons (eC (.int 0)) (aCons (eC (.int 2)) (aNil))))) (aNil)))))))))) (aNil)))) (gTp 3 (gsCons (gNm 3) (gsCons (gNm 4) (gsCons (gNm 5) (gsNil)))))) (sIf (bOr (bNot (bTru (eCall φ_law_are_rows_right 3 (aCons (eVar 2) (aCons (eVar 3) (aCons (eVar 4) (aNil))))))) (bNot (bTru (eCall φ_law_are_pairs_right 3 (aCons (eVar 2) (aCons (eVar 3) (aCons (eVar 5) (aNil)))))))) (sRet (eC (.bl false))) (sNext))))) (sRet (eC (.bl true))))
theorem w_law {P : Program} {w : World} {K : PySem.W.Frag} {mg : Str → Option Value} {base : Heap} (T : Tx K mg) (C_law_are_pairs_right : Fx P w K mg base 9 "_law_are_pairs_right" 3 φ_law_are_pairs_right) (C_law_are_rows_right : Fx P w K mg base 9 "_law_are_rows_right" 3 φ_law_are_rows_right) (C_law_dice : Fx P w K mg base 1 "_law_dice" 2 φ_law_dice) (C_law_one_of : Fx P w K mg base 2 "_law_one_of" 2 φ_law_one_of) : Fx P w K mg base 10 "law" 1 f_law := by
  obtain ⟨fd, F⟩ := T.c.def_ 48 (d := d_law) rfl
  have F' : FnP K "law" s_law _ fd := F
  exact fx_ok (N := ["script", "at", "dice", "r", "size", "most"]) (ps := ["script"]) (st := s_law) F' sc_law rfl (FunD.bindsN F' fun _ _ _ _ _ _ us hl => match us, hl with | [_], _ => rfl) (T.glo "law" (by decide)) fun cdv A outer s H E hr => ss_cons (ss_for (vs := [1]) PassesOwn.never rfl (ii_rg1 (T.fr "range" (by decide)) (aa_cons (ee_callB (call_max2 rfl) s_max2 (T.fr "max" (by decide)) (by decide +kernel) (aa_cons (ee_int) (aa_cons (ee_callB (call_min2 rfl) s_min2 (T.fr "min" (by decide)) (by decide +kernel) (aa_cons (ee_int) (aa_cons (ee_callB call_len_seq s_len (T.fr "len" (by decide)) (by decide +kernel) (aa_cons (ee_var (pv 0)) (aa_nil))) (aa_nil)))) (aa_nil)))) (aa_nil))) (gy_name (pg_name (i := 1) sc_law.nd rfl (by first | exact Or.inl rfl | exact Or.inr rfl)) (by decide)) (ss_cons (ss_set (i := 2) sc_law.nd rfl (by first | exact Or.inl rfl | exact Or.inr rfl) (ee_f C_law_dice hr (by decide) (aa_cons (ee_var (pv 0)) (aa_cons (ee_var (pv 1)) (aa_nil))))) (ss_cons (ss_asg (ee_f C_law_one_of hr (by decide) (aa_cons (ee_var (pv 2)) (aa_cons (ee_fz (ff_lst (aa_cons (ee_tup (aa_cons (ee_int) (aa_cons (ee_int) (aa_cons (ee_int) (aa_nil))))) (aa_cons (ee_tup (aa_cons (ee_int) (aa_cons (ee_int) (aa_cons (ee_int) (aa_nil))))) (aa_cons (ee_tup (aa_cons (ee_int) (aa_cons (ee_int) (aa_cons (ee_int) (aa_nil))))) (aa_cons (ee_tup (aa_cons (ee_int) (aa_cons (ee_int) (aa_cons (ee_int) (aa_nil))))) (aa_cons (ee_tup (aa_cons (ee_int) (aa_cons (ee_int) (aa_cons (ee_int) (aa_nil))))) (aa_cons (ee_tup (aa_cons (ee_int) (aa_cons (ee_int) (aa_cons (ee_int) (aa_nil))))) (aa_cons (ee_tup (aa_cons (ee_int) (aa_cons (ee_int) (aa_cons (ee_int) (aa_nil))))) (aa_nil)))))))))) (aa_nil)))) (gg_tup rfl (ggs_cons (gg_name (pg_name (i := 3) sc_law.nd rfl (by first | exact Or.inl rfl | exact Or.inr rfl))) (ggs_cons (gg_name (pg_name (i := 4) sc_law.nd rfl (by first | exact Or.inl rfl | exact Or.inr rfl))) (ggs_cons (gg_name (pg_name (i := 5) sc_law.nd rfl (by first | exact Or.inl rfl | exact Or.inr rfl))) (ggs_nil)))))) (ss_one (ss_if (PW.pt (tw_or (tt_not (tt_truth (ee_f C_law_are_rows_right hr (by decide) (aa_cons (ee_var (pv 2)) (aa_cons (ee_var (pv 3)) (aa_cons (ee_var (pv 4)) (aa_nil))))))) (tw_one_or (tt_not (tt_truth (ee_f C_law_are_pairs_right hr (by decide) (aa_cons (ee_var (pv 2)) (aa_cons (ee_var (pv 3)) (aa_cons (ee_var (pv 5)) (aa_nil)))))))))) (ss_one (ss_ret (ee_bl))) (ss_nil)))))) (ss_one (ss_ret (ee_bl)))
noncomputable def φ_law := gzF f_law
theorem k_law {P : Program} {w : World} {K : PySem.W.Frag} {mg : Str → Option Value} {base : Heap} (T : Tx K mg) (C_law_are_pairs_right : Fx P w K mg base 9 "_law_are_pairs_right" 3 φ_law_are_pairs_right) (C_law_are_rows_right : Fx P w K mg base 9 "_law_are_rows_right" 3 φ_law_are_rows_right) (C_law_dice : Fx P w K mg base 1 "_law_dice" 2 φ_law_dice) (C_law_one_of : Fx P w K mg base 2 "_law_one_of" 2 φ_law_one_of) {fd : FuncData} (F : FnP K "law" s_law (He.fAd K d_law.at_) fd) : FnOk P w K mg base CX0 10 (He.fAd K d_law.at_) fd ["script"] (spF 1 f_law) :=
  fn_ok (N := ["script", "at", "dice", "r", "size", "most"]) (ps := ["script"]) (st := s_law) F sc_law rfl fun cdv A outer s H E hr => ss_cons (ss_for (vs := [1]) PassesOwn.never rfl (ii_rg1 (T.fr "range" (by decide)) (aa_cons (ee_callB (call_max2 rfl) s_max2 (T.fr "max" (by decide)) (by decide +kernel) (aa_cons (ee_int) (aa_cons (ee_callB (call_min2 rfl) s_min2 (T.fr "min" (by decide)) (by decide +kernel) (aa_cons (ee_int) (aa_cons (ee_callB call_len_seq s_len (T.fr "len" (by decide)) (by decide +kernel) (aa_cons (ee_var (pv 0)) (aa_nil))) (aa_nil)))) (aa_nil)))) (aa_nil))) (gy_name (pg_name (i := 1) sc_law.nd rfl (by first | exact Or.inl rfl | exact Or.inr rfl)) (by decide)) (ss_cons (ss_set (i := 2) sc_law.nd rfl (by first | exact Or.inl rfl | exact Or.inr rfl) (ee_f C_law_dice hr (by decide) (aa_cons (ee_var (pv 0)) (aa_cons (ee_var (pv 1)) (aa_nil))))) (ss_cons (ss_asg (ee_f C_law_one_of hr (by decide) (aa_cons (ee_var (pv 2)) (aa_cons (ee_fz (ff_lst (aa_cons (ee_tup (aa_cons (ee_int) (aa_cons (ee_int) (aa_cons (ee_int) (aa_nil))))) (aa_cons (ee_tup (aa_cons (ee_int) (aa_cons (ee_int) (aa_cons (ee_int) (aa_nil))))) (aa_cons (ee_tup (aa_cons (ee_int) (aa_cons (ee_int) (aa_cons (ee_int) (aa_nil))))) (aa_cons (ee_tup (aa_cons (ee_int) (aa_cons (ee_int) (aa_cons (ee_int) (aa_nil))))) (aa_cons (ee_tup (aa_cons (ee_int) (aa_cons (ee_int) (aa_cons (ee_int) (aa_nil))))) (aa_cons (ee_tup (aa_cons (ee_int) (aa_cons (ee_int) (aa_cons (ee_int) (aa_nil))))) (aa_cons (ee_tup (aa_cons (ee_int) (aa_cons (ee_int) (aa_cons (ee_int) (aa_nil))))) (aa_nil)))))))))) (aa_nil)))) (gg_tup rfl (ggs_cons (gg_name (pg_name (i := 3) sc_law.nd rfl (by first | exact Or.inl rfl | exact Or.inr rfl))) (ggs_cons (gg_name (pg_name (i := 4) sc_law.nd rfl (by first | exact Or.inl rfl | exact Or.inr rfl))) (ggs_cons (gg_name (pg_name (i := 5) sc_law.nd rfl (by first | exact Or.inl rfl | exact Or.inr rfl))) (ggs_nil)))))) (ss_one (ss_if (PW.pt (tw_or (tt_not (tt_truth (ee_f C_law_are_rows_right hr (by decide) (aa_cons (ee_var (pv 2)) (aa_cons (ee_var (pv 3)) (aa_cons (ee_var (pv 4)) (aa_nil))))))) (tw_one_or (tt_not (tt_truth (ee_f C_law_are_pairs_right hr (by decide) (aa_cons (ee_var (pv 2)) (aa_cons (ee_var (pv 3)) (aa_cons (ee_var (pv 5)) (aa_nil)))))))))) (ss_one (ss_ret (ee_bl))) (ss_nil)))))) (ss_one (ss_ret (ee_bl)))
theorem x_law {P : Program} {w : World} {K : PySem.W.Frag} {mg : Str → Option Value} {base : Heap} (T : Tx K mg) {fd : FuncData} (F : FnP K "law" s_law (He.fAd K d_law.at_) fd) : FnOk P w K mg base CX0 10 (He.fAd K d_law.at_) fd ["script"] (spF 1 φ_law) := by
  have X_is_whole : Fx P w K mg base 1 "is_whole" 1 φ_is_whole := (w_is_whole (P := P) (w := w) (base := base) T).gz
  have X_letters_in : Fx P w K mg base 1 "letters_in" 1 φ_letters_in := (w_letters_in (P := P) (w := w) (base := base) T).gz
  have X_shortened_in : Fx P w K mg base 1 "shortened_in" 1 φ_shortened_in := (w_shortened_in (P := P) (w := w) (base := base) T).gz
  have X_undone_in : Fx P w K mg base 1 "undone_in" 1 φ_undone_in := (w_undone_in (P := P) (w := w) (base := base) T).gz
  have X_product_in : Fx P w K mg base 1 "product_in" 1 φ_product_in := (w_product_in (P := P) (w := w) (base := base) T).gz
  have X_lost_in : Fx P w K mg base 1 "lost_in" 2 φ_lost_in := (w_lost_in (P := P) (w := w) (base := base) T).gz
  have X_counts_in : Fx P w K mg base 1 "counts_in" 2 φ_counts_in := (w_counts_in (P := P) (w := w) (base := base) T).gz
  have X_place_of_letter : Fx P w K mg base 1 "place_of_letter" 1 φ_place_of_letter := (w_place_of_letter (P := P) (w := w) (base := base) T).gz
  have X_is_short_in : Fx P w K mg base 1 "is_short_in" 1 φ_is_short_in := (w_is_short_in (P := P) (w := w) (base := base) T).gz
  have X_law_dice : Fx P w K mg base 1 "_law_dice" 2 φ_law_dice := (w_law_dice (P := P) (w := w) (base := base) T)
  have X_law_roll : Fx P w K mg base 1 "_law_roll" 2 φ_law_roll := (w_law_roll (P := P) (w := w) (base := base) T).gz
  have X_law_made : Fx P w K mg base 1 "_law_made" 1 φ_law_made := (w_law_made (P := P) (w := w) (base := base) T).gz
  have X_law_undone : Fx P w K mg base 1 "_law_undone" 1 φ_law_undone := (w_law_undone (P := P) (w := w) (base := base) T).gz
  have X_law_letters : Fx P w K mg base 1 "_law_letters" 1 φ_law_letters := (w_law_letters (P := P) (w := w) (base := base) T).gz
  have X_law_power : Fx P w K mg base 1 "_law_power" 2 φ_law_power := (w_law_power (P := P) (w := w) (base := base) T).gz
  have X_is_near : Fx P w K mg base 2 "is_near" 1 φ_is_near := (w_is_near (P := P) (w := w) (base := base) T X_is_whole).gz
  have X_is_within : Fx P w K mg base 2 "is_within" 3 φ_is_within := (w_is_within (P := P) (w := w) (base := base) T X_is_whole).gz
  have X_sequence_key : Fx P w K mg base 2 "sequence_key" 1 φ_sequence_key := (w_sequence_key (P := P) (w := w) (base := base) T X_place_of_letter).gz
  have X_law_one_of : Fx P w K mg base 2 "_law_one_of" 2 φ_law_one_of := (w_law_one_of (P := P) (w := w) (base := base) T X_law_roll).gz
  have X_law_every : Fx P w K mg base 2 "_law_every" 2 φ_law_every := (w_law_every (P := P) (w := w) (base := base) T X_law_letters).gz
  have X_law_mixed : Fx P w K mg base 2 "_law_mixed" 2 φ_law_mixed := (w_law_mixed (P := P) (w := w) (base := base) T X_law_roll).gz
  have X_law_rows : Fx P w K mg base 2 "_law_rows" 2 φ_law_rows := (w_law_rows (P := P) (w := w) (base := base) T X_law_letters).gz
  have X_require_number : Fx P w K mg base 3 "require_number" 3 φ_require_number := (w_require_number (P := P) (w := w) (base := base) T X_is_near).gz
  have X_is_letter_in : Fx P w K mg base 3 "is_letter_in" 2 φ_is_letter_in := (w_is_letter_in (P := P) (w := w) (base := base) T X_is_within).gz
  have X_law_struck : Fx P w K mg base 3 "_law_struck" 2 φ_law_struck := (w_law_struck (P := P) (w := w) (base := base) T X_law_one_of).gz
  have X_is_word_in : Fx P w K mg base 4 "is_word_in" 2 φ_is_word_in := (w_is_word_in (P := P) (w := w) (base := base) T X_is_letter_in).gz
  have X_require_letters : Fx P w K mg base 4 "require_letters" 1 φ_require_letters := (w_require_letters (P := P) (w := w) (base := base) T X_require_number).gz
  have X_are_words_in : Fx P w K mg base 5 "are_words_in" 2 φ_are_words_in := (w_are_words_in (P := P) (w := w) (base := base) T X_is_word_in).gz
  have X_require_word : Fx P w K mg base 5 "require_word" 2 φ_require_word := (w_require_word (P := P) (w := w) (base := base) T X_is_word_in).gz
  have X_is_word : Fx P w K mg base 5 "is_word" 2 φ_is_word := (w_is_word (P := P) (w := w) (base := base) T X_is_word_in X_require_letters).gz
  have X_is_short : Fx P w K mg base 5 "is_short" 2 φ_is_short := (w_is_short (P := P) (w := w) (base := base) T X_is_short_in X_is_word_in X_require_letters).gz
  have X_alphabet : Fx P w K mg base 5 "alphabet" 1 φ_alphabet := (w_alphabet (P := P) (w := w) (base := base) T X_letters_in X_require_letters).gz
  have X_require_words : Fx P w K mg base 6 "require_words" 2 φ_require_words := (w_require_words (P := P) (w := w) (base := base) T X_are_words_in).gz
  have X_require_told_word : Fx P w K mg base 6 "require_told_word" 2 φ_require_told_word := (w_require_told_word (P := P) (w := w) (base := base) T X_require_letters X_require_word).gz
  have X_require_two_words : Fx P w K mg base 7 "require_two_words" 3 φ_require_two_words := (w_require_two_words (P := P) (w := w) (base := base) T X_require_told_word X_require_word).gz
  have X_require_told_words : Fx P w K mg base 7 "require_told_words" 2 φ_require_told_words := (w_require_told_words (P := P) (w := w) (base := base) T X_require_letters X_require_words).gz
  have X_shortened : Fx P w K mg base 7 "shortened" 2 φ_shortened := (w_shortened (P := P) (w := w) (base := base) T X_require_told_word X_shortened_in).gz
  have X_undoing : Fx P w K mg base 7 "undoing" 2 φ_undoing := (w_undoing (P := P) (w := w) (base := base) T X_require_told_word X_shortened_in X_undone_in).gz
  have X_counts_of : Fx P w K mg base 7 "counts_of" 2 φ_counts_of := (w_counts_of (P := P) (w := w) (base := base) T X_counts_in X_require_told_word).gz
  have X_strikes : Fx P w K mg base 7 "strikes" 2 φ_strikes := (w_strikes (P := P) (w := w) (base := base) T X_require_told_word X_shortened_in).gz
  have X_product : Fx P w K mg base 8 "product" 2 φ_product := (w_product (P := P) (w := w) (base := base) T X_product_in X_require_told_words).gz
  have X_are_equal : Fx P w K mg base 8 "are_equal" 3 φ_are_equal := (w_are_equal (P := P) (w := w) (base := base) T X_require_two_words X_shortened_in).gz
  have X_loss : Fx P w K mg base 8 "loss" 3 φ_loss := (w_loss (P := P) (w := w) (base := base) T X_lost_in X_require_two_words X_shortened_in).gz
  have X_do_pass : Fx P w K mg base 8 "do_pass" 3 φ_do_pass := (w_do_pass (P := P) (w := w) (base := base) T X_product_in X_require_two_words).gz
  have X_compared : Fx P w K mg base 8 "compared" 3 φ_compared := (w_compared (P := P) (w := w) (base := base) T X_require_two_words X_sequence_key X_shortened_in).gz
  have X_sorted_words : Fx P w K mg base 8 "sorted_words" 2 φ_sorted_words := (w_sorted_words (P := P) (w := w) (base := base) T X_require_told_words X_sequence_key X_shortened_in).gz
  have X_law_are_rows_right : Fx P w K mg base 9 "_law_are_rows_right" 3 φ_law_are_rows_right := (w_law_are_rows_right (P := P) (w := w) (base := base) T X_law_made X_law_mixed X_law_one_of X_law_power X_law_rows X_law_struck X_law_undone X_are_equal X_counts_of X_is_short X_is_word X_shortened X_strikes X_undoing).gz
  have X_law_are_pairs_right : Fx P w K mg base 9 "_law_are_pairs_right" 3 φ_law_are_pairs_right := (w_law_are_pairs_right (P := P) (w := w) (base := base) T X_law_every X_law_letters X_law_made X_law_one_of X_law_roll X_alphabet X_compared X_do_pass X_loss X_product X_sorted_words).gz
  exact fn_gz (k_law (P := P) (w := w) (base := base) T X_law_are_pairs_right X_law_are_rows_right X_law_dice X_law_one_of F)
end Hx
namespace Hx
open PySem PySem.Spec PyProof.Rows L2 PU
def okL (r i : Int) : Prop := -r ≤ i ∧ i ≤ r ∧ i ≠ 0
def okW (r : Int) (w : List Int) : Prop := ∀ i ∈ w, okL r i
def psh (acc : List Int) (x : Int) : List Int := if acc.getLast? = some (-x) then acc.dropLast else acc ++ [x]
def red (w : List Int) : List Int := w.foldl psh []
def und (w : List Int) : List Int := w.reverse.map fun i => -i
theorem isi_ii {i : Int} {S : Sto} : isiD "int" (.int i) S = some (.bl true, S) := by kernel_rfl
theorem isi_ib {i : Int} {S : Sto} : isiD "bool" (.int i) S = some (.bl false, S) := by kernel_rfl
theorem isi_tt {ds : List D} {S : Sto} : isiD "tuple" (.tup ds) S = some (.bl true, S) := by kernel_rfl
theorem isi_tw {w : List Int} {S : Sto} : isiD "tuple" (wD w) S = some (.bl true, S) := isi_tt
theorem tru_b {b : Bool} {S : Sto} : truD (.bl b) S = some b := rfl
theorem is_ni {i : Int} {n : Bool} {S : Sto} : isD n (.int i) .non S = some (.bl (xor n false), S) := rfl
theorem p_is_whole (i : Int) (S : Sto) : φ_is_whole [.int i] S = some (.bl true, S) := by
  refine gz_pure0 ?_ rfl
  unfold f_is_whole
  simp only [ap_wipe, ap_wipe0, ap_runF, ap_seq, ap_next, ap_expr, ap_ret, ap_if, ap_asg, ap_par, ap_aug, ap_nm, ap_tp, ap_gnil, ap_gcons, ap_gix, ap_var, ap_c, ap_op1, ap_op2, ap_opL, ap_anil, ap_acons, ap_tup, ap_lst, ap_fz, ap_new, ap_call, ap_mth, ap_bl, ap_tru, ap_bnot, ap_band, ap_bor, ap_and, ap_or, ap_not, ap_eif, ap_for, ap_lc, ap_rg1, ap_rg2, ap_zp, ap_iseq, ap_slc, ap_onone, ap_osome, ap_chain, ap_lstof, ap_suml, bnd_some, bnd_none, List.map_cons, List.map_nil, List.length_cons, List.length_nil, List.replicate_succ, List.replicate_zero, List.cons_append, List.nil_append, List.append_nil, List.getElem?_cons_zero, List.getElem?_cons_succ, List.set_cons_zero, List.set_cons_succ, Nat.reduceSub, Nat.reduceAdd, Nat.reduceLeDiff, Nat.reduceEqDiff, Nat.zero_add, if_true, if_false, reduceIte, reduceCtorEq, Bool.false_eq_true, Bool.not_true, Bool.not_false, decide_true, decide_false, Nat.sub_self, Nat.sub_zero, Nat.zero_le, Nat.le_refl, gt_i, ge_i, lt_i, le_i, eq_i, ne_i, eq_b, ne_b, add_i, sub_i, neg_i, addI_i, eq_w, ne_w, rev_w, len_w, get_new, set_new, isi_ii, isi_ib, tru_b]
theorem p_is_near (i : Int) (S : Sto) (h : -1000000 < i ∧ i < 1000000) : φ_is_near [.int i] S = some (.bl true, S) := by
  refine gz_pure0 ?_ rfl
  unfold f_is_near
  simp only [ap_wipe, ap_wipe0, ap_runF, ap_seq, ap_next, ap_expr, ap_ret, ap_if, ap_asg, ap_par, ap_aug, ap_nm, ap_tp, ap_gnil, ap_gcons, ap_gix, ap_var, ap_c, ap_op1, ap_op2, ap_opL, ap_anil, ap_acons, ap_tup, ap_lst, ap_fz, ap_new, ap_call, ap_mth, ap_bl, ap_tru, ap_bnot, ap_band, ap_bor, ap_and, ap_or, ap_not, ap_eif, ap_for, ap_lc, ap_rg1, ap_rg2, ap_zp, ap_iseq, ap_slc, ap_onone, ap_osome, ap_chain, ap_lstof, ap_suml, bnd_some, bnd_none, List.map_cons, List.map_nil, List.length_cons, List.length_nil, List.replicate_succ, List.replicate_zero, List.cons_append, List.nil_append, List.append_nil, List.getElem?_cons_zero, List.getElem?_cons_succ, List.set_cons_zero, List.set_cons_succ, Nat.reduceSub, Nat.reduceAdd, Nat.reduceLeDiff, Nat.reduceEqDiff, Nat.zero_add, if_true, if_false, reduceIte, reduceCtorEq, Bool.false_eq_true, Bool.not_true, Bool.not_false, decide_true, decide_false, Nat.sub_self, Nat.sub_zero, Nat.zero_le, Nat.le_refl, gt_i, ge_i, lt_i, le_i, eq_i, ne_i, eq_b, ne_b, add_i, sub_i, neg_i, addI_i, eq_w, ne_w, rev_w, len_w, get_new, set_new, p_is_whole, tru_b]
  rw [decide_eq_true (by omega), decide_eq_true (by omega)]
  rfl
theorem p_is_within (i a b : Int) (S : Sto) : φ_is_within [.int i, .int a, .int b] S = some (.bl (decide (a ≤ i) && decide (i ≤ b)), S) := by
  refine gz_pure0 ?_ rfl
  unfold f_is_within
  simp only [ap_wipe, ap_wipe0, ap_runF, ap_seq, ap_next, ap_expr, ap_ret, ap_if, ap_asg, ap_par, ap_aug, ap_nm, ap_tp, ap_gnil, ap_gcons, ap_gix, ap_var, ap_c, ap_op1, ap_op2, ap_opL, ap_anil, ap_acons, ap_tup, ap_lst, ap_fz, ap_new, ap_call, ap_mth, ap_bl, ap_tru, ap_bnot, ap_band, ap_bor, ap_and, ap_or, ap_not, ap_eif, ap_for, ap_lc, ap_rg1, ap_rg2, ap_zp, ap_iseq, ap_slc, ap_onone, ap_osome, ap_chain, ap_lstof, ap_suml, bnd_some, bnd_none, List.map_cons, List.map_nil, List.length_cons, List.length_nil, List.replicate_succ, List.replicate_zero, List.cons_append, List.nil_append, List.append_nil, List.getElem?_cons_zero, List.getElem?_cons_succ, List.set_cons_zero, List.set_cons_succ, Nat.reduceSub, Nat.reduceAdd, Nat.reduceLeDiff, Nat.reduceEqDiff, Nat.zero_add, if_true, if_false, reduceIte, reduceCtorEq, Bool.false_eq_true, Bool.not_true, Bool.not_false, decide_true, decide_false, Nat.sub_self, Nat.sub_zero, Nat.zero_le, Nat.le_refl, gt_i, ge_i, lt_i, le_i, eq_i, ne_i, eq_b, ne_b, add_i, sub_i, neg_i, addI_i, eq_w, ne_w, rev_w, len_w, get_new, set_new, p_is_whole, tru_b]
  cases decide (a ≤ i) <;> simp only [ap_wipe, ap_wipe0, ap_runF, ap_seq, ap_next, ap_expr, ap_ret, ap_if, ap_asg, ap_par, ap_aug, ap_nm, ap_tp, ap_gnil, ap_gcons, ap_gix, ap_var, ap_c, ap_op1, ap_op2, ap_opL, ap_anil, ap_acons, ap_tup, ap_lst, ap_fz, ap_new, ap_call, ap_mth, ap_bl, ap_tru, ap_bnot, ap_band, ap_bor, ap_and, ap_or, ap_not, ap_eif, ap_for, ap_lc, ap_rg1, ap_rg2, ap_zp, ap_iseq, ap_slc, ap_onone, ap_osome, ap_chain, ap_lstof, ap_suml, bnd_some, bnd_none, List.map_cons, List.map_nil, List.length_cons, List.length_nil, List.replicate_succ, List.replicate_zero, List.cons_append, List.nil_append, List.append_nil, List.getElem?_cons_zero, List.getElem?_cons_succ, List.set_cons_zero, List.set_cons_succ, Nat.reduceSub, Nat.reduceAdd, Nat.reduceLeDiff, Nat.reduceEqDiff, Nat.zero_add, if_true, if_false, reduceIte, reduceCtorEq, Bool.false_eq_true, Bool.not_true, Bool.not_false, decide_true, decide_false, Nat.sub_self, Nat.sub_zero, Nat.zero_le, Nat.le_refl, gt_i, ge_i, lt_i, le_i, eq_i, ne_i, eq_b, ne_b, add_i, sub_i, neg_i, addI_i, eq_w, ne_w, rev_w, len_w, get_new, set_new, Bool.true_and, Bool.false_and]
theorem p_is_letter_in (r i : Int) (S : Sto) : φ_is_letter_in [.int r, .int i] S = some (.bl ((decide (-r ≤ i) && decide (i ≤ r)) && !decide (i = 0)), S) := by
  refine gz_pure0 ?_ rfl
  unfold f_is_letter_in
  simp only [ap_wipe, ap_wipe0, ap_runF, ap_seq, ap_next, ap_expr, ap_ret, ap_if, ap_asg, ap_par, ap_aug, ap_nm, ap_tp, ap_gnil, ap_gcons, ap_gix, ap_var, ap_c, ap_op1, ap_op2, ap_opL, ap_anil, ap_acons, ap_tup, ap_lst, ap_fz, ap_new, ap_call, ap_mth, ap_bl, ap_tru, ap_bnot, ap_band, ap_bor, ap_and, ap_or, ap_not, ap_eif, ap_for, ap_lc, ap_rg1, ap_rg2, ap_zp, ap_iseq, ap_slc, ap_onone, ap_osome, ap_chain, ap_lstof, ap_suml, bnd_some, bnd_none, List.map_cons, List.map_nil, List.length_cons, List.length_nil, List.replicate_succ, List.replicate_zero, List.cons_append, List.nil_append, List.append_nil, List.getElem?_cons_zero, List.getElem?_cons_succ, List.set_cons_zero, List.set_cons_succ, Nat.reduceSub, Nat.reduceAdd, Nat.reduceLeDiff, Nat.reduceEqDiff, Nat.zero_add, if_true, if_false, reduceIte, reduceCtorEq, Bool.false_eq_true, Bool.not_true, Bool.not_false, decide_true, decide_false, Nat.sub_self, Nat.sub_zero, Nat.zero_le, Nat.le_refl, gt_i, ge_i, lt_i, le_i, eq_i, ne_i, eq_b, ne_b, add_i, sub_i, neg_i, addI_i, eq_w, ne_w, rev_w, len_w, get_new, set_new, p_is_within, tru_b]
  cases (decide (-r ≤ i) && decide (i ≤ r)) <;> simp only [ap_wipe, ap_wipe0, ap_runF, ap_seq, ap_next, ap_expr, ap_ret, ap_if, ap_asg, ap_par, ap_aug, ap_nm, ap_tp, ap_gnil, ap_gcons, ap_gix, ap_var, ap_c, ap_op1, ap_op2, ap_opL, ap_anil, ap_acons, ap_tup, ap_lst, ap_fz, ap_new, ap_call, ap_mth, ap_bl, ap_tru, ap_bnot, ap_band, ap_bor, ap_and, ap_or, ap_not, ap_eif, ap_for, ap_lc, ap_rg1, ap_rg2, ap_zp, ap_iseq, ap_slc, ap_onone, ap_osome, ap_chain, ap_lstof, ap_suml, bnd_some, bnd_none, List.map_cons, List.map_nil, List.length_cons, List.length_nil, List.replicate_succ, List.replicate_zero, List.cons_append, List.nil_append, List.append_nil, List.getElem?_cons_zero, List.getElem?_cons_succ, List.set_cons_zero, List.set_cons_succ, Nat.reduceSub, Nat.reduceAdd, Nat.reduceLeDiff, Nat.reduceEqDiff, Nat.zero_add, if_true, if_false, reduceIte, reduceCtorEq, Bool.false_eq_true, Bool.not_true, Bool.not_false, decide_true, decide_false, Nat.sub_self, Nat.sub_zero, Nat.zero_le, Nat.le_refl, gt_i, ge_i, lt_i, le_i, eq_i, ne_i, eq_b, ne_b, add_i, sub_i, neg_i, addI_i, eq_w, ne_w, rev_w, len_w, get_new, set_new, Bool.true_and, Bool.false_and]
theorem p_require_number (i a b : Int) (S : Sto) (h : -1000000 < i ∧ i < 1000000) (h1 : a ≤ i) (h2 : i ≤ b) : φ_require_number [.int i, .int a, .int b] S = some (.non, S) := by
  refine gz_pure0 ?_ rfl
  unfold f_require_number
  simp only [ap_wipe, ap_wipe0, ap_runF, ap_seq, ap_next, ap_expr, ap_ret, ap_if, ap_asg, ap_par, ap_aug, ap_nm, ap_tp, ap_gnil, ap_gcons, ap_gix, ap_var, ap_c, ap_op1, ap_op2, ap_opL, ap_anil, ap_acons, ap_tup, ap_lst, ap_fz, ap_new, ap_call, ap_mth, ap_bl, ap_tru, ap_bnot, ap_band, ap_bor, ap_and, ap_or, ap_not, ap_eif, ap_for, ap_lc, ap_rg1, ap_rg2, ap_zp, ap_iseq, ap_slc, ap_onone, ap_osome, ap_chain, ap_lstof, ap_suml, bnd_some, bnd_none, List.map_cons, List.map_nil, List.length_cons, List.length_nil, List.replicate_succ, List.replicate_zero, List.cons_append, List.nil_append, List.append_nil, List.getElem?_cons_zero, List.getElem?_cons_succ, List.set_cons_zero, List.set_cons_succ, Nat.reduceSub, Nat.reduceAdd, Nat.reduceLeDiff, Nat.reduceEqDiff, Nat.zero_add, if_true, if_false, reduceIte, reduceCtorEq, Bool.false_eq_true, Bool.not_true, Bool.not_false, decide_true, decide_false, Nat.sub_self, Nat.sub_zero, Nat.zero_le, Nat.le_refl, gt_i, ge_i, lt_i, le_i, eq_i, ne_i, eq_b, ne_b, add_i, sub_i, neg_i, addI_i, eq_w, ne_w, rev_w, len_w, get_new, set_new, p_is_near i S h, tru_b, is_ni, Bool.xor_false]
  rw [decide_eq_false (by omega : ¬ i < a), decide_eq_false (by omega : ¬ b < i)]
  rfl
theorem p_require_letters (r : Int) (S : Sto) (h : 1 ≤ r ∧ r ≤ 4) : φ_require_letters [.int r] S = some (.non, S) := by
  refine gz_pure0 ?_ rfl
  unfold f_require_letters
  simp only [ap_wipe, ap_wipe0, ap_runF, ap_seq, ap_next, ap_expr, ap_ret, ap_if, ap_asg, ap_par, ap_aug, ap_nm, ap_tp, ap_gnil, ap_gcons, ap_gix, ap_var, ap_c, ap_op1, ap_op2, ap_opL, ap_anil, ap_acons, ap_tup, ap_lst, ap_fz, ap_new, ap_call, ap_mth, ap_bl, ap_tru, ap_bnot, ap_band, ap_bor, ap_and, ap_or, ap_not, ap_eif, ap_for, ap_lc, ap_rg1, ap_rg2, ap_zp, ap_iseq, ap_slc, ap_onone, ap_osome, ap_chain, ap_lstof, ap_suml, bnd_some, bnd_none, List.map_cons, List.map_nil, List.length_cons, List.length_nil, List.replicate_succ, List.replicate_zero, List.cons_append, List.nil_append, List.append_nil, List.getElem?_cons_zero, List.getElem?_cons_succ, List.set_cons_zero, List.set_cons_succ, Nat.reduceSub, Nat.reduceAdd, Nat.reduceLeDiff, Nat.reduceEqDiff, Nat.zero_add, if_true, if_false, reduceIte, reduceCtorEq, Bool.false_eq_true, Bool.not_true, Bool.not_false, decide_true, decide_false, Nat.sub_self, Nat.sub_zero, Nat.zero_le, Nat.le_refl, gt_i, ge_i, lt_i, le_i, eq_i, ne_i, eq_b, ne_b, add_i, sub_i, neg_i, addI_i, eq_w, ne_w, rev_w, len_w, get_new, set_new, p_require_number r 1 4 S (by omega) h.1 h.2]
theorem p_is_word_in (r : Int) (w : List Int) (S : Sto) (hl : w.length ≤ 400) (h : okW r w) : φ_is_word_in [.int r, wD w] S = some (.bl true, S) := by
  refine gz_pure0 ?_ rfl
  unfold f_is_word_in
  simp only [ap_wipe, ap_wipe0, ap_runF, ap_seq, ap_next, ap_expr, ap_ret, ap_if, ap_asg, ap_par, ap_aug, ap_nm, ap_tp, ap_gnil, ap_gcons, ap_gix, ap_var, ap_c, ap_op1, ap_op2, ap_opL, ap_anil, ap_acons, ap_tup, ap_lst, ap_fz, ap_new, ap_call, ap_mth, ap_bl, ap_tru, ap_bnot, ap_band, ap_bor, ap_and, ap_or, ap_not, ap_eif, ap_for, ap_lc, ap_rg1, ap_rg2, ap_zp, ap_iseq, ap_slc, ap_onone, ap_osome, ap_chain, ap_lstof, ap_suml, bnd_some, bnd_none, List.map_cons, List.map_nil, List.length_cons, List.length_nil, List.replicate_succ, List.replicate_zero, List.cons_append, List.nil_append, List.append_nil, List.getElem?_cons_zero, List.getElem?_cons_succ, List.set_cons_zero, List.set_cons_succ, Nat.reduceSub, Nat.reduceAdd, Nat.reduceLeDiff, Nat.reduceEqDiff, Nat.zero_add, if_true, if_false, reduceIte, reduceCtorEq, Bool.false_eq_true, Bool.not_true, Bool.not_false, decide_true, decide_false, Nat.sub_self, Nat.sub_zero, Nat.zero_le, Nat.le_refl, gt_i, ge_i, lt_i, le_i, eq_i, ne_i, eq_b, ne_b, add_i, sub_i, neg_i, addI_i, eq_w, ne_w, rev_w, len_w, get_new, set_new, isi_tw, tru_b]
  rw [decide_eq_false (by omega : ¬ (400 : Int) < (w.length : Int))]
  simp only [ap_wipe, ap_wipe0, ap_runF, ap_seq, ap_next, ap_expr, ap_ret, ap_if, ap_asg, ap_par, ap_aug, ap_nm, ap_tp, ap_gnil, ap_gcons, ap_gix, ap_var, ap_c, ap_op1, ap_op2, ap_opL, ap_anil, ap_acons, ap_tup, ap_lst, ap_fz, ap_new, ap_call, ap_mth, ap_bl, ap_tru, ap_bnot, ap_band, ap_bor, ap_and, ap_or, ap_not, ap_eif, ap_for, ap_lc, ap_rg1, ap_rg2, ap_zp, ap_iseq, ap_slc, ap_onone, ap_osome, ap_chain, ap_lstof, ap_suml, bnd_some, bnd_none, List.map_cons, List.map_nil, List.length_cons, List.length_nil, List.replicate_succ, List.replicate_zero, List.cons_append, List.nil_append, List.append_nil, List.getElem?_cons_zero, List.getElem?_cons_succ, List.set_cons_zero, List.set_cons_succ, Nat.reduceSub, Nat.reduceAdd, Nat.reduceLeDiff, Nat.reduceEqDiff, Nat.zero_add, if_true, if_false, reduceIte, reduceCtorEq, Bool.false_eq_true, Bool.not_true, Bool.not_false, decide_true, decide_false, Nat.sub_self, Nat.sub_zero, Nat.zero_le, Nat.le_refl, gt_i, ge_i, lt_i, le_i, eq_i, ne_i, eq_b, ne_b, add_i, sub_i, neg_i, addI_i, eq_w, ne_w, rev_w, len_w, get_new, set_new, wD]
  rw [lcF_map D.int (fun _ => true) (fun i => D.bl ((decide (-r ≤ i) && decide (i ≤ r)) && !decide (i = 0))) w [] (fun a ha => ⟨_, rfl, rfl, fun _ => ?_⟩) (by simp only [List.length_nil]; have := sizeBig (n := 400) (by omega); omega)]
  · simp only [ap_wipe, ap_wipe0, ap_runF, ap_seq, ap_next, ap_expr, ap_ret, ap_if, ap_asg, ap_par, ap_aug, ap_nm, ap_tp, ap_gnil, ap_gcons, ap_gix, ap_var, ap_c, ap_op1, ap_op2, ap_opL, ap_anil, ap_acons, ap_tup, ap_lst, ap_fz, ap_new, ap_call, ap_mth, ap_bl, ap_tru, ap_bnot, ap_band, ap_bor, ap_and, ap_or, ap_not, ap_eif, ap_for, ap_lc, ap_rg1, ap_rg2, ap_zp, ap_iseq, ap_slc, ap_onone, ap_osome, ap_chain, ap_lstof, ap_suml, bnd_some, bnd_none, List.map_cons, List.map_nil, List.length_cons, List.length_nil, List.replicate_succ, List.replicate_zero, List.cons_append, List.nil_append, List.append_nil, List.getElem?_cons_zero, List.getElem?_cons_succ, List.set_cons_zero, List.set_cons_succ, Nat.reduceSub, Nat.reduceAdd, Nat.reduceLeDiff, Nat.reduceEqDiff, Nat.zero_add, if_true, if_false, reduceIte, reduceCtorEq, Bool.false_eq_true, Bool.not_true, Bool.not_false, decide_true, decide_false, Nat.sub_self, Nat.sub_zero, Nat.zero_le, Nat.le_refl, gt_i, ge_i, lt_i, le_i, eq_i, ne_i, eq_b, ne_b, add_i, sub_i, neg_i, addI_i, eq_w, ne_w, rev_w, len_w, get_new, set_new, all_l]
    congr 2
    simp only [D.bl.injEq, List.all_eq_true]
    intro x hx
    have := h x (List.mem_filter.mp hx).1
    unfold okL at this
    simp [this.1, this.2.1, this.2.2]
  · simp only [ap_wipe, ap_wipe0, ap_runF, ap_seq, ap_next, ap_expr, ap_ret, ap_if, ap_asg, ap_par, ap_aug, ap_nm, ap_tp, ap_gnil, ap_gcons, ap_gix, ap_var, ap_c, ap_op1, ap_op2, ap_opL, ap_anil, ap_acons, ap_tup, ap_lst, ap_fz, ap_new, ap_call, ap_mth, ap_bl, ap_tru, ap_bnot, ap_band, ap_bor, ap_and, ap_or, ap_not, ap_eif, ap_for, ap_lc, ap_rg1, ap_rg2, ap_zp, ap_iseq, ap_slc, ap_onone, ap_osome, ap_chain, ap_lstof, ap_suml, bnd_some, bnd_none, List.map_cons, List.map_nil, List.length_cons, List.length_nil, List.replicate_succ, List.replicate_zero, List.cons_append, List.nil_append, List.append_nil, List.getElem?_cons_zero, List.getElem?_cons_succ, List.set_cons_zero, List.set_cons_succ, Nat.reduceSub, Nat.reduceAdd, Nat.reduceLeDiff, Nat.reduceEqDiff, Nat.zero_add, if_true, if_false, reduceIte, reduceCtorEq, Bool.false_eq_true, Bool.not_true, Bool.not_false, decide_true, decide_false, Nat.sub_self, Nat.sub_zero, Nat.zero_le, Nat.le_refl, gt_i, ge_i, lt_i, le_i, eq_i, ne_i, eq_b, ne_b, add_i, sub_i, neg_i, addI_i, eq_w, ne_w, rev_w, len_w, get_new, set_new, p_is_letter_in]

theorem szN {n : Nat} (h : n ≤ 1000000) : ([] : List D).length + n ≤ sizeLine := by rw [List.length_nil, Nat.zero_add]; exact sizeBig h
/-! ### letters -/
def lets (k : Nat) : List Int := (List.range k).flatMap fun (i : Nat) => [1 + (i : Int), -(1 + (i : Int))]
theorem foldl_app {α β : Type} (f : α → List β) : ∀ (l : List α) (acc : List β), l.foldl (fun acc a => acc ++ f a) acc = acc ++ l.flatMap f
  | [], acc => by simp
  | a :: l, acc => by rw [List.foldl_cons, foldl_app f l, List.flatMap_cons, List.append_assoc]
theorem p_letters_in (k : Nat) (S : Sto) (h : k ≤ 4) : φ_letters_in [.int k] S = some (wD (lets k), S) := by
  refine gz_pure (G := [.lst (iL (lets k))]) ?_ wD_clo
  unfold f_letters_in
  simp only [ap_wipe, ap_wipe0, ap_runF, ap_seq, ap_next, ap_expr, ap_ret, ap_if, ap_asg, ap_par, ap_aug, ap_nm, ap_tp, ap_gnil, ap_gcons, ap_gix, ap_var, ap_c, ap_op1, ap_op2, ap_opL, ap_anil, ap_acons, ap_tup, ap_lst, ap_fz, ap_new, ap_call, ap_mth, ap_bl, ap_tru, ap_bnot, ap_band, ap_bor, ap_and, ap_or, ap_not, ap_eif, ap_for, ap_lc, ap_rg1, ap_rg2, ap_zp, ap_iseq, ap_slc, ap_onone, ap_osome, ap_chain, ap_lstof, ap_suml, bnd_some, bnd_none, List.map_cons, List.map_nil, List.length_cons, List.length_nil, List.replicate_succ, List.replicate_zero, List.cons_append, List.nil_append, List.append_nil, List.getElem?_cons_zero, List.getElem?_cons_succ, List.set_cons_zero, List.set_cons_succ, Nat.reduceSub, Nat.reduceAdd, Nat.reduceLeDiff, Nat.reduceEqDiff, Nat.zero_add, if_true, if_false, reduceIte, reduceCtorEq, Bool.false_eq_true, Bool.not_true, Bool.not_false, decide_true, decide_false, Nat.sub_self, Nat.sub_zero, Nat.zero_le, Nat.le_refl, gt_i, ge_i, lt_i, le_i, eq_i, ne_i, eq_b, ne_b, add_i, sub_i, neg_i, addI_i, eq_w, ne_w, rev_w, len_w, get_new, set_new]
  rw [if_pos ⟨fit_of (by omega), fit_of (by omega)⟩]
  simp only [ap_wipe, ap_wipe0, ap_runF, ap_seq, ap_next, ap_expr, ap_ret, ap_if, ap_asg, ap_par, ap_aug, ap_nm, ap_tp, ap_gnil, ap_gcons, ap_gix, ap_var, ap_c, ap_op1, ap_op2, ap_opL, ap_anil, ap_acons, ap_tup, ap_lst, ap_fz, ap_new, ap_call, ap_mth, ap_bl, ap_tru, ap_bnot, ap_band, ap_bor, ap_and, ap_or, ap_not, ap_eif, ap_for, ap_lc, ap_rg1, ap_rg2, ap_zp, ap_iseq, ap_slc, ap_onone, ap_osome, ap_chain, ap_lstof, ap_suml, bnd_some, bnd_none, List.map_cons, List.map_nil, List.length_cons, List.length_nil, List.replicate_succ, List.replicate_zero, List.cons_append, List.nil_append, List.append_nil, List.getElem?_cons_zero, List.getElem?_cons_succ, List.set_cons_zero, List.set_cons_succ, Nat.reduceSub, Nat.reduceAdd, Nat.reduceLeDiff, Nat.reduceEqDiff, Nat.zero_add, if_true, if_false, reduceIte, reduceCtorEq, Bool.false_eq_true, Bool.not_true, Bool.not_false, decide_true, decide_false, Nat.sub_self, Nat.sub_zero, Nat.zero_le, Nat.le_refl, gt_i, ge_i, lt_i, le_i, eq_i, ne_i, eq_b, ne_b, add_i, sub_i, neg_i, addI_i, eq_w, ne_w, rev_w, len_w, get_new, set_new]
  refine bnd_ex2 (loopF_rel (fun i : Nat => D.int (1 + (i : Int)))
    (fun i env S' => ∃ x, env = [some (D.int k), some (D.loc S.length), x] ∧ S' = S ++ [O.lst (iL (lets i))]) (List.range ((k : Int) + 1 - 1).toNat) 0 _ _ ?_ ⟨none, rfl, rfl⟩) ?_
  · rintro j i hi env S' ⟨x, rfl, rfl⟩
    have hj : i = j := by
      rw [List.getElem?_range (by have := (List.getElem?_eq_some_iff.mp hi).1; simpa using this)] at hi
      exact (Option.some.inj hi).symm
    subst hj
    have hi' : i < 4 := by
      have := (List.getElem?_eq_some_iff.mp hi).1
      simp at this
      omega
    refine ⟨_, _, [some (D.int k), some (D.loc S.length), some (D.int (1 + (i : Int)))], S ++ [O.lst (iL (lets (0 + i + 1)))], rfl, ?_, _, rfl, rfl⟩
    simp only [ap_wipe, ap_wipe0, ap_runF, ap_seq, ap_next, ap_expr, ap_ret, ap_if, ap_asg, ap_par, ap_aug, ap_nm, ap_tp, ap_gnil, ap_gcons, ap_gix, ap_var, ap_c, ap_op1, ap_op2, ap_opL, ap_anil, ap_acons, ap_tup, ap_lst, ap_fz, ap_new, ap_call, ap_mth, ap_bl, ap_tru, ap_bnot, ap_band, ap_bor, ap_and, ap_or, ap_not, ap_eif, ap_for, ap_lc, ap_rg1, ap_rg2, ap_zp, ap_iseq, ap_slc, ap_onone, ap_osome, ap_chain, ap_lstof, ap_suml, bnd_some, bnd_none, List.map_cons, List.map_nil, List.length_cons, List.length_nil, List.replicate_succ, List.replicate_zero, List.cons_append, List.nil_append, List.append_nil, List.getElem?_cons_zero, List.getElem?_cons_succ, List.set_cons_zero, List.set_cons_succ, Nat.reduceSub, Nat.reduceAdd, Nat.reduceLeDiff, Nat.reduceEqDiff, Nat.zero_add, if_true, if_false, reduceIte, reduceCtorEq, Bool.false_eq_true, Bool.not_true, Bool.not_false, decide_true, decide_false, Nat.sub_self, Nat.sub_zero, Nat.zero_le, Nat.le_refl, gt_i, ge_i, lt_i, le_i, eq_i, ne_i, eq_b, ne_b, add_i, sub_i, neg_i, addI_i, eq_w, ne_w, rev_w, len_w, get_new, set_new]
    have hl : (lets (0 + i)).length + 2 ≤ 1000 := by
      unfold lets
      simp only [List.length_flatMap]
      have : i = 0 ∨ i = 1 ∨ i = 2 ∨ i = 3 := by omega
      rcases this with rfl | rfl | rfl | rfl <;> decide
    have hs := sizeBig (n := (lets (0 + i)).length + 2) (by omega)
    rw [isLst_loc get_new, if_pos rfl, if_pos (sizeBig (by omega))]
    simp only [ap_wipe, ap_wipe0, ap_runF, ap_seq, ap_next, ap_expr, ap_ret, ap_if, ap_asg, ap_par, ap_aug, ap_nm, ap_tp, ap_gnil, ap_gcons, ap_gix, ap_var, ap_c, ap_op1, ap_op2, ap_opL, ap_anil, ap_acons, ap_tup, ap_lst, ap_fz, ap_new, ap_call, ap_mth, ap_bl, ap_tru, ap_bnot, ap_band, ap_bor, ap_and, ap_or, ap_not, ap_eif, ap_for, ap_lc, ap_rg1, ap_rg2, ap_zp, ap_iseq, ap_slc, ap_onone, ap_osome, ap_chain, ap_lstof, ap_suml, bnd_some, bnd_none, List.map_cons, List.map_nil, List.length_cons, List.length_nil, List.replicate_succ, List.replicate_zero, List.cons_append, List.nil_append, List.append_nil, List.getElem?_cons_zero, List.getElem?_cons_succ, List.set_cons_zero, List.set_cons_succ, Nat.reduceSub, Nat.reduceAdd, Nat.reduceLeDiff, Nat.reduceEqDiff, Nat.zero_add, if_true, if_false, reduceIte, reduceCtorEq, Bool.false_eq_true, Bool.not_true, Bool.not_false, decide_true, decide_false, Nat.sub_self, Nat.sub_zero, Nat.zero_le, Nat.le_refl, gt_i, ge_i, lt_i, le_i, eq_i, ne_i, eq_b, ne_b, add_i, sub_i, neg_i, addI_i, eq_w, ne_w, rev_w, len_w, get_new, set_new]
    rw [ext_loc (es := [.int (1 + (i : Int)), .int (-(1 + (i : Int)))]) get_new rfl (by simpa using hs)]
    simp only [ap_wipe, ap_wipe0, ap_runF, ap_seq, ap_next, ap_expr, ap_ret, ap_if, ap_asg, ap_par, ap_aug, ap_nm, ap_tp, ap_gnil, ap_gcons, ap_gix, ap_var, ap_c, ap_op1, ap_op2, ap_opL, ap_anil, ap_acons, ap_tup, ap_lst, ap_fz, ap_new, ap_call, ap_mth, ap_bl, ap_tru, ap_bnot, ap_band, ap_bor, ap_and, ap_or, ap_not, ap_eif, ap_for, ap_lc, ap_rg1, ap_rg2, ap_zp, ap_iseq, ap_slc, ap_onone, ap_osome, ap_chain, ap_lstof, ap_suml, bnd_some, bnd_none, List.map_cons, List.map_nil, List.length_cons, List.length_nil, List.replicate_succ, List.replicate_zero, List.cons_append, List.nil_append, List.append_nil, List.getElem?_cons_zero, List.getElem?_cons_succ, List.set_cons_zero, List.set_cons_succ, Nat.reduceSub, Nat.reduceAdd, Nat.reduceLeDiff, Nat.reduceEqDiff, Nat.zero_add, if_true, if_false, reduceIte, reduceCtorEq, Bool.false_eq_true, Bool.not_true, Bool.not_false, decide_true, decide_false, Nat.sub_self, Nat.sub_zero, Nat.zero_le, Nat.le_refl, gt_i, ge_i, lt_i, le_i, eq_i, ne_i, eq_b, ne_b, add_i, sub_i, neg_i, addI_i, eq_w, ne_w, rev_w, len_w, get_new, set_new]
    congr 4
    unfold lets
    rw [List.range_succ, List.flatMap_append]
    simp
  · rintro e S' ⟨x, rfl, rfl⟩
    rw [List.length_range, show 0 + ((k : Int) + 1 - 1).toNat = k by omega]
    simp only [ap_wipe, ap_wipe0, ap_runF, ap_seq, ap_next, ap_expr, ap_ret, ap_if, ap_asg, ap_par, ap_aug, ap_nm, ap_tp, ap_gnil, ap_gcons, ap_gix, ap_var, ap_c, ap_op1, ap_op2, ap_opL, ap_anil, ap_acons, ap_tup, ap_lst, ap_fz, ap_new, ap_call, ap_mth, ap_bl, ap_tru, ap_bnot, ap_band, ap_bor, ap_and, ap_or, ap_not, ap_eif, ap_for, ap_lc, ap_rg1, ap_rg2, ap_zp, ap_iseq, ap_slc, ap_onone, ap_osome, ap_chain, ap_lstof, ap_suml, bnd_some, bnd_none, List.map_cons, List.map_nil, List.length_cons, List.length_nil, List.replicate_succ, List.replicate_zero, List.cons_append, List.nil_append, List.append_nil, List.getElem?_cons_zero, List.getElem?_cons_succ, List.set_cons_zero, List.set_cons_succ, Nat.reduceSub, Nat.reduceAdd, Nat.reduceLeDiff, Nat.reduceEqDiff, Nat.zero_add, if_true, if_false, reduceIte, reduceCtorEq, Bool.false_eq_true, Bool.not_true, Bool.not_false, decide_true, decide_false, Nat.sub_self, Nat.sub_zero, Nat.zero_le, Nat.le_refl, gt_i, ge_i, lt_i, le_i, eq_i, ne_i, eq_b, ne_b, add_i, sub_i, neg_i, addI_i, eq_w, ne_w, rev_w, len_w, get_new, set_new, tup_new]
    rfl
/-! ### free reduction by code -/
theorem psh_nil (x : Int) : psh [] x = [x] := rfl
theorem psh_hit {l : List Int} {x : Int} : psh (l ++ [-x]) x = l := by
  unfold psh
  rw [if_pos (by simp)]
  simp
theorem psh_miss {l : List Int} {x y : Int} (h : y ≠ -x) : psh (l ++ [y]) x = l ++ [y] ++ [x] := by
  unfold psh
  rw [if_neg (by simp; exact h)]
theorem psh_len (l : List Int) (x : Int) : (psh l x).length ≤ l.length + 1 := by
  unfold psh
  split
  · simp
    omega
  · simp
theorem foldl_psh_len : ∀ (w acc : List Int), (w.foldl psh acc).length ≤ acc.length + w.length
  | [], acc => by simp
  | x :: w, acc => by
    rw [List.foldl_cons, List.length_cons]
    have := foldl_psh_len w (psh acc x)
    have := psh_len acc x
    omega
/-- what the inner loop's body does -/
noncomputable def pshB (i j : Nat) (neg : Ex) : ExS := sIf (bAnd (bBl (eOp1 (nilD true) (eVar i))) (bBl (eOp2 cmpEq (eOp2 idxD (eVar i) (eOp1 negD (eC (.int 1)))) neg))) (sExpr (eMth popD (eVar i) aNil)) (sExpr (eMth appD (eVar i) (aCons (eVar j) (aNil))))
theorem pshB_run {i j n : Nat} {neg : Ex} {env : En} {T : Sto} {acc : List Int} {x : Int} (hi : env[i]? = some (some (.loc n))) (hj : env[j]? = some (some (.int x))) (hT : T[n]? = some (.lst (iL acc))) (hn : neg env T = some (.int (-x), T)) (hz : acc.length ≤ 100000) :
    pshB i j neg env T = some (.nx env, T.set n (.lst (iL (psh acc x)))) := by
  unfold pshB
  have hz' := sizeBig (n := acc.length + 1) (by omega)
  rcases List.eq_nil_or_concat acc with rfl | ⟨l, y, rfl⟩
  · have a1 : appD (.loc n) [.int x] T = some (.non, T.set n (.lst (iL (psh [] x)))) := app_loc hT (by simp at hz' ⊢; omega)
    simp only [ap_wipe, ap_wipe0, ap_runF, ap_seq, ap_next, ap_expr, ap_ret, ap_if, ap_asg, ap_par, ap_aug, ap_nm, ap_tp, ap_gnil, ap_gcons, ap_gix, ap_var, ap_c, ap_op1, ap_op2, ap_opL, ap_anil, ap_acons, ap_tup, ap_lst, ap_fz, ap_new, ap_call, ap_mth, ap_bl, ap_tru, ap_bnot, ap_band, ap_bor, ap_and, ap_or, ap_not, ap_eif, ap_for, ap_lc, ap_rg1, ap_rg2, ap_zp, ap_iseq, ap_slc, ap_onone, ap_osome, ap_chain, ap_lstof, ap_suml, bnd_some, bnd_none, List.map_cons, List.map_nil, List.length_cons, List.length_nil, List.replicate_succ, List.replicate_zero, List.cons_append, List.nil_append, List.append_nil, List.getElem?_cons_zero, List.getElem?_cons_succ, List.set_cons_zero, List.set_cons_succ, Nat.reduceSub, Nat.reduceAdd, Nat.reduceLeDiff, Nat.reduceEqDiff, Nat.zero_add, if_true, if_false, reduceIte, reduceCtorEq, Bool.false_eq_true, Bool.not_true, Bool.not_false, decide_true, decide_false, Nat.sub_self, Nat.sub_zero, Nat.zero_le, Nat.le_refl, gt_i, ge_i, lt_i, le_i, eq_i, ne_i, eq_b, ne_b, add_i, sub_i, neg_i, addI_i, eq_w, ne_w, rev_w, len_w, get_new, set_new, hi, hj, nil_loc hT, isLst_loc hT, Bool.xor_false, Bool.true_xor, a1]
  · rw [List.concat_eq_append] at *
    have hT' : T[n]? = some (.lst (iL l ++ [.int y])) := by rw [hT]; simp
    have ne : decide (l ++ [y] = []) = false := by simp
    by_cases hy : y = -x
    · subst hy
      have a1 : popD (.loc n) [] T = some (.int (-x), T.set n (.lst (iL (psh (l ++ [-x]) x)))) := by rw [psh_hit]; exact pop_loc hT'
      simp only [ap_wipe, ap_wipe0, ap_runF, ap_seq, ap_next, ap_expr, ap_ret, ap_if, ap_asg, ap_par, ap_aug, ap_nm, ap_tp, ap_gnil, ap_gcons, ap_gix, ap_var, ap_c, ap_op1, ap_op2, ap_opL, ap_anil, ap_acons, ap_tup, ap_lst, ap_fz, ap_new, ap_call, ap_mth, ap_bl, ap_tru, ap_bnot, ap_band, ap_bor, ap_and, ap_or, ap_not, ap_eif, ap_for, ap_lc, ap_rg1, ap_rg2, ap_zp, ap_iseq, ap_slc, ap_onone, ap_osome, ap_chain, ap_lstof, ap_suml, bnd_some, bnd_none, List.map_cons, List.map_nil, List.length_cons, List.length_nil, List.replicate_succ, List.replicate_zero, List.cons_append, List.nil_append, List.append_nil, List.getElem?_cons_zero, List.getElem?_cons_succ, List.set_cons_zero, List.set_cons_succ, Nat.reduceSub, Nat.reduceAdd, Nat.reduceLeDiff, Nat.reduceEqDiff, Nat.zero_add, if_true, if_false, reduceIte, reduceCtorEq, Bool.false_eq_true, Bool.not_true, Bool.not_false, decide_true, decide_false, Nat.sub_self, Nat.sub_zero, Nat.zero_le, Nat.le_refl, gt_i, ge_i, lt_i, le_i, eq_i, ne_i, eq_b, ne_b, add_i, sub_i, neg_i, addI_i, eq_w, ne_w, rev_w, len_w, get_new, set_new, hi, hj, nil_loc hT, isLst_loc hT, Bool.xor_false, Bool.true_xor, ne, idx_last hT', hn, a1]
    · have a1 : appD (.loc n) [.int x] T = some (.non, T.set n (.lst (iL (psh (l ++ [y]) x)))) := by
        rw [psh_miss hy]
        have := app_loc (y := .int x) hT (by simp at hz' ⊢; omega)
        rw [this]
        simp
      simp only [ap_wipe, ap_wipe0, ap_runF, ap_seq, ap_next, ap_expr, ap_ret, ap_if, ap_asg, ap_par, ap_aug, ap_nm, ap_tp, ap_gnil, ap_gcons, ap_gix, ap_var, ap_c, ap_op1, ap_op2, ap_opL, ap_anil, ap_acons, ap_tup, ap_lst, ap_fz, ap_new, ap_call, ap_mth, ap_bl, ap_tru, ap_bnot, ap_band, ap_bor, ap_and, ap_or, ap_not, ap_eif, ap_for, ap_lc, ap_rg1, ap_rg2, ap_zp, ap_iseq, ap_slc, ap_onone, ap_osome, ap_chain, ap_lstof, ap_suml, bnd_some, bnd_none, List.map_cons, List.map_nil, List.length_cons, List.length_nil, List.replicate_succ, List.replicate_zero, List.cons_append, List.nil_append, List.append_nil, List.getElem?_cons_zero, List.getElem?_cons_succ, List.set_cons_zero, List.set_cons_succ, Nat.reduceSub, Nat.reduceAdd, Nat.reduceLeDiff, Nat.reduceEqDiff, Nat.zero_add, if_true, if_false, reduceIte, reduceCtorEq, Bool.false_eq_true, Bool.not_true, Bool.not_false, decide_true, decide_false, Nat.sub_self, Nat.sub_zero, Nat.zero_le, Nat.le_refl, gt_i, ge_i, lt_i, le_i, eq_i, ne_i, eq_b, ne_b, add_i, sub_i, neg_i, addI_i, eq_w, ne_w, rev_w, len_w, get_new, set_new, hi, hj, nil_loc hT, isLst_loc hT, Bool.xor_false, Bool.true_xor, ne, idx_last hT', hn, a1, hy]
end Hx

namespace Hx
open PySem PySem.Spec PyProof.Rows L2 PU
theorem iL_nil : iL [] = [] := rfl
theorem iL_cons {x : Int} {w : List Int} : iL (x :: w) = .int x :: iL w := rfl
theorem set_self {α : Type} {l : List α} {i : Nat} {a : α} (h : l[i]? = some a) : l.set i a = l := by
  obtain ⟨hi, e⟩ := List.getElem?_eq_some_iff.mp h
  rw [← e]
  exact List.set_getElem_self hi
theorem pshB_loop {i j n : Nat} {neg : Ex} {ds0 : List D} (hij : i ≠ j) (hneg : ∀ (env : En) (T : Sto) (x : Int), env[j]? = some (some (.int x)) → neg env T = some (.int (-x), T)) : ∀ (w acc : List Int) (env : En) (T : Sto),
    j < env.length → env[i]? = some (some (.loc n)) → T[n]? = some (.lst (iL acc)) → acc.length + w.length ≤ 100000 →
    ∃ env', loopF ⟨ds0, none⟩ (gNm j) (pshB i j neg) (iL w) env T = some (.nx env', T.set n (.lst (iL (w.foldl psh acc)))) ∧ ∃ x, env' = env.set j x
  | [], acc, env, T, hj, hi, hT, hz => ⟨env, by rw [iL_nil, loopF_nil, List.foldl_nil, set_self hT], env[j], (List.set_getElem_self hj).symm⟩
  | x :: w, acc, env, T, hj, hi, hT, hz => by
    rw [List.length_cons] at hz
    have hj2 : (env.set j (some (.int x)))[j]? = some (some (.int x)) := List.getElem?_set_self hj
    have hi2 : (env.set j (some (.int x)))[i]? = some (some (.loc n)) := by rw [List.getElem?_set_ne (Ne.symm hij)]; exact hi
    have h1 := pshB_run (neg := neg) hi2 hj2 hT (hneg _ _ _ hj2) (by omega)
    have hn : n < T.length := (List.getElem?_eq_some_iff.mp hT).1
    have hl := psh_len acc x
    obtain ⟨env', h2, y, h3⟩ := pshB_loop (ds0 := ds0) hij hneg w (psh acc x) (env.set j (some (.int x))) (T.set n (.lst (iL (psh acc x)))) (by rw [List.length_set]; exact hj) hi2 (List.getElem?_set_self hn) (by omega)
    refine ⟨env', ?_, y, by rw [h3, List.set_set]⟩
    rw [iL_cons, loopF_cons, ap_nm, bnd_some, h1, bnd_some, List.foldl_cons]
    simp only
    rw [h2, List.set_set]
theorem neg_var {j : Nat} (env : En) (T : Sto) (x : Int) (h : env[j]? = some (some (.int x))) : (eOp1 negD (eVar j)) env T = some (.int (-x), T) := by
  simp only [ap_wipe, ap_wipe0, ap_runF, ap_seq, ap_next, ap_expr, ap_ret, ap_if, ap_asg, ap_par, ap_aug, ap_nm, ap_tp, ap_gnil, ap_gcons, ap_gix, ap_var, ap_c, ap_op1, ap_op2, ap_opL, ap_anil, ap_acons, ap_tup, ap_lst, ap_fz, ap_new, ap_call, ap_mth, ap_bl, ap_tru, ap_bnot, ap_band, ap_bor, ap_and, ap_or, ap_not, ap_eif, ap_for, ap_lc, ap_rg1, ap_rg2, ap_zp, ap_iseq, ap_slc, ap_onone, ap_osome, ap_chain, ap_lstof, ap_suml, bnd_some, bnd_none, List.map_cons, List.map_nil, List.length_cons, List.length_nil, List.replicate_succ, List.replicate_zero, List.cons_append, List.nil_append, List.append_nil, List.getElem?_cons_zero, List.getElem?_cons_succ, List.set_cons_zero, List.set_cons_succ, Nat.reduceSub, Nat.reduceAdd, Nat.reduceLeDiff, Nat.reduceEqDiff, Nat.zero_add, if_true, if_false, reduceIte, reduceCtorEq, Bool.false_eq_true, Bool.not_true, Bool.not_false, decide_true, decide_false, Nat.sub_self, Nat.sub_zero, Nat.zero_le, Nat.le_refl, gt_i, ge_i, lt_i, le_i, eq_i, ne_i, eq_b, ne_b, add_i, sub_i, neg_i, addI_i, eq_w, ne_w, rev_w, len_w, get_new, set_new, h]
theorem neg_sub {j : Nat} (env : En) (T : Sto) (x : Int) (h : env[j]? = some (some (.int x))) : (eOp2 subD (eC (.int 0)) (eVar j)) env T = some (.int (-x), T) := by
  simp only [ap_wipe, ap_wipe0, ap_runF, ap_seq, ap_next, ap_expr, ap_ret, ap_if, ap_asg, ap_par, ap_aug, ap_nm, ap_tp, ap_gnil, ap_gcons, ap_gix, ap_var, ap_c, ap_op1, ap_op2, ap_opL, ap_anil, ap_acons, ap_tup, ap_lst, ap_fz, ap_new, ap_call, ap_mth, ap_bl, ap_tru, ap_bnot, ap_band, ap_bor, ap_and, ap_or, ap_not, ap_eif, ap_for, ap_lc, ap_rg1, ap_rg2, ap_zp, ap_iseq, ap_slc, ap_onone, ap_osome, ap_chain, ap_lstof, ap_suml, bnd_some, bnd_none, List.map_cons, List.map_nil, List.length_cons, List.length_nil, List.replicate_succ, List.replicate_zero, List.cons_append, List.nil_append, List.append_nil, List.getElem?_cons_zero, List.getElem?_cons_succ, List.set_cons_zero, List.set_cons_succ, Nat.reduceSub, Nat.reduceAdd, Nat.reduceLeDiff, Nat.reduceEqDiff, Nat.zero_add, if_true, if_false, reduceIte, reduceCtorEq, Bool.false_eq_true, Bool.not_true, Bool.not_false, decide_true, decide_false, Nat.sub_self, Nat.sub_zero, Nat.zero_le, Nat.le_refl, gt_i, ge_i, lt_i, le_i, eq_i, ne_i, eq_b, ne_b, add_i, sub_i, neg_i, addI_i, eq_w, ne_w, rev_w, len_w, get_new, set_new, h, Int.zero_sub]
theorem p_shortened_in (w : List Int) (S : Sto) (hz : w.length ≤ 1000) : φ_shortened_in [wD w] S = some (wD (red w), S) := by
  refine gz_pure (G := [.lst (iL (red w))]) ?_ wD_clo
  unfold f_shortened_in
  simp only [ap_wipe, ap_wipe0, ap_runF, ap_seq, ap_next, ap_expr, ap_ret, ap_if, ap_asg, ap_par, ap_aug, ap_nm, ap_tp, ap_gnil, ap_gcons, ap_gix, ap_var, ap_c, ap_op1, ap_op2, ap_opL, ap_anil, ap_acons, ap_tup, ap_lst, ap_fz, ap_new, ap_call, ap_mth, ap_bl, ap_tru, ap_bnot, ap_band, ap_bor, ap_and, ap_or, ap_not, ap_eif, ap_for, ap_lc, ap_rg1, ap_rg2, ap_zp, ap_iseq, ap_slc, ap_onone, ap_osome, ap_chain, ap_lstof, ap_suml, bnd_some, bnd_none, List.map_cons, List.map_nil, List.length_cons, List.length_nil, List.replicate_succ, List.replicate_zero, List.cons_append, List.nil_append, List.append_nil, List.getElem?_cons_zero, List.getElem?_cons_succ, List.set_cons_zero, List.set_cons_succ, Nat.reduceSub, Nat.reduceAdd, Nat.reduceLeDiff, Nat.reduceEqDiff, Nat.zero_add, if_true, if_false, reduceIte, reduceCtorEq, Bool.false_eq_true, Bool.not_true, Bool.not_false, decide_true, decide_false, Nat.sub_self, Nat.sub_zero, Nat.zero_le, Nat.le_refl, gt_i, ge_i, lt_i, le_i, eq_i, ne_i, eq_b, ne_b, add_i, sub_i, neg_i, addI_i, eq_w, ne_w, rev_w, len_w, get_new, set_new, wD]
  obtain ⟨env', h1, x, rfl⟩ := pshB_loop (i := 1) (j := 2) (n := S.length) (ds0 := iL w) (by decide) neg_var w [] [some (.tup (iL w)), some (.loc S.length), none] (S ++ [.lst []]) (by simp) rfl get_new (by simp; omega)
  have h1' := h1
  unfold pshB at h1'
  rw [h1', set_new]
  simp only [ap_wipe, ap_wipe0, ap_runF, ap_seq, ap_next, ap_expr, ap_ret, ap_if, ap_asg, ap_par, ap_aug, ap_nm, ap_tp, ap_gnil, ap_gcons, ap_gix, ap_var, ap_c, ap_op1, ap_op2, ap_opL, ap_anil, ap_acons, ap_tup, ap_lst, ap_fz, ap_new, ap_call, ap_mth, ap_bl, ap_tru, ap_bnot, ap_band, ap_bor, ap_and, ap_or, ap_not, ap_eif, ap_for, ap_lc, ap_rg1, ap_rg2, ap_zp, ap_iseq, ap_slc, ap_onone, ap_osome, ap_chain, ap_lstof, ap_suml, bnd_some, bnd_none, List.map_cons, List.map_nil, List.length_cons, List.length_nil, List.replicate_succ, List.replicate_zero, List.cons_append, List.nil_append, List.append_nil, List.getElem?_cons_zero, List.getElem?_cons_succ, List.set_cons_zero, List.set_cons_succ, Nat.reduceSub, Nat.reduceAdd, Nat.reduceLeDiff, Nat.reduceEqDiff, Nat.zero_add, if_true, if_false, reduceIte, reduceCtorEq, Bool.false_eq_true, Bool.not_true, Bool.not_false, decide_true, decide_false, Nat.sub_self, Nat.sub_zero, Nat.zero_le, Nat.le_refl, gt_i, ge_i, lt_i, le_i, eq_i, ne_i, eq_b, ne_b, add_i, sub_i, neg_i, addI_i, eq_w, ne_w, rev_w, len_w, get_new, set_new, tup_new]
  rfl
theorem prod_loop {p0 : Option D} {S : Sto} : ∀ (us : List (List Int)) (acc : List Int) (env : En) (x y : Option D) (ds0 : List D), acc.length + us.flatten.length ≤ 1000 → env = [p0, some (.loc S.length), x, y] → 
      ∃ env', loopF ⟨ds0, none⟩ (gNm 2) (sFor (iSeq (eVar 2)) (gNm 3) (pshB 1 3 (eOp1 negD (eVar 3)))) (us.map wD) env (S ++ [.lst (iL acc)]) = some (.nx env', S ++ [.lst (iL (us.flatten.foldl psh acc))]) ∧ env'[1]? = some (some (.loc S.length))
  | [], acc, env, x, y, ds0, hz, he => ⟨env, by rw [List.map_nil, loopF_nil]; rfl, by rw [he]; rfl⟩
  | u :: us, acc, env, x, y, ds0, hz, he => by
    rw [List.flatten_cons, List.length_append] at hz
    obtain ⟨env1, h1, z, hy⟩ := pshB_loop (i := 1) (j := 3) (n := S.length) (ds0 := iL u) (by decide) neg_var u acc [p0, some (.loc S.length), some (wD u), y] (S ++ [.lst (iL acc)]) (by simp) rfl get_new (by omega)
    rw [set_new] at h1
    have hl := foldl_psh_len u acc
    obtain ⟨env', h2, h3⟩ := prod_loop us (u.foldl psh acc) env1 (some (wD u)) z ds0 (by omega) (by rw [hy]; rfl)
    refine ⟨env', ?_, h3⟩
    rw [List.map_cons, loopF_cons, ap_nm, bnd_some, he]
    simp only [ap_wipe, ap_wipe0, ap_runF, ap_seq, ap_next, ap_expr, ap_ret, ap_if, ap_asg, ap_par, ap_aug, ap_nm, ap_tp, ap_gnil, ap_gcons, ap_gix, ap_var, ap_c, ap_op1, ap_op2, ap_opL, ap_anil, ap_acons, ap_tup, ap_lst, ap_fz, ap_new, ap_call, ap_mth, ap_bl, ap_tru, ap_bnot, ap_band, ap_bor, ap_and, ap_or, ap_not, ap_eif, ap_for, ap_lc, ap_rg1, ap_rg2, ap_zp, ap_iseq, ap_slc, ap_onone, ap_osome, ap_chain, ap_lstof, ap_suml, bnd_some, bnd_none, List.map_cons, List.map_nil, List.length_cons, List.length_nil, List.replicate_succ, List.replicate_zero, List.cons_append, List.nil_append, List.append_nil, List.getElem?_cons_zero, List.getElem?_cons_succ, List.set_cons_zero, List.set_cons_succ, Nat.reduceSub, Nat.reduceAdd, Nat.reduceLeDiff, Nat.reduceEqDiff, Nat.zero_add, if_true, if_false, reduceIte, reduceCtorEq, Bool.false_eq_true, Bool.not_true, Bool.not_false, decide_true, decide_false, Nat.sub_self, Nat.sub_zero, Nat.zero_le, Nat.le_refl, gt_i, ge_i, lt_i, le_i, eq_i, ne_i, eq_b, ne_b, add_i, sub_i, neg_i, addI_i, eq_w, ne_w, rev_w, len_w, get_new, set_new, wD]
    have h1' : loopF { items := iL u, g := none } (gNm 3) (pshB 1 3 (eOp1 negD (eVar 3))) (List.map D.int u) [p0, some (.loc S.length), some (D.tup (iL u)), y] (S ++ [.lst (iL acc)]) = _ := h1
    rw [h1', bnd_some]
    simp only
    rw [h2, List.flatten_cons, List.foldl_append]
theorem p_product_in (ws : List (List Int)) (S : Sto) (hz : ws.flatten.length ≤ 1000) : φ_product_in [wsD ws] S = some (wD (red ws.flatten), S) := by
  refine gz_pure (G := [.lst (iL (red ws.flatten))]) ?_ wD_clo
  unfold f_product_in
  simp only [ap_wipe, ap_wipe0, ap_runF, ap_seq, ap_next, ap_expr, ap_ret, ap_if, ap_asg, ap_par, ap_aug, ap_nm, ap_tp, ap_gnil, ap_gcons, ap_gix, ap_var, ap_c, ap_op1, ap_op2, ap_opL, ap_anil, ap_acons, ap_tup, ap_lst, ap_fz, ap_new, ap_call, ap_mth, ap_bl, ap_tru, ap_bnot, ap_band, ap_bor, ap_and, ap_or, ap_not, ap_eif, ap_for, ap_lc, ap_rg1, ap_rg2, ap_zp, ap_iseq, ap_slc, ap_onone, ap_osome, ap_chain, ap_lstof, ap_suml, bnd_some, bnd_none, List.map_cons, List.map_nil, List.length_cons, List.length_nil, List.replicate_succ, List.replicate_zero, List.cons_append, List.nil_append, List.append_nil, List.getElem?_cons_zero, List.getElem?_cons_succ, List.set_cons_zero, List.set_cons_succ, Nat.reduceSub, Nat.reduceAdd, Nat.reduceLeDiff, Nat.reduceEqDiff, Nat.zero_add, if_true, if_false, reduceIte, reduceCtorEq, Bool.false_eq_true, Bool.not_true, Bool.not_false, decide_true, decide_false, Nat.sub_self, Nat.sub_zero, Nat.zero_le, Nat.le_refl, gt_i, ge_i, lt_i, le_i, eq_i, ne_i, eq_b, ne_b, add_i, sub_i, neg_i, addI_i, eq_w, ne_w, rev_w, len_w, get_new, set_new, wsD]
  obtain ⟨env', h1, h2⟩ := prod_loop (p0 := some (.tup (ws.map wD))) (S := S) ws [] _ none none (ws.map wD) (by simpa using hz) rfl
  unfold pshB at h1
  rw [show iL [] = [] from rfl] at h1
  rw [h1]
  simp only [ap_wipe, ap_wipe0, ap_runF, ap_seq, ap_next, ap_expr, ap_ret, ap_if, ap_asg, ap_par, ap_aug, ap_nm, ap_tp, ap_gnil, ap_gcons, ap_gix, ap_var, ap_c, ap_op1, ap_op2, ap_opL, ap_anil, ap_acons, ap_tup, ap_lst, ap_fz, ap_new, ap_call, ap_mth, ap_bl, ap_tru, ap_bnot, ap_band, ap_bor, ap_and, ap_or, ap_not, ap_eif, ap_for, ap_lc, ap_rg1, ap_rg2, ap_zp, ap_iseq, ap_slc, ap_onone, ap_osome, ap_chain, ap_lstof, ap_suml, bnd_some, bnd_none, List.map_cons, List.map_nil, List.length_cons, List.length_nil, List.replicate_succ, List.replicate_zero, List.cons_append, List.nil_append, List.append_nil, List.getElem?_cons_zero, List.getElem?_cons_succ, List.set_cons_zero, List.set_cons_succ, Nat.reduceSub, Nat.reduceAdd, Nat.reduceLeDiff, Nat.reduceEqDiff, Nat.zero_add, if_true, if_false, reduceIte, reduceCtorEq, Bool.false_eq_true, Bool.not_true, Bool.not_false, decide_true, decide_false, Nat.sub_self, Nat.sub_zero, Nat.zero_le, Nat.le_refl, gt_i, ge_i, lt_i, le_i, eq_i, ne_i, eq_b, ne_b, add_i, sub_i, neg_i, addI_i, eq_w, ne_w, rev_w, len_w, get_new, set_new, h2, tup_new]
  rfl
theorem p_product_inL (ws : List (List Int)) (S : Sto) (hz : ws.flatten.length ≤ 1000) : φ_product_in [.lst (ws.map wD)] S = some (wD (red ws.flatten), S) := by
  refine gz_pure (G := [.lst (iL (red ws.flatten))]) ?_ wD_clo
  unfold f_product_in
  simp only [ap_wipe, ap_wipe0, ap_runF, ap_seq, ap_next, ap_expr, ap_ret, ap_if, ap_asg, ap_par, ap_aug, ap_nm, ap_tp, ap_gnil, ap_gcons, ap_gix, ap_var, ap_c, ap_op1, ap_op2, ap_opL, ap_anil, ap_acons, ap_tup, ap_lst, ap_fz, ap_new, ap_call, ap_mth, ap_bl, ap_tru, ap_bnot, ap_band, ap_bor, ap_and, ap_or, ap_not, ap_eif, ap_for, ap_lc, ap_rg1, ap_rg2, ap_zp, ap_iseq, ap_slc, ap_onone, ap_osome, ap_chain, ap_lstof, ap_suml, bnd_some, bnd_none, List.map_cons, List.map_nil, List.length_cons, List.length_nil, List.replicate_succ, List.replicate_zero, List.cons_append, List.nil_append, List.append_nil, List.getElem?_cons_zero, List.getElem?_cons_succ, List.set_cons_zero, List.set_cons_succ, Nat.reduceSub, Nat.reduceAdd, Nat.reduceLeDiff, Nat.reduceEqDiff, Nat.zero_add, if_true, if_false, reduceIte, reduceCtorEq, Bool.false_eq_true, Bool.not_true, Bool.not_false, decide_true, decide_false, Nat.sub_self, Nat.sub_zero, Nat.zero_le, Nat.le_refl, gt_i, ge_i, lt_i, le_i, eq_i, ne_i, eq_b, ne_b, add_i, sub_i, neg_i, addI_i, eq_w, ne_w, rev_w, len_w, get_new, set_new]
  obtain ⟨env', h1, h2⟩ := prod_loop (p0 := some (.lst (ws.map wD))) (S := S) ws [] _ none none (ws.map wD) (by simpa using hz) rfl
  unfold pshB at h1
  rw [show iL [] = [] from rfl] at h1
  rw [h1]
  simp only [ap_wipe, ap_wipe0, ap_runF, ap_seq, ap_next, ap_expr, ap_ret, ap_if, ap_asg, ap_par, ap_aug, ap_nm, ap_tp, ap_gnil, ap_gcons, ap_gix, ap_var, ap_c, ap_op1, ap_op2, ap_opL, ap_anil, ap_acons, ap_tup, ap_lst, ap_fz, ap_new, ap_call, ap_mth, ap_bl, ap_tru, ap_bnot, ap_band, ap_bor, ap_and, ap_or, ap_not, ap_eif, ap_for, ap_lc, ap_rg1, ap_rg2, ap_zp, ap_iseq, ap_slc, ap_onone, ap_osome, ap_chain, ap_lstof, ap_suml, bnd_some, bnd_none, List.map_cons, List.map_nil, List.length_cons, List.length_nil, List.replicate_succ, List.replicate_zero, List.cons_append, List.nil_append, List.append_nil, List.getElem?_cons_zero, List.getElem?_cons_succ, List.set_cons_zero, List.set_cons_succ, Nat.reduceSub, Nat.reduceAdd, Nat.reduceLeDiff, Nat.reduceEqDiff, Nat.zero_add, if_true, if_false, reduceIte, reduceCtorEq, Bool.false_eq_true, Bool.not_true, Bool.not_false, decide_true, decide_false, Nat.sub_self, Nat.sub_zero, Nat.zero_le, Nat.le_refl, gt_i, ge_i, lt_i, le_i, eq_i, ne_i, eq_b, ne_b, add_i, sub_i, neg_i, addI_i, eq_w, ne_w, rev_w, len_w, get_new, set_new, h2, tup_new]
  rfl
end Hx

namespace Hx
open PySem PySem.Spec PyProof.Rows L2 PU
theorem fl_true {α : Type} {l : List α} : l.filter (fun _ => true) = l := by simp
theorem len_le_sum {w : List Int} : ∀ {ws : List (List Int)}, w ∈ ws → w.length ≤ (ws.map List.length).sum
  | v :: ws, h => by
    rw [List.map_cons, List.sum_cons]
    rcases List.mem_cons.mp h with rfl | h
    · omega
    · have := len_le_sum h
      omega
theorem isi_ts {ws : List (List Int)} {S : Sto} : isiD "tuple" (wsD ws) S = some (.bl true, S) := isi_tt
theorem p_are_words_in (r : Int) (ws : List (List Int)) (S : Sto) (h1 : ws.length ≤ 20) (h2 : (ws.map List.length).sum ≤ 400) (h : ∀ w ∈ ws, okW r w) : φ_are_words_in [.int r, wsD ws] S = some (.bl true, S) := by
  have hl : ∀ w ∈ ws, w.length ≤ 400 := fun w hw => Nat.le_trans (len_le_sum hw) h2
  refine gz_pure0 ?_ rfl
  unfold f_are_words_in
  simp only [ap_wipe, ap_wipe0, ap_runF, ap_seq, ap_next, ap_expr, ap_ret, ap_if, ap_asg, ap_par, ap_aug, ap_nm, ap_tp, ap_gnil, ap_gcons, ap_gix, ap_var, ap_c, ap_op1, ap_op2, ap_opL, ap_anil, ap_acons, ap_tup, ap_lst, ap_fz, ap_new, ap_call, ap_mth, ap_bl, ap_tru, ap_bnot, ap_band, ap_bor, ap_and, ap_or, ap_not, ap_eif, ap_for, ap_lc, ap_rg1, ap_rg2, ap_zp, ap_iseq, ap_slc, ap_onone, ap_osome, ap_chain, ap_lstof, ap_suml, bnd_some, bnd_none, List.map_cons, List.map_nil, List.length_cons, List.length_nil, List.replicate_succ, List.replicate_zero, List.cons_append, List.nil_append, List.append_nil, List.getElem?_cons_zero, List.getElem?_cons_succ, List.set_cons_zero, List.set_cons_succ, Nat.reduceSub, Nat.reduceAdd, Nat.reduceLeDiff, Nat.reduceEqDiff, Nat.zero_add, if_true, if_false, reduceIte, reduceCtorEq, Bool.false_eq_true, Bool.not_true, Bool.not_false, decide_true, decide_false, Nat.sub_self, Nat.sub_zero, Nat.zero_le, Nat.le_refl, gt_i, ge_i, lt_i, le_i, eq_i, ne_i, eq_b, ne_b, add_i, sub_i, neg_i, addI_i, eq_w, ne_w, rev_w, len_w, get_new, set_new, isi_ts, tru_b, ws_len]
  rw [decide_eq_false (by omega : ¬ (20 : Int) < (ws.length : Int))]
  simp only [ap_wipe, ap_wipe0, ap_runF, ap_seq, ap_next, ap_expr, ap_ret, ap_if, ap_asg, ap_par, ap_aug, ap_nm, ap_tp, ap_gnil, ap_gcons, ap_gix, ap_var, ap_c, ap_op1, ap_op2, ap_opL, ap_anil, ap_acons, ap_tup, ap_lst, ap_fz, ap_new, ap_call, ap_mth, ap_bl, ap_tru, ap_bnot, ap_band, ap_bor, ap_and, ap_or, ap_not, ap_eif, ap_for, ap_lc, ap_rg1, ap_rg2, ap_zp, ap_iseq, ap_slc, ap_onone, ap_osome, ap_chain, ap_lstof, ap_suml, bnd_some, bnd_none, List.map_cons, List.map_nil, List.length_cons, List.length_nil, List.replicate_succ, List.replicate_zero, List.cons_append, List.nil_append, List.append_nil, List.getElem?_cons_zero, List.getElem?_cons_succ, List.set_cons_zero, List.set_cons_succ, Nat.reduceSub, Nat.reduceAdd, Nat.reduceLeDiff, Nat.reduceEqDiff, Nat.zero_add, if_true, if_false, reduceIte, reduceCtorEq, Bool.false_eq_true, Bool.not_true, Bool.not_false, decide_true, decide_false, Nat.sub_self, Nat.sub_zero, Nat.zero_le, Nat.le_refl, gt_i, ge_i, lt_i, le_i, eq_i, ne_i, eq_b, ne_b, add_i, sub_i, neg_i, addI_i, eq_w, ne_w, rev_w, len_w, get_new, set_new, wsD]
  rw [lcF_map wD (fun _ => true) (fun _ => D.bl true) ws [] (fun w hw => ⟨_, rfl, rfl, fun _ => ?_⟩) (szN (by omega))]
  · have e2 : ws.all (fun _ => true) = true := by simp
    simp only [ap_wipe, ap_wipe0, ap_runF, ap_seq, ap_next, ap_expr, ap_ret, ap_if, ap_asg, ap_par, ap_aug, ap_nm, ap_tp, ap_gnil, ap_gcons, ap_gix, ap_var, ap_c, ap_op1, ap_op2, ap_opL, ap_anil, ap_acons, ap_tup, ap_lst, ap_fz, ap_new, ap_call, ap_mth, ap_bl, ap_tru, ap_bnot, ap_band, ap_bor, ap_and, ap_or, ap_not, ap_eif, ap_for, ap_lc, ap_rg1, ap_rg2, ap_zp, ap_iseq, ap_slc, ap_onone, ap_osome, ap_chain, ap_lstof, ap_suml, bnd_some, bnd_none, List.map_cons, List.map_nil, List.length_cons, List.length_nil, List.replicate_succ, List.replicate_zero, List.cons_append, List.nil_append, List.append_nil, List.getElem?_cons_zero, List.getElem?_cons_succ, List.set_cons_zero, List.set_cons_succ, Nat.reduceSub, Nat.reduceAdd, Nat.reduceLeDiff, Nat.reduceEqDiff, Nat.zero_add, if_true, if_false, reduceIte, reduceCtorEq, Bool.false_eq_true, Bool.not_true, Bool.not_false, decide_true, decide_false, Nat.sub_self, Nat.sub_zero, Nat.zero_le, Nat.le_refl, gt_i, ge_i, lt_i, le_i, eq_i, ne_i, eq_b, ne_b, add_i, sub_i, neg_i, addI_i, eq_w, ne_w, rev_w, len_w, get_new, set_new, fl_true, all_l (r := fun _ : List Int => true) (l := ws), e2, tru_b]
    rw [lcF_map wD (fun _ => true) (fun w => D.int w.length) ws [] (fun w hw => ⟨_, rfl, rfl, fun _ => ?_⟩) (szN (by omega))]
    · have e : (ws.map fun w : List Int => (w.length : Int)).sum = ((ws.map List.length).sum : Nat) := by
        clear h1 h2 h hl e2
        induction ws with
        | nil => rfl
        | cons w ws ih => simp only [List.map_cons, List.sum_cons, ih, Int.natCast_add]
      simp only [ap_wipe, ap_wipe0, ap_runF, ap_seq, ap_next, ap_expr, ap_ret, ap_if, ap_asg, ap_par, ap_aug, ap_nm, ap_tp, ap_gnil, ap_gcons, ap_gix, ap_var, ap_c, ap_op1, ap_op2, ap_opL, ap_anil, ap_acons, ap_tup, ap_lst, ap_fz, ap_new, ap_call, ap_mth, ap_bl, ap_tru, ap_bnot, ap_band, ap_bor, ap_and, ap_or, ap_not, ap_eif, ap_for, ap_lc, ap_rg1, ap_rg2, ap_zp, ap_iseq, ap_slc, ap_onone, ap_osome, ap_chain, ap_lstof, ap_suml, bnd_some, bnd_none, List.map_cons, List.map_nil, List.length_cons, List.length_nil, List.replicate_succ, List.replicate_zero, List.cons_append, List.nil_append, List.append_nil, List.getElem?_cons_zero, List.getElem?_cons_succ, List.set_cons_zero, List.set_cons_succ, Nat.reduceSub, Nat.reduceAdd, Nat.reduceLeDiff, Nat.reduceEqDiff, Nat.zero_add, if_true, if_false, reduceIte, reduceCtorEq, Bool.false_eq_true, Bool.not_true, Bool.not_false, decide_true, decide_false, Nat.sub_self, Nat.sub_zero, Nat.zero_le, Nat.le_refl, gt_i, ge_i, lt_i, le_i, eq_i, ne_i, eq_b, ne_b, add_i, sub_i, neg_i, addI_i, eq_w, ne_w, rev_w, len_w, get_new, set_new, fl_true, sum_l (r := fun w : List Int => (w.length : Int)) (l := ws), e]
      rw [decide_eq_true (by omega)]
    · simp only [ap_wipe, ap_wipe0, ap_runF, ap_seq, ap_next, ap_expr, ap_ret, ap_if, ap_asg, ap_par, ap_aug, ap_nm, ap_tp, ap_gnil, ap_gcons, ap_gix, ap_var, ap_c, ap_op1, ap_op2, ap_opL, ap_anil, ap_acons, ap_tup, ap_lst, ap_fz, ap_new, ap_call, ap_mth, ap_bl, ap_tru, ap_bnot, ap_band, ap_bor, ap_and, ap_or, ap_not, ap_eif, ap_for, ap_lc, ap_rg1, ap_rg2, ap_zp, ap_iseq, ap_slc, ap_onone, ap_osome, ap_chain, ap_lstof, ap_suml, bnd_some, bnd_none, List.map_cons, List.map_nil, List.length_cons, List.length_nil, List.replicate_succ, List.replicate_zero, List.cons_append, List.nil_append, List.append_nil, List.getElem?_cons_zero, List.getElem?_cons_succ, List.set_cons_zero, List.set_cons_succ, Nat.reduceSub, Nat.reduceAdd, Nat.reduceLeDiff, Nat.reduceEqDiff, Nat.zero_add, if_true, if_false, reduceIte, reduceCtorEq, Bool.false_eq_true, Bool.not_true, Bool.not_false, decide_true, decide_false, Nat.sub_self, Nat.sub_zero, Nat.zero_le, Nat.le_refl, gt_i, ge_i, lt_i, le_i, eq_i, ne_i, eq_b, ne_b, add_i, sub_i, neg_i, addI_i, eq_w, ne_w, rev_w, len_w, get_new, set_new, len_w]
  · simp only [ap_wipe, ap_wipe0, ap_runF, ap_seq, ap_next, ap_expr, ap_ret, ap_if, ap_asg, ap_par, ap_aug, ap_nm, ap_tp, ap_gnil, ap_gcons, ap_gix, ap_var, ap_c, ap_op1, ap_op2, ap_opL, ap_anil, ap_acons, ap_tup, ap_lst, ap_fz, ap_new, ap_call, ap_mth, ap_bl, ap_tru, ap_bnot, ap_band, ap_bor, ap_and, ap_or, ap_not, ap_eif, ap_for, ap_lc, ap_rg1, ap_rg2, ap_zp, ap_iseq, ap_slc, ap_onone, ap_osome, ap_chain, ap_lstof, ap_suml, bnd_some, bnd_none, List.map_cons, List.map_nil, List.length_cons, List.length_nil, List.replicate_succ, List.replicate_zero, List.cons_append, List.nil_append, List.append_nil, List.getElem?_cons_zero, List.getElem?_cons_succ, List.set_cons_zero, List.set_cons_succ, Nat.reduceSub, Nat.reduceAdd, Nat.reduceLeDiff, Nat.reduceEqDiff, Nat.zero_add, if_true, if_false, reduceIte, reduceCtorEq, Bool.false_eq_true, Bool.not_true, Bool.not_false, decide_true, decide_false, Nat.sub_self, Nat.sub_zero, Nat.zero_le, Nat.le_refl, gt_i, ge_i, lt_i, le_i, eq_i, ne_i, eq_b, ne_b, add_i, sub_i, neg_i, addI_i, eq_w, ne_w, rev_w, len_w, get_new, set_new, p_is_word_in r w S (hl w hw) (h w hw)]
theorem p_undone_in (w : List Int) (S : Sto) (hz : w.length ≤ 1000) : φ_undone_in [wD w] S = some (wD (und w), S) := by
  refine gz_pure0 ?_ wD_clo
  unfold f_undone_in
  simp only [ap_wipe, ap_wipe0, ap_runF, ap_seq, ap_next, ap_expr, ap_ret, ap_if, ap_asg, ap_par, ap_aug, ap_nm, ap_tp, ap_gnil, ap_gcons, ap_gix, ap_var, ap_c, ap_op1, ap_op2, ap_opL, ap_anil, ap_acons, ap_tup, ap_lst, ap_fz, ap_new, ap_call, ap_mth, ap_bl, ap_tru, ap_bnot, ap_band, ap_bor, ap_and, ap_or, ap_not, ap_eif, ap_for, ap_lc, ap_rg1, ap_rg2, ap_zp, ap_iseq, ap_slc, ap_onone, ap_osome, ap_chain, ap_lstof, ap_suml, bnd_some, bnd_none, List.map_cons, List.map_nil, List.length_cons, List.length_nil, List.replicate_succ, List.replicate_zero, List.cons_append, List.nil_append, List.append_nil, List.getElem?_cons_zero, List.getElem?_cons_succ, List.set_cons_zero, List.set_cons_succ, Nat.reduceSub, Nat.reduceAdd, Nat.reduceLeDiff, Nat.reduceEqDiff, Nat.zero_add, if_true, if_false, reduceIte, reduceCtorEq, Bool.false_eq_true, Bool.not_true, Bool.not_false, decide_true, decide_false, Nat.sub_self, Nat.sub_zero, Nat.zero_le, Nat.le_refl, gt_i, ge_i, lt_i, le_i, eq_i, ne_i, eq_b, ne_b, add_i, sub_i, neg_i, addI_i, eq_w, ne_w, rev_w, len_w, get_new, set_new]
  simp only [ap_wipe, ap_wipe0, ap_runF, ap_seq, ap_next, ap_expr, ap_ret, ap_if, ap_asg, ap_par, ap_aug, ap_nm, ap_tp, ap_gnil, ap_gcons, ap_gix, ap_var, ap_c, ap_op1, ap_op2, ap_opL, ap_anil, ap_acons, ap_tup, ap_lst, ap_fz, ap_new, ap_call, ap_mth, ap_bl, ap_tru, ap_bnot, ap_band, ap_bor, ap_and, ap_or, ap_not, ap_eif, ap_for, ap_lc, ap_rg1, ap_rg2, ap_zp, ap_iseq, ap_slc, ap_onone, ap_osome, ap_chain, ap_lstof, ap_suml, bnd_some, bnd_none, List.map_cons, List.map_nil, List.length_cons, List.length_nil, List.replicate_succ, List.replicate_zero, List.cons_append, List.nil_append, List.append_nil, List.getElem?_cons_zero, List.getElem?_cons_succ, List.set_cons_zero, List.set_cons_succ, Nat.reduceSub, Nat.reduceAdd, Nat.reduceLeDiff, Nat.reduceEqDiff, Nat.zero_add, if_true, if_false, reduceIte, reduceCtorEq, Bool.false_eq_true, Bool.not_true, Bool.not_false, decide_true, decide_false, Nat.sub_self, Nat.sub_zero, Nat.zero_le, Nat.le_refl, gt_i, ge_i, lt_i, le_i, eq_i, ne_i, eq_b, ne_b, add_i, sub_i, neg_i, addI_i, eq_w, ne_w, rev_w, len_w, get_new, set_new, wD]
  rw [lcF_map D.int (fun _ => true) (fun i => D.int (-i)) w.reverse [] (fun a ha => ⟨_, rfl, rfl, fun _ => ?_⟩) (szN (by rw [List.length_reverse]; omega))]
  · simp only [ap_wipe, ap_wipe0, ap_runF, ap_seq, ap_next, ap_expr, ap_ret, ap_if, ap_asg, ap_par, ap_aug, ap_nm, ap_tp, ap_gnil, ap_gcons, ap_gix, ap_var, ap_c, ap_op1, ap_op2, ap_opL, ap_anil, ap_acons, ap_tup, ap_lst, ap_fz, ap_new, ap_call, ap_mth, ap_bl, ap_tru, ap_bnot, ap_band, ap_bor, ap_and, ap_or, ap_not, ap_eif, ap_for, ap_lc, ap_rg1, ap_rg2, ap_zp, ap_iseq, ap_slc, ap_onone, ap_osome, ap_chain, ap_lstof, ap_suml, bnd_some, bnd_none, List.map_cons, List.map_nil, List.length_cons, List.length_nil, List.replicate_succ, List.replicate_zero, List.cons_append, List.nil_append, List.append_nil, List.getElem?_cons_zero, List.getElem?_cons_succ, List.set_cons_zero, List.set_cons_succ, Nat.reduceSub, Nat.reduceAdd, Nat.reduceLeDiff, Nat.reduceEqDiff, Nat.zero_add, if_true, if_false, reduceIte, reduceCtorEq, Bool.false_eq_true, Bool.not_true, Bool.not_false, decide_true, decide_false, Nat.sub_self, Nat.sub_zero, Nat.zero_le, Nat.le_refl, gt_i, ge_i, lt_i, le_i, eq_i, ne_i, eq_b, ne_b, add_i, sub_i, neg_i, addI_i, eq_w, ne_w, rev_w, len_w, get_new, set_new, fl_true, tup_l, und, List.map_map]
    rfl
  · simp only [ap_wipe, ap_wipe0, ap_runF, ap_seq, ap_next, ap_expr, ap_ret, ap_if, ap_asg, ap_par, ap_aug, ap_nm, ap_tp, ap_gnil, ap_gcons, ap_gix, ap_var, ap_c, ap_op1, ap_op2, ap_opL, ap_anil, ap_acons, ap_tup, ap_lst, ap_fz, ap_new, ap_call, ap_mth, ap_bl, ap_tru, ap_bnot, ap_band, ap_bor, ap_and, ap_or, ap_not, ap_eif, ap_for, ap_lc, ap_rg1, ap_rg2, ap_zp, ap_iseq, ap_slc, ap_onone, ap_osome, ap_chain, ap_lstof, ap_suml, bnd_some, bnd_none, List.map_cons, List.map_nil, List.length_cons, List.length_nil, List.replicate_succ, List.replicate_zero, List.cons_append, List.nil_append, List.append_nil, List.getElem?_cons_zero, List.getElem?_cons_succ, List.set_cons_zero, List.set_cons_succ, Nat.reduceSub, Nat.reduceAdd, Nat.reduceLeDiff, Nat.reduceEqDiff, Nat.zero_add, if_true, if_false, reduceIte, reduceCtorEq, Bool.false_eq_true, Bool.not_true, Bool.not_false, decide_true, decide_false, Nat.sub_self, Nat.sub_zero, Nat.zero_le, Nat.le_refl, gt_i, ge_i, lt_i, le_i, eq_i, ne_i, eq_b, ne_b, add_i, sub_i, neg_i, addI_i, eq_w, ne_w, rev_w, len_w, get_new, set_new]
/-- how many letters are lost between -/
def lostN : List Int → List Int → Nat
  | x :: xs, y :: ys => if x = -y then lostN xs ys + 1 else 0
  | _, _ => 0
theorem lostN_cons {x y : Int} {xs ys : List Int} : lostN (x :: xs) (y :: ys) = if x = -y then lostN xs ys + 1 else 0 := rfl
theorem zipD_cons {a b : D} {x y : List D} : zipD (a :: x) (b :: y) = .tup [a, b] :: zipD x y := rfl
theorem zipD_nil {y : List D} : zipD [] y = [] := rfl
theorem zipD_nil2 {x : List D} : zipD x [] = [] := by cases x <;> rfl
theorem p_lost_in (a b : List Int) (S : Sto) : φ_lost_in [wD a, wD b] S = some (.int (lostN a.reverse b), S) := by
  refine gz_pure0 ?_ rfl
  unfold f_lost_in
  simp only [ap_wipe, ap_wipe0, ap_runF, ap_seq, ap_next, ap_expr, ap_ret, ap_if, ap_asg, ap_par, ap_aug, ap_nm, ap_tp, ap_gnil, ap_gcons, ap_gix, ap_var, ap_c, ap_op1, ap_op2, ap_opL, ap_anil, ap_acons, ap_tup, ap_lst, ap_fz, ap_new, ap_call, ap_mth, ap_bl, ap_tru, ap_bnot, ap_band, ap_bor, ap_and, ap_or, ap_not, ap_eif, ap_for, ap_lc, ap_rg1, ap_rg2, ap_zp, ap_iseq, ap_slc, ap_onone, ap_osome, ap_chain, ap_lstof, ap_suml, bnd_some, bnd_none, List.map_cons, List.map_nil, List.length_cons, List.length_nil, List.replicate_succ, List.replicate_zero, List.cons_append, List.nil_append, List.append_nil, List.getElem?_cons_zero, List.getElem?_cons_succ, List.set_cons_zero, List.set_cons_succ, Nat.reduceSub, Nat.reduceAdd, Nat.reduceLeDiff, Nat.reduceEqDiff, Nat.zero_add, if_true, if_false, reduceIte, reduceCtorEq, Bool.false_eq_true, Bool.not_true, Bool.not_false, decide_true, decide_false, Nat.sub_self, Nat.sub_zero, Nat.zero_le, Nat.le_refl, gt_i, ge_i, lt_i, le_i, eq_i, ne_i, eq_b, ne_b, add_i, sub_i, neg_i, addI_i, eq_w, ne_w, rev_w, len_w, get_new, set_new]
  simp only [ap_wipe, ap_wipe0, ap_runF, ap_seq, ap_next, ap_expr, ap_ret, ap_if, ap_asg, ap_par, ap_aug, ap_nm, ap_tp, ap_gnil, ap_gcons, ap_gix, ap_var, ap_c, ap_op1, ap_op2, ap_opL, ap_anil, ap_acons, ap_tup, ap_lst, ap_fz, ap_new, ap_call, ap_mth, ap_bl, ap_tru, ap_bnot, ap_band, ap_bor, ap_and, ap_or, ap_not, ap_eif, ap_for, ap_lc, ap_rg1, ap_rg2, ap_zp, ap_iseq, ap_slc, ap_onone, ap_osome, ap_chain, ap_lstof, ap_suml, bnd_some, bnd_none, List.map_cons, List.map_nil, List.length_cons, List.length_nil, List.replicate_succ, List.replicate_zero, List.cons_append, List.nil_append, List.append_nil, List.getElem?_cons_zero, List.getElem?_cons_succ, List.set_cons_zero, List.set_cons_succ, Nat.reduceSub, Nat.reduceAdd, Nat.reduceLeDiff, Nat.reduceEqDiff, Nat.zero_add, if_true, if_false, reduceIte, reduceCtorEq, Bool.false_eq_true, Bool.not_true, Bool.not_false, decide_true, decide_false, Nat.sub_self, Nat.sub_zero, Nat.zero_le, Nat.le_refl, gt_i, ge_i, lt_i, le_i, eq_i, ne_i, eq_b, ne_b, add_i, sub_i, neg_i, addI_i, eq_w, ne_w, rev_w, len_w, get_new, set_new, wD]
  have key : ∀ (xs ys : List Int) (c : Int) (env : En) (ds0 : List D), (∃ p q u v, env = [p, q, some (.int c), u, v]) → ∃ r, loopF ⟨ds0, none⟩ (gTp 2 (gsCons (gNm 3) (gsCons (gNm 4) gsNil))) (sSeq (sIf (bBl (eOp2 cmpNe (eVar 3) (eOp1 negD (eVar 4)))) (sRet (eVar 2)) sNext) (sAug 2 (eC (.int 1)) addI)) (zipD (iL xs) (iL ys)) env S = some (r, S) ∧
      (r = .rt (.int (c + lostN xs ys)) ∨ ∃ p q u v, r = .nx [p, q, some (.int (c + lostN xs ys)), u, v]) := by
    intro xs
    induction xs with
    | nil =>
      intro ys c env ds0 ⟨p, q, u, v, he⟩
      exact ⟨.nx env, by rw [iL_nil, zipD_nil, loopF_nil], .inr ⟨p, q, u, v, by rw [he]; simp [lostN]⟩⟩
    | cons x xs ih =>
      intro ys c env ds0 ⟨p, q, u, v, he⟩
      cases ys with
      | nil => exact ⟨.nx env, by rw [iL_nil, zipD_nil2, loopF_nil], .inr ⟨p, q, u, v, by rw [he]; simp [lostN]⟩⟩
      | cons y ys =>
        rw [iL_cons, iL_cons, zipD_cons, loopF_cons, he]
        by_cases hxy : x = -y
        · obtain ⟨r, h1, h2⟩ := ih ys (c + 1) [p, q, some (.int (c + 1)), some (.int x), some (.int y)] ds0 ⟨p, q, _, _, rfl⟩
          refine ⟨r, ?_, ?_⟩
          · simp only [ap_wipe, ap_wipe0, ap_runF, ap_seq, ap_next, ap_expr, ap_ret, ap_if, ap_asg, ap_par, ap_aug, ap_nm, ap_tp, ap_gnil, ap_gcons, ap_gix, ap_var, ap_c, ap_op1, ap_op2, ap_opL, ap_anil, ap_acons, ap_tup, ap_lst, ap_fz, ap_new, ap_call, ap_mth, ap_bl, ap_tru, ap_bnot, ap_band, ap_bor, ap_and, ap_or, ap_not, ap_eif, ap_for, ap_lc, ap_rg1, ap_rg2, ap_zp, ap_iseq, ap_slc, ap_onone, ap_osome, ap_chain, ap_lstof, ap_suml, bnd_some, bnd_none, List.map_cons, List.map_nil, List.length_cons, List.length_nil, List.replicate_succ, List.replicate_zero, List.cons_append, List.nil_append, List.append_nil, List.getElem?_cons_zero, List.getElem?_cons_succ, List.set_cons_zero, List.set_cons_succ, Nat.reduceSub, Nat.reduceAdd, Nat.reduceLeDiff, Nat.reduceEqDiff, Nat.zero_add, if_true, if_false, reduceIte, reduceCtorEq, Bool.false_eq_true, Bool.not_true, Bool.not_false, decide_true, decide_false, Nat.sub_self, Nat.sub_zero, Nat.zero_le, Nat.le_refl, gt_i, ge_i, lt_i, le_i, eq_i, ne_i, eq_b, ne_b, add_i, sub_i, neg_i, addI_i, eq_w, ne_w, rev_w, len_w, get_new, set_new, hxy]
            rw [← hxy, h1]
          · have e : c + 1 + (lostN xs ys : Int) = c + (lostN (x :: xs) (y :: ys) : Int) := by
              rw [lostN_cons, if_pos hxy]
              omega
            rw [e] at h2
            exact h2
        · refine ⟨.rt (.int c), ?_, .inl ?_⟩
          · simp only [ap_wipe, ap_wipe0, ap_runF, ap_seq, ap_next, ap_expr, ap_ret, ap_if, ap_asg, ap_par, ap_aug, ap_nm, ap_tp, ap_gnil, ap_gcons, ap_gix, ap_var, ap_c, ap_op1, ap_op2, ap_opL, ap_anil, ap_acons, ap_tup, ap_lst, ap_fz, ap_new, ap_call, ap_mth, ap_bl, ap_tru, ap_bnot, ap_band, ap_bor, ap_and, ap_or, ap_not, ap_eif, ap_for, ap_lc, ap_rg1, ap_rg2, ap_zp, ap_iseq, ap_slc, ap_onone, ap_osome, ap_chain, ap_lstof, ap_suml, bnd_some, bnd_none, List.map_cons, List.map_nil, List.length_cons, List.length_nil, List.replicate_succ, List.replicate_zero, List.cons_append, List.nil_append, List.append_nil, List.getElem?_cons_zero, List.getElem?_cons_succ, List.set_cons_zero, List.set_cons_succ, Nat.reduceSub, Nat.reduceAdd, Nat.reduceLeDiff, Nat.reduceEqDiff, Nat.zero_add, if_true, if_false, reduceIte, reduceCtorEq, Bool.false_eq_true, Bool.not_true, Bool.not_false, decide_true, decide_false, Nat.sub_self, Nat.sub_zero, Nat.zero_le, Nat.le_refl, gt_i, ge_i, lt_i, le_i, eq_i, ne_i, eq_b, ne_b, add_i, sub_i, neg_i, addI_i, eq_w, ne_w, rev_w, len_w, get_new, set_new, hxy]
          · rw [lostN_cons, if_neg hxy]
            simp
  rw [← iL_rev] at *
  obtain ⟨r, h1, h2⟩ := key a.reverse b 0 [some (.tup (iL a)), some (.tup (iL b)), some (.int 0), none, none] (zipD (iL a.reverse) (iL b)) ⟨_, _, _, _, rfl⟩
  simp only [iL_rev]
  rw [h1]
  rcases h2 with rfl | ⟨p, q, u, v, rfl⟩
  · simp only [ap_wipe, ap_wipe0, ap_runF, ap_seq, ap_next, ap_expr, ap_ret, ap_if, ap_asg, ap_par, ap_aug, ap_nm, ap_tp, ap_gnil, ap_gcons, ap_gix, ap_var, ap_c, ap_op1, ap_op2, ap_opL, ap_anil, ap_acons, ap_tup, ap_lst, ap_fz, ap_new, ap_call, ap_mth, ap_bl, ap_tru, ap_bnot, ap_band, ap_bor, ap_and, ap_or, ap_not, ap_eif, ap_for, ap_lc, ap_rg1, ap_rg2, ap_zp, ap_iseq, ap_slc, ap_onone, ap_osome, ap_chain, ap_lstof, ap_suml, bnd_some, bnd_none, List.map_cons, List.map_nil, List.length_cons, List.length_nil, List.replicate_succ, List.replicate_zero, List.cons_append, List.nil_append, List.append_nil, List.getElem?_cons_zero, List.getElem?_cons_succ, List.set_cons_zero, List.set_cons_succ, Nat.reduceSub, Nat.reduceAdd, Nat.reduceLeDiff, Nat.reduceEqDiff, Nat.zero_add, if_true, if_false, reduceIte, reduceCtorEq, Bool.false_eq_true, Bool.not_true, Bool.not_false, decide_true, decide_false, Nat.sub_self, Nat.sub_zero, Nat.zero_le, Nat.le_refl, gt_i, ge_i, lt_i, le_i, eq_i, ne_i, eq_b, ne_b, add_i, sub_i, neg_i, addI_i, eq_w, ne_w, rev_w, len_w, get_new, set_new, Int.zero_add]
  · simp only [ap_wipe, ap_wipe0, ap_runF, ap_seq, ap_next, ap_expr, ap_ret, ap_if, ap_asg, ap_par, ap_aug, ap_nm, ap_tp, ap_gnil, ap_gcons, ap_gix, ap_var, ap_c, ap_op1, ap_op2, ap_opL, ap_anil, ap_acons, ap_tup, ap_lst, ap_fz, ap_new, ap_call, ap_mth, ap_bl, ap_tru, ap_bnot, ap_band, ap_bor, ap_and, ap_or, ap_not, ap_eif, ap_for, ap_lc, ap_rg1, ap_rg2, ap_zp, ap_iseq, ap_slc, ap_onone, ap_osome, ap_chain, ap_lstof, ap_suml, bnd_some, bnd_none, List.map_cons, List.map_nil, List.length_cons, List.length_nil, List.replicate_succ, List.replicate_zero, List.cons_append, List.nil_append, List.append_nil, List.getElem?_cons_zero, List.getElem?_cons_succ, List.set_cons_zero, List.set_cons_succ, Nat.reduceSub, Nat.reduceAdd, Nat.reduceLeDiff, Nat.reduceEqDiff, Nat.zero_add, if_true, if_false, reduceIte, reduceCtorEq, Bool.false_eq_true, Bool.not_true, Bool.not_false, decide_true, decide_false, Nat.sub_self, Nat.sub_zero, Nat.zero_le, Nat.le_refl, gt_i, ge_i, lt_i, le_i, eq_i, ne_i, eq_b, ne_b, add_i, sub_i, neg_i, addI_i, eq_w, ne_w, rev_w, len_w, get_new, set_new, Int.zero_add]
end Hx

namespace Hx
open PySem PySem.Spec PyProof.Rows L2 PU
def cnts (k : Nat) (w : List Int) : List Int := (List.range k).map fun (i : Nat) => (w.count (1 + (i : Int)) : Int) - (w.count (-(1 + (i : Int))) : Int)
theorem p_counts_in (k : Nat) (w : List Int) (S : Sto) (h : k ≤ 4) : φ_counts_in [.int k, wD w] S = some (wD (cnts k w), S) := by
  refine gz_pure0 ?_ wD_clo
  unfold f_counts_in
  simp only [ap_wipe, ap_wipe0, ap_runF, ap_seq, ap_next, ap_expr, ap_ret, ap_if, ap_asg, ap_par, ap_aug, ap_nm, ap_tp, ap_gnil, ap_gcons, ap_gix, ap_var, ap_c, ap_op1, ap_op2, ap_opL, ap_anil, ap_acons, ap_tup, ap_lst, ap_fz, ap_new, ap_call, ap_mth, ap_bl, ap_tru, ap_bnot, ap_band, ap_bor, ap_and, ap_or, ap_not, ap_eif, ap_for, ap_lc, ap_rg1, ap_rg2, ap_zp, ap_iseq, ap_slc, ap_onone, ap_osome, ap_chain, ap_lstof, ap_suml, bnd_some, bnd_none, List.map_cons, List.map_nil, List.length_cons, List.length_nil, List.replicate_succ, List.replicate_zero, List.cons_append, List.nil_append, List.append_nil, List.getElem?_cons_zero, List.getElem?_cons_succ, List.set_cons_zero, List.set_cons_succ, Nat.reduceSub, Nat.reduceAdd, Nat.reduceLeDiff, Nat.reduceEqDiff, Nat.zero_add, if_true, if_false, reduceIte, reduceCtorEq, Bool.false_eq_true, Bool.not_true, Bool.not_false, decide_true, decide_false, Nat.sub_self, Nat.sub_zero, Nat.zero_le, Nat.le_refl, gt_i, ge_i, lt_i, le_i, eq_i, ne_i, eq_b, ne_b, add_i, sub_i, neg_i, addI_i, eq_w, ne_w, rev_w, len_w, get_new, set_new]
  rw [if_pos ⟨fit_of (by omega), fit_of (by omega)⟩]
  simp only [ap_wipe, ap_wipe0, ap_runF, ap_seq, ap_next, ap_expr, ap_ret, ap_if, ap_asg, ap_par, ap_aug, ap_nm, ap_tp, ap_gnil, ap_gcons, ap_gix, ap_var, ap_c, ap_op1, ap_op2, ap_opL, ap_anil, ap_acons, ap_tup, ap_lst, ap_fz, ap_new, ap_call, ap_mth, ap_bl, ap_tru, ap_bnot, ap_band, ap_bor, ap_and, ap_or, ap_not, ap_eif, ap_for, ap_lc, ap_rg1, ap_rg2, ap_zp, ap_iseq, ap_slc, ap_onone, ap_osome, ap_chain, ap_lstof, ap_suml, bnd_some, bnd_none, List.map_cons, List.map_nil, List.length_cons, List.length_nil, List.replicate_succ, List.replicate_zero, List.cons_append, List.nil_append, List.append_nil, List.getElem?_cons_zero, List.getElem?_cons_succ, List.set_cons_zero, List.set_cons_succ, Nat.reduceSub, Nat.reduceAdd, Nat.reduceLeDiff, Nat.reduceEqDiff, Nat.zero_add, if_true, if_false, reduceIte, reduceCtorEq, Bool.false_eq_true, Bool.not_true, Bool.not_false, decide_true, decide_false, Nat.sub_self, Nat.sub_zero, Nat.zero_le, Nat.le_refl, gt_i, ge_i, lt_i, le_i, eq_i, ne_i, eq_b, ne_b, add_i, sub_i, neg_i, addI_i, eq_w, ne_w, rev_w, len_w, get_new, set_new, rgD_map]
  rw [lcF_map (fun i : Nat => D.int (1 + (i : Int))) (fun _ => true) (fun i : Nat => D.int ((w.count (1 + (i : Int)) : Int) - (w.count (-(1 + (i : Int))) : Int))) (List.range ((k : Int) + 1 - 1).toNat) [] (fun i hi => ⟨_, rfl, rfl, fun _ => ?_⟩) (szN (by rw [List.length_range]; omega))]
  · simp only [ap_wipe, ap_wipe0, ap_runF, ap_seq, ap_next, ap_expr, ap_ret, ap_if, ap_asg, ap_par, ap_aug, ap_nm, ap_tp, ap_gnil, ap_gcons, ap_gix, ap_var, ap_c, ap_op1, ap_op2, ap_opL, ap_anil, ap_acons, ap_tup, ap_lst, ap_fz, ap_new, ap_call, ap_mth, ap_bl, ap_tru, ap_bnot, ap_band, ap_bor, ap_and, ap_or, ap_not, ap_eif, ap_for, ap_lc, ap_rg1, ap_rg2, ap_zp, ap_iseq, ap_slc, ap_onone, ap_osome, ap_chain, ap_lstof, ap_suml, bnd_some, bnd_none, List.map_cons, List.map_nil, List.length_cons, List.length_nil, List.replicate_succ, List.replicate_zero, List.cons_append, List.nil_append, List.append_nil, List.getElem?_cons_zero, List.getElem?_cons_succ, List.set_cons_zero, List.set_cons_succ, Nat.reduceSub, Nat.reduceAdd, Nat.reduceLeDiff, Nat.reduceEqDiff, Nat.zero_add, if_true, if_false, reduceIte, reduceCtorEq, Bool.false_eq_true, Bool.not_true, Bool.not_false, decide_true, decide_false, Nat.sub_self, Nat.sub_zero, Nat.zero_le, Nat.le_refl, gt_i, ge_i, lt_i, le_i, eq_i, ne_i, eq_b, ne_b, add_i, sub_i, neg_i, addI_i, eq_w, ne_w, rev_w, len_w, get_new, set_new, fl_true, tup_l, show ((k : Int) + 1 - 1).toNat = k by omega]
    simp only [wD, cnts, List.map_map]
    rfl
  · simp only [ap_wipe, ap_wipe0, ap_runF, ap_seq, ap_next, ap_expr, ap_ret, ap_if, ap_asg, ap_par, ap_aug, ap_nm, ap_tp, ap_gnil, ap_gcons, ap_gix, ap_var, ap_c, ap_op1, ap_op2, ap_opL, ap_anil, ap_acons, ap_tup, ap_lst, ap_fz, ap_new, ap_call, ap_mth, ap_bl, ap_tru, ap_bnot, ap_band, ap_bor, ap_and, ap_or, ap_not, ap_eif, ap_for, ap_lc, ap_rg1, ap_rg2, ap_zp, ap_iseq, ap_slc, ap_onone, ap_osome, ap_chain, ap_lstof, ap_suml, bnd_some, bnd_none, List.map_cons, List.map_nil, List.length_cons, List.length_nil, List.replicate_succ, List.replicate_zero, List.cons_append, List.nil_append, List.append_nil, List.getElem?_cons_zero, List.getElem?_cons_succ, List.set_cons_zero, List.set_cons_succ, Nat.reduceSub, Nat.reduceAdd, Nat.reduceLeDiff, Nat.reduceEqDiff, Nat.zero_add, if_true, if_false, reduceIte, reduceCtorEq, Bool.false_eq_true, Bool.not_true, Bool.not_false, decide_true, decide_false, Nat.sub_self, Nat.sub_zero, Nat.zero_le, Nat.le_refl, gt_i, ge_i, lt_i, le_i, eq_i, ne_i, eq_b, ne_b, add_i, sub_i, neg_i, addI_i, eq_w, ne_w, rev_w, len_w, get_new, set_new, cnt_w]
def plc (i : Int) : Int := 2 * (if i < 0 then -i else i) - (if 0 < i then 2 else 1)
theorem p_place_of_letter (i : Int) (S : Sto) (h : -1000 ≤ i ∧ i ≤ 1000) : φ_place_of_letter [.int i] S = some (.int (plc i), S) := by
  refine gz_pure0 ?_ rfl
  unfold f_place_of_letter
  have hm : CMulW 2 (if i < 0 then -i else i) := mulW_of (by decide) (by
    have : (1000 : Nat) < 2 ^ 200 := by decide
    have : (if i < 0 then -i else i).natAbs ≤ 1000 := by split <;> omega
    omega)
  simp only [ap_wipe, ap_wipe0, ap_runF, ap_seq, ap_next, ap_expr, ap_ret, ap_if, ap_asg, ap_par, ap_aug, ap_nm, ap_tp, ap_gnil, ap_gcons, ap_gix, ap_var, ap_c, ap_op1, ap_op2, ap_opL, ap_anil, ap_acons, ap_tup, ap_lst, ap_fz, ap_new, ap_call, ap_mth, ap_bl, ap_tru, ap_bnot, ap_band, ap_bor, ap_and, ap_or, ap_not, ap_eif, ap_for, ap_lc, ap_rg1, ap_rg2, ap_zp, ap_iseq, ap_slc, ap_onone, ap_osome, ap_chain, ap_lstof, ap_suml, bnd_some, bnd_none, List.map_cons, List.map_nil, List.length_cons, List.length_nil, List.replicate_succ, List.replicate_zero, List.cons_append, List.nil_append, List.append_nil, List.getElem?_cons_zero, List.getElem?_cons_succ, List.set_cons_zero, List.set_cons_succ, Nat.reduceSub, Nat.reduceAdd, Nat.reduceLeDiff, Nat.reduceEqDiff, Nat.zero_add, if_true, if_false, reduceIte, reduceCtorEq, Bool.false_eq_true, Bool.not_true, Bool.not_false, decide_true, decide_false, Nat.sub_self, Nat.sub_zero, Nat.zero_le, Nat.le_refl, gt_i, ge_i, lt_i, le_i, eq_i, ne_i, eq_b, ne_b, add_i, sub_i, neg_i, addI_i, eq_w, ne_w, rev_w, len_w, get_new, set_new, abs_i, mul_i hm]
  by_cases hi : 0 < i
  · simp only [ap_wipe, ap_wipe0, ap_runF, ap_seq, ap_next, ap_expr, ap_ret, ap_if, ap_asg, ap_par, ap_aug, ap_nm, ap_tp, ap_gnil, ap_gcons, ap_gix, ap_var, ap_c, ap_op1, ap_op2, ap_opL, ap_anil, ap_acons, ap_tup, ap_lst, ap_fz, ap_new, ap_call, ap_mth, ap_bl, ap_tru, ap_bnot, ap_band, ap_bor, ap_and, ap_or, ap_not, ap_eif, ap_for, ap_lc, ap_rg1, ap_rg2, ap_zp, ap_iseq, ap_slc, ap_onone, ap_osome, ap_chain, ap_lstof, ap_suml, bnd_some, bnd_none, List.map_cons, List.map_nil, List.length_cons, List.length_nil, List.replicate_succ, List.replicate_zero, List.cons_append, List.nil_append, List.append_nil, List.getElem?_cons_zero, List.getElem?_cons_succ, List.set_cons_zero, List.set_cons_succ, Nat.reduceSub, Nat.reduceAdd, Nat.reduceLeDiff, Nat.reduceEqDiff, Nat.zero_add, if_true, if_false, reduceIte, reduceCtorEq, Bool.false_eq_true, Bool.not_true, Bool.not_false, decide_true, decide_false, Nat.sub_self, Nat.sub_zero, Nat.zero_le, Nat.le_refl, gt_i, ge_i, lt_i, le_i, eq_i, ne_i, eq_b, ne_b, add_i, sub_i, neg_i, addI_i, eq_w, ne_w, rev_w, len_w, get_new, set_new, hi]
    simp only [plc, hi, if_true]
  · simp only [ap_wipe, ap_wipe0, ap_runF, ap_seq, ap_next, ap_expr, ap_ret, ap_if, ap_asg, ap_par, ap_aug, ap_nm, ap_tp, ap_gnil, ap_gcons, ap_gix, ap_var, ap_c, ap_op1, ap_op2, ap_opL, ap_anil, ap_acons, ap_tup, ap_lst, ap_fz, ap_new, ap_call, ap_mth, ap_bl, ap_tru, ap_bnot, ap_band, ap_bor, ap_and, ap_or, ap_not, ap_eif, ap_for, ap_lc, ap_rg1, ap_rg2, ap_zp, ap_iseq, ap_slc, ap_onone, ap_osome, ap_chain, ap_lstof, ap_suml, bnd_some, bnd_none, List.map_cons, List.map_nil, List.length_cons, List.length_nil, List.replicate_succ, List.replicate_zero, List.cons_append, List.nil_append, List.append_nil, List.getElem?_cons_zero, List.getElem?_cons_succ, List.set_cons_zero, List.set_cons_succ, Nat.reduceSub, Nat.reduceAdd, Nat.reduceLeDiff, Nat.reduceEqDiff, Nat.zero_add, if_true, if_false, reduceIte, reduceCtorEq, Bool.false_eq_true, Bool.not_true, Bool.not_false, decide_true, decide_false, Nat.sub_self, Nat.sub_zero, Nat.zero_le, Nat.le_refl, gt_i, ge_i, lt_i, le_i, eq_i, ne_i, eq_b, ne_b, add_i, sub_i, neg_i, addI_i, eq_w, ne_w, rev_w, len_w, get_new, set_new, hi]
    simp only [plc, hi, if_false]
def keyD (w : List Int) : D := .tup [.int w.length, wD (w.map plc)]
def smallW (w : List Int) : Prop := ∀ i ∈ w, -1000 ≤ i ∧ i ≤ 1000
theorem okW_small {r : Int} {w : List Int} (h : okW r w) (hr : r ≤ 4) : smallW w := fun i hi => by
  have := h i hi
  unfold okL at this
  omega
theorem keyD_clo {w : List Int} : clo 0 (keyD w) = true := by
  show (true && (clo 0 (wD (w.map plc)) && true)) = true
  rw [wD_clo]
  rfl
theorem p_sequence_key (w : List Int) (S : Sto) (hz : w.length ≤ 1000) (h : smallW w) : φ_sequence_key [wD w] S = some (keyD w, S) := by
  refine gz_pure0 ?_ keyD_clo
  unfold f_sequence_key
  simp only [ap_wipe, ap_wipe0, ap_runF, ap_seq, ap_next, ap_expr, ap_ret, ap_if, ap_asg, ap_par, ap_aug, ap_nm, ap_tp, ap_gnil, ap_gcons, ap_gix, ap_var, ap_c, ap_op1, ap_op2, ap_opL, ap_anil, ap_acons, ap_tup, ap_lst, ap_fz, ap_new, ap_call, ap_mth, ap_bl, ap_tru, ap_bnot, ap_band, ap_bor, ap_and, ap_or, ap_not, ap_eif, ap_for, ap_lc, ap_rg1, ap_rg2, ap_zp, ap_iseq, ap_slc, ap_onone, ap_osome, ap_chain, ap_lstof, ap_suml, bnd_some, bnd_none, List.map_cons, List.map_nil, List.length_cons, List.length_nil, List.replicate_succ, List.replicate_zero, List.cons_append, List.nil_append, List.append_nil, List.getElem?_cons_zero, List.getElem?_cons_succ, List.set_cons_zero, List.set_cons_succ, Nat.reduceSub, Nat.reduceAdd, Nat.reduceLeDiff, Nat.reduceEqDiff, Nat.zero_add, if_true, if_false, reduceIte, reduceCtorEq, Bool.false_eq_true, Bool.not_true, Bool.not_false, decide_true, decide_false, Nat.sub_self, Nat.sub_zero, Nat.zero_le, Nat.le_refl, gt_i, ge_i, lt_i, le_i, eq_i, ne_i, eq_b, ne_b, add_i, sub_i, neg_i, addI_i, eq_w, ne_w, rev_w, len_w, get_new, set_new]
  simp only [ap_wipe, ap_wipe0, ap_runF, ap_seq, ap_next, ap_expr, ap_ret, ap_if, ap_asg, ap_par, ap_aug, ap_nm, ap_tp, ap_gnil, ap_gcons, ap_gix, ap_var, ap_c, ap_op1, ap_op2, ap_opL, ap_anil, ap_acons, ap_tup, ap_lst, ap_fz, ap_new, ap_call, ap_mth, ap_bl, ap_tru, ap_bnot, ap_band, ap_bor, ap_and, ap_or, ap_not, ap_eif, ap_for, ap_lc, ap_rg1, ap_rg2, ap_zp, ap_iseq, ap_slc, ap_onone, ap_osome, ap_chain, ap_lstof, ap_suml, bnd_some, bnd_none, List.map_cons, List.map_nil, List.length_cons, List.length_nil, List.replicate_succ, List.replicate_zero, List.cons_append, List.nil_append, List.append_nil, List.getElem?_cons_zero, List.getElem?_cons_succ, List.set_cons_zero, List.set_cons_succ, Nat.reduceSub, Nat.reduceAdd, Nat.reduceLeDiff, Nat.reduceEqDiff, Nat.zero_add, if_true, if_false, reduceIte, reduceCtorEq, Bool.false_eq_true, Bool.not_true, Bool.not_false, decide_true, decide_false, Nat.sub_self, Nat.sub_zero, Nat.zero_le, Nat.le_refl, gt_i, ge_i, lt_i, le_i, eq_i, ne_i, eq_b, ne_b, add_i, sub_i, neg_i, addI_i, eq_w, ne_w, rev_w, len_w, get_new, set_new, wD]
  rw [lcF_map D.int (fun _ => true) (fun i => D.int (plc i)) w [] (fun i hi => ⟨_, rfl, rfl, fun _ => ?_⟩) (szN (by omega))]
  · simp only [ap_wipe, ap_wipe0, ap_runF, ap_seq, ap_next, ap_expr, ap_ret, ap_if, ap_asg, ap_par, ap_aug, ap_nm, ap_tp, ap_gnil, ap_gcons, ap_gix, ap_var, ap_c, ap_op1, ap_op2, ap_opL, ap_anil, ap_acons, ap_tup, ap_lst, ap_fz, ap_new, ap_call, ap_mth, ap_bl, ap_tru, ap_bnot, ap_band, ap_bor, ap_and, ap_or, ap_not, ap_eif, ap_for, ap_lc, ap_rg1, ap_rg2, ap_zp, ap_iseq, ap_slc, ap_onone, ap_osome, ap_chain, ap_lstof, ap_suml, bnd_some, bnd_none, List.map_cons, List.map_nil, List.length_cons, List.length_nil, List.replicate_succ, List.replicate_zero, List.cons_append, List.nil_append, List.append_nil, List.getElem?_cons_zero, List.getElem?_cons_succ, List.set_cons_zero, List.set_cons_succ, Nat.reduceSub, Nat.reduceAdd, Nat.reduceLeDiff, Nat.reduceEqDiff, Nat.zero_add, if_true, if_false, reduceIte, reduceCtorEq, Bool.false_eq_true, Bool.not_true, Bool.not_false, decide_true, decide_false, Nat.sub_self, Nat.sub_zero, Nat.zero_le, Nat.le_refl, gt_i, ge_i, lt_i, le_i, eq_i, ne_i, eq_b, ne_b, add_i, sub_i, neg_i, addI_i, eq_w, ne_w, rev_w, len_w, get_new, set_new, fl_true, tup_l]
    rw [if_pos (sizeBig (by omega))]
    simp only [ap_wipe, ap_wipe0, ap_runF, ap_seq, ap_next, ap_expr, ap_ret, ap_if, ap_asg, ap_par, ap_aug, ap_nm, ap_tp, ap_gnil, ap_gcons, ap_gix, ap_var, ap_c, ap_op1, ap_op2, ap_opL, ap_anil, ap_acons, ap_tup, ap_lst, ap_fz, ap_new, ap_call, ap_mth, ap_bl, ap_tru, ap_bnot, ap_band, ap_bor, ap_and, ap_or, ap_not, ap_eif, ap_for, ap_lc, ap_rg1, ap_rg2, ap_zp, ap_iseq, ap_slc, ap_onone, ap_osome, ap_chain, ap_lstof, ap_suml, bnd_some, bnd_none, List.map_cons, List.map_nil, List.length_cons, List.length_nil, List.replicate_succ, List.replicate_zero, List.cons_append, List.nil_append, List.append_nil, List.getElem?_cons_zero, List.getElem?_cons_succ, List.set_cons_zero, List.set_cons_succ, Nat.reduceSub, Nat.reduceAdd, Nat.reduceLeDiff, Nat.reduceEqDiff, Nat.zero_add, if_true, if_false, reduceIte, reduceCtorEq, Bool.false_eq_true, Bool.not_true, Bool.not_false, decide_true, decide_false, Nat.sub_self, Nat.sub_zero, Nat.zero_le, Nat.le_refl, gt_i, ge_i, lt_i, le_i, eq_i, ne_i, eq_b, ne_b, add_i, sub_i, neg_i, addI_i, eq_w, ne_w, rev_w, len_w, get_new, set_new, keyD, wD, List.map_map]
    rfl
  · simp only [ap_wipe, ap_wipe0, ap_runF, ap_seq, ap_next, ap_expr, ap_ret, ap_if, ap_asg, ap_par, ap_aug, ap_nm, ap_tp, ap_gnil, ap_gcons, ap_gix, ap_var, ap_c, ap_op1, ap_op2, ap_opL, ap_anil, ap_acons, ap_tup, ap_lst, ap_fz, ap_new, ap_call, ap_mth, ap_bl, ap_tru, ap_bnot, ap_band, ap_bor, ap_and, ap_or, ap_not, ap_eif, ap_for, ap_lc, ap_rg1, ap_rg2, ap_zp, ap_iseq, ap_slc, ap_onone, ap_osome, ap_chain, ap_lstof, ap_suml, bnd_some, bnd_none, List.map_cons, List.map_nil, List.length_cons, List.length_nil, List.replicate_succ, List.replicate_zero, List.cons_append, List.nil_append, List.append_nil, List.getElem?_cons_zero, List.getElem?_cons_succ, List.set_cons_zero, List.set_cons_succ, Nat.reduceSub, Nat.reduceAdd, Nat.reduceLeDiff, Nat.reduceEqDiff, Nat.zero_add, if_true, if_false, reduceIte, reduceCtorEq, Bool.false_eq_true, Bool.not_true, Bool.not_false, decide_true, decide_false, Nat.sub_self, Nat.sub_zero, Nat.zero_le, Nat.le_refl, gt_i, ge_i, lt_i, le_i, eq_i, ne_i, eq_b, ne_b, add_i, sub_i, neg_i, addI_i, eq_w, ne_w, rev_w, len_w, get_new, set_new, p_place_of_letter i S (h i hi)]
/-- no two letters side by side that undo each other -/
def isR : List Int → Bool
  | x :: y :: w => !decide (x = -y) && isR (y :: w)
  | _ => true
theorem zipD_map {α β : Type} (f : α → D) (g : β → D) : ∀ (a : List α) (b : List β), zipD (a.map f) (b.map g) = (a.zip b).map fun p => .tup [f p.1, g p.2]
  | [], _ => rfl
  | _ :: _, [] => rfl
  | x :: a, y :: b => by
    show D.tup [f x, g y] :: zipD (a.map f) (b.map g) = _
    rw [zipD_map f g a b]
    rfl
theorem isR_zip : ∀ w : List Int, (w.zip (w.drop 1)).all (fun p => !decide (p.1 = -p.2)) = isR w
  | [] => rfl
  | [x] => rfl
  | x :: y :: w => by
    have ih := isR_zip (y :: w)
    show ((!decide (x = -y)) && ((y :: w).zip w).all _) = _
    rw [show w = (y :: w).drop 1 from rfl] at *
    exact congrArg _ ih
theorem slc_1 {w : List Int} {S : Sto} : slcD (wD w) (some 1) none S = some (wD (w.drop 1), S) := by
  show some (D.tup (cutG (iL w) (some 1) none), S) = _
  have e : cutG (iL w) (some 1) none = iL (w.drop 1) := by
    unfold cutG
    rw [show (some (1 : Int)) = some ((1 : Nat) : Int) from rfl, HT.sIx_nat, HT.sIx_none]
    cases w with
    | nil => rfl
    | cons x w =>
      simp [iL]
      exact List.take_of_length_le (by simp)
  rw [e]
  rfl
theorem p_is_short_in (w : List Int) (S : Sto) (hz : w.length ≤ 1000) : φ_is_short_in [wD w] S = some (.bl (isR w), S) := by
  refine gz_pure0 ?_ rfl
  unfold f_is_short_in
  simp only [ap_wipe, ap_wipe0, ap_runF, ap_seq, ap_next, ap_expr, ap_ret, ap_if, ap_asg, ap_par, ap_aug, ap_nm, ap_tp, ap_gnil, ap_gcons, ap_gix, ap_var, ap_c, ap_op1, ap_op2, ap_opL, ap_anil, ap_acons, ap_tup, ap_lst, ap_fz, ap_new, ap_call, ap_mth, ap_bl, ap_tru, ap_bnot, ap_band, ap_bor, ap_and, ap_or, ap_not, ap_eif, ap_for, ap_lc, ap_rg1, ap_rg2, ap_zp, ap_iseq, ap_slc, ap_onone, ap_osome, ap_chain, ap_lstof, ap_suml, bnd_some, bnd_none, List.map_cons, List.map_nil, List.length_cons, List.length_nil, List.replicate_succ, List.replicate_zero, List.cons_append, List.nil_append, List.append_nil, List.getElem?_cons_zero, List.getElem?_cons_succ, List.set_cons_zero, List.set_cons_succ, Nat.reduceSub, Nat.reduceAdd, Nat.reduceLeDiff, Nat.reduceEqDiff, Nat.zero_add, if_true, if_false, reduceIte, reduceCtorEq, Bool.false_eq_true, Bool.not_true, Bool.not_false, decide_true, decide_false, Nat.sub_self, Nat.sub_zero, Nat.zero_le, Nat.le_refl, gt_i, ge_i, lt_i, le_i, eq_i, ne_i, eq_b, ne_b, add_i, sub_i, neg_i, addI_i, eq_w, ne_w, rev_w, len_w, get_new, set_new, slc_1]
  simp only [ap_wipe, ap_wipe0, ap_runF, ap_seq, ap_next, ap_expr, ap_ret, ap_if, ap_asg, ap_par, ap_aug, ap_nm, ap_tp, ap_gnil, ap_gcons, ap_gix, ap_var, ap_c, ap_op1, ap_op2, ap_opL, ap_anil, ap_acons, ap_tup, ap_lst, ap_fz, ap_new, ap_call, ap_mth, ap_bl, ap_tru, ap_bnot, ap_band, ap_bor, ap_and, ap_or, ap_not, ap_eif, ap_for, ap_lc, ap_rg1, ap_rg2, ap_zp, ap_iseq, ap_slc, ap_onone, ap_osome, ap_chain, ap_lstof, ap_suml, bnd_some, bnd_none, List.map_cons, List.map_nil, List.length_cons, List.length_nil, List.replicate_succ, List.replicate_zero, List.cons_append, List.nil_append, List.append_nil, List.getElem?_cons_zero, List.getElem?_cons_succ, List.set_cons_zero, List.set_cons_succ, Nat.reduceSub, Nat.reduceAdd, Nat.reduceLeDiff, Nat.reduceEqDiff, Nat.zero_add, if_true, if_false, reduceIte, reduceCtorEq, Bool.false_eq_true, Bool.not_true, Bool.not_false, decide_true, decide_false, Nat.sub_self, Nat.sub_zero, Nat.zero_le, Nat.le_refl, gt_i, ge_i, lt_i, le_i, eq_i, ne_i, eq_b, ne_b, add_i, sub_i, neg_i, addI_i, eq_w, ne_w, rev_w, len_w, get_new, set_new, wD, zipD_map]
  rw [lcF_map (fun p : Int × Int => D.tup [.int p.1, .int p.2]) (fun _ => true) (fun p => D.bl (!decide (p.1 = -p.2))) (w.zip (w.drop 1)) [] (fun p hp => ⟨_, rfl, rfl, fun _ => ?_⟩) (szN (by rw [List.length_zip]; omega))]
  · simp only [ap_wipe, ap_wipe0, ap_runF, ap_seq, ap_next, ap_expr, ap_ret, ap_if, ap_asg, ap_par, ap_aug, ap_nm, ap_tp, ap_gnil, ap_gcons, ap_gix, ap_var, ap_c, ap_op1, ap_op2, ap_opL, ap_anil, ap_acons, ap_tup, ap_lst, ap_fz, ap_new, ap_call, ap_mth, ap_bl, ap_tru, ap_bnot, ap_band, ap_bor, ap_and, ap_or, ap_not, ap_eif, ap_for, ap_lc, ap_rg1, ap_rg2, ap_zp, ap_iseq, ap_slc, ap_onone, ap_osome, ap_chain, ap_lstof, ap_suml, bnd_some, bnd_none, List.map_cons, List.map_nil, List.length_cons, List.length_nil, List.replicate_succ, List.replicate_zero, List.cons_append, List.nil_append, List.append_nil, List.getElem?_cons_zero, List.getElem?_cons_succ, List.set_cons_zero, List.set_cons_succ, Nat.reduceSub, Nat.reduceAdd, Nat.reduceLeDiff, Nat.reduceEqDiff, Nat.zero_add, if_true, if_false, reduceIte, reduceCtorEq, Bool.false_eq_true, Bool.not_true, Bool.not_false, decide_true, decide_false, Nat.sub_self, Nat.sub_zero, Nat.zero_le, Nat.le_refl, gt_i, ge_i, lt_i, le_i, eq_i, ne_i, eq_b, ne_b, add_i, sub_i, neg_i, addI_i, eq_w, ne_w, rev_w, len_w, get_new, set_new, fl_true, all_l, isR_zip]
  · simp only [ap_wipe, ap_wipe0, ap_runF, ap_seq, ap_next, ap_expr, ap_ret, ap_if, ap_asg, ap_par, ap_aug, ap_nm, ap_tp, ap_gnil, ap_gcons, ap_gix, ap_var, ap_c, ap_op1, ap_op2, ap_opL, ap_anil, ap_acons, ap_tup, ap_lst, ap_fz, ap_new, ap_call, ap_mth, ap_bl, ap_tru, ap_bnot, ap_band, ap_bor, ap_and, ap_or, ap_not, ap_eif, ap_for, ap_lc, ap_rg1, ap_rg2, ap_zp, ap_iseq, ap_slc, ap_onone, ap_osome, ap_chain, ap_lstof, ap_suml, bnd_some, bnd_none, List.map_cons, List.map_nil, List.length_cons, List.length_nil, List.replicate_succ, List.replicate_zero, List.cons_append, List.nil_append, List.append_nil, List.getElem?_cons_zero, List.getElem?_cons_succ, List.set_cons_zero, List.set_cons_succ, Nat.reduceSub, Nat.reduceAdd, Nat.reduceLeDiff, Nat.reduceEqDiff, Nat.zero_add, if_true, if_false, reduceIte, reduceCtorEq, Bool.false_eq_true, Bool.not_true, Bool.not_false, decide_true, decide_false, Nat.sub_self, Nat.sub_zero, Nat.zero_le, Nat.le_refl, gt_i, ge_i, lt_i, le_i, eq_i, ne_i, eq_b, ne_b, add_i, sub_i, neg_i, addI_i, eq_w, ne_w, rev_w, len_w, get_new, set_new]
theorem p_require_word (r : Int) (w : List Int) (S : Sto) (hl : w.length ≤ 400) (h : okW r w) : φ_require_word [.int r, wD w] S = some (.non, S) := by
  refine gz_pure0 ?_ rfl
  unfold f_require_word
  simp only [ap_wipe, ap_wipe0, ap_runF, ap_seq, ap_next, ap_expr, ap_ret, ap_if, ap_asg, ap_par, ap_aug, ap_nm, ap_tp, ap_gnil, ap_gcons, ap_gix, ap_var, ap_c, ap_op1, ap_op2, ap_opL, ap_anil, ap_acons, ap_tup, ap_lst, ap_fz, ap_new, ap_call, ap_mth, ap_bl, ap_tru, ap_bnot, ap_band, ap_bor, ap_and, ap_or, ap_not, ap_eif, ap_for, ap_lc, ap_rg1, ap_rg2, ap_zp, ap_iseq, ap_slc, ap_onone, ap_osome, ap_chain, ap_lstof, ap_suml, bnd_some, bnd_none, List.map_cons, List.map_nil, List.length_cons, List.length_nil, List.replicate_succ, List.replicate_zero, List.cons_append, List.nil_append, List.append_nil, List.getElem?_cons_zero, List.getElem?_cons_succ, List.set_cons_zero, List.set_cons_succ, Nat.reduceSub, Nat.reduceAdd, Nat.reduceLeDiff, Nat.reduceEqDiff, Nat.zero_add, if_true, if_false, reduceIte, reduceCtorEq, Bool.false_eq_true, Bool.not_true, Bool.not_false, decide_true, decide_false, Nat.sub_self, Nat.sub_zero, Nat.zero_le, Nat.le_refl, gt_i, ge_i, lt_i, le_i, eq_i, ne_i, eq_b, ne_b, add_i, sub_i, neg_i, addI_i, eq_w, ne_w, rev_w, len_w, get_new, set_new, p_is_word_in r w S hl h, tru_b]
theorem p_require_words (r : Int) (ws : List (List Int)) (S : Sto) (h1 : ws.length ≤ 20) (h2 : (ws.map List.length).sum ≤ 400) (h : ∀ w ∈ ws, okW r w) : φ_require_words [.int r, wsD ws] S = some (.non, S) := by
  refine gz_pure0 ?_ rfl
  unfold f_require_words
  simp only [ap_wipe, ap_wipe0, ap_runF, ap_seq, ap_next, ap_expr, ap_ret, ap_if, ap_asg, ap_par, ap_aug, ap_nm, ap_tp, ap_gnil, ap_gcons, ap_gix, ap_var, ap_c, ap_op1, ap_op2, ap_opL, ap_anil, ap_acons, ap_tup, ap_lst, ap_fz, ap_new, ap_call, ap_mth, ap_bl, ap_tru, ap_bnot, ap_band, ap_bor, ap_and, ap_or, ap_not, ap_eif, ap_for, ap_lc, ap_rg1, ap_rg2, ap_zp, ap_iseq, ap_slc, ap_onone, ap_osome, ap_chain, ap_lstof, ap_suml, bnd_some, bnd_none, List.map_cons, List.map_nil, List.length_cons, List.length_nil, List.replicate_succ, List.replicate_zero, List.cons_append, List.nil_append, List.append_nil, List.getElem?_cons_zero, List.getElem?_cons_succ, List.set_cons_zero, List.set_cons_succ, Nat.reduceSub, Nat.reduceAdd, Nat.reduceLeDiff, Nat.reduceEqDiff, Nat.zero_add, if_true, if_false, reduceIte, reduceCtorEq, Bool.false_eq_true, Bool.not_true, Bool.not_false, decide_true, decide_false, Nat.sub_self, Nat.sub_zero, Nat.zero_le, Nat.le_refl, gt_i, ge_i, lt_i, le_i, eq_i, ne_i, eq_b, ne_b, add_i, sub_i, neg_i, addI_i, eq_w, ne_w, rev_w, len_w, get_new, set_new, p_are_words_in r ws S h1 h2 h, tru_b]
theorem p_require_told_word (r : Int) (w : List Int) (S : Sto) (hr : 1 ≤ r ∧ r ≤ 4) (hl : w.length ≤ 400) (h : okW r w) : φ_require_told_word [.int r, wD w] S = some (.non, S) := by
  refine gz_pure0 ?_ rfl
  unfold f_require_told_word
  simp only [ap_wipe, ap_wipe0, ap_runF, ap_seq, ap_next, ap_expr, ap_ret, ap_if, ap_asg, ap_par, ap_aug, ap_nm, ap_tp, ap_gnil, ap_gcons, ap_gix, ap_var, ap_c, ap_op1, ap_op2, ap_opL, ap_anil, ap_acons, ap_tup, ap_lst, ap_fz, ap_new, ap_call, ap_mth, ap_bl, ap_tru, ap_bnot, ap_band, ap_bor, ap_and, ap_or, ap_not, ap_eif, ap_for, ap_lc, ap_rg1, ap_rg2, ap_zp, ap_iseq, ap_slc, ap_onone, ap_osome, ap_chain, ap_lstof, ap_suml, bnd_some, bnd_none, List.map_cons, List.map_nil, List.length_cons, List.length_nil, List.replicate_succ, List.replicate_zero, List.cons_append, List.nil_append, List.append_nil, List.getElem?_cons_zero, List.getElem?_cons_succ, List.set_cons_zero, List.set_cons_succ, Nat.reduceSub, Nat.reduceAdd, Nat.reduceLeDiff, Nat.reduceEqDiff, Nat.zero_add, if_true, if_false, reduceIte, reduceCtorEq, Bool.false_eq_true, Bool.not_true, Bool.not_false, decide_true, decide_false, Nat.sub_self, Nat.sub_zero, Nat.zero_le, Nat.le_refl, gt_i, ge_i, lt_i, le_i, eq_i, ne_i, eq_b, ne_b, add_i, sub_i, neg_i, addI_i, eq_w, ne_w, rev_w, len_w, get_new, set_new, p_require_letters r S hr, p_require_word r w S hl h]
theorem p_require_two_words (r : Int) (v w : List Int) (S : Sto) (hr : 1 ≤ r ∧ r ≤ 4) (hl : v.length ≤ 400) (h : okW r v) (hl2 : w.length ≤ 400) (h2 : okW r w) : φ_require_two_words [.int r, wD v, wD w] S = some (.non, S) := by
  refine gz_pure0 ?_ rfl
  unfold f_require_two_words
  simp only [ap_wipe, ap_wipe0, ap_runF, ap_seq, ap_next, ap_expr, ap_ret, ap_if, ap_asg, ap_par, ap_aug, ap_nm, ap_tp, ap_gnil, ap_gcons, ap_gix, ap_var, ap_c, ap_op1, ap_op2, ap_opL, ap_anil, ap_acons, ap_tup, ap_lst, ap_fz, ap_new, ap_call, ap_mth, ap_bl, ap_tru, ap_bnot, ap_band, ap_bor, ap_and, ap_or, ap_not, ap_eif, ap_for, ap_lc, ap_rg1, ap_rg2, ap_zp, ap_iseq, ap_slc, ap_onone, ap_osome, ap_chain, ap_lstof, ap_suml, bnd_some, bnd_none, List.map_cons, List.map_nil, List.length_cons, List.length_nil, List.replicate_succ, List.replicate_zero, List.cons_append, List.nil_append, List.append_nil, List.getElem?_cons_zero, List.getElem?_cons_succ, List.set_cons_zero, List.set_cons_succ, Nat.reduceSub, Nat.reduceAdd, Nat.reduceLeDiff, Nat.reduceEqDiff, Nat.zero_add, if_true, if_false, reduceIte, reduceCtorEq, Bool.false_eq_true, Bool.not_true, Bool.not_false, decide_true, decide_false, Nat.sub_self, Nat.sub_zero, Nat.zero_le, Nat.le_refl, gt_i, ge_i, lt_i, le_i, eq_i, ne_i, eq_b, ne_b, add_i, sub_i, neg_i, addI_i, eq_w, ne_w, rev_w, len_w, get_new, set_new, p_require_told_word r v S hr hl h, p_require_word r w S hl2 h2]
theorem p_require_told_words (r : Int) (ws : List (List Int)) (S : Sto) (hr : 1 ≤ r ∧ r ≤ 4) (h1 : ws.length ≤ 20) (h2 : (ws.map List.length).sum ≤ 400) (h : ∀ w ∈ ws, okW r w) : φ_require_told_words [.int r, wsD ws] S = some (.non, S) := by
  refine gz_pure0 ?_ rfl
  unfold f_require_told_words
  simp only [ap_wipe, ap_wipe0, ap_runF, ap_seq, ap_next, ap_expr, ap_ret, ap_if, ap_asg, ap_par, ap_aug, ap_nm, ap_tp, ap_gnil, ap_gcons, ap_gix, ap_var, ap_c, ap_op1, ap_op2, ap_opL, ap_anil, ap_acons, ap_tup, ap_lst, ap_fz, ap_new, ap_call, ap_mth, ap_bl, ap_tru, ap_bnot, ap_band, ap_bor, ap_and, ap_or, ap_not, ap_eif, ap_for, ap_lc, ap_rg1, ap_rg2, ap_zp, ap_iseq, ap_slc, ap_onone, ap_osome, ap_chain, ap_lstof, ap_suml, bnd_some, bnd_none, List.map_cons, List.map_nil, List.length_cons, List.length_nil, List.replicate_succ, List.replicate_zero, List.cons_append, List.nil_append, List.append_nil, List.getElem?_cons_zero, List.getElem?_cons_succ, List.set_cons_zero, List.set_cons_succ, Nat.reduceSub, Nat.reduceAdd, Nat.reduceLeDiff, Nat.reduceEqDiff, Nat.zero_add, if_true, if_false, reduceIte, reduceCtorEq, Bool.false_eq_true, Bool.not_true, Bool.not_false, decide_true, decide_false, Nat.sub_self, Nat.sub_zero, Nat.zero_le, Nat.le_refl, gt_i, ge_i, lt_i, le_i, eq_i, ne_i, eq_b, ne_b, add_i, sub_i, neg_i, addI_i, eq_w, ne_w, rev_w, len_w, get_new, set_new, p_require_letters r S hr, p_require_words r ws S h1 h2 h]
theorem p_is_word (r : Int) (w : List Int) (S : Sto) (hr : 1 ≤ r ∧ r ≤ 4) (hl : w.length ≤ 400) (h : okW r w) : φ_is_word [.int r, wD w] S = some (.bl true, S) := by
  refine gz_pure0 ?_ rfl
  unfold f_is_word
  simp only [ap_wipe, ap_wipe0, ap_runF, ap_seq, ap_next, ap_expr, ap_ret, ap_if, ap_asg, ap_par, ap_aug, ap_nm, ap_tp, ap_gnil, ap_gcons, ap_gix, ap_var, ap_c, ap_op1, ap_op2, ap_opL, ap_anil, ap_acons, ap_tup, ap_lst, ap_fz, ap_new, ap_call, ap_mth, ap_bl, ap_tru, ap_bnot, ap_band, ap_bor, ap_and, ap_or, ap_not, ap_eif, ap_for, ap_lc, ap_rg1, ap_rg2, ap_zp, ap_iseq, ap_slc, ap_onone, ap_osome, ap_chain, ap_lstof, ap_suml, bnd_some, bnd_none, List.map_cons, List.map_nil, List.length_cons, List.length_nil, List.replicate_succ, List.replicate_zero, List.cons_append, List.nil_append, List.append_nil, List.getElem?_cons_zero, List.getElem?_cons_succ, List.set_cons_zero, List.set_cons_succ, Nat.reduceSub, Nat.reduceAdd, Nat.reduceLeDiff, Nat.reduceEqDiff, Nat.zero_add, if_true, if_false, reduceIte, reduceCtorEq, Bool.false_eq_true, Bool.not_true, Bool.not_false, decide_true, decide_false, Nat.sub_self, Nat.sub_zero, Nat.zero_le, Nat.le_refl, gt_i, ge_i, lt_i, le_i, eq_i, ne_i, eq_b, ne_b, add_i, sub_i, neg_i, addI_i, eq_w, ne_w, rev_w, len_w, get_new, set_new, p_require_letters r S hr, p_is_word_in r w S hl h]
theorem p_is_short (r : Int) (w : List Int) (S : Sto) (hr : 1 ≤ r ∧ r ≤ 4) (hl : w.length ≤ 400) (h : okW r w) : φ_is_short [.int r, wD w] S = some (.bl (isR w), S) := by
  refine gz_pure0 ?_ rfl
  unfold f_is_short
  simp only [ap_wipe, ap_wipe0, ap_runF, ap_seq, ap_next, ap_expr, ap_ret, ap_if, ap_asg, ap_par, ap_aug, ap_nm, ap_tp, ap_gnil, ap_gcons, ap_gix, ap_var, ap_c, ap_op1, ap_op2, ap_opL, ap_anil, ap_acons, ap_tup, ap_lst, ap_fz, ap_new, ap_call, ap_mth, ap_bl, ap_tru, ap_bnot, ap_band, ap_bor, ap_and, ap_or, ap_not, ap_eif, ap_for, ap_lc, ap_rg1, ap_rg2, ap_zp, ap_iseq, ap_slc, ap_onone, ap_osome, ap_chain, ap_lstof, ap_suml, bnd_some, bnd_none, List.map_cons, List.map_nil, List.length_cons, List.length_nil, List.replicate_succ, List.replicate_zero, List.cons_append, List.nil_append, List.append_nil, List.getElem?_cons_zero, List.getElem?_cons_succ, List.set_cons_zero, List.set_cons_succ, Nat.reduceSub, Nat.reduceAdd, Nat.reduceLeDiff, Nat.reduceEqDiff, Nat.zero_add, if_true, if_false, reduceIte, reduceCtorEq, Bool.false_eq_true, Bool.not_true, Bool.not_false, decide_true, decide_false, Nat.sub_self, Nat.sub_zero, Nat.zero_le, Nat.le_refl, gt_i, ge_i, lt_i, le_i, eq_i, ne_i, eq_b, ne_b, add_i, sub_i, neg_i, addI_i, eq_w, ne_w, rev_w, len_w, get_new, set_new, p_require_letters r S hr, p_is_word_in r w S hl h, p_is_short_in w S (by omega), tru_b]
theorem p_alphabet (k : Nat) (S : Sto) (hr : 1 ≤ k ∧ k ≤ 4) : φ_alphabet [.int k] S = some (wD (lets k), S) := by
  refine gz_pure0 ?_ wD_clo
  unfold f_alphabet
  simp only [ap_wipe, ap_wipe0, ap_runF, ap_seq, ap_next, ap_expr, ap_ret, ap_if, ap_asg, ap_par, ap_aug, ap_nm, ap_tp, ap_gnil, ap_gcons, ap_gix, ap_var, ap_c, ap_op1, ap_op2, ap_opL, ap_anil, ap_acons, ap_tup, ap_lst, ap_fz, ap_new, ap_call, ap_mth, ap_bl, ap_tru, ap_bnot, ap_band, ap_bor, ap_and, ap_or, ap_not, ap_eif, ap_for, ap_lc, ap_rg1, ap_rg2, ap_zp, ap_iseq, ap_slc, ap_onone, ap_osome, ap_chain, ap_lstof, ap_suml, bnd_some, bnd_none, List.map_cons, List.map_nil, List.length_cons, List.length_nil, List.replicate_succ, List.replicate_zero, List.cons_append, List.nil_append, List.append_nil, List.getElem?_cons_zero, List.getElem?_cons_succ, List.set_cons_zero, List.set_cons_succ, Nat.reduceSub, Nat.reduceAdd, Nat.reduceLeDiff, Nat.reduceEqDiff, Nat.zero_add, if_true, if_false, reduceIte, reduceCtorEq, Bool.false_eq_true, Bool.not_true, Bool.not_false, decide_true, decide_false, Nat.sub_self, Nat.sub_zero, Nat.zero_le, Nat.le_refl, gt_i, ge_i, lt_i, le_i, eq_i, ne_i, eq_b, ne_b, add_i, sub_i, neg_i, addI_i, eq_w, ne_w, rev_w, len_w, get_new, set_new, p_require_letters k S (by omega), p_letters_in k S hr.2]
theorem p_shortened (r : Int) (w : List Int) (S : Sto) (hr : 1 ≤ r ∧ r ≤ 4) (hl : w.length ≤ 400) (h : okW r w) : φ_shortened [.int r, wD w] S = some (wD (red w), S) := by
  refine gz_pure0 ?_ wD_clo
  unfold f_shortened
  simp only [ap_wipe, ap_wipe0, ap_runF, ap_seq, ap_next, ap_expr, ap_ret, ap_if, ap_asg, ap_par, ap_aug, ap_nm, ap_tp, ap_gnil, ap_gcons, ap_gix, ap_var, ap_c, ap_op1, ap_op2, ap_opL, ap_anil, ap_acons, ap_tup, ap_lst, ap_fz, ap_new, ap_call, ap_mth, ap_bl, ap_tru, ap_bnot, ap_band, ap_bor, ap_and, ap_or, ap_not, ap_eif, ap_for, ap_lc, ap_rg1, ap_rg2, ap_zp, ap_iseq, ap_slc, ap_onone, ap_osome, ap_chain, ap_lstof, ap_suml, bnd_some, bnd_none, List.map_cons, List.map_nil, List.length_cons, List.length_nil, List.replicate_succ, List.replicate_zero, List.cons_append, List.nil_append, List.append_nil, List.getElem?_cons_zero, List.getElem?_cons_succ, List.set_cons_zero, List.set_cons_succ, Nat.reduceSub, Nat.reduceAdd, Nat.reduceLeDiff, Nat.reduceEqDiff, Nat.zero_add, if_true, if_false, reduceIte, reduceCtorEq, Bool.false_eq_true, Bool.not_true, Bool.not_false, decide_true, decide_false, Nat.sub_self, Nat.sub_zero, Nat.zero_le, Nat.le_refl, gt_i, ge_i, lt_i, le_i, eq_i, ne_i, eq_b, ne_b, add_i, sub_i, neg_i, addI_i, eq_w, ne_w, rev_w, len_w, get_new, set_new, p_require_told_word r w S hr hl h, p_shortened_in w S (by omega)]
theorem und_len (w : List Int) : (und w).length = w.length := by simp [und]
theorem p_undoing (r : Int) (w : List Int) (S : Sto) (hr : 1 ≤ r ∧ r ≤ 4) (hl : w.length ≤ 400) (h : okW r w) : φ_undoing [.int r, wD w] S = some (wD (red (und w)), S) := by
  refine gz_pure0 ?_ wD_clo
  unfold f_undoing
  simp only [ap_wipe, ap_wipe0, ap_runF, ap_seq, ap_next, ap_expr, ap_ret, ap_if, ap_asg, ap_par, ap_aug, ap_nm, ap_tp, ap_gnil, ap_gcons, ap_gix, ap_var, ap_c, ap_op1, ap_op2, ap_opL, ap_anil, ap_acons, ap_tup, ap_lst, ap_fz, ap_new, ap_call, ap_mth, ap_bl, ap_tru, ap_bnot, ap_band, ap_bor, ap_and, ap_or, ap_not, ap_eif, ap_for, ap_lc, ap_rg1, ap_rg2, ap_zp, ap_iseq, ap_slc, ap_onone, ap_osome, ap_chain, ap_lstof, ap_suml, bnd_some, bnd_none, List.map_cons, List.map_nil, List.length_cons, List.length_nil, List.replicate_succ, List.replicate_zero, List.cons_append, List.nil_append, List.append_nil, List.getElem?_cons_zero, List.getElem?_cons_succ, List.set_cons_zero, List.set_cons_succ, Nat.reduceSub, Nat.reduceAdd, Nat.reduceLeDiff, Nat.reduceEqDiff, Nat.zero_add, if_true, if_false, reduceIte, reduceCtorEq, Bool.false_eq_true, Bool.not_true, Bool.not_false, decide_true, decide_false, Nat.sub_self, Nat.sub_zero, Nat.zero_le, Nat.le_refl, gt_i, ge_i, lt_i, le_i, eq_i, ne_i, eq_b, ne_b, add_i, sub_i, neg_i, addI_i, eq_w, ne_w, rev_w, len_w, get_new, set_new, p_require_told_word r w S hr hl h, p_undone_in w S (by omega), p_shortened_in (und w) S (by rw [und_len]; omega)]
theorem p_product (r : Int) (ws : List (List Int)) (S : Sto) (hr : 1 ≤ r ∧ r ≤ 4) (h1 : ws.length ≤ 20) (h2 : (ws.map List.length).sum ≤ 400) (h : ∀ w ∈ ws, okW r w) : φ_product [.int r, wsD ws] S = some (wD (red ws.flatten), S) := by
  refine gz_pure0 ?_ wD_clo
  unfold f_product
  simp only [ap_wipe, ap_wipe0, ap_runF, ap_seq, ap_next, ap_expr, ap_ret, ap_if, ap_asg, ap_par, ap_aug, ap_nm, ap_tp, ap_gnil, ap_gcons, ap_gix, ap_var, ap_c, ap_op1, ap_op2, ap_opL, ap_anil, ap_acons, ap_tup, ap_lst, ap_fz, ap_new, ap_call, ap_mth, ap_bl, ap_tru, ap_bnot, ap_band, ap_bor, ap_and, ap_or, ap_not, ap_eif, ap_for, ap_lc, ap_rg1, ap_rg2, ap_zp, ap_iseq, ap_slc, ap_onone, ap_osome, ap_chain, ap_lstof, ap_suml, bnd_some, bnd_none, List.map_cons, List.map_nil, List.length_cons, List.length_nil, List.replicate_succ, List.replicate_zero, List.cons_append, List.nil_append, List.append_nil, List.getElem?_cons_zero, List.getElem?_cons_succ, List.set_cons_zero, List.set_cons_succ, Nat.reduceSub, Nat.reduceAdd, Nat.reduceLeDiff, Nat.reduceEqDiff, Nat.zero_add, if_true, if_false, reduceIte, reduceCtorEq, Bool.false_eq_true, Bool.not_true, Bool.not_false, decide_true, decide_false, Nat.sub_self, Nat.sub_zero, Nat.zero_le, Nat.le_refl, gt_i, ge_i, lt_i, le_i, eq_i, ne_i, eq_b, ne_b, add_i, sub_i, neg_i, addI_i, eq_w, ne_w, rev_w, len_w, get_new, set_new, p_require_told_words r ws S hr h1 h2 h, p_product_in ws S (by rw [List.length_flatten]; omega)]
theorem p_are_equal (r : Int) (v w : List Int) (S : Sto) (hr : 1 ≤ r ∧ r ≤ 4) (hl : v.length ≤ 400) (h : okW r v) (hl2 : w.length ≤ 400) (h2 : okW r w) : φ_are_equal [.int r, wD v, wD w] S = some (.bl (decide (red v = red w)), S) := by
  refine gz_pure0 ?_ rfl
  unfold f_are_equal
  simp only [ap_wipe, ap_wipe0, ap_runF, ap_seq, ap_next, ap_expr, ap_ret, ap_if, ap_asg, ap_par, ap_aug, ap_nm, ap_tp, ap_gnil, ap_gcons, ap_gix, ap_var, ap_c, ap_op1, ap_op2, ap_opL, ap_anil, ap_acons, ap_tup, ap_lst, ap_fz, ap_new, ap_call, ap_mth, ap_bl, ap_tru, ap_bnot, ap_band, ap_bor, ap_and, ap_or, ap_not, ap_eif, ap_for, ap_lc, ap_rg1, ap_rg2, ap_zp, ap_iseq, ap_slc, ap_onone, ap_osome, ap_chain, ap_lstof, ap_suml, bnd_some, bnd_none, List.map_cons, List.map_nil, List.length_cons, List.length_nil, List.replicate_succ, List.replicate_zero, List.cons_append, List.nil_append, List.append_nil, List.getElem?_cons_zero, List.getElem?_cons_succ, List.set_cons_zero, List.set_cons_succ, Nat.reduceSub, Nat.reduceAdd, Nat.reduceLeDiff, Nat.reduceEqDiff, Nat.zero_add, if_true, if_false, reduceIte, reduceCtorEq, Bool.false_eq_true, Bool.not_true, Bool.not_false, decide_true, decide_false, Nat.sub_self, Nat.sub_zero, Nat.zero_le, Nat.le_refl, gt_i, ge_i, lt_i, le_i, eq_i, ne_i, eq_b, ne_b, add_i, sub_i, neg_i, addI_i, eq_w, ne_w, rev_w, len_w, get_new, set_new, p_require_two_words r v w S hr hl h hl2 h2, p_shortened_in v S (by omega), p_shortened_in w S (by omega)]
theorem p_loss (r : Int) (v w : List Int) (S : Sto) (hr : 1 ≤ r ∧ r ≤ 4) (hl : v.length ≤ 400) (h : okW r v) (hl2 : w.length ≤ 400) (h2 : okW r w) : φ_loss [.int r, wD v, wD w] S = some (.int (lostN (red v).reverse (red w)), S) := by
  refine gz_pure0 ?_ rfl
  unfold f_loss
  simp only [ap_wipe, ap_wipe0, ap_runF, ap_seq, ap_next, ap_expr, ap_ret, ap_if, ap_asg, ap_par, ap_aug, ap_nm, ap_tp, ap_gnil, ap_gcons, ap_gix, ap_var, ap_c, ap_op1, ap_op2, ap_opL, ap_anil, ap_acons, ap_tup, ap_lst, ap_fz, ap_new, ap_call, ap_mth, ap_bl, ap_tru, ap_bnot, ap_band, ap_bor, ap_and, ap_or, ap_not, ap_eif, ap_for, ap_lc, ap_rg1, ap_rg2, ap_zp, ap_iseq, ap_slc, ap_onone, ap_osome, ap_chain, ap_lstof, ap_suml, bnd_some, bnd_none, List.map_cons, List.map_nil, List.length_cons, List.length_nil, List.replicate_succ, List.replicate_zero, List.cons_append, List.nil_append, List.append_nil, List.getElem?_cons_zero, List.getElem?_cons_succ, List.set_cons_zero, List.set_cons_succ, Nat.reduceSub, Nat.reduceAdd, Nat.reduceLeDiff, Nat.reduceEqDiff, Nat.zero_add, if_true, if_false, reduceIte, reduceCtorEq, Bool.false_eq_true, Bool.not_true, Bool.not_false, decide_true, decide_false, Nat.sub_self, Nat.sub_zero, Nat.zero_le, Nat.le_refl, gt_i, ge_i, lt_i, le_i, eq_i, ne_i, eq_b, ne_b, add_i, sub_i, neg_i, addI_i, eq_w, ne_w, rev_w, len_w, get_new, set_new, p_require_two_words r v w S hr hl h hl2 h2, p_shortened_in v S (by omega), p_shortened_in w S (by omega), p_lost_in]
theorem p_counts_of (k : Nat) (w : List Int) (S : Sto) (hr : 1 ≤ k ∧ k ≤ 4) (hl : w.length ≤ 400) (h : okW k w) : φ_counts_of [.int k, wD w] S = some (wD (cnts k w), S) := by
  refine gz_pure0 ?_ wD_clo
  unfold f_counts_of
  simp only [ap_wipe, ap_wipe0, ap_runF, ap_seq, ap_next, ap_expr, ap_ret, ap_if, ap_asg, ap_par, ap_aug, ap_nm, ap_tp, ap_gnil, ap_gcons, ap_gix, ap_var, ap_c, ap_op1, ap_op2, ap_opL, ap_anil, ap_acons, ap_tup, ap_lst, ap_fz, ap_new, ap_call, ap_mth, ap_bl, ap_tru, ap_bnot, ap_band, ap_bor, ap_and, ap_or, ap_not, ap_eif, ap_for, ap_lc, ap_rg1, ap_rg2, ap_zp, ap_iseq, ap_slc, ap_onone, ap_osome, ap_chain, ap_lstof, ap_suml, bnd_some, bnd_none, List.map_cons, List.map_nil, List.length_cons, List.length_nil, List.replicate_succ, List.replicate_zero, List.cons_append, List.nil_append, List.append_nil, List.getElem?_cons_zero, List.getElem?_cons_succ, List.set_cons_zero, List.set_cons_succ, Nat.reduceSub, Nat.reduceAdd, Nat.reduceLeDiff, Nat.reduceEqDiff, Nat.zero_add, if_true, if_false, reduceIte, reduceCtorEq, Bool.false_eq_true, Bool.not_true, Bool.not_false, decide_true, decide_false, Nat.sub_self, Nat.sub_zero, Nat.zero_le, Nat.le_refl, gt_i, ge_i, lt_i, le_i, eq_i, ne_i, eq_b, ne_b, add_i, sub_i, neg_i, addI_i, eq_w, ne_w, rev_w, len_w, get_new, set_new, p_require_told_word k w S (by omega) hl h, p_counts_in k w S hr.2]
theorem ws_two {v w : List Int} : D.lst [wD v, wD w] = .lst ([v, w].map wD) := rfl
theorem p_do_pass (r : Int) (v w : List Int) (S : Sto) (hr : 1 ≤ r ∧ r ≤ 4) (hl : v.length ≤ 400) (h : okW r v) (hl2 : w.length ≤ 400) (h2 : okW r w) : φ_do_pass [.int r, wD v, wD w] S = some (.bl (decide (red (v ++ w) = red (w ++ v))), S) := by
  have e1 := p_product_inL [v, w] S (by simp; omega)
  have e2 := p_product_inL [w, v] S (by simp; omega)
  simp only [List.map_cons, List.map_nil, List.flatten_cons, List.flatten_nil, List.append_nil] at e1 e2
  refine gz_pure0 ?_ rfl
  unfold f_do_pass
  simp only [ap_wipe, ap_wipe0, ap_runF, ap_seq, ap_next, ap_expr, ap_ret, ap_if, ap_asg, ap_par, ap_aug, ap_nm, ap_tp, ap_gnil, ap_gcons, ap_gix, ap_var, ap_c, ap_op1, ap_op2, ap_opL, ap_anil, ap_acons, ap_tup, ap_lst, ap_fz, ap_new, ap_call, ap_mth, ap_bl, ap_tru, ap_bnot, ap_band, ap_bor, ap_and, ap_or, ap_not, ap_eif, ap_for, ap_lc, ap_rg1, ap_rg2, ap_zp, ap_iseq, ap_slc, ap_onone, ap_osome, ap_chain, ap_lstof, ap_suml, bnd_some, bnd_none, List.map_cons, List.map_nil, List.length_cons, List.length_nil, List.replicate_succ, List.replicate_zero, List.cons_append, List.nil_append, List.append_nil, List.getElem?_cons_zero, List.getElem?_cons_succ, List.set_cons_zero, List.set_cons_succ, Nat.reduceSub, Nat.reduceAdd, Nat.reduceLeDiff, Nat.reduceEqDiff, Nat.zero_add, if_true, if_false, reduceIte, reduceCtorEq, Bool.false_eq_true, Bool.not_true, Bool.not_false, decide_true, decide_false, Nat.sub_self, Nat.sub_zero, Nat.zero_le, Nat.le_refl, gt_i, ge_i, lt_i, le_i, eq_i, ne_i, eq_b, ne_b, add_i, sub_i, neg_i, addI_i, eq_w, ne_w, rev_w, len_w, get_new, set_new, p_require_two_words r v w S hr hl h hl2 h2]
  rw [if_pos (sizeBig (by omega))]
  simp only [ap_wipe, ap_wipe0, ap_runF, ap_seq, ap_next, ap_expr, ap_ret, ap_if, ap_asg, ap_par, ap_aug, ap_nm, ap_tp, ap_gnil, ap_gcons, ap_gix, ap_var, ap_c, ap_op1, ap_op2, ap_opL, ap_anil, ap_acons, ap_tup, ap_lst, ap_fz, ap_new, ap_call, ap_mth, ap_bl, ap_tru, ap_bnot, ap_band, ap_bor, ap_and, ap_or, ap_not, ap_eif, ap_for, ap_lc, ap_rg1, ap_rg2, ap_zp, ap_iseq, ap_slc, ap_onone, ap_osome, ap_chain, ap_lstof, ap_suml, bnd_some, bnd_none, List.map_cons, List.map_nil, List.length_cons, List.length_nil, List.replicate_succ, List.replicate_zero, List.cons_append, List.nil_append, List.append_nil, List.getElem?_cons_zero, List.getElem?_cons_succ, List.set_cons_zero, List.set_cons_succ, Nat.reduceSub, Nat.reduceAdd, Nat.reduceLeDiff, Nat.reduceEqDiff, Nat.zero_add, if_true, if_false, reduceIte, reduceCtorEq, Bool.false_eq_true, Bool.not_true, Bool.not_false, decide_true, decide_false, Nat.sub_self, Nat.sub_zero, Nat.zero_le, Nat.le_refl, gt_i, ge_i, lt_i, le_i, eq_i, ne_i, eq_b, ne_b, add_i, sub_i, neg_i, addI_i, eq_w, ne_w, rev_w, len_w, get_new, set_new, e1]
  rw [if_pos (sizeBig (by omega))]
  simp only [ap_wipe, ap_wipe0, ap_runF, ap_seq, ap_next, ap_expr, ap_ret, ap_if, ap_asg, ap_par, ap_aug, ap_nm, ap_tp, ap_gnil, ap_gcons, ap_gix, ap_var, ap_c, ap_op1, ap_op2, ap_opL, ap_anil, ap_acons, ap_tup, ap_lst, ap_fz, ap_new, ap_call, ap_mth, ap_bl, ap_tru, ap_bnot, ap_band, ap_bor, ap_and, ap_or, ap_not, ap_eif, ap_for, ap_lc, ap_rg1, ap_rg2, ap_zp, ap_iseq, ap_slc, ap_onone, ap_osome, ap_chain, ap_lstof, ap_suml, bnd_some, bnd_none, List.map_cons, List.map_nil, List.length_cons, List.length_nil, List.replicate_succ, List.replicate_zero, List.cons_append, List.nil_append, List.append_nil, List.getElem?_cons_zero, List.getElem?_cons_succ, List.set_cons_zero, List.set_cons_succ, Nat.reduceSub, Nat.reduceAdd, Nat.reduceLeDiff, Nat.reduceEqDiff, Nat.zero_add, if_true, if_false, reduceIte, reduceCtorEq, Bool.false_eq_true, Bool.not_true, Bool.not_false, decide_true, decide_false, Nat.sub_self, Nat.sub_zero, Nat.zero_le, Nat.le_refl, gt_i, ge_i, lt_i, le_i, eq_i, ne_i, eq_b, ne_b, add_i, sub_i, neg_i, addI_i, eq_w, ne_w, rev_w, len_w, get_new, set_new, e2]
theorem p_strikes (r : Int) (w : List Int) (S : Sto) (hr : 1 ≤ r ∧ r ≤ 4) (hl : w.length ≤ 400) (h : okW r w) : φ_strikes [.int r, wD w] S = some (.int (((w.length : Int) - (red w).length) / 2), S) := by
  refine gz_pure0 ?_ rfl
  unfold f_strikes
  simp only [ap_wipe, ap_wipe0, ap_runF, ap_seq, ap_next, ap_expr, ap_ret, ap_if, ap_asg, ap_par, ap_aug, ap_nm, ap_tp, ap_gnil, ap_gcons, ap_gix, ap_var, ap_c, ap_op1, ap_op2, ap_opL, ap_anil, ap_acons, ap_tup, ap_lst, ap_fz, ap_new, ap_call, ap_mth, ap_bl, ap_tru, ap_bnot, ap_band, ap_bor, ap_and, ap_or, ap_not, ap_eif, ap_for, ap_lc, ap_rg1, ap_rg2, ap_zp, ap_iseq, ap_slc, ap_onone, ap_osome, ap_chain, ap_lstof, ap_suml, bnd_some, bnd_none, List.map_cons, List.map_nil, List.length_cons, List.length_nil, List.replicate_succ, List.replicate_zero, List.cons_append, List.nil_append, List.append_nil, List.getElem?_cons_zero, List.getElem?_cons_succ, List.set_cons_zero, List.set_cons_succ, Nat.reduceSub, Nat.reduceAdd, Nat.reduceLeDiff, Nat.reduceEqDiff, Nat.zero_add, if_true, if_false, reduceIte, reduceCtorEq, Bool.false_eq_true, Bool.not_true, Bool.not_false, decide_true, decide_false, Nat.sub_self, Nat.sub_zero, Nat.zero_le, Nat.le_refl, gt_i, ge_i, lt_i, le_i, eq_i, ne_i, eq_b, ne_b, add_i, sub_i, neg_i, addI_i, eq_w, ne_w, rev_w, len_w, get_new, set_new, p_require_told_word r w S hr hl h, p_shortened_in w S (by omega), fdiv_i (divW_of (by decide) (by decide) : CDivW _ 2)]
end Hx

namespace Hx
open PySem PySem.Spec PyProof.Rows L2 PU
theorem idx_loc {S : Sto} {n : Nat} {ds : List D} {i : Int} {d : D} (h : S[n]? = some (.lst ds)) (e : atI ds i = some d) : idxD (.loc n) (.int i) S = some (d, S) := by
  show (match readOf (.loc n) S with
    | some ds => match atI ds i with
      | some d => some (d, S)
      | none => none
    | none => none) = _
  have e1 : readOf (.loc n) S = some ds := by
    show (match S[n]? with
      | some (.lst ds) => some ds
      | _ => none) = _
    rw [h]
  rw [e1]
  simp only [e]
theorem idx_lst {S : Sto} {ds : List D} {i : Int} {d : D} (e : atI ds i = some d) : idxD (.lst ds) (.int i) S = some (d, S) := by
  show (match atI ds i with
      | some d => some (d, S)
      | none => none) = _
  rw [e]
theorem idx_rol {S : Sto} {ds : List D} {i : Int} {d : D} (e : atI ds i = some d) : idxD (.rol ds) (.int i) S = some (d, S) := by
  show (match atI ds i with
      | some d => some (d, S)
      | none => none) = _
  rw [e]
theorem atI_nat {α : Type} {ds : List α} {i : Nat} {d : α} (h : ds[i]? = some d) : atI ds (i : Int) = some d := by
  have hl := (List.getElem?_eq_some_iff.mp h).1
  unfold atI ixN
  rw [if_pos (by omega), if_pos (by omega)]
  simpa using h
/-- the dice's cells -/
def okA (a : Int) : Prop := 0 ≤ a
def okB (b : Int) : Prop := 0 ≤ b ∧ b < 18446744073709551616
def isDice (S : Sto) (n : Nat) : Prop := ∃ a b, S[n]? = some (.lst [.int a, .int b]) ∧ okA a ∧ okB b
/-- the store but for the dice at n -/
def Dx (n : Nat) (S S' : Sto) : Prop := isDice S' n ∧ ∃ o, S' = S.set n o ∧ cloO 0 o = true
theorem Dx.refl {n : Nat} {S : Sto} (h : isDice S n) : Dx n S S := by
  obtain ⟨a, b, h1, h2, h3⟩ := id h
  exact ⟨h, .lst [.int a, .int b], (set_self h1).symm, rfl⟩
theorem Dx.trans {n : Nat} {S S' S'' : Sto} (h : Dx n S S') (h' : Dx n S' S'') : Dx n S S'' := by
  obtain ⟨_, o, rfl, _⟩ := h
  obtain ⟨h1, o', rfl, h2⟩ := h'
  exact ⟨h1, o', List.set_set _, h2⟩
theorem Dx.len {n : Nat} {S S' : Sto} (h : Dx n S S') : S'.length = S.length := by
  obtain ⟨_, o, rfl, _⟩ := h
  exact List.length_set
theorem gz_dx {f : List D → Sto → Option (D × Sto)} {ds : List D} {S S' G : Sto} {d : D} {n : Nat} (h : f ds S = some (d, S' ++ G)) (hd : Dx n S S') (hc : clo 0 d = true) : gzF f ds S = some (d, S') := by
  obtain ⟨_, o, rfl, ho⟩ := hd
  exact gz_set h hc ho
theorem gz_dx0 {f : List D → Sto → Option (D × Sto)} {ds : List D} {S S' : Sto} {d : D} {n : Nat} (h : f ds S = some (d, S')) (hd : Dx n S S') (hc : clo 0 d = true) : gzF f ds S = some (d, S') := gz_dx (G := []) (by rw [List.append_nil]; exact h) hd hc
theorem p_law_roll (n : Nat) (t : Int) (S : Sto) (h : isDice S n) (ht : 1 ≤ t ∧ t ≤ 1000000) : ∃ (j : Nat) (S' : Sto), φ_law_roll [.loc n, .int t] S = some (.int j, S') ∧ (j : Int) < t ∧ Dx n S S' := by
  obtain ⟨a, b, h1, h2, h3⟩ := h
  have hn : n < S.length := (List.getElem?_eq_some_iff.mp h1).1
  have i0 : atI [D.int a, D.int b] 0 = some (.int a) := rfl
  have i1 : atI [D.int a, D.int b] 1 = some (.int b) := rfl
  have e0 := idx_loc h1 i0
  have e1 := idx_loc h1 i1
  unfold okA at h2
  unfold okB at h3
  have dv : ∀ i, CDivW i t := fun i => divW_of (by omega) (by
    have : (1000000 : Nat) < 2 ^ 200 := by decide
    omega)
  by_cases ha : 0 < a
  · have g1 : 0 ≤ a % t := Int.emod_nonneg _ (by omega)
    have g2 : a % t < t := Int.emod_lt_of_pos _ (by omega)
    have g3 : 0 ≤ a / t := Int.ediv_nonneg h2 (by omega)
    refine ⟨(a % t).toNat, S.set n (.lst [.int (a / t), .int b]), ?_, by omega, ⟨_, _, List.getElem?_set_self hn, g3, h3⟩, _, rfl, rfl⟩
    refine gz_dx0 (n := n) ?_ ⟨⟨_, _, List.getElem?_set_self hn, g3, h3⟩, _, rfl, rfl⟩ rfl
    unfold f_law_roll
    have im : ∀ x : Int, intD [.int x] S = some (.int x, S) := fun _ => rfl
    simp only [ap_wipe, ap_wipe0, ap_runF, ap_seq, ap_next, ap_expr, ap_ret, ap_if, ap_asg, ap_par, ap_aug, ap_nm, ap_tp, ap_gnil, ap_gcons, ap_gix, ap_var, ap_c, ap_op1, ap_op2, ap_opL, ap_anil, ap_acons, ap_tup, ap_lst, ap_fz, ap_new, ap_call, ap_mth, ap_bl, ap_tru, ap_bnot, ap_band, ap_bor, ap_and, ap_or, ap_not, ap_eif, ap_for, ap_lc, ap_rg1, ap_rg2, ap_zp, ap_iseq, ap_slc, ap_onone, ap_osome, ap_chain, ap_lstof, ap_suml, bnd_some, bnd_none, List.map_cons, List.map_nil, List.length_cons, List.length_nil, List.replicate_succ, List.replicate_zero, List.cons_append, List.nil_append, List.append_nil, List.getElem?_cons_zero, List.getElem?_cons_succ, List.set_cons_zero, List.set_cons_succ, Nat.reduceSub, Nat.reduceAdd, Nat.reduceLeDiff, Nat.reduceEqDiff, Nat.zero_add, if_true, if_false, reduceIte, reduceCtorEq, Bool.false_eq_true, Bool.not_true, Bool.not_false, decide_true, decide_false, Nat.sub_self, Nat.sub_zero, Nat.zero_le, Nat.le_refl, gt_i, ge_i, lt_i, le_i, eq_i, ne_i, eq_b, ne_b, add_i, sub_i, neg_i, addI_i, eq_w, ne_w, rev_w, len_w, get_new, set_new, e0, ha, mod_i (show 0 < t by omega), im, fdiv_i (dv a), h1]
    rw [Int.toNat_of_nonneg g1]
    rfl
  · have hm : CMulW b 6364136223846793005 := mulW_of (by
      have : (18446744073709551616 : Nat) < 2 ^ 200 := by decide
      omega) (by decide)
    have g1 : 0 ≤ (b * 6364136223846793005 + 1442695040888963407) % 18446744073709551616 := Int.emod_nonneg _ (by decide)
    have g2 : (b * 6364136223846793005 + 1442695040888963407) % 18446744073709551616 < 18446744073709551616 := Int.emod_lt_of_pos _ (by decide)
    generalize hb : (b * 6364136223846793005 + 1442695040888963407) % 18446744073709551616 = b' at g1 g2
    have k1 : 0 ≤ b' / 4294967296 % t := Int.emod_nonneg _ (by omega)
    have k2 : b' / 4294967296 % t < t := Int.emod_lt_of_pos _ (by omega)
    have hs : (S.set n (.lst [.int a, .int b']))[n]? = some (.lst [.int a, .int b']) := List.getElem?_set_self hn
    refine ⟨(b' / 4294967296 % t).toNat, S.set n (.lst [.int a, .int b']), ?_, by omega, ⟨_, _, hs, h2, g1, g2⟩, _, rfl, rfl⟩
    refine gz_dx0 (n := n) ?_ ⟨⟨_, _, hs, h2, g1, g2⟩, _, rfl, rfl⟩ rfl
    unfold f_law_roll
    have im : ∀ (x : Int) (T : Sto), intD [.int x] T = some (.int x, T) := fun _ _ => rfl
    have e2 : idxD (.loc n) (.int 1) (S.set n (.lst [.int a, .int b'])) = some (.int b', _) := idx_loc hs rfl
    simp only [ap_wipe, ap_wipe0, ap_runF, ap_seq, ap_next, ap_expr, ap_ret, ap_if, ap_asg, ap_par, ap_aug, ap_nm, ap_tp, ap_gnil, ap_gcons, ap_gix, ap_var, ap_c, ap_op1, ap_op2, ap_opL, ap_anil, ap_acons, ap_tup, ap_lst, ap_fz, ap_new, ap_call, ap_mth, ap_bl, ap_tru, ap_bnot, ap_band, ap_bor, ap_and, ap_or, ap_not, ap_eif, ap_for, ap_lc, ap_rg1, ap_rg2, ap_zp, ap_iseq, ap_slc, ap_onone, ap_osome, ap_chain, ap_lstof, ap_suml, bnd_some, bnd_none, List.map_cons, List.map_nil, List.length_cons, List.length_nil, List.replicate_succ, List.replicate_zero, List.cons_append, List.nil_append, List.append_nil, List.getElem?_cons_zero, List.getElem?_cons_succ, List.set_cons_zero, List.set_cons_succ, Nat.reduceSub, Nat.reduceAdd, Nat.reduceLeDiff, Nat.reduceEqDiff, Nat.zero_add, if_true, if_false, reduceIte, reduceCtorEq, Bool.false_eq_true, Bool.not_true, Bool.not_false, decide_true, decide_false, Nat.sub_self, Nat.sub_zero, Nat.zero_le, Nat.le_refl, gt_i, ge_i, lt_i, le_i, eq_i, ne_i, eq_b, ne_b, add_i, sub_i, neg_i, addI_i, eq_w, ne_w, rev_w, len_w, get_new, set_new, e0, e1, ha, mul_i hm, mod_i (show (0 : Int) < 18446744073709551616 by decide), h1]
    rw [hb]
    have ixn : ixN [D.int a, D.int b].length 1 = some 1 := rfl
    simp only [List.length_cons, List.length_nil] at ixn
    simp only [ap_wipe, ap_wipe0, ap_runF, ap_seq, ap_next, ap_expr, ap_ret, ap_if, ap_asg, ap_par, ap_aug, ap_nm, ap_tp, ap_gnil, ap_gcons, ap_gix, ap_var, ap_c, ap_op1, ap_op2, ap_opL, ap_anil, ap_acons, ap_tup, ap_lst, ap_fz, ap_new, ap_call, ap_mth, ap_bl, ap_tru, ap_bnot, ap_band, ap_bor, ap_and, ap_or, ap_not, ap_eif, ap_for, ap_lc, ap_rg1, ap_rg2, ap_zp, ap_iseq, ap_slc, ap_onone, ap_osome, ap_chain, ap_lstof, ap_suml, bnd_some, bnd_none, List.map_cons, List.map_nil, List.length_cons, List.length_nil, List.replicate_succ, List.replicate_zero, List.cons_append, List.nil_append, List.append_nil, List.getElem?_cons_zero, List.getElem?_cons_succ, List.set_cons_zero, List.set_cons_succ, Nat.reduceSub, Nat.reduceAdd, Nat.reduceLeDiff, Nat.reduceEqDiff, Nat.zero_add, if_true, if_false, reduceIte, reduceCtorEq, Bool.false_eq_true, Bool.not_true, Bool.not_false, decide_true, decide_false, Nat.sub_self, Nat.sub_zero, Nat.zero_le, Nat.le_refl, gt_i, ge_i, lt_i, le_i, eq_i, ne_i, eq_b, ne_b, add_i, sub_i, neg_i, addI_i, eq_w, ne_w, rev_w, len_w, get_new, set_new, ixn, e2, im, fdiv_i (divW_of (by decide) (by decide) : CDivW b' 4294967296), mod_i (show 0 < t by omega)]
    rw [Int.toNat_of_nonneg k1]
theorem len_l {ds : List D} {S : Sto} : lenD [.lst ds] S = some (.int ds.length, S) := rfl
theorem p_law_one_of (n : Nat) (ds : List D) (S : Sto) (h : isDice S n) (hz : 1 ≤ ds.length ∧ ds.length ≤ 1000000) (hc : cloL 0 ds = true) : ∃ (j : Nat) (d : D) (S' : Sto), φ_law_one_of [.loc n, .lst ds] S = some (d, S') ∧ ds[j]? = some d ∧ Dx n S S' := by
  obtain ⟨j, S', h1, h2, h3⟩ := p_law_roll n ds.length S h (by omega)
  have hj : j < ds.length := by omega
  have hd : ds[j]? = some ds[j] := List.getElem?_eq_getElem hj
  have hcd : ∀ (l : List D) (i : Nat) (d : D), cloL 0 l = true → l[i]? = some d → clo 0 d = true := by
    intro l
    induction l with
    | nil => intro i d _ e; simp at e
    | cons x l ih =>
      intro i d hc e
      obtain ⟨c1, c2⟩ := Bool.and_eq_true_iff.mp (show (clo 0 x && cloL 0 l) = true from hc)
      cases i with
      | zero => simp at e; rw [← e]; exact c1
      | succ i => simp at e; exact ih i d c2 e
  refine ⟨j, ds[j], S', ?_, hd, h3⟩
  refine gz_dx0 ?_ h3 (hcd ds j _ hc hd)
  unfold f_law_one_of
  simp only [ap_wipe, ap_wipe0, ap_runF, ap_seq, ap_next, ap_expr, ap_ret, ap_if, ap_asg, ap_par, ap_aug, ap_nm, ap_tp, ap_gnil, ap_gcons, ap_gix, ap_var, ap_c, ap_op1, ap_op2, ap_opL, ap_anil, ap_acons, ap_tup, ap_lst, ap_fz, ap_new, ap_call, ap_mth, ap_bl, ap_tru, ap_bnot, ap_band, ap_bor, ap_and, ap_or, ap_not, ap_eif, ap_for, ap_lc, ap_rg1, ap_rg2, ap_zp, ap_iseq, ap_slc, ap_onone, ap_osome, ap_chain, ap_lstof, ap_suml, bnd_some, bnd_none, List.map_cons, List.map_nil, List.length_cons, List.length_nil, List.replicate_succ, List.replicate_zero, List.cons_append, List.nil_append, List.append_nil, List.getElem?_cons_zero, List.getElem?_cons_succ, List.set_cons_zero, List.set_cons_succ, Nat.reduceSub, Nat.reduceAdd, Nat.reduceLeDiff, Nat.reduceEqDiff, Nat.zero_add, if_true, if_false, reduceIte, reduceCtorEq, Bool.false_eq_true, Bool.not_true, Bool.not_false, decide_true, decide_false, Nat.sub_self, Nat.sub_zero, Nat.zero_le, Nat.le_refl, gt_i, ge_i, lt_i, le_i, eq_i, ne_i, eq_b, ne_b, add_i, sub_i, neg_i, addI_i, eq_w, ne_w, rev_w, len_w, get_new, set_new, len_l, h1, idx_lst (atI_nat hd)]
end Hx

namespace Hx
open PySem PySem.Spec PyProof.Rows L2 PU
theorem p_law_made (ws : List (List Int)) (S : Sto) (hz : ws.flatten.length ≤ 1000) : φ_law_made [.lst (ws.map wD)] S = some (wD (red ws.flatten), S) := by
  refine gz_pure (G := [.lst (iL (red ws.flatten))]) ?_ wD_clo
  unfold f_law_made
  simp only [ap_wipe, ap_wipe0, ap_runF, ap_seq, ap_next, ap_expr, ap_ret, ap_if, ap_asg, ap_par, ap_aug, ap_nm, ap_tp, ap_gnil, ap_gcons, ap_gix, ap_var, ap_c, ap_op1, ap_op2, ap_opL, ap_anil, ap_acons, ap_tup, ap_lst, ap_fz, ap_new, ap_call, ap_mth, ap_bl, ap_tru, ap_bnot, ap_band, ap_bor, ap_and, ap_or, ap_not, ap_eif, ap_for, ap_lc, ap_rg1, ap_rg2, ap_zp, ap_iseq, ap_slc, ap_onone, ap_osome, ap_chain, ap_lstof, ap_suml, bnd_some, bnd_none, List.map_cons, List.map_nil, List.length_cons, List.length_nil, List.replicate_succ, List.replicate_zero, List.cons_append, List.nil_append, List.append_nil, List.getElem?_cons_zero, List.getElem?_cons_succ, List.set_cons_zero, List.set_cons_succ, Nat.reduceSub, Nat.reduceAdd, Nat.reduceLeDiff, Nat.reduceEqDiff, Nat.zero_add, if_true, if_false, reduceIte, reduceCtorEq, Bool.false_eq_true, Bool.not_true, Bool.not_false, decide_true, decide_false, Nat.sub_self, Nat.sub_zero, Nat.zero_le, Nat.le_refl, gt_i, ge_i, lt_i, le_i, eq_i, ne_i, eq_b, ne_b, add_i, sub_i, neg_i, addI_i, eq_w, ne_w, rev_w, len_w, get_new, set_new]
  have key : ∀ (us : List (List Int)) (acc : List Int) (env : En) (p0 x y : Option D) (ds0 : List D), acc.length + us.flatten.length ≤ 1000 → env = [p0, some (.loc S.length), x, y] → 
      ∃ env', loopF ⟨ds0, none⟩ (gNm 2) (sFor (iSeq (eVar 2)) (gNm 3) (pshB 1 3 (eOp2 subD (eC (.int 0)) (eVar 3)))) (us.map wD) env (S ++ [.lst (iL acc)]) = some (.nx env', S ++ [.lst (iL (us.flatten.foldl psh acc))]) ∧ env'[1]? = some (some (.loc S.length)) := by
    intro us
    induction us with
    | nil => exact fun acc env p0 x y ds0 hz he => ⟨env, by rw [List.map_nil, loopF_nil]; rfl, by rw [he]; rfl⟩
    | cons u us ih =>
      intro acc env p0 x y ds0 hz he
      rw [List.flatten_cons, List.length_append] at hz
      obtain ⟨env1, h1, z, hy⟩ := pshB_loop (i := 1) (j := 3) (n := S.length) (ds0 := iL u) (by decide) neg_sub u acc [p0, some (.loc S.length), some (wD u), y] (S ++ [.lst (iL acc)]) (by simp) rfl get_new (by omega)
      rw [set_new] at h1
      have hl := foldl_psh_len u acc
      obtain ⟨env', h2, h3⟩ := ih (u.foldl psh acc) env1 p0 (some (wD u)) z ds0 (by omega) (by rw [hy]; rfl)
      refine ⟨env', ?_, h3⟩
      rw [List.map_cons, loopF_cons, ap_nm, bnd_some, he]
      simp only [ap_wipe, ap_wipe0, ap_runF, ap_seq, ap_next, ap_expr, ap_ret, ap_if, ap_asg, ap_par, ap_aug, ap_nm, ap_tp, ap_gnil, ap_gcons, ap_gix, ap_var, ap_c, ap_op1, ap_op2, ap_opL, ap_anil, ap_acons, ap_tup, ap_lst, ap_fz, ap_new, ap_call, ap_mth, ap_bl, ap_tru, ap_bnot, ap_band, ap_bor, ap_and, ap_or, ap_not, ap_eif, ap_for, ap_lc, ap_rg1, ap_rg2, ap_zp, ap_iseq, ap_slc, ap_onone, ap_osome, ap_chain, ap_lstof, ap_suml, bnd_some, bnd_none, List.map_cons, List.map_nil, List.length_cons, List.length_nil, List.replicate_succ, List.replicate_zero, List.cons_append, List.nil_append, List.append_nil, List.getElem?_cons_zero, List.getElem?_cons_succ, List.set_cons_zero, List.set_cons_succ, Nat.reduceSub, Nat.reduceAdd, Nat.reduceLeDiff, Nat.reduceEqDiff, Nat.zero_add, if_true, if_false, reduceIte, reduceCtorEq, Bool.false_eq_true, Bool.not_true, Bool.not_false, decide_true, decide_false, Nat.sub_self, Nat.sub_zero, Nat.zero_le, Nat.le_refl, gt_i, ge_i, lt_i, le_i, eq_i, ne_i, eq_b, ne_b, add_i, sub_i, neg_i, addI_i, eq_w, ne_w, rev_w, len_w, get_new, set_new, wD]
      have h1' : loopF { items := iL u, g := none } (gNm 3) (pshB 1 3 (eOp2 subD (eC (.int 0)) (eVar 3))) (List.map D.int u) [p0, some (.loc S.length), some (D.tup (iL u)), y] (S ++ [.lst (iL acc)]) = _ := h1
      rw [h1', bnd_some]
      simp only
      rw [h2, List.flatten_cons, List.foldl_append]
  obtain ⟨env', h1, h2⟩ := key ws [] _ (some (.lst (ws.map wD))) none none (ws.map wD) (by simpa using hz) rfl
  unfold pshB at h1
  rw [show iL [] = [] from rfl] at h1
  rw [h1]
  simp only [ap_wipe, ap_wipe0, ap_runF, ap_seq, ap_next, ap_expr, ap_ret, ap_if, ap_asg, ap_par, ap_aug, ap_nm, ap_tp, ap_gnil, ap_gcons, ap_gix, ap_var, ap_c, ap_op1, ap_op2, ap_opL, ap_anil, ap_acons, ap_tup, ap_lst, ap_fz, ap_new, ap_call, ap_mth, ap_bl, ap_tru, ap_bnot, ap_band, ap_bor, ap_and, ap_or, ap_not, ap_eif, ap_for, ap_lc, ap_rg1, ap_rg2, ap_zp, ap_iseq, ap_slc, ap_onone, ap_osome, ap_chain, ap_lstof, ap_suml, bnd_some, bnd_none, List.map_cons, List.map_nil, List.length_cons, List.length_nil, List.replicate_succ, List.replicate_zero, List.cons_append, List.nil_append, List.append_nil, List.getElem?_cons_zero, List.getElem?_cons_succ, List.set_cons_zero, List.set_cons_succ, Nat.reduceSub, Nat.reduceAdd, Nat.reduceLeDiff, Nat.reduceEqDiff, Nat.zero_add, if_true, if_false, reduceIte, reduceCtorEq, Bool.false_eq_true, Bool.not_true, Bool.not_false, decide_true, decide_false, Nat.sub_self, Nat.sub_zero, Nat.zero_le, Nat.le_refl, gt_i, ge_i, lt_i, le_i, eq_i, ne_i, eq_b, ne_b, add_i, sub_i, neg_i, addI_i, eq_w, ne_w, rev_w, len_w, get_new, set_new, h2, tup_new]
  rfl
theorem p_law_undone (w : List Int) (S : Sto) (hz : w.length ≤ 1000) : φ_law_undone [wD w] S = some (wD (und w), S) := by
  refine gz_pure0 ?_ wD_clo
  unfold f_law_undone
  simp only [ap_wipe, ap_wipe0, ap_runF, ap_seq, ap_next, ap_expr, ap_ret, ap_if, ap_asg, ap_par, ap_aug, ap_nm, ap_tp, ap_gnil, ap_gcons, ap_gix, ap_var, ap_c, ap_op1, ap_op2, ap_opL, ap_anil, ap_acons, ap_tup, ap_lst, ap_fz, ap_new, ap_call, ap_mth, ap_bl, ap_tru, ap_bnot, ap_band, ap_bor, ap_and, ap_or, ap_not, ap_eif, ap_for, ap_lc, ap_rg1, ap_rg2, ap_zp, ap_iseq, ap_slc, ap_onone, ap_osome, ap_chain, ap_lstof, ap_suml, bnd_some, bnd_none, List.map_cons, List.map_nil, List.length_cons, List.length_nil, List.replicate_succ, List.replicate_zero, List.cons_append, List.nil_append, List.append_nil, List.getElem?_cons_zero, List.getElem?_cons_succ, List.set_cons_zero, List.set_cons_succ, Nat.reduceSub, Nat.reduceAdd, Nat.reduceLeDiff, Nat.reduceEqDiff, Nat.zero_add, if_true, if_false, reduceIte, reduceCtorEq, Bool.false_eq_true, Bool.not_true, Bool.not_false, decide_true, decide_false, Nat.sub_self, Nat.sub_zero, Nat.zero_le, Nat.le_refl, gt_i, ge_i, lt_i, le_i, eq_i, ne_i, eq_b, ne_b, add_i, sub_i, neg_i, addI_i, eq_w, ne_w, rev_w, len_w, get_new, set_new]
  simp only [ap_wipe, ap_wipe0, ap_runF, ap_seq, ap_next, ap_expr, ap_ret, ap_if, ap_asg, ap_par, ap_aug, ap_nm, ap_tp, ap_gnil, ap_gcons, ap_gix, ap_var, ap_c, ap_op1, ap_op2, ap_opL, ap_anil, ap_acons, ap_tup, ap_lst, ap_fz, ap_new, ap_call, ap_mth, ap_bl, ap_tru, ap_bnot, ap_band, ap_bor, ap_and, ap_or, ap_not, ap_eif, ap_for, ap_lc, ap_rg1, ap_rg2, ap_zp, ap_iseq, ap_slc, ap_onone, ap_osome, ap_chain, ap_lstof, ap_suml, bnd_some, bnd_none, List.map_cons, List.map_nil, List.length_cons, List.length_nil, List.replicate_succ, List.replicate_zero, List.cons_append, List.nil_append, List.append_nil, List.getElem?_cons_zero, List.getElem?_cons_succ, List.set_cons_zero, List.set_cons_succ, Nat.reduceSub, Nat.reduceAdd, Nat.reduceLeDiff, Nat.reduceEqDiff, Nat.zero_add, if_true, if_false, reduceIte, reduceCtorEq, Bool.false_eq_true, Bool.not_true, Bool.not_false, decide_true, decide_false, Nat.sub_self, Nat.sub_zero, Nat.zero_le, Nat.le_refl, gt_i, ge_i, lt_i, le_i, eq_i, ne_i, eq_b, ne_b, add_i, sub_i, neg_i, addI_i, eq_w, ne_w, rev_w, len_w, get_new, set_new, wD]
  rw [lcF_map D.int (fun _ => true) (fun i => D.int (-i)) w.reverse [] (fun a ha => ⟨_, rfl, rfl, fun _ => ?_⟩) (szN (by rw [List.length_reverse]; omega))]
  · simp only [ap_wipe, ap_wipe0, ap_runF, ap_seq, ap_next, ap_expr, ap_ret, ap_if, ap_asg, ap_par, ap_aug, ap_nm, ap_tp, ap_gnil, ap_gcons, ap_gix, ap_var, ap_c, ap_op1, ap_op2, ap_opL, ap_anil, ap_acons, ap_tup, ap_lst, ap_fz, ap_new, ap_call, ap_mth, ap_bl, ap_tru, ap_bnot, ap_band, ap_bor, ap_and, ap_or, ap_not, ap_eif, ap_for, ap_lc, ap_rg1, ap_rg2, ap_zp, ap_iseq, ap_slc, ap_onone, ap_osome, ap_chain, ap_lstof, ap_suml, bnd_some, bnd_none, List.map_cons, List.map_nil, List.length_cons, List.length_nil, List.replicate_succ, List.replicate_zero, List.cons_append, List.nil_append, List.append_nil, List.getElem?_cons_zero, List.getElem?_cons_succ, List.set_cons_zero, List.set_cons_succ, Nat.reduceSub, Nat.reduceAdd, Nat.reduceLeDiff, Nat.reduceEqDiff, Nat.zero_add, if_true, if_false, reduceIte, reduceCtorEq, Bool.false_eq_true, Bool.not_true, Bool.not_false, decide_true, decide_false, Nat.sub_self, Nat.sub_zero, Nat.zero_le, Nat.le_refl, gt_i, ge_i, lt_i, le_i, eq_i, ne_i, eq_b, ne_b, add_i, sub_i, neg_i, addI_i, eq_w, ne_w, rev_w, len_w, get_new, set_new, fl_true, tup_l, und, List.map_map]
    rfl
  · simp only [ap_wipe, ap_wipe0, ap_runF, ap_seq, ap_next, ap_expr, ap_ret, ap_if, ap_asg, ap_par, ap_aug, ap_nm, ap_tp, ap_gnil, ap_gcons, ap_gix, ap_var, ap_c, ap_op1, ap_op2, ap_opL, ap_anil, ap_acons, ap_tup, ap_lst, ap_fz, ap_new, ap_call, ap_mth, ap_bl, ap_tru, ap_bnot, ap_band, ap_bor, ap_and, ap_or, ap_not, ap_eif, ap_for, ap_lc, ap_rg1, ap_rg2, ap_zp, ap_iseq, ap_slc, ap_onone, ap_osome, ap_chain, ap_lstof, ap_suml, bnd_some, bnd_none, List.map_cons, List.map_nil, List.length_cons, List.length_nil, List.replicate_succ, List.replicate_zero, List.cons_append, List.nil_append, List.append_nil, List.getElem?_cons_zero, List.getElem?_cons_succ, List.set_cons_zero, List.set_cons_succ, Nat.reduceSub, Nat.reduceAdd, Nat.reduceLeDiff, Nat.reduceEqDiff, Nat.zero_add, if_true, if_false, reduceIte, reduceCtorEq, Bool.false_eq_true, Bool.not_true, Bool.not_false, decide_true, decide_false, Nat.sub_self, Nat.sub_zero, Nat.zero_le, Nat.le_refl, gt_i, ge_i, lt_i, le_i, eq_i, ne_i, eq_b, ne_b, add_i, sub_i, neg_i, addI_i, eq_w, ne_w, rev_w, len_w, get_new, set_new, Int.zero_sub]
theorem flatL_l {α : Type} (f : α → List D) (S : Sto) : ∀ l : List α, flatL (l.map fun a => D.lst (f a)) S = some (l.flatMap f)
  | [] => rfl
  | a :: l => by
    show (match some (f a), flatL (l.map fun a => D.lst (f a)) S with
      | some a, some b => some (a ++ b)
      | _, _ => none) = _
    rw [flatL_l f S l]
    rfl
theorem read_l {ds : List D} {S : Sto} : readOf (.lst ds) S = some ds := rfl
theorem p_law_letters (k : Nat) (S : Sto) (h : k ≤ 4) : φ_law_letters [.int k] S = some (.lst (iL (lets k)), S) := by
  refine gz_pure0 ?_ iL_clo
  unfold f_law_letters
  simp only [ap_wipe, ap_wipe0, ap_runF, ap_seq, ap_next, ap_expr, ap_ret, ap_if, ap_asg, ap_par, ap_aug, ap_nm, ap_tp, ap_gnil, ap_gcons, ap_gix, ap_var, ap_c, ap_op1, ap_op2, ap_opL, ap_anil, ap_acons, ap_tup, ap_lst, ap_fz, ap_new, ap_call, ap_mth, ap_bl, ap_tru, ap_bnot, ap_band, ap_bor, ap_and, ap_or, ap_not, ap_eif, ap_for, ap_lc, ap_rg1, ap_rg2, ap_zp, ap_iseq, ap_slc, ap_onone, ap_osome, ap_chain, ap_lstof, ap_suml, bnd_some, bnd_none, List.map_cons, List.map_nil, List.length_cons, List.length_nil, List.replicate_succ, List.replicate_zero, List.cons_append, List.nil_append, List.append_nil, List.getElem?_cons_zero, List.getElem?_cons_succ, List.set_cons_zero, List.set_cons_succ, Nat.reduceSub, Nat.reduceAdd, Nat.reduceLeDiff, Nat.reduceEqDiff, Nat.zero_add, if_true, if_false, reduceIte, reduceCtorEq, Bool.false_eq_true, Bool.not_true, Bool.not_false, decide_true, decide_false, Nat.sub_self, Nat.sub_zero, Nat.zero_le, Nat.le_refl, gt_i, ge_i, lt_i, le_i, eq_i, ne_i, eq_b, ne_b, add_i, sub_i, neg_i, addI_i, eq_w, ne_w, rev_w, len_w, get_new, set_new]
  rw [if_pos ⟨fit_of (by omega), fit_of (by omega)⟩]
  simp only [ap_wipe, ap_wipe0, ap_runF, ap_seq, ap_next, ap_expr, ap_ret, ap_if, ap_asg, ap_par, ap_aug, ap_nm, ap_tp, ap_gnil, ap_gcons, ap_gix, ap_var, ap_c, ap_op1, ap_op2, ap_opL, ap_anil, ap_acons, ap_tup, ap_lst, ap_fz, ap_new, ap_call, ap_mth, ap_bl, ap_tru, ap_bnot, ap_band, ap_bor, ap_and, ap_or, ap_not, ap_eif, ap_for, ap_lc, ap_rg1, ap_rg2, ap_zp, ap_iseq, ap_slc, ap_onone, ap_osome, ap_chain, ap_lstof, ap_suml, bnd_some, bnd_none, List.map_cons, List.map_nil, List.length_cons, List.length_nil, List.replicate_succ, List.replicate_zero, List.cons_append, List.nil_append, List.append_nil, List.getElem?_cons_zero, List.getElem?_cons_succ, List.set_cons_zero, List.set_cons_succ, Nat.reduceSub, Nat.reduceAdd, Nat.reduceLeDiff, Nat.reduceEqDiff, Nat.zero_add, if_true, if_false, reduceIte, reduceCtorEq, Bool.false_eq_true, Bool.not_true, Bool.not_false, decide_true, decide_false, Nat.sub_self, Nat.sub_zero, Nat.zero_le, Nat.le_refl, gt_i, ge_i, lt_i, le_i, eq_i, ne_i, eq_b, ne_b, add_i, sub_i, neg_i, addI_i, eq_w, ne_w, rev_w, len_w, get_new, set_new, rgD_map]
  rw [lcF_map (fun i : Nat => D.int (1 + (i : Int))) (fun _ => true) (fun i : Nat => D.lst [.int (1 + (i : Int)), .int (-(1 + (i : Int)))]) (List.range ((k : Int) + 1 - 1).toNat) [] (fun i hi => ⟨_, rfl, rfl, fun _ => ?_⟩) (szN (by rw [List.length_range]; omega))]
  · simp only [ap_wipe, ap_wipe0, ap_runF, ap_seq, ap_next, ap_expr, ap_ret, ap_if, ap_asg, ap_par, ap_aug, ap_nm, ap_tp, ap_gnil, ap_gcons, ap_gix, ap_var, ap_c, ap_op1, ap_op2, ap_opL, ap_anil, ap_acons, ap_tup, ap_lst, ap_fz, ap_new, ap_call, ap_mth, ap_bl, ap_tru, ap_bnot, ap_band, ap_bor, ap_and, ap_or, ap_not, ap_eif, ap_for, ap_lc, ap_rg1, ap_rg2, ap_zp, ap_iseq, ap_slc, ap_onone, ap_osome, ap_chain, ap_lstof, ap_suml, bnd_some, bnd_none, List.map_cons, List.map_nil, List.length_cons, List.length_nil, List.replicate_succ, List.replicate_zero, List.cons_append, List.nil_append, List.append_nil, List.getElem?_cons_zero, List.getElem?_cons_succ, List.set_cons_zero, List.set_cons_succ, Nat.reduceSub, Nat.reduceAdd, Nat.reduceLeDiff, Nat.reduceEqDiff, Nat.zero_add, if_true, if_false, reduceIte, reduceCtorEq, Bool.false_eq_true, Bool.not_true, Bool.not_false, decide_true, decide_false, Nat.sub_self, Nat.sub_zero, Nat.zero_le, Nat.le_refl, gt_i, ge_i, lt_i, le_i, eq_i, ne_i, eq_b, ne_b, add_i, sub_i, neg_i, addI_i, eq_w, ne_w, rev_w, len_w, get_new, set_new, fl_true, read_l, show ((k : Int) + 1 - 1).toNat = k by omega]
    rw [flatL_l (fun i : Nat => [D.int (1 + (i : Int)), D.int (-(1 + (i : Int)))])]
    simp only
    have e : (List.range k).flatMap (fun i : Nat => [D.int (1 + (i : Int)), D.int (-(1 + (i : Int)))]) = iL (lets k) := by
      unfold lets iL
      rw [List.map_flatMap]
      rfl
    rw [e, if_pos (sizeBig (by
      rw [iL_len]
      unfold lets
      simp only [List.length_flatMap]
      have : k = 0 ∨ k = 1 ∨ k = 2 ∨ k = 3 ∨ k = 4 := by omega
      rcases this with rfl | rfl | rfl | rfl | rfl <;> decide))]
    simp only [ap_wipe, ap_wipe0, ap_runF, ap_seq, ap_next, ap_expr, ap_ret, ap_if, ap_asg, ap_par, ap_aug, ap_nm, ap_tp, ap_gnil, ap_gcons, ap_gix, ap_var, ap_c, ap_op1, ap_op2, ap_opL, ap_anil, ap_acons, ap_tup, ap_lst, ap_fz, ap_new, ap_call, ap_mth, ap_bl, ap_tru, ap_bnot, ap_band, ap_bor, ap_and, ap_or, ap_not, ap_eif, ap_for, ap_lc, ap_rg1, ap_rg2, ap_zp, ap_iseq, ap_slc, ap_onone, ap_osome, ap_chain, ap_lstof, ap_suml, bnd_some, bnd_none, List.map_cons, List.map_nil, List.length_cons, List.length_nil, List.replicate_succ, List.replicate_zero, List.cons_append, List.nil_append, List.append_nil, List.getElem?_cons_zero, List.getElem?_cons_succ, List.set_cons_zero, List.set_cons_succ, Nat.reduceSub, Nat.reduceAdd, Nat.reduceLeDiff, Nat.reduceEqDiff, Nat.zero_add, if_true, if_false, reduceIte, reduceCtorEq, Bool.false_eq_true, Bool.not_true, Bool.not_false, decide_true, decide_false, Nat.sub_self, Nat.sub_zero, Nat.zero_le, Nat.le_refl, gt_i, ge_i, lt_i, le_i, eq_i, ne_i, eq_b, ne_b, add_i, sub_i, neg_i, addI_i, eq_w, ne_w, rev_w, len_w, get_new, set_new]
  · simp only [ap_wipe, ap_wipe0, ap_runF, ap_seq, ap_next, ap_expr, ap_ret, ap_if, ap_asg, ap_par, ap_aug, ap_nm, ap_tp, ap_gnil, ap_gcons, ap_gix, ap_var, ap_c, ap_op1, ap_op2, ap_opL, ap_anil, ap_acons, ap_tup, ap_lst, ap_fz, ap_new, ap_call, ap_mth, ap_bl, ap_tru, ap_bnot, ap_band, ap_bor, ap_and, ap_or, ap_not, ap_eif, ap_for, ap_lc, ap_rg1, ap_rg2, ap_zp, ap_iseq, ap_slc, ap_onone, ap_osome, ap_chain, ap_lstof, ap_suml, bnd_some, bnd_none, List.map_cons, List.map_nil, List.length_cons, List.length_nil, List.replicate_succ, List.replicate_zero, List.cons_append, List.nil_append, List.append_nil, List.getElem?_cons_zero, List.getElem?_cons_succ, List.set_cons_zero, List.set_cons_succ, Nat.reduceSub, Nat.reduceAdd, Nat.reduceLeDiff, Nat.reduceEqDiff, Nat.zero_add, if_true, if_false, reduceIte, reduceCtorEq, Bool.false_eq_true, Bool.not_true, Bool.not_false, decide_true, decide_false, Nat.sub_self, Nat.sub_zero, Nat.zero_le, Nat.le_refl, gt_i, ge_i, lt_i, le_i, eq_i, ne_i, eq_b, ne_b, add_i, sub_i, neg_i, addI_i, eq_w, ne_w, rev_w, len_w, get_new, set_new, Int.zero_sub]
    rw [if_pos (sizeBig (by omega))]
    rfl
theorem p_law_power (x : Int) (m : Nat) (S : Sto) (hx : 0 ≤ x ∧ x ≤ 10) (hm : m ≤ 10) : φ_law_power [.int x, .int m] S = some (.int (x ^ m), S) := by
  refine gz_pure0 ?_ rfl
  unfold f_law_power
  simp only [ap_wipe, ap_wipe0, ap_runF, ap_seq, ap_next, ap_expr, ap_ret, ap_if, ap_asg, ap_par, ap_aug, ap_nm, ap_tp, ap_gnil, ap_gcons, ap_gix, ap_var, ap_c, ap_op1, ap_op2, ap_opL, ap_anil, ap_acons, ap_tup, ap_lst, ap_fz, ap_new, ap_call, ap_mth, ap_bl, ap_tru, ap_bnot, ap_band, ap_bor, ap_and, ap_or, ap_not, ap_eif, ap_for, ap_lc, ap_rg1, ap_rg2, ap_zp, ap_iseq, ap_slc, ap_onone, ap_osome, ap_chain, ap_lstof, ap_suml, bnd_some, bnd_none, List.map_cons, List.map_nil, List.length_cons, List.length_nil, List.replicate_succ, List.replicate_zero, List.cons_append, List.nil_append, List.append_nil, List.getElem?_cons_zero, List.getElem?_cons_succ, List.set_cons_zero, List.set_cons_succ, Nat.reduceSub, Nat.reduceAdd, Nat.reduceLeDiff, Nat.reduceEqDiff, Nat.zero_add, if_true, if_false, reduceIte, reduceCtorEq, Bool.false_eq_true, Bool.not_true, Bool.not_false, decide_true, decide_false, Nat.sub_self, Nat.sub_zero, Nat.zero_le, Nat.le_refl, gt_i, ge_i, lt_i, le_i, eq_i, ne_i, eq_b, ne_b, add_i, sub_i, neg_i, addI_i, eq_w, ne_w, rev_w, len_w, get_new, set_new]
  rw [if_pos (fit_of (by omega))]
  simp only [ap_wipe, ap_wipe0, ap_runF, ap_seq, ap_next, ap_expr, ap_ret, ap_if, ap_asg, ap_par, ap_aug, ap_nm, ap_tp, ap_gnil, ap_gcons, ap_gix, ap_var, ap_c, ap_op1, ap_op2, ap_opL, ap_anil, ap_acons, ap_tup, ap_lst, ap_fz, ap_new, ap_call, ap_mth, ap_bl, ap_tru, ap_bnot, ap_band, ap_bor, ap_and, ap_or, ap_not, ap_eif, ap_for, ap_lc, ap_rg1, ap_rg2, ap_zp, ap_iseq, ap_slc, ap_onone, ap_osome, ap_chain, ap_lstof, ap_suml, bnd_some, bnd_none, List.map_cons, List.map_nil, List.length_cons, List.length_nil, List.replicate_succ, List.replicate_zero, List.cons_append, List.nil_append, List.append_nil, List.getElem?_cons_zero, List.getElem?_cons_succ, List.set_cons_zero, List.set_cons_succ, Nat.reduceSub, Nat.reduceAdd, Nat.reduceLeDiff, Nat.reduceEqDiff, Nat.zero_add, if_true, if_false, reduceIte, reduceCtorEq, Bool.false_eq_true, Bool.not_true, Bool.not_false, decide_true, decide_false, Nat.sub_self, Nat.sub_zero, Nat.zero_le, Nat.le_refl, gt_i, ge_i, lt_i, le_i, eq_i, ne_i, eq_b, ne_b, add_i, sub_i, neg_i, addI_i, eq_w, ne_w, rev_w, len_w, get_new, set_new, rgD_map]
  have bnd1 : ∀ i : Nat, i ≤ 10 → 0 ≤ x ^ i ∧ x ^ i ≤ 10 ^ i := by
    intro i hi
    induction i with
    | zero => simp
    | succ i ih =>
      obtain ⟨a, b⟩ := ih (by omega)
      rw [Int.pow_succ, Int.pow_succ]
      exact ⟨Int.mul_nonneg a hx.1, Int.mul_le_mul b hx.2 hx.1 (by exact Int.le_trans a b)⟩
  refine bnd_ex2 (loopF_rel0 (fun i : Nat => D.int (0 + (i : Int)))
    (fun i env S' => ∃ u, env = [some (D.int x), some (D.int m), some (D.int (x ^ i)), u] ∧ S' = S) (List.range (m : Int).toNat) _ _ ?_ ⟨none, by rw [Int.pow_zero], rfl⟩) ?_
  · rintro j i hi env S' ⟨u, rfl, rfl⟩
    have hj : j < 10 := by
      have := (List.getElem?_eq_some_iff.mp hi).1
      simp at this
      omega
    obtain ⟨a, b⟩ := bnd1 j (by omega)
    have hp : (10 : Int) ^ j ≤ 10000000000 := by
      have : (10 : Nat) ^ j ≤ 10 ^ 10 := Nat.pow_le_pow_right (by decide) (by omega)
      have e : (10 : Int) ^ j = ((10 ^ j : Nat) : Int) := by simp
      rw [e]
      omega
    have hmul : CMulW (x ^ j) x := mulW_of (by
      have : (10000000000 : Nat) < 2 ^ 200 := by decide
      omega) (by
      have : (10 : Nat) < 2 ^ 200 := by decide
      omega)
    refine ⟨_, _, [some (D.int x), some (D.int m), some (D.int (x ^ (j + 1))), some (D.int (0 + (i : Int)))], S', rfl, ?_, _, rfl, rfl⟩
    simp only [ap_wipe, ap_wipe0, ap_runF, ap_seq, ap_next, ap_expr, ap_ret, ap_if, ap_asg, ap_par, ap_aug, ap_nm, ap_tp, ap_gnil, ap_gcons, ap_gix, ap_var, ap_c, ap_op1, ap_op2, ap_opL, ap_anil, ap_acons, ap_tup, ap_lst, ap_fz, ap_new, ap_call, ap_mth, ap_bl, ap_tru, ap_bnot, ap_band, ap_bor, ap_and, ap_or, ap_not, ap_eif, ap_for, ap_lc, ap_rg1, ap_rg2, ap_zp, ap_iseq, ap_slc, ap_onone, ap_osome, ap_chain, ap_lstof, ap_suml, bnd_some, bnd_none, List.map_cons, List.map_nil, List.length_cons, List.length_nil, List.replicate_succ, List.replicate_zero, List.cons_append, List.nil_append, List.append_nil, List.getElem?_cons_zero, List.getElem?_cons_succ, List.set_cons_zero, List.set_cons_succ, Nat.reduceSub, Nat.reduceAdd, Nat.reduceLeDiff, Nat.reduceEqDiff, Nat.zero_add, if_true, if_false, reduceIte, reduceCtorEq, Bool.false_eq_true, Bool.not_true, Bool.not_false, decide_true, decide_false, Nat.sub_self, Nat.sub_zero, Nat.zero_le, Nat.le_refl, gt_i, ge_i, lt_i, le_i, eq_i, ne_i, eq_b, ne_b, add_i, sub_i, neg_i, addI_i, eq_w, ne_w, rev_w, len_w, get_new, set_new, mul_i hmul]
    rw [Int.pow_succ]
  · rintro e S' ⟨u, rfl, rfl⟩
    rw [List.length_range, show (m : Int).toNat = m by omega]
    simp only [ap_wipe, ap_wipe0, ap_runF, ap_seq, ap_next, ap_expr, ap_ret, ap_if, ap_asg, ap_par, ap_aug, ap_nm, ap_tp, ap_gnil, ap_gcons, ap_gix, ap_var, ap_c, ap_op1, ap_op2, ap_opL, ap_anil, ap_acons, ap_tup, ap_lst, ap_fz, ap_new, ap_call, ap_mth, ap_bl, ap_tru, ap_bnot, ap_band, ap_bor, ap_and, ap_or, ap_not, ap_eif, ap_for, ap_lc, ap_rg1, ap_rg2, ap_zp, ap_iseq, ap_slc, ap_onone, ap_osome, ap_chain, ap_lstof, ap_suml, bnd_some, bnd_none, List.map_cons, List.map_nil, List.length_cons, List.length_nil, List.replicate_succ, List.replicate_zero, List.cons_append, List.nil_append, List.append_nil, List.getElem?_cons_zero, List.getElem?_cons_succ, List.set_cons_zero, List.set_cons_succ, Nat.reduceSub, Nat.reduceAdd, Nat.reduceLeDiff, Nat.reduceEqDiff, Nat.zero_add, if_true, if_false, reduceIte, reduceCtorEq, Bool.false_eq_true, Bool.not_true, Bool.not_false, decide_true, decide_false, Nat.sub_self, Nat.sub_zero, Nat.zero_le, Nat.le_refl, gt_i, ge_i, lt_i, le_i, eq_i, ne_i, eq_b, ne_b, add_i, sub_i, neg_i, addI_i, eq_w, ne_w, rev_w, len_w, get_new, set_new]

/-! ### rows, words by layers -/
def rowsL (k : Nat) : Nat → List (List Int)
  | 0 => [[]]
  | n + 1 => (rowsL k n).flatMap fun w => (lets k).map fun a => w ++ [a]
theorem lets_len (k : Nat) : (lets k).length = 2 * k := by
  unfold lets
  rw [List.length_flatMap]
  simp only [List.length_cons, List.length_nil]
  rw [List.map_const', List.sum_replicate_nat, List.length_range]
  omega
theorem rowsL_len (k : Nat) : ∀ n, (rowsL k n).length = (2 * k) ^ n
  | 0 => rfl
  | n + 1 => by
    show ((rowsL k n).flatMap _).length = _
    rw [List.length_flatMap]
    simp only [List.length_map, lets_len]
    rw [List.map_const', List.sum_replicate_nat, rowsL_len k n, Nat.pow_succ]
theorem rowsL_word (k : Nat) : ∀ n, ∀ w ∈ rowsL k n, w.length = n ∧ ∀ a ∈ w, a ∈ lets k
  | 0, w, h => by
    rw [List.mem_singleton.mp h]
    simp
  | n + 1, w, h => by
    obtain ⟨v, hv, h2⟩ := List.mem_flatMap.mp h
    obtain ⟨a, ha, rfl⟩ := List.mem_map.mp h2
    obtain ⟨h3, h4⟩ := rowsL_word k n v hv
    refine ⟨by simp [h3], fun b hb => ?_⟩
    rcases List.mem_append.mp hb with hb | hb
    · exact h4 b hb
    · rw [List.mem_singleton.mp hb]
      exact ha
theorem lets_ok {k : Nat} {a : Int} (h : a ∈ lets k) : okL k a := by
  unfold lets at h
  obtain ⟨i, hi, h2⟩ := List.mem_flatMap.mp h
  have hi := List.mem_range.mp hi
  unfold okL
  simp at h2
  rcases h2 with rfl | rfl <;> omega
theorem ws_clo {n : Nat} : ∀ {ws : List (List Int)}, cloL n (ws.map wD) = true
  | [] => rfl
  | w :: ws => Bool.and_eq_true_iff.mpr ⟨wD_clo, ws_clo (ws := ws)⟩
theorem app_one {w : List Int} {a : Int} {S : Sto} (h : w.length ≤ 1000) : addD (wD w) (.tup [.int a]) S = some (wD (w ++ [a]), S) := by
  show addD (wD w) (wD [a]) S = _
  exact add_w (sizeBig (by simp; omega))
theorem flat_ws {α : Type} (f : α → List (List Int)) (l : List α) : (l.flatMap fun a => (f a).map wD) = (l.flatMap f).map wD := by
  rw [List.map_flatMap]
theorem p_law_rows (k m : Nat) (S : Sto) (hk : k ≤ 4) (hm : m ≤ 10) (hz : ∀ i ≤ m, (2 * k) ^ i ≤ 2048) : φ_law_rows [.int k, .int m] S = some (.lst ((rowsL k m).map wD), S) := by
  refine gz_pure0 ?_ ws_clo
  unfold f_law_rows
  simp only [ap_wipe, ap_wipe0, ap_runF, ap_seq, ap_next, ap_expr, ap_ret, ap_if, ap_asg, ap_par, ap_aug, ap_nm, ap_tp, ap_gnil, ap_gcons, ap_gix, ap_var, ap_c, ap_op1, ap_op2, ap_opL, ap_anil, ap_acons, ap_tup, ap_lst, ap_fz, ap_new, ap_call, ap_mth, ap_bl, ap_tru, ap_bnot, ap_band, ap_bor, ap_and, ap_or, ap_not, ap_eif, ap_for, ap_lc, ap_rg1, ap_rg2, ap_zp, ap_iseq, ap_slc, ap_onone, ap_osome, ap_chain, ap_lstof, ap_suml, bnd_some, bnd_none, List.map_cons, List.map_nil, List.length_cons, List.length_nil, List.replicate_succ, List.replicate_zero, List.cons_append, List.nil_append, List.append_nil, List.getElem?_cons_zero, List.getElem?_cons_succ, List.set_cons_zero, List.set_cons_succ, Nat.reduceSub, Nat.reduceAdd, Nat.reduceLeDiff, Nat.reduceEqDiff, Nat.zero_add, if_true, if_false, reduceIte, reduceCtorEq, Bool.false_eq_true, Bool.not_true, Bool.not_false, decide_true, decide_false, Nat.sub_self, Nat.sub_zero, Nat.zero_le, Nat.le_refl, gt_i, ge_i, lt_i, le_i, eq_i, ne_i, eq_b, ne_b, add_i, sub_i, neg_i, addI_i, eq_w, ne_w, rev_w, len_w, get_new, set_new]
  rw [if_pos (sizeBig (by omega))]
  simp only [ap_wipe, ap_wipe0, ap_runF, ap_seq, ap_next, ap_expr, ap_ret, ap_if, ap_asg, ap_par, ap_aug, ap_nm, ap_tp, ap_gnil, ap_gcons, ap_gix, ap_var, ap_c, ap_op1, ap_op2, ap_opL, ap_anil, ap_acons, ap_tup, ap_lst, ap_fz, ap_new, ap_call, ap_mth, ap_bl, ap_tru, ap_bnot, ap_band, ap_bor, ap_and, ap_or, ap_not, ap_eif, ap_for, ap_lc, ap_rg1, ap_rg2, ap_zp, ap_iseq, ap_slc, ap_onone, ap_osome, ap_chain, ap_lstof, ap_suml, bnd_some, bnd_none, List.map_cons, List.map_nil, List.length_cons, List.length_nil, List.replicate_succ, List.replicate_zero, List.cons_append, List.nil_append, List.append_nil, List.getElem?_cons_zero, List.getElem?_cons_succ, List.set_cons_zero, List.set_cons_succ, Nat.reduceSub, Nat.reduceAdd, Nat.reduceLeDiff, Nat.reduceEqDiff, Nat.zero_add, if_true, if_false, reduceIte, reduceCtorEq, Bool.false_eq_true, Bool.not_true, Bool.not_false, decide_true, decide_false, Nat.sub_self, Nat.sub_zero, Nat.zero_le, Nat.le_refl, gt_i, ge_i, lt_i, le_i, eq_i, ne_i, eq_b, ne_b, add_i, sub_i, neg_i, addI_i, eq_w, ne_w, rev_w, len_w, get_new, set_new]
  rw [if_pos (fit_of (by omega))]
  simp only [ap_wipe, ap_wipe0, ap_runF, ap_seq, ap_next, ap_expr, ap_ret, ap_if, ap_asg, ap_par, ap_aug, ap_nm, ap_tp, ap_gnil, ap_gcons, ap_gix, ap_var, ap_c, ap_op1, ap_op2, ap_opL, ap_anil, ap_acons, ap_tup, ap_lst, ap_fz, ap_new, ap_call, ap_mth, ap_bl, ap_tru, ap_bnot, ap_band, ap_bor, ap_and, ap_or, ap_not, ap_eif, ap_for, ap_lc, ap_rg1, ap_rg2, ap_zp, ap_iseq, ap_slc, ap_onone, ap_osome, ap_chain, ap_lstof, ap_suml, bnd_some, bnd_none, List.map_cons, List.map_nil, List.length_cons, List.length_nil, List.replicate_succ, List.replicate_zero, List.cons_append, List.nil_append, List.append_nil, List.getElem?_cons_zero, List.getElem?_cons_succ, List.set_cons_zero, List.set_cons_succ, Nat.reduceSub, Nat.reduceAdd, Nat.reduceLeDiff, Nat.reduceEqDiff, Nat.zero_add, if_true, if_false, reduceIte, reduceCtorEq, Bool.false_eq_true, Bool.not_true, Bool.not_false, decide_true, decide_false, Nat.sub_self, Nat.sub_zero, Nat.zero_le, Nat.le_refl, gt_i, ge_i, lt_i, le_i, eq_i, ne_i, eq_b, ne_b, add_i, sub_i, neg_i, addI_i, eq_w, ne_w, rev_w, len_w, get_new, set_new, rgD_map]
  refine bnd_ex2 (loopF_rel0 (fun i : Nat => D.int (0 + (i : Int)))
    (fun i env S' => ∃ u v x, env = [some (D.int k), some (D.int m), some (D.lst ((rowsL k i).map wD)), u, v, x] ∧ S' = S) (List.range (m : Int).toNat) _ _ ?_ ⟨none, none, none, rfl, rfl⟩) ?_
  · rintro j i hi env S' ⟨u, v, x, rfl, rfl⟩
    have hj : j < m := by
      have := (List.getElem?_eq_some_iff.mp hi).1
      simpa using this
    have l1 : (rowsL k j).length ≤ 2048 := by rw [rowsL_len]; exact hz _ (by omega)
    have l2 : (rowsL k (j + 1)).length ≤ 2048 := by rw [rowsL_len]; exact hz _ (by omega)
    have l3 := lets_len k
    refine ⟨_, _, [some (D.int k), some (D.int m), some (D.lst ((rowsL k (j + 1)).map wD)), some (D.int (0 + (i : Int))), v, x], S', rfl, ?_, _, _, _, rfl, rfl⟩
    simp only [ap_wipe, ap_wipe0, ap_runF, ap_seq, ap_next, ap_expr, ap_ret, ap_if, ap_asg, ap_par, ap_aug, ap_nm, ap_tp, ap_gnil, ap_gcons, ap_gix, ap_var, ap_c, ap_op1, ap_op2, ap_opL, ap_anil, ap_acons, ap_tup, ap_lst, ap_fz, ap_new, ap_call, ap_mth, ap_bl, ap_tru, ap_bnot, ap_band, ap_bor, ap_and, ap_or, ap_not, ap_eif, ap_for, ap_lc, ap_rg1, ap_rg2, ap_zp, ap_iseq, ap_slc, ap_onone, ap_osome, ap_chain, ap_lstof, ap_suml, bnd_some, bnd_none, List.map_cons, List.map_nil, List.length_cons, List.length_nil, List.replicate_succ, List.replicate_zero, List.cons_append, List.nil_append, List.append_nil, List.getElem?_cons_zero, List.getElem?_cons_succ, List.set_cons_zero, List.set_cons_succ, Nat.reduceSub, Nat.reduceAdd, Nat.reduceLeDiff, Nat.reduceEqDiff, Nat.zero_add, if_true, if_false, reduceIte, reduceCtorEq, Bool.false_eq_true, Bool.not_true, Bool.not_false, decide_true, decide_false, Nat.sub_self, Nat.sub_zero, Nat.zero_le, Nat.le_refl, gt_i, ge_i, lt_i, le_i, eq_i, ne_i, eq_b, ne_b, add_i, sub_i, neg_i, addI_i, eq_w, ne_w, rev_w, len_w, get_new, set_new]
    rw [lcF_map wD (fun _ => true) (fun w => D.lst (((lets k).map fun a => w ++ [a]).map wD)) (rowsL k j) [] (fun w hw => ⟨_, rfl, rfl, fun _ => ?_⟩) (szN (by omega))]
    · simp only [ap_wipe, ap_wipe0, ap_runF, ap_seq, ap_next, ap_expr, ap_ret, ap_if, ap_asg, ap_par, ap_aug, ap_nm, ap_tp, ap_gnil, ap_gcons, ap_gix, ap_var, ap_c, ap_op1, ap_op2, ap_opL, ap_anil, ap_acons, ap_tup, ap_lst, ap_fz, ap_new, ap_call, ap_mth, ap_bl, ap_tru, ap_bnot, ap_band, ap_bor, ap_and, ap_or, ap_not, ap_eif, ap_for, ap_lc, ap_rg1, ap_rg2, ap_zp, ap_iseq, ap_slc, ap_onone, ap_osome, ap_chain, ap_lstof, ap_suml, bnd_some, bnd_none, List.map_cons, List.map_nil, List.length_cons, List.length_nil, List.replicate_succ, List.replicate_zero, List.cons_append, List.nil_append, List.append_nil, List.getElem?_cons_zero, List.getElem?_cons_succ, List.set_cons_zero, List.set_cons_succ, Nat.reduceSub, Nat.reduceAdd, Nat.reduceLeDiff, Nat.reduceEqDiff, Nat.zero_add, if_true, if_false, reduceIte, reduceCtorEq, Bool.false_eq_true, Bool.not_true, Bool.not_false, decide_true, decide_false, Nat.sub_self, Nat.sub_zero, Nat.zero_le, Nat.le_refl, gt_i, ge_i, lt_i, le_i, eq_i, ne_i, eq_b, ne_b, add_i, sub_i, neg_i, addI_i, eq_w, ne_w, rev_w, len_w, get_new, set_new, fl_true, read_l]
      rw [flatL_l (fun w : List Int => ((lets k).map fun a => w ++ [a]).map wD), flat_ws]
      simp only
      rw [if_pos (sizeBig (by rw [List.length_map]; show (rowsL k (j + 1)).length ≤ _; omega))]
      simp only [ap_wipe, ap_wipe0, ap_runF, ap_seq, ap_next, ap_expr, ap_ret, ap_if, ap_asg, ap_par, ap_aug, ap_nm, ap_tp, ap_gnil, ap_gcons, ap_gix, ap_var, ap_c, ap_op1, ap_op2, ap_opL, ap_anil, ap_acons, ap_tup, ap_lst, ap_fz, ap_new, ap_call, ap_mth, ap_bl, ap_tru, ap_bnot, ap_band, ap_bor, ap_and, ap_or, ap_not, ap_eif, ap_for, ap_lc, ap_rg1, ap_rg2, ap_zp, ap_iseq, ap_slc, ap_onone, ap_osome, ap_chain, ap_lstof, ap_suml, bnd_some, bnd_none, List.map_cons, List.map_nil, List.length_cons, List.length_nil, List.replicate_succ, List.replicate_zero, List.cons_append, List.nil_append, List.append_nil, List.getElem?_cons_zero, List.getElem?_cons_succ, List.set_cons_zero, List.set_cons_succ, Nat.reduceSub, Nat.reduceAdd, Nat.reduceLeDiff, Nat.reduceEqDiff, Nat.zero_add, if_true, if_false, reduceIte, reduceCtorEq, Bool.false_eq_true, Bool.not_true, Bool.not_false, decide_true, decide_false, Nat.sub_self, Nat.sub_zero, Nat.zero_le, Nat.le_refl, gt_i, ge_i, lt_i, le_i, eq_i, ne_i, eq_b, ne_b, add_i, sub_i, neg_i, addI_i, eq_w, ne_w, rev_w, len_w, get_new, set_new]
      rfl
    · have hw1 := (rowsL_word k _ w hw).1
      simp only [ap_wipe, ap_wipe0, ap_runF, ap_seq, ap_next, ap_expr, ap_ret, ap_if, ap_asg, ap_par, ap_aug, ap_nm, ap_tp, ap_gnil, ap_gcons, ap_gix, ap_var, ap_c, ap_op1, ap_op2, ap_opL, ap_anil, ap_acons, ap_tup, ap_lst, ap_fz, ap_new, ap_call, ap_mth, ap_bl, ap_tru, ap_bnot, ap_band, ap_bor, ap_and, ap_or, ap_not, ap_eif, ap_for, ap_lc, ap_rg1, ap_rg2, ap_zp, ap_iseq, ap_slc, ap_onone, ap_osome, ap_chain, ap_lstof, ap_suml, bnd_some, bnd_none, List.map_cons, List.map_nil, List.length_cons, List.length_nil, List.replicate_succ, List.replicate_zero, List.cons_append, List.nil_append, List.append_nil, List.getElem?_cons_zero, List.getElem?_cons_succ, List.set_cons_zero, List.set_cons_succ, Nat.reduceSub, Nat.reduceAdd, Nat.reduceLeDiff, Nat.reduceEqDiff, Nat.zero_add, if_true, if_false, reduceIte, reduceCtorEq, Bool.false_eq_true, Bool.not_true, Bool.not_false, decide_true, decide_false, Nat.sub_self, Nat.sub_zero, Nat.zero_le, Nat.le_refl, gt_i, ge_i, lt_i, le_i, eq_i, ne_i, eq_b, ne_b, add_i, sub_i, neg_i, addI_i, eq_w, ne_w, rev_w, len_w, get_new, set_new, p_law_letters k S' hk]
      rw [lcF_map D.int (fun _ => true) (fun a => wD (w ++ [a])) (lets k) [] (fun a ha => ⟨_, rfl, rfl, fun _ => ?_⟩) (szN (by omega))]
      · simp only [ap_wipe, ap_wipe0, ap_runF, ap_seq, ap_next, ap_expr, ap_ret, ap_if, ap_asg, ap_par, ap_aug, ap_nm, ap_tp, ap_gnil, ap_gcons, ap_gix, ap_var, ap_c, ap_op1, ap_op2, ap_opL, ap_anil, ap_acons, ap_tup, ap_lst, ap_fz, ap_new, ap_call, ap_mth, ap_bl, ap_tru, ap_bnot, ap_band, ap_bor, ap_and, ap_or, ap_not, ap_eif, ap_for, ap_lc, ap_rg1, ap_rg2, ap_zp, ap_iseq, ap_slc, ap_onone, ap_osome, ap_chain, ap_lstof, ap_suml, bnd_some, bnd_none, List.map_cons, List.map_nil, List.length_cons, List.length_nil, List.replicate_succ, List.replicate_zero, List.cons_append, List.nil_append, List.append_nil, List.getElem?_cons_zero, List.getElem?_cons_succ, List.set_cons_zero, List.set_cons_succ, Nat.reduceSub, Nat.reduceAdd, Nat.reduceLeDiff, Nat.reduceEqDiff, Nat.zero_add, if_true, if_false, reduceIte, reduceCtorEq, Bool.false_eq_true, Bool.not_true, Bool.not_false, decide_true, decide_false, Nat.sub_self, Nat.sub_zero, Nat.zero_le, Nat.le_refl, gt_i, ge_i, lt_i, le_i, eq_i, ne_i, eq_b, ne_b, add_i, sub_i, neg_i, addI_i, eq_w, ne_w, rev_w, len_w, get_new, set_new, fl_true, List.map_map]
        rfl
      · simp only [ap_wipe, ap_wipe0, ap_runF, ap_seq, ap_next, ap_expr, ap_ret, ap_if, ap_asg, ap_par, ap_aug, ap_nm, ap_tp, ap_gnil, ap_gcons, ap_gix, ap_var, ap_c, ap_op1, ap_op2, ap_opL, ap_anil, ap_acons, ap_tup, ap_lst, ap_fz, ap_new, ap_call, ap_mth, ap_bl, ap_tru, ap_bnot, ap_band, ap_bor, ap_and, ap_or, ap_not, ap_eif, ap_for, ap_lc, ap_rg1, ap_rg2, ap_zp, ap_iseq, ap_slc, ap_onone, ap_osome, ap_chain, ap_lstof, ap_suml, bnd_some, bnd_none, List.map_cons, List.map_nil, List.length_cons, List.length_nil, List.replicate_succ, List.replicate_zero, List.cons_append, List.nil_append, List.append_nil, List.getElem?_cons_zero, List.getElem?_cons_succ, List.set_cons_zero, List.set_cons_succ, Nat.reduceSub, Nat.reduceAdd, Nat.reduceLeDiff, Nat.reduceEqDiff, Nat.zero_add, if_true, if_false, reduceIte, reduceCtorEq, Bool.false_eq_true, Bool.not_true, Bool.not_false, decide_true, decide_false, Nat.sub_self, Nat.sub_zero, Nat.zero_le, Nat.le_refl, gt_i, ge_i, lt_i, le_i, eq_i, ne_i, eq_b, ne_b, add_i, sub_i, neg_i, addI_i, eq_w, ne_w, rev_w, len_w, get_new, set_new]
        rw [if_pos (sizeBig (by omega))]
        simp only [ap_wipe, ap_wipe0, ap_runF, ap_seq, ap_next, ap_expr, ap_ret, ap_if, ap_asg, ap_par, ap_aug, ap_nm, ap_tp, ap_gnil, ap_gcons, ap_gix, ap_var, ap_c, ap_op1, ap_op2, ap_opL, ap_anil, ap_acons, ap_tup, ap_lst, ap_fz, ap_new, ap_call, ap_mth, ap_bl, ap_tru, ap_bnot, ap_band, ap_bor, ap_and, ap_or, ap_not, ap_eif, ap_for, ap_lc, ap_rg1, ap_rg2, ap_zp, ap_iseq, ap_slc, ap_onone, ap_osome, ap_chain, ap_lstof, ap_suml, bnd_some, bnd_none, List.map_cons, List.map_nil, List.length_cons, List.length_nil, List.replicate_succ, List.replicate_zero, List.cons_append, List.nil_append, List.append_nil, List.getElem?_cons_zero, List.getElem?_cons_succ, List.set_cons_zero, List.set_cons_succ, Nat.reduceSub, Nat.reduceAdd, Nat.reduceLeDiff, Nat.reduceEqDiff, Nat.zero_add, if_true, if_false, reduceIte, reduceCtorEq, Bool.false_eq_true, Bool.not_true, Bool.not_false, decide_true, decide_false, Nat.sub_self, Nat.sub_zero, Nat.zero_le, Nat.le_refl, gt_i, ge_i, lt_i, le_i, eq_i, ne_i, eq_b, ne_b, add_i, sub_i, neg_i, addI_i, eq_w, ne_w, rev_w, len_w, get_new, set_new]
        exact app_one (by omega)
  · rintro e S' ⟨u, v, x, rfl, rfl⟩
    rw [List.length_range, show (m : Int).toNat = m by omega]
    simp only [ap_wipe, ap_wipe0, ap_runF, ap_seq, ap_next, ap_expr, ap_ret, ap_if, ap_asg, ap_par, ap_aug, ap_nm, ap_tp, ap_gnil, ap_gcons, ap_gix, ap_var, ap_c, ap_op1, ap_op2, ap_opL, ap_anil, ap_acons, ap_tup, ap_lst, ap_fz, ap_new, ap_call, ap_mth, ap_bl, ap_tru, ap_bnot, ap_band, ap_bor, ap_and, ap_or, ap_not, ap_eif, ap_for, ap_lc, ap_rg1, ap_rg2, ap_zp, ap_iseq, ap_slc, ap_onone, ap_osome, ap_chain, ap_lstof, ap_suml, bnd_some, bnd_none, List.map_cons, List.map_nil, List.length_cons, List.length_nil, List.replicate_succ, List.replicate_zero, List.cons_append, List.nil_append, List.append_nil, List.getElem?_cons_zero, List.getElem?_cons_succ, List.set_cons_zero, List.set_cons_succ, Nat.reduceSub, Nat.reduceAdd, Nat.reduceLeDiff, Nat.reduceEqDiff, Nat.zero_add, if_true, if_false, reduceIte, reduceCtorEq, Bool.false_eq_true, Bool.not_true, Bool.not_false, decide_true, decide_false, Nat.sub_self, Nat.sub_zero, Nat.zero_le, Nat.le_refl, gt_i, ge_i, lt_i, le_i, eq_i, ne_i, eq_b, ne_b, add_i, sub_i, neg_i, addI_i, eq_w, ne_w, rev_w, len_w, get_new, set_new]
end Hx

namespace Hx
open PySem PySem.Spec PyProof.Rows L2 PU
/-! ### all short words, layer by layer -/
def nextL (k : Nat) (w : List Int) : List (List Int) := ((lets k).filter fun a => decide (w = []) || decide (w.getLast? ≠ some (-a))).map fun a => w ++ [a]
def layL (k : Nat) : Nat → List (List Int)
  | 0 => [[]]
  | n + 1 => (layL k n).flatMap (nextL k)
def everyL (k : Nat) : Nat → List (List Int)
  | 0 => [[]]
  | n + 1 => everyL k n ++ layL k (n + 1)
theorem layL_len (k : Nat) : ∀ n, (layL k n).length ≤ (2 * k) ^ n
  | 0 => by simp [layL]
  | n + 1 => by
    show ((layL k n).flatMap _).length ≤ _
    rw [List.length_flatMap, Nat.pow_succ]
    have h1 : ∀ l : List (List Int), (l.map fun w => (nextL k w).length).sum ≤ l.length * (2 * k) := by
      intro l
      induction l with
      | nil => simp
      | cons w l ih =>
        rw [List.map_cons, List.sum_cons, List.length_cons, Nat.add_mul]
        have : (nextL k w).length ≤ 2 * k := by
          unfold nextL
          rw [List.length_map, ← lets_len k]
          exact List.length_filter_le _ _
        omega
    exact Nat.le_trans (h1 _) (Nat.mul_le_mul_right _ (layL_len k n))
theorem layL_word (k : Nat) : ∀ n, ∀ w ∈ layL k n, w.length = n ∧ ∀ a ∈ w, a ∈ lets k
  | 0, w, h => by
    rw [List.mem_singleton.mp h]
    simp
  | n + 1, w, h => by
    obtain ⟨v, hv, h2⟩ := List.mem_flatMap.mp h
    obtain ⟨a, ha, rfl⟩ := List.mem_map.mp h2
    have ha := (List.mem_filter.mp ha).1
    obtain ⟨h3, h4⟩ := layL_word k n v hv
    refine ⟨by simp [h3], fun b hb => ?_⟩
    rcases List.mem_append.mp hb with hb | hb
    · exact h4 b hb
    · rw [List.mem_singleton.mp hb]
      exact ha
theorem everyL_len (k : Nat) : ∀ n, (∀ i ≤ n, (2 * k) ^ i ≤ 8192) → (everyL k n).length ≤ 8192 * (n + 1)
  | 0, _ => by simp [everyL]
  | n + 1, h => by
    show (everyL k n ++ layL k (n + 1)).length ≤ _
    rw [List.length_append]
    have h1 := everyL_len k n fun i hi => h i (by omega)
    have h2 := layL_len k (n + 1)
    have h3 := h (n + 1) (Nat.le_refl _)
    omega
theorem eq_e {w : List Int} {S : Sto} : cmpEq (wD w) (.tup []) S = some (.bl (decide (w = [])), S) := eq_w (b := [])
theorem idx_wlast {l : List Int} {y : Int} {S : Sto} : idxD (wD (l ++ [y])) (.int (-1)) S = some (.int y, S) := by
  show (match atI (iL (l ++ [y])) (-1) with
    | some d => some (d, S)
    | none => none) = _
  have e : atI (iL (l ++ [y])) (-1) = some (.int y) := by
    unfold atI ixN
    rw [if_neg (by omega), if_pos (by simp; omega)]
    have e3 : ((-1 : Int) + ((iL (l ++ [y])).length : Nat)).toNat = l.length := by
      rw [iL_len, List.length_append]
      simp
      omega
    show (iL (l ++ [y]))[((-1 : Int) + ((iL (l ++ [y])).length : Nat)).toNat]? = some (.int y)
    rw [e3]
    simp [iL]
  rw [e]
theorem add_ll {a b : List D} {S : Sto} (h : a.length + b.length ≤ sizeLine) : addD (.lst a) (.lst b) S = some (.lst (a ++ b), S) := by
  show (if a.length + b.length ≤ sizeLine then some (D.lst (a ++ b), S) else none) = _
  rw [if_pos h]
theorem p_law_every (k m : Nat) (S : Sto) (hk : k ≤ 4) (hm : m ≤ 10) (hz : ∀ i ≤ m, (2 * k) ^ i ≤ 8192) : φ_law_every [.int k, .int m] S = some (.lst ((everyL k m).map wD), S) := by
  refine gz_pure0 ?_ ws_clo
  unfold f_law_every
  simp only [ap_wipe, ap_wipe0, ap_runF, ap_seq, ap_next, ap_expr, ap_ret, ap_if, ap_asg, ap_par, ap_aug, ap_nm, ap_tp, ap_gnil, ap_gcons, ap_gix, ap_var, ap_c, ap_op1, ap_op2, ap_opL, ap_anil, ap_acons, ap_tup, ap_lst, ap_fz, ap_new, ap_call, ap_mth, ap_bl, ap_tru, ap_bnot, ap_band, ap_bor, ap_and, ap_or, ap_not, ap_eif, ap_for, ap_lc, ap_rg1, ap_rg2, ap_zp, ap_iseq, ap_slc, ap_onone, ap_osome, ap_chain, ap_lstof, ap_suml, bnd_some, bnd_none, List.map_cons, List.map_nil, List.length_cons, List.length_nil, List.replicate_succ, List.replicate_zero, List.cons_append, List.nil_append, List.append_nil, List.getElem?_cons_zero, List.getElem?_cons_succ, List.set_cons_zero, List.set_cons_succ, Nat.reduceSub, Nat.reduceAdd, Nat.reduceLeDiff, Nat.reduceEqDiff, Nat.zero_add, if_true, if_false, reduceIte, reduceCtorEq, Bool.false_eq_true, Bool.not_true, Bool.not_false, decide_true, decide_false, Nat.sub_self, Nat.sub_zero, Nat.zero_le, Nat.le_refl, gt_i, ge_i, lt_i, le_i, eq_i, ne_i, eq_b, ne_b, add_i, sub_i, neg_i, addI_i, eq_w, ne_w, rev_w, len_w, get_new, set_new]
  rw [if_pos (sizeBig (by omega))]
  simp only [ap_wipe, ap_wipe0, ap_runF, ap_seq, ap_next, ap_expr, ap_ret, ap_if, ap_asg, ap_par, ap_aug, ap_nm, ap_tp, ap_gnil, ap_gcons, ap_gix, ap_var, ap_c, ap_op1, ap_op2, ap_opL, ap_anil, ap_acons, ap_tup, ap_lst, ap_fz, ap_new, ap_call, ap_mth, ap_bl, ap_tru, ap_bnot, ap_band, ap_bor, ap_and, ap_or, ap_not, ap_eif, ap_for, ap_lc, ap_rg1, ap_rg2, ap_zp, ap_iseq, ap_slc, ap_onone, ap_osome, ap_chain, ap_lstof, ap_suml, bnd_some, bnd_none, List.map_cons, List.map_nil, List.length_cons, List.length_nil, List.replicate_succ, List.replicate_zero, List.cons_append, List.nil_append, List.append_nil, List.getElem?_cons_zero, List.getElem?_cons_succ, List.set_cons_zero, List.set_cons_succ, Nat.reduceSub, Nat.reduceAdd, Nat.reduceLeDiff, Nat.reduceEqDiff, Nat.zero_add, if_true, if_false, reduceIte, reduceCtorEq, Bool.false_eq_true, Bool.not_true, Bool.not_false, decide_true, decide_false, Nat.sub_self, Nat.sub_zero, Nat.zero_le, Nat.le_refl, gt_i, ge_i, lt_i, le_i, eq_i, ne_i, eq_b, ne_b, add_i, sub_i, neg_i, addI_i, eq_w, ne_w, rev_w, len_w, get_new, set_new]
  rw [if_pos (sizeBig (by omega))]
  simp only [ap_wipe, ap_wipe0, ap_runF, ap_seq, ap_next, ap_expr, ap_ret, ap_if, ap_asg, ap_par, ap_aug, ap_nm, ap_tp, ap_gnil, ap_gcons, ap_gix, ap_var, ap_c, ap_op1, ap_op2, ap_opL, ap_anil, ap_acons, ap_tup, ap_lst, ap_fz, ap_new, ap_call, ap_mth, ap_bl, ap_tru, ap_bnot, ap_band, ap_bor, ap_and, ap_or, ap_not, ap_eif, ap_for, ap_lc, ap_rg1, ap_rg2, ap_zp, ap_iseq, ap_slc, ap_onone, ap_osome, ap_chain, ap_lstof, ap_suml, bnd_some, bnd_none, List.map_cons, List.map_nil, List.length_cons, List.length_nil, List.replicate_succ, List.replicate_zero, List.cons_append, List.nil_append, List.append_nil, List.getElem?_cons_zero, List.getElem?_cons_succ, List.set_cons_zero, List.set_cons_succ, Nat.reduceSub, Nat.reduceAdd, Nat.reduceLeDiff, Nat.reduceEqDiff, Nat.zero_add, if_true, if_false, reduceIte, reduceCtorEq, Bool.false_eq_true, Bool.not_true, Bool.not_false, decide_true, decide_false, Nat.sub_self, Nat.sub_zero, Nat.zero_le, Nat.le_refl, gt_i, ge_i, lt_i, le_i, eq_i, ne_i, eq_b, ne_b, add_i, sub_i, neg_i, addI_i, eq_w, ne_w, rev_w, len_w, get_new, set_new]
  rw [if_pos (fit_of (by omega))]
  simp only [ap_wipe, ap_wipe0, ap_runF, ap_seq, ap_next, ap_expr, ap_ret, ap_if, ap_asg, ap_par, ap_aug, ap_nm, ap_tp, ap_gnil, ap_gcons, ap_gix, ap_var, ap_c, ap_op1, ap_op2, ap_opL, ap_anil, ap_acons, ap_tup, ap_lst, ap_fz, ap_new, ap_call, ap_mth, ap_bl, ap_tru, ap_bnot, ap_band, ap_bor, ap_and, ap_or, ap_not, ap_eif, ap_for, ap_lc, ap_rg1, ap_rg2, ap_zp, ap_iseq, ap_slc, ap_onone, ap_osome, ap_chain, ap_lstof, ap_suml, bnd_some, bnd_none, List.map_cons, List.map_nil, List.length_cons, List.length_nil, List.replicate_succ, List.replicate_zero, List.cons_append, List.nil_append, List.append_nil, List.getElem?_cons_zero, List.getElem?_cons_succ, List.set_cons_zero, List.set_cons_succ, Nat.reduceSub, Nat.reduceAdd, Nat.reduceLeDiff, Nat.reduceEqDiff, Nat.zero_add, if_true, if_false, reduceIte, reduceCtorEq, Bool.false_eq_true, Bool.not_true, Bool.not_false, decide_true, decide_false, Nat.sub_self, Nat.sub_zero, Nat.zero_le, Nat.le_refl, gt_i, ge_i, lt_i, le_i, eq_i, ne_i, eq_b, ne_b, add_i, sub_i, neg_i, addI_i, eq_w, ne_w, rev_w, len_w, get_new, set_new, rgD_map]
  refine bnd_ex2 (loopF_rel0 (fun i : Nat => D.int (0 + (i : Int)))
    (fun i env S' => ∃ u v x, env = [some (D.int k), some (D.int m), some (D.lst ((everyL k i).map wD)), some (D.lst ((layL k i).map wD)), u, v, x] ∧ S' = S) (List.range (m : Int).toNat) _ _ ?_ ⟨none, none, none, rfl, rfl⟩) ?_
  · rintro j i hi env S' ⟨u, v, x, rfl, rfl⟩
    have hj : j < m := by
      have := (List.getElem?_eq_some_iff.mp hi).1
      simpa using this
    have l1 : (layL k j).length ≤ 8192 := Nat.le_trans (layL_len k j) (hz _ (by omega))
    have l2 : (layL k (j + 1)).length ≤ 8192 := Nat.le_trans (layL_len k _) (hz _ (by omega))
    have l3 := lets_len k
    have l4 := everyL_len k j fun i hi => hz i (by omega)
    refine ⟨_, _, [some (D.int k), some (D.int m), some (D.lst ((everyL k (j + 1)).map wD)), some (D.lst ((layL k (j + 1)).map wD)), some (D.int (0 + (i : Int))), v, x], S', rfl, ?_, _, _, _, rfl, rfl⟩
    simp only [ap_wipe, ap_wipe0, ap_runF, ap_seq, ap_next, ap_expr, ap_ret, ap_if, ap_asg, ap_par, ap_aug, ap_nm, ap_tp, ap_gnil, ap_gcons, ap_gix, ap_var, ap_c, ap_op1, ap_op2, ap_opL, ap_anil, ap_acons, ap_tup, ap_lst, ap_fz, ap_new, ap_call, ap_mth, ap_bl, ap_tru, ap_bnot, ap_band, ap_bor, ap_and, ap_or, ap_not, ap_eif, ap_for, ap_lc, ap_rg1, ap_rg2, ap_zp, ap_iseq, ap_slc, ap_onone, ap_osome, ap_chain, ap_lstof, ap_suml, bnd_some, bnd_none, List.map_cons, List.map_nil, List.length_cons, List.length_nil, List.replicate_succ, List.replicate_zero, List.cons_append, List.nil_append, List.append_nil, List.getElem?_cons_zero, List.getElem?_cons_succ, List.set_cons_zero, List.set_cons_succ, Nat.reduceSub, Nat.reduceAdd, Nat.reduceLeDiff, Nat.reduceEqDiff, Nat.zero_add, if_true, if_false, reduceIte, reduceCtorEq, Bool.false_eq_true, Bool.not_true, Bool.not_false, decide_true, decide_false, Nat.sub_self, Nat.sub_zero, Nat.zero_le, Nat.le_refl, gt_i, ge_i, lt_i, le_i, eq_i, ne_i, eq_b, ne_b, add_i, sub_i, neg_i, addI_i, eq_w, ne_w, rev_w, len_w, get_new, set_new]
    rw [lcF_map wD (fun _ => true) (fun w => D.lst ((nextL k w).map wD)) (layL k j) [] (fun w hw => ⟨_, rfl, rfl, fun _ => ?_⟩) (szN (by omega))]
    · simp only [ap_wipe, ap_wipe0, ap_runF, ap_seq, ap_next, ap_expr, ap_ret, ap_if, ap_asg, ap_par, ap_aug, ap_nm, ap_tp, ap_gnil, ap_gcons, ap_gix, ap_var, ap_c, ap_op1, ap_op2, ap_opL, ap_anil, ap_acons, ap_tup, ap_lst, ap_fz, ap_new, ap_call, ap_mth, ap_bl, ap_tru, ap_bnot, ap_band, ap_bor, ap_and, ap_or, ap_not, ap_eif, ap_for, ap_lc, ap_rg1, ap_rg2, ap_zp, ap_iseq, ap_slc, ap_onone, ap_osome, ap_chain, ap_lstof, ap_suml, bnd_some, bnd_none, List.map_cons, List.map_nil, List.length_cons, List.length_nil, List.replicate_succ, List.replicate_zero, List.cons_append, List.nil_append, List.append_nil, List.getElem?_cons_zero, List.getElem?_cons_succ, List.set_cons_zero, List.set_cons_succ, Nat.reduceSub, Nat.reduceAdd, Nat.reduceLeDiff, Nat.reduceEqDiff, Nat.zero_add, if_true, if_false, reduceIte, reduceCtorEq, Bool.false_eq_true, Bool.not_true, Bool.not_false, decide_true, decide_false, Nat.sub_self, Nat.sub_zero, Nat.zero_le, Nat.le_refl, gt_i, ge_i, lt_i, le_i, eq_i, ne_i, eq_b, ne_b, add_i, sub_i, neg_i, addI_i, eq_w, ne_w, rev_w, len_w, get_new, set_new, fl_true, read_l]
      rw [flatL_l (fun w : List Int => (nextL k w).map wD), flat_ws]
      simp only
      rw [if_pos (sizeBig (by rw [List.length_map]; show (layL k (j + 1)).length ≤ _; omega))]
      simp only [ap_wipe, ap_wipe0, ap_runF, ap_seq, ap_next, ap_expr, ap_ret, ap_if, ap_asg, ap_par, ap_aug, ap_nm, ap_tp, ap_gnil, ap_gcons, ap_gix, ap_var, ap_c, ap_op1, ap_op2, ap_opL, ap_anil, ap_acons, ap_tup, ap_lst, ap_fz, ap_new, ap_call, ap_mth, ap_bl, ap_tru, ap_bnot, ap_band, ap_bor, ap_and, ap_or, ap_not, ap_eif, ap_for, ap_lc, ap_rg1, ap_rg2, ap_zp, ap_iseq, ap_slc, ap_onone, ap_osome, ap_chain, ap_lstof, ap_suml, bnd_some, bnd_none, List.map_cons, List.map_nil, List.length_cons, List.length_nil, List.replicate_succ, List.replicate_zero, List.cons_append, List.nil_append, List.append_nil, List.getElem?_cons_zero, List.getElem?_cons_succ, List.set_cons_zero, List.set_cons_succ, Nat.reduceSub, Nat.reduceAdd, Nat.reduceLeDiff, Nat.reduceEqDiff, Nat.zero_add, if_true, if_false, reduceIte, reduceCtorEq, Bool.false_eq_true, Bool.not_true, Bool.not_false, decide_true, decide_false, Nat.sub_self, Nat.sub_zero, Nat.zero_le, Nat.le_refl, gt_i, ge_i, lt_i, le_i, eq_i, ne_i, eq_b, ne_b, add_i, sub_i, neg_i, addI_i, eq_w, ne_w, rev_w, len_w, get_new, set_new]
      have e : (layL k j).flatMap (nextL k) = layL k (j + 1) := rfl
      rw [e, add_ll (sizeBig (by rw [List.length_map, List.length_map]; omega))]
      simp only [ap_wipe, ap_wipe0, ap_runF, ap_seq, ap_next, ap_expr, ap_ret, ap_if, ap_asg, ap_par, ap_aug, ap_nm, ap_tp, ap_gnil, ap_gcons, ap_gix, ap_var, ap_c, ap_op1, ap_op2, ap_opL, ap_anil, ap_acons, ap_tup, ap_lst, ap_fz, ap_new, ap_call, ap_mth, ap_bl, ap_tru, ap_bnot, ap_band, ap_bor, ap_and, ap_or, ap_not, ap_eif, ap_for, ap_lc, ap_rg1, ap_rg2, ap_zp, ap_iseq, ap_slc, ap_onone, ap_osome, ap_chain, ap_lstof, ap_suml, bnd_some, bnd_none, List.map_cons, List.map_nil, List.length_cons, List.length_nil, List.replicate_succ, List.replicate_zero, List.cons_append, List.nil_append, List.append_nil, List.getElem?_cons_zero, List.getElem?_cons_succ, List.set_cons_zero, List.set_cons_succ, Nat.reduceSub, Nat.reduceAdd, Nat.reduceLeDiff, Nat.reduceEqDiff, Nat.zero_add, if_true, if_false, reduceIte, reduceCtorEq, Bool.false_eq_true, Bool.not_true, Bool.not_false, decide_true, decide_false, Nat.sub_self, Nat.sub_zero, Nat.zero_le, Nat.le_refl, gt_i, ge_i, lt_i, le_i, eq_i, ne_i, eq_b, ne_b, add_i, sub_i, neg_i, addI_i, eq_w, ne_w, rev_w, len_w, get_new, set_new, ← List.map_append]
      rfl
    · have hw1 := (layL_word k _ w hw).1
      simp only [ap_wipe, ap_wipe0, ap_runF, ap_seq, ap_next, ap_expr, ap_ret, ap_if, ap_asg, ap_par, ap_aug, ap_nm, ap_tp, ap_gnil, ap_gcons, ap_gix, ap_var, ap_c, ap_op1, ap_op2, ap_opL, ap_anil, ap_acons, ap_tup, ap_lst, ap_fz, ap_new, ap_call, ap_mth, ap_bl, ap_tru, ap_bnot, ap_band, ap_bor, ap_and, ap_or, ap_not, ap_eif, ap_for, ap_lc, ap_rg1, ap_rg2, ap_zp, ap_iseq, ap_slc, ap_onone, ap_osome, ap_chain, ap_lstof, ap_suml, bnd_some, bnd_none, List.map_cons, List.map_nil, List.length_cons, List.length_nil, List.replicate_succ, List.replicate_zero, List.cons_append, List.nil_append, List.append_nil, List.getElem?_cons_zero, List.getElem?_cons_succ, List.set_cons_zero, List.set_cons_succ, Nat.reduceSub, Nat.reduceAdd, Nat.reduceLeDiff, Nat.reduceEqDiff, Nat.zero_add, if_true, if_false, reduceIte, reduceCtorEq, Bool.false_eq_true, Bool.not_true, Bool.not_false, decide_true, decide_false, Nat.sub_self, Nat.sub_zero, Nat.zero_le, Nat.le_refl, gt_i, ge_i, lt_i, le_i, eq_i, ne_i, eq_b, ne_b, add_i, sub_i, neg_i, addI_i, eq_w, ne_w, rev_w, len_w, get_new, set_new, p_law_letters k S' hk]
      rw [lcF_map D.int (fun a => decide (w = []) || decide (w.getLast? ≠ some (-a))) (fun a => wD (w ++ [a])) (lets k) [] (fun a ha => ⟨_, rfl, ?_, fun _ => ?_⟩) (szN (by omega))]
      · simp only [ap_wipe, ap_wipe0, ap_runF, ap_seq, ap_next, ap_expr, ap_ret, ap_if, ap_asg, ap_par, ap_aug, ap_nm, ap_tp, ap_gnil, ap_gcons, ap_gix, ap_var, ap_c, ap_op1, ap_op2, ap_opL, ap_anil, ap_acons, ap_tup, ap_lst, ap_fz, ap_new, ap_call, ap_mth, ap_bl, ap_tru, ap_bnot, ap_band, ap_bor, ap_and, ap_or, ap_not, ap_eif, ap_for, ap_lc, ap_rg1, ap_rg2, ap_zp, ap_iseq, ap_slc, ap_onone, ap_osome, ap_chain, ap_lstof, ap_suml, bnd_some, bnd_none, List.map_cons, List.map_nil, List.length_cons, List.length_nil, List.replicate_succ, List.replicate_zero, List.cons_append, List.nil_append, List.append_nil, List.getElem?_cons_zero, List.getElem?_cons_succ, List.set_cons_zero, List.set_cons_succ, Nat.reduceSub, Nat.reduceAdd, Nat.reduceLeDiff, Nat.reduceEqDiff, Nat.zero_add, if_true, if_false, reduceIte, reduceCtorEq, Bool.false_eq_true, Bool.not_true, Bool.not_false, decide_true, decide_false, Nat.sub_self, Nat.sub_zero, Nat.zero_le, Nat.le_refl, gt_i, ge_i, lt_i, le_i, eq_i, ne_i, eq_b, ne_b, add_i, sub_i, neg_i, addI_i, eq_w, ne_w, rev_w, len_w, get_new, set_new, nextL, List.map_map]
        rfl
      · simp only [ap_wipe, ap_wipe0, ap_runF, ap_seq, ap_next, ap_expr, ap_ret, ap_if, ap_asg, ap_par, ap_aug, ap_nm, ap_tp, ap_gnil, ap_gcons, ap_gix, ap_var, ap_c, ap_op1, ap_op2, ap_opL, ap_anil, ap_acons, ap_tup, ap_lst, ap_fz, ap_new, ap_call, ap_mth, ap_bl, ap_tru, ap_bnot, ap_band, ap_bor, ap_and, ap_or, ap_not, ap_eif, ap_for, ap_lc, ap_rg1, ap_rg2, ap_zp, ap_iseq, ap_slc, ap_onone, ap_osome, ap_chain, ap_lstof, ap_suml, bnd_some, bnd_none, List.map_cons, List.map_nil, List.length_cons, List.length_nil, List.replicate_succ, List.replicate_zero, List.cons_append, List.nil_append, List.append_nil, List.getElem?_cons_zero, List.getElem?_cons_succ, List.set_cons_zero, List.set_cons_succ, Nat.reduceSub, Nat.reduceAdd, Nat.reduceLeDiff, Nat.reduceEqDiff, Nat.zero_add, if_true, if_false, reduceIte, reduceCtorEq, Bool.false_eq_true, Bool.not_true, Bool.not_false, decide_true, decide_false, Nat.sub_self, Nat.sub_zero, Nat.zero_le, Nat.le_refl, gt_i, ge_i, lt_i, le_i, eq_i, ne_i, eq_b, ne_b, add_i, sub_i, neg_i, addI_i, eq_w, ne_w, rev_w, len_w, get_new, set_new, eq_e]
        rcases List.eq_nil_or_concat w with rfl | ⟨l, y, rfl⟩
        · simp
        · rw [List.concat_eq_append]
          have ne : decide (l ++ [y] = []) = false := by simp
          simp only [ap_wipe, ap_wipe0, ap_runF, ap_seq, ap_next, ap_expr, ap_ret, ap_if, ap_asg, ap_par, ap_aug, ap_nm, ap_tp, ap_gnil, ap_gcons, ap_gix, ap_var, ap_c, ap_op1, ap_op2, ap_opL, ap_anil, ap_acons, ap_tup, ap_lst, ap_fz, ap_new, ap_call, ap_mth, ap_bl, ap_tru, ap_bnot, ap_band, ap_bor, ap_and, ap_or, ap_not, ap_eif, ap_for, ap_lc, ap_rg1, ap_rg2, ap_zp, ap_iseq, ap_slc, ap_onone, ap_osome, ap_chain, ap_lstof, ap_suml, bnd_some, bnd_none, List.map_cons, List.map_nil, List.length_cons, List.length_nil, List.replicate_succ, List.replicate_zero, List.cons_append, List.nil_append, List.append_nil, List.getElem?_cons_zero, List.getElem?_cons_succ, List.set_cons_zero, List.set_cons_succ, Nat.reduceSub, Nat.reduceAdd, Nat.reduceLeDiff, Nat.reduceEqDiff, Nat.zero_add, if_true, if_false, reduceIte, reduceCtorEq, Bool.false_eq_true, Bool.not_true, Bool.not_false, decide_true, decide_false, Nat.sub_self, Nat.sub_zero, Nat.zero_le, Nat.le_refl, gt_i, ge_i, lt_i, le_i, eq_i, ne_i, eq_b, ne_b, add_i, sub_i, neg_i, addI_i, eq_w, ne_w, rev_w, len_w, get_new, set_new, ne, idx_wlast, Bool.false_or]
          congr 2
          simp
          omega
      · simp only [ap_wipe, ap_wipe0, ap_runF, ap_seq, ap_next, ap_expr, ap_ret, ap_if, ap_asg, ap_par, ap_aug, ap_nm, ap_tp, ap_gnil, ap_gcons, ap_gix, ap_var, ap_c, ap_op1, ap_op2, ap_opL, ap_anil, ap_acons, ap_tup, ap_lst, ap_fz, ap_new, ap_call, ap_mth, ap_bl, ap_tru, ap_bnot, ap_band, ap_bor, ap_and, ap_or, ap_not, ap_eif, ap_for, ap_lc, ap_rg1, ap_rg2, ap_zp, ap_iseq, ap_slc, ap_onone, ap_osome, ap_chain, ap_lstof, ap_suml, bnd_some, bnd_none, List.map_cons, List.map_nil, List.length_cons, List.length_nil, List.replicate_succ, List.replicate_zero, List.cons_append, List.nil_append, List.append_nil, List.getElem?_cons_zero, List.getElem?_cons_succ, List.set_cons_zero, List.set_cons_succ, Nat.reduceSub, Nat.reduceAdd, Nat.reduceLeDiff, Nat.reduceEqDiff, Nat.zero_add, if_true, if_false, reduceIte, reduceCtorEq, Bool.false_eq_true, Bool.not_true, Bool.not_false, decide_true, decide_false, Nat.sub_self, Nat.sub_zero, Nat.zero_le, Nat.le_refl, gt_i, ge_i, lt_i, le_i, eq_i, ne_i, eq_b, ne_b, add_i, sub_i, neg_i, addI_i, eq_w, ne_w, rev_w, len_w, get_new, set_new]
        rw [if_pos (sizeBig (by omega))]
        simp only [ap_wipe, ap_wipe0, ap_runF, ap_seq, ap_next, ap_expr, ap_ret, ap_if, ap_asg, ap_par, ap_aug, ap_nm, ap_tp, ap_gnil, ap_gcons, ap_gix, ap_var, ap_c, ap_op1, ap_op2, ap_opL, ap_anil, ap_acons, ap_tup, ap_lst, ap_fz, ap_new, ap_call, ap_mth, ap_bl, ap_tru, ap_bnot, ap_band, ap_bor, ap_and, ap_or, ap_not, ap_eif, ap_for, ap_lc, ap_rg1, ap_rg2, ap_zp, ap_iseq, ap_slc, ap_onone, ap_osome, ap_chain, ap_lstof, ap_suml, bnd_some, bnd_none, List.map_cons, List.map_nil, List.length_cons, List.length_nil, List.replicate_succ, List.replicate_zero, List.cons_append, List.nil_append, List.append_nil, List.getElem?_cons_zero, List.getElem?_cons_succ, List.set_cons_zero, List.set_cons_succ, Nat.reduceSub, Nat.reduceAdd, Nat.reduceLeDiff, Nat.reduceEqDiff, Nat.zero_add, if_true, if_false, reduceIte, reduceCtorEq, Bool.false_eq_true, Bool.not_true, Bool.not_false, decide_true, decide_false, Nat.sub_self, Nat.sub_zero, Nat.zero_le, Nat.le_refl, gt_i, ge_i, lt_i, le_i, eq_i, ne_i, eq_b, ne_b, add_i, sub_i, neg_i, addI_i, eq_w, ne_w, rev_w, len_w, get_new, set_new]
        exact app_one (by omega)
  · rintro e S' ⟨u, v, x, rfl, rfl⟩
    rw [List.length_range, show (m : Int).toNat = m by omega]
    simp only [ap_wipe, ap_wipe0, ap_runF, ap_seq, ap_next, ap_expr, ap_ret, ap_if, ap_asg, ap_par, ap_aug, ap_nm, ap_tp, ap_gnil, ap_gcons, ap_gix, ap_var, ap_c, ap_op1, ap_op2, ap_opL, ap_anil, ap_acons, ap_tup, ap_lst, ap_fz, ap_new, ap_call, ap_mth, ap_bl, ap_tru, ap_bnot, ap_band, ap_bor, ap_and, ap_or, ap_not, ap_eif, ap_for, ap_lc, ap_rg1, ap_rg2, ap_zp, ap_iseq, ap_slc, ap_onone, ap_osome, ap_chain, ap_lstof, ap_suml, bnd_some, bnd_none, List.map_cons, List.map_nil, List.length_cons, List.length_nil, List.replicate_succ, List.replicate_zero, List.cons_append, List.nil_append, List.append_nil, List.getElem?_cons_zero, List.getElem?_cons_succ, List.set_cons_zero, List.set_cons_succ, Nat.reduceSub, Nat.reduceAdd, Nat.reduceLeDiff, Nat.reduceEqDiff, Nat.zero_add, if_true, if_false, reduceIte, reduceCtorEq, Bool.false_eq_true, Bool.not_true, Bool.not_false, decide_true, decide_false, Nat.sub_self, Nat.sub_zero, Nat.zero_le, Nat.le_refl, gt_i, ge_i, lt_i, le_i, eq_i, ne_i, eq_b, ne_b, add_i, sub_i, neg_i, addI_i, eq_w, ne_w, rev_w, len_w, get_new, set_new]
/-! ### the rows in another order -/
theorem pop_at {S : Sto} {n : Nat} {ds : List D} {i : Nat} {y : D} (h : S[n]? = some (.lst ds)) (hi : ds[i]? = some y) (hz : i ≤ 1000000) : popD (.loc n) [.int i] S = some (y, S.set n (.lst (ds.eraseIdx i))) := by
  have hl := (List.getElem?_eq_some_iff.mp hi).1
  unfold popD
  simp only [h]
  have e : ixN ds.length (i : Int) = some i := by
    unfold ixN
    rw [if_pos (by omega), if_pos (by omega)]
    simp
  simp only [e, hi]
  rw [if_pos (show fit63 (i : Int) by unfold fit63; omega)]
end Hx

namespace Hx
open PySem PySem.Spec PyProof.Rows L2 PU
theorem nil_ws {S : Sto} {n : Nat} {neg : Bool} {a : List (List Int)} (h : S[n]? = some (.lst (a.map wD))) : nilD neg (.loc n) S = some (.bl (xor neg (decide (a = []))), S) := by
  have e : toPS (.loc n) S = some (.list (a.map fun w => .tuple (w.map .int))) := by
    show (match S[n]? with
      | some (.lst ds) => (toPL ds).map PyData.list
      | _ => none) = _
    rw [h]
    simp only [toPL_ws]
    rfl
  unfold nilD
  rw [e]
  simp only
  rw [if_pos (shaped_wl a)]
  have e2 : PyData.eqv (.list (a.map fun w => .tuple (w.map .int))) (.list []) = decide (a = []) := by
    rw [PyData.eqv]
    exact eqvWs a []
  rw [e2]
theorem map_er {α β : Type} (f : α → β) : ∀ (l : List α) (j : Nat), (l.eraseIdx j).map f = (l.map f).eraseIdx j
  | [], _ => rfl
  | _ :: _, 0 => rfl
  | x :: l, j + 1 => congrArg (f x :: ·) (map_er f l j)
theorem len_loc {S : Sto} {n : Nat} {ds : List D} (h : S[n]? = some (.lst ds)) : lenD [.loc n] S = some (.int ds.length, S) := by
  show (match (match S[n]? with
    | some (.lst ds) => some ds
    | _ => none) with
    | some ds => some (D.int ds.length, S)
    | none => none) = _
  rw [h]
theorem two_0 {S1 : Sto} {a b : O} : (S1 ++ [a, b])[S1.length]? = some a := by simp
theorem two_1 {S1 : Sto} {a b : O} : (S1 ++ [a, b])[S1.length + 1]? = some b := by simp
theorem two_s0 {S1 : Sto} {a b c : O} : (S1 ++ [a, b]).set S1.length c = S1 ++ [c, b] := by simp
theorem two_s1 {S1 : Sto} {a b c : O} : (S1 ++ [a, b]).set (S1.length + 1) c = S1 ++ [a, c] := by
  rw [List.set_append_right _ _ (by omega)]
  simp
theorem dice_app {S G : Sto} {n : Nat} (h : isDice S n) : isDice (S ++ G) n := by
  obtain ⟨a, b, h1, h2⟩ := h
  exact ⟨a, b, get_old h1, h2⟩
theorem dice_lt {S : Sto} {n : Nat} (h : isDice S n) : n < S.length := by
  obtain ⟨a, b, h1, h2⟩ := h
  exact (List.getElem?_eq_some_iff.mp h1).1
theorem Dx.cut {S G T : Sto} {n : Nat} (h : Dx n (S ++ G) T) (hn : n < S.length) : ∃ S', T = S' ++ G ∧ Dx n S S' := by
  obtain ⟨⟨a, b, h1, h2⟩, o, rfl, ho⟩ := h
  refine ⟨S.set n o, List.set_append_left _ _ hn, ⟨a, b, ?_, h2⟩, o, rfl, ho⟩
  rw [List.set_append_left _ _ hn, List.getElem?_append_left (by rw [List.length_set]; exact hn)] at h1
  exact h1
theorem p_law_mixed (n : Nat) (ws : List (List Int)) (S : Sto) (h : isDice S n) (hz : ws.length ≤ 100000) : ∃ (out : List (List Int)) (S' : Sto), φ_law_mixed [.loc n, .lst (ws.map wD)] S = some (.lst (out.map wD), S') ∧ (∀ w ∈ out, w ∈ ws) ∧ Dx n S S' := by
  have key : ∀ (m : Nat) (L found : List (List Int)) (S1 : Sto), L.length = m → Dx n S S1 → L.length + found.length ≤ 100000 →
      ∃ (S2 : Sto) (out : List (List Int)), whileN (bBl (eOp1 (nilD true) (eVar 2))) (sExpr (eMth appD (eVar 3) (aCons (eMth popD (eVar 2) (aCons (eCall φ_law_roll 2 (aCons (eVar 0) (aCons (eOpL lenD (aCons (eVar 2) (aNil))) (aNil)))) (aNil))) (aNil)))) (m + 1)
        [some (.loc n), some (.lst (ws.map wD)), some (.loc S.length), some (.loc (S.length + 1))] (S1 ++ [.lst (L.map wD), .lst (found.map wD)]) = some (.nx [some (.loc n), some (.lst (ws.map wD)), some (.loc S.length), some (.loc (S.length + 1))], S2 ++ [.lst [], .lst (out.map wD)]) ∧
        Dx n S S2 ∧ ∀ w ∈ out, w ∈ found ∨ w ∈ L := by
    intro m
    induction m with
    | zero =>
      intro L found S1 hL hd hz
      have hl : L = [] := List.eq_nil_of_length_eq_zero hL
      subst hl
      refine ⟨S1, found, ?_, hd, fun w hw => .inl hw⟩
      have e : nilD true (.loc S.length) (S1 ++ [.lst [], .lst (found.map wD)]) = _ := nil_ws (a := []) (by rw [← hd.len]; exact two_0)
      unfold whileN
      simp only [ap_wipe, ap_wipe0, ap_runF, ap_seq, ap_next, ap_expr, ap_ret, ap_if, ap_asg, ap_par, ap_aug, ap_nm, ap_tp, ap_gnil, ap_gcons, ap_gix, ap_var, ap_c, ap_op1, ap_op2, ap_opL, ap_anil, ap_acons, ap_tup, ap_lst, ap_fz, ap_new, ap_call, ap_mth, ap_bl, ap_tru, ap_bnot, ap_band, ap_bor, ap_and, ap_or, ap_not, ap_eif, ap_for, ap_lc, ap_rg1, ap_rg2, ap_zp, ap_iseq, ap_slc, ap_onone, ap_osome, ap_chain, ap_lstof, ap_suml, bnd_some, bnd_none, List.map_cons, List.map_nil, List.length_cons, List.length_nil, List.replicate_succ, List.replicate_zero, List.cons_append, List.nil_append, List.append_nil, List.getElem?_cons_zero, List.getElem?_cons_succ, List.set_cons_zero, List.set_cons_succ, Nat.reduceSub, Nat.reduceAdd, Nat.reduceLeDiff, Nat.reduceEqDiff, Nat.zero_add, if_true, if_false, reduceIte, reduceCtorEq, Bool.false_eq_true, Bool.not_true, Bool.not_false, decide_true, decide_false, Nat.sub_self, Nat.sub_zero, Nat.zero_le, Nat.le_refl, gt_i, ge_i, lt_i, le_i, eq_i, ne_i, eq_b, ne_b, add_i, sub_i, neg_i, addI_i, eq_w, ne_w, rev_w, len_w, get_new, set_new, e, decide_true, Bool.xor_self, Bool.true_xor]
    | succ m ih =>
      intro L found S1 hL hd hz
      have hne : decide (L = []) = false := decide_eq_false (fun z => by rw [z] at hL; simp at hL)
      have hT : (S1 ++ [.lst (L.map wD), .lst (found.map wD)])[S.length]? = some (.lst (L.map wD)) := by rw [← hd.len]; exact two_0
      have hT1 : (S1 ++ [.lst (L.map wD), .lst (found.map wD)])[S.length + 1]? = some (.lst (found.map wD)) := by rw [← hd.len]; exact two_1
      obtain ⟨j, T', r1, r2, r3⟩ := p_law_roll n (L.map wD).length (S1 ++ [.lst (L.map wD), .lst (found.map wD)]) (dice_app hd.1) (by rw [List.length_map]; omega)
      rw [List.length_map] at r2
      obtain ⟨S2, rfl, d2⟩ := r3.cut (dice_lt hd.1)
      have hj : j < L.length := by omega
      have d3 := hd.trans d2
      have hT2 : (S2 ++ [.lst (L.map wD), .lst (found.map wD)])[S.length]? = some (.lst (L.map wD)) := by rw [← d3.len]; exact two_0
      have hLj : (L.map wD)[j]? = some (wD L[j]) := by rw [List.getElem?_map, List.getElem?_eq_getElem hj]; rfl
      have ep := pop_at hT2 hLj (by omega)
      have e3 : (S2 ++ [O.lst (L.map wD), O.lst (found.map wD)]).set S.length (O.lst ((L.map wD).eraseIdx j)) = S2 ++ [O.lst ((L.eraseIdx j).map wD), O.lst (found.map wD)] := by
        rw [← d3.len, two_s0, map_er]
      rw [e3] at ep
      have hT3 : (S2 ++ [.lst ((L.eraseIdx j).map wD), .lst (found.map wD)])[S.length + 1]? = some (.lst (found.map wD)) := by rw [← d3.len]; exact two_1
      have ea := app_loc (y := wD L[j]) hT3 (by have := sizeBig (n := (found.map wD).length + 1) (by rw [List.length_map]; omega); omega)
      have e4 : (S2 ++ [O.lst ((L.eraseIdx j).map wD), O.lst (found.map wD)]).set (S.length + 1) (O.lst (found.map wD ++ [wD L[j]])) = S2 ++ [O.lst ((L.eraseIdx j).map wD), O.lst ((found ++ [L[j]]).map wD)] := by
        rw [← d3.len, two_s1, List.map_append]
        rfl
      rw [e4] at ea
      have hle : (L.eraseIdx j).length = m := by rw [List.length_eraseIdx_of_lt hj]; omega
      obtain ⟨S3, out, k1, k2, k3⟩ := ih (L.eraseIdx j) (found ++ [L[j]]) S2 hle d3 (by rw [hle, List.length_append, List.length_cons, List.length_nil]; omega)
      refine ⟨S3, out, ?_, k2, fun w hw => ?_⟩
      · unfold whileN
        have el := len_loc hT
        simp only [ap_wipe, ap_wipe0, ap_runF, ap_seq, ap_next, ap_expr, ap_ret, ap_if, ap_asg, ap_par, ap_aug, ap_nm, ap_tp, ap_gnil, ap_gcons, ap_gix, ap_var, ap_c, ap_op1, ap_op2, ap_opL, ap_anil, ap_acons, ap_tup, ap_lst, ap_fz, ap_new, ap_call, ap_mth, ap_bl, ap_tru, ap_bnot, ap_band, ap_bor, ap_and, ap_or, ap_not, ap_eif, ap_for, ap_lc, ap_rg1, ap_rg2, ap_zp, ap_iseq, ap_slc, ap_onone, ap_osome, ap_chain, ap_lstof, ap_suml, bnd_some, bnd_none, List.map_cons, List.map_nil, List.length_cons, List.length_nil, List.replicate_succ, List.replicate_zero, List.cons_append, List.nil_append, List.append_nil, List.getElem?_cons_zero, List.getElem?_cons_succ, List.set_cons_zero, List.set_cons_succ, Nat.reduceSub, Nat.reduceAdd, Nat.reduceLeDiff, Nat.reduceEqDiff, Nat.zero_add, if_true, if_false, reduceIte, reduceCtorEq, Bool.false_eq_true, Bool.not_true, Bool.not_false, decide_true, decide_false, Nat.sub_self, Nat.sub_zero, Nat.zero_le, Nat.le_refl, gt_i, ge_i, lt_i, le_i, eq_i, ne_i, eq_b, ne_b, add_i, sub_i, neg_i, addI_i, eq_w, ne_w, rev_w, len_w, get_new, set_new, nil_ws hT, hne, Bool.xor_false, Bool.true_xor, isLst_loc hT1, isLst_loc hT, el, r1, ep, ea]
        exact k1
      · rcases k3 w hw with h | h
        · rcases List.mem_append.mp h with h | h
          · exact .inl h
          · rw [List.mem_singleton.mp h]
            exact .inr (List.getElem_mem hj)
        · exact .inr (List.mem_of_mem_eraseIdx h)
  obtain ⟨S2, out, k1, k2, k3⟩ := key ws.length ws [] S rfl (Dx.refl h) (by simpa using hz)
  have hs := sWhile_of k1
  obtain ⟨hd, o, rfl, ho⟩ := id k2
  refine ⟨out, S.set n o, ?_, fun w hw => (k3 w hw).resolve_left (by simp), k2⟩
  refine gz_setList (G := [.lst [], .lst (out.map wD)]) (j := S.length + 1) ?_ (by omega) ?_ ws_clo ho
  · unfold f_law_mixed
    have es : ∀ T : Sto, seqOf (.lst (ws.map wD)) T = some (ws.map wD) := fun _ => rfl
    simp only [ap_wipe, ap_wipe0, ap_runF, ap_seq, ap_next, ap_expr, ap_ret, ap_if, ap_asg, ap_par, ap_aug, ap_nm, ap_tp, ap_gnil, ap_gcons, ap_gix, ap_var, ap_c, ap_op1, ap_op2, ap_opL, ap_anil, ap_acons, ap_tup, ap_lst, ap_fz, ap_new, ap_call, ap_mth, ap_bl, ap_tru, ap_bnot, ap_band, ap_bor, ap_and, ap_or, ap_not, ap_eif, ap_for, ap_lc, ap_rg1, ap_rg2, ap_zp, ap_iseq, ap_slc, ap_onone, ap_osome, ap_chain, ap_lstof, ap_suml, bnd_some, bnd_none, List.map_cons, List.map_nil, List.length_cons, List.length_nil, List.replicate_succ, List.replicate_zero, List.cons_append, List.nil_append, List.append_nil, List.getElem?_cons_zero, List.getElem?_cons_succ, List.set_cons_zero, List.set_cons_succ, Nat.reduceSub, Nat.reduceAdd, Nat.reduceLeDiff, Nat.reduceEqDiff, Nat.zero_add, if_true, if_false, reduceIte, reduceCtorEq, Bool.false_eq_true, Bool.not_true, Bool.not_false, decide_true, decide_false, Nat.sub_self, Nat.sub_zero, Nat.zero_le, Nat.le_refl, gt_i, ge_i, lt_i, le_i, eq_i, ne_i, eq_b, ne_b, add_i, sub_i, neg_i, addI_i, eq_w, ne_w, rev_w, len_w, get_new, set_new, es]
    have e5 : S ++ [O.lst (ws.map wD)] ++ [O.lst []] = S ++ [.lst (ws.map wD), .lst (([] : List (List Int)).map wD)] := by simp
    rw [e5, List.length_append, List.length_cons, List.length_nil, Nat.zero_add]
    rw [hs]
    simp only [ap_wipe, ap_wipe0, ap_runF, ap_seq, ap_next, ap_expr, ap_ret, ap_if, ap_asg, ap_par, ap_aug, ap_nm, ap_tp, ap_gnil, ap_gcons, ap_gix, ap_var, ap_c, ap_op1, ap_op2, ap_opL, ap_anil, ap_acons, ap_tup, ap_lst, ap_fz, ap_new, ap_call, ap_mth, ap_bl, ap_tru, ap_bnot, ap_band, ap_bor, ap_and, ap_or, ap_not, ap_eif, ap_for, ap_lc, ap_rg1, ap_rg2, ap_zp, ap_iseq, ap_slc, ap_onone, ap_osome, ap_chain, ap_lstof, ap_suml, bnd_some, bnd_none, List.map_cons, List.map_nil, List.length_cons, List.length_nil, List.replicate_succ, List.replicate_zero, List.cons_append, List.nil_append, List.append_nil, List.getElem?_cons_zero, List.getElem?_cons_succ, List.set_cons_zero, List.set_cons_succ, Nat.reduceSub, Nat.reduceAdd, Nat.reduceLeDiff, Nat.reduceEqDiff, Nat.zero_add, if_true, if_false, reduceIte, reduceCtorEq, Bool.false_eq_true, Bool.not_true, Bool.not_false, decide_true, decide_false, Nat.sub_self, Nat.sub_zero, Nat.zero_le, Nat.le_refl, gt_i, ge_i, lt_i, le_i, eq_i, ne_i, eq_b, ne_b, add_i, sub_i, neg_i, addI_i, eq_w, ne_w, rev_w, len_w, get_new, set_new]
  · rw [← List.length_set (a := o) (i := n) (as := S)]
    exact two_1
end Hx

namespace Hx
open PySem PySem.Spec PyProof.Rows L2 PU
/-! ### free reduction, plainly -/
theorem isR_cons2 {x y : Int} {w : List Int} : isR (x :: y :: w) = (!decide (x = -y) && isR (y :: w)) := rfl
theorem isR_tail : ∀ {x : Int} {w : List Int}, isR (x :: w) = true → isR w = true
  | _, [], _ => rfl
  | x, y :: w, h => (Bool.and_eq_true_iff.mp h).2
/-- joined where the ends fit -/
theorem isR_join : ∀ (a : List Int) (y x : Int) (b : List Int), isR (a ++ [y] ++ x :: b) = (isR (a ++ [y]) && (!decide (y = -x) && isR (x :: b)))
  | [], y, x, b => by simp [isR]
  | [z], y, x, b => by
    show ((!decide (z = -y)) && isR (y :: x :: b)) = (((!decide (z = -y)) && isR [y]) && _)
    rw [isR_cons2]
    simp [isR]
  | z :: z' :: a, y, x, b => by
    have ih := isR_join (z' :: a) y x b
    show ((!decide (z = -z')) && isR ((z' :: a) ++ [y] ++ x :: b)) = (((!decide (z = -z')) && isR ((z' :: a) ++ [y])) && _)
    rw [ih, Bool.and_assoc]
theorem isR_snoc {a : List Int} {y x : Int} : isR (a ++ [y] ++ [x]) = (isR (a ++ [y]) && !decide (y = -x)) := by
  rw [isR_join]
  simp [isR]
theorem isR_front : ∀ {a b : List Int}, isR (a ++ b) = true → isR a = true
  | [], _, _ => rfl
  | [x], _, _ => rfl
  | x :: y :: a, b, h => by
    obtain ⟨h1, h2⟩ := Bool.and_eq_true_iff.mp (show (!decide (x = -y) && isR ((y :: a) ++ b)) = true from h)
    exact Bool.and_eq_true_iff.mpr ⟨h1, isR_front h2⟩
theorem isR_back : ∀ {a b : List Int}, isR (a ++ b) = true → isR b = true
  | [], _, h => h
  | x :: a, b, h => isR_back (a := a) (isR_tail h)
theorem psh_R {acc : List Int} {x : Int} (h : isR acc = true) : isR (psh acc x) = true := by
  rcases List.eq_nil_or_concat acc with rfl | ⟨l, y, rfl⟩
  · rfl
  · rw [List.concat_eq_append] at *
    by_cases hy : y = -x
    · subst hy
      rw [psh_hit]
      exact isR_front h
    · rw [psh_miss hy, isR_snoc, h]
      simp [hy]
theorem foldl_R : ∀ (w acc : List Int), isR acc = true → isR (w.foldl psh acc) = true
  | [], _, h => h
  | x :: w, acc, h => foldl_R w (psh acc x) (psh_R h)
theorem red_R (w : List Int) : isR (red w) = true := foldl_R w [] rfl
theorem red_snoc (w : List Int) (x : Int) : red (w ++ [x]) = psh (red w) x := by
  unfold red
  rw [List.foldl_append]
  rfl
/-- what is short is appended -/
theorem foldl_short : ∀ (b acc : List Int), isR (acc ++ b) = true → b.foldl psh acc = acc ++ b
  | [], acc, _ => by simp
  | x :: b, acc, h => by
    have e : psh acc x = acc ++ [x] := by
      rcases List.eq_nil_or_concat acc with rfl | ⟨l, y, rfl⟩
      · rfl
      · rw [List.concat_eq_append] at *
        have h2 := h
        rw [isR_join] at h2
        have h3 := (Bool.and_eq_true_iff.mp (Bool.and_eq_true_iff.mp h2).2).1
        refine psh_miss fun z => ?_
        rw [z] at h3
        simp at h3
    rw [List.foldl_cons, e, foldl_short b (acc ++ [x]) (by simpa using h)]
    simp
theorem red_short {w : List Int} (h : isR w = true) : red w = w := foldl_short w [] h
theorem red_red (w : List Int) : red (red w) = red w := red_short (red_R w)
theorem psh_psh {acc : List Int} (x : Int) (h : isR acc = true) : psh (psh acc x) (-x) = acc := by
  rcases List.eq_nil_or_concat acc with rfl | ⟨l, y, rfl⟩
  · rw [psh_nil]
    have := psh_hit (l := []) (x := -x)
    rw [Int.neg_neg, List.nil_append] at this
    exact this
  · rw [List.concat_eq_append] at *
    by_cases hy : y = -x
    · subst hy
      rw [psh_hit]
      rcases List.eq_nil_or_concat l with rfl | ⟨l', z, rfl⟩
      · rfl
      · rw [List.concat_eq_append] at *
        rw [isR_snoc] at h
        have h3 := (Bool.and_eq_true_iff.mp h).2
        exact psh_miss (fun z' => by
          rw [z'] at h3
          simp at h3)
    · rw [psh_miss hy]
      have := psh_hit (l := l ++ [y]) (x := -x)
      rw [Int.neg_neg] at this
      exact this
theorem red_app (a b : List Int) : red (a ++ b) = b.foldl psh (red a) := by
  unfold red
  rw [List.foldl_append]
/-- two that undo each other fall away -/
theorem red_cancel (a b : List Int) (x : Int) : red (a ++ [x, -x] ++ b) = red (a ++ b) := by
  rw [red_app, red_app a b, red_app a [x, -x]]
  congr 1
  exact psh_psh x (red_R a)
theorem red_left (a b : List Int) : red (red a ++ b) = red (a ++ b) := by
  rw [red_app, red_app a b, red_red]
theorem red_right (a : List Int) : ∀ b : List Int, red (a ++ red b) = red (a ++ b) := by
  intro b
  suffices h : ∀ (n : Nat) (b : List Int), b.length = n → red (a ++ red b) = red (a ++ b) from h _ b rfl
  intro n
  induction n with
  | zero =>
    intro b hb
    rw [List.eq_nil_of_length_eq_zero hb]
    rfl
  | succ n ih =>
    intro b hb
    rcases List.eq_nil_or_concat b with rfl | ⟨l, x, rfl⟩
    · rfl
    · rw [List.concat_eq_append] at *
      have hl : l.length = n := by simp at hb; omega
      have i1 := ih l hl
      rw [red_snoc, ← List.append_assoc, red_snoc, ← i1]
      rcases List.eq_nil_or_concat (red l) with e | ⟨l', y, e⟩
      · rw [e]
        show red (a ++ [x]) = psh (red (a ++ [])) x
        rw [List.append_nil, red_snoc]
      · rw [List.concat_eq_append] at e
        rw [e]
        by_cases hy : y = -x
        · subst hy
          rw [psh_hit, ← List.append_assoc a l' [-x], red_snoc]
          have h2 := psh_psh (acc := red (a ++ l')) (-x) (red_R _)
          rw [Int.neg_neg] at h2
          exact h2.symm
        · rw [psh_miss hy, ← List.append_assoc, red_snoc]
theorem und_snoc (w : List Int) (x : Int) : und (w ++ [x]) = -x :: und w := by simp [und]
theorem und_app (a b : List Int) : und (a ++ b) = und b ++ und a := by simp [und]
theorem und_R (w : List Int) (h : isR w = true) : isR (und w) = true := by
  suffices hh : ∀ (n : Nat) (w : List Int), w.length = n → isR w = true → isR (und w) = true from hh _ w rfl h
  intro n
  induction n with
  | zero =>
    intro w hw _
    rw [List.eq_nil_of_length_eq_zero hw]
    rfl
  | succ n ih =>
    intro w hw h
    rcases List.eq_nil_or_concat w with rfl | ⟨l, x, rfl⟩
    · rfl
    · rw [List.concat_eq_append] at *
      have hl : l.length = n := by simp at hw; omega
      have i1 := ih l hl (isR_front h)
      rw [und_snoc]
      rcases List.eq_nil_or_concat l with rfl | ⟨l', y, rfl⟩
      · rfl
      · rw [List.concat_eq_append] at *
        rw [isR_snoc] at h
        have h3 := (Bool.and_eq_true_iff.mp h).2
        rw [und_snoc] at i1 ⊢
        rw [isR_cons2, i1]
        have : ¬ (-x = - -y) := fun z => by
          rw [Int.neg_neg] at z
          rw [← z] at h3
          simp at h3
        rw [decide_eq_false this]
        rfl
theorem red_und (w : List Int) : red (und w) = und (red w) := by
  suffices hh : ∀ (n : Nat) (w : List Int), w.length = n → red (und w) = und (red w) from hh _ w rfl
  intro n
  induction n with
  | zero =>
    intro w hw
    rw [List.eq_nil_of_length_eq_zero hw]
    rfl
  | succ n ih =>
    intro w hw
    rcases List.eq_nil_or_concat w with rfl | ⟨l, x, rfl⟩
    · rfl
    · rw [List.concat_eq_append] at *
      have hl : l.length = n := by simp at hw; omega
      have i1 := ih l hl
      rw [und_snoc, red_snoc, show -x :: und l = [-x] ++ und l from rfl, ← red_right, i1]
      rcases List.eq_nil_or_concat (red l) with e | ⟨l', y, e⟩
      · rw [e]
        rfl
      · rw [List.concat_eq_append] at e
        have hr := red_R l
        rw [e] at hr ⊢
        by_cases hy : y = -x
        · subst hy
          rw [psh_hit, und_snoc, Int.neg_neg]
          have := red_cancel [] (und l') (-x)
          rw [Int.neg_neg] at this
          rw [show [-x] ++ x :: und l' = [] ++ [-x, x] ++ und l' from rfl, this]
          exact red_short (und_R l' (isR_front hr))
        · rw [psh_miss hy, show [-x] ++ und (l' ++ [y]) = und (l' ++ [y] ++ [x]) from (und_snoc _ _).symm]
          refine red_short (und_R _ ?_)
          rw [isR_snoc, hr]
          simp [hy]
/-- what a product loses -/
theorem loss_len : ∀ (b a : List Int), isR a = true → isR b = true → (b.foldl psh a).length + 2 * lostN a.reverse b = a.length + b.length
  | [], a, _, _ => by
    have : lostN a.reverse [] = 0 := by cases a.reverse <;> rfl
    rw [this]
    simp
  | x :: b, a, ha, hb => by
    rcases List.eq_nil_or_concat a with rfl | ⟨l, y, rfl⟩
    · rw [foldl_short (x :: b) [] hb]
      simp [lostN]
    · rw [List.concat_eq_append] at *
      by_cases hy : y = -x
      · subst hy
        have ih := loss_len b l (isR_front ha) (isR_tail hb)
        rw [List.foldl_cons, psh_hit]
        have e : lostN (l ++ [-x]).reverse (x :: b) = lostN l.reverse b + 1 := by
          rw [List.reverse_append]
          show lostN (-x :: l.reverse) (x :: b) = _
          rw [lostN_cons, if_pos rfl]
        rw [e, List.length_append, List.length_cons, List.length_cons, List.length_nil]
        omega
      · have e : lostN (l ++ [y]).reverse (x :: b) = 0 := by
          rw [List.reverse_append]
          show lostN (y :: l.reverse) (x :: b) = _
          rw [lostN_cons, if_neg hy]
        rw [e, foldl_short (x :: b) (l ++ [y]) (by rw [isR_join, ha, hb]; simp [hy])]
        simp
        omega
theorem foldl_sub : ∀ (w acc : List Int) (P : Int → Prop), (∀ a ∈ w, P a) → (∀ a ∈ acc, P a) → ∀ a ∈ w.foldl psh acc, P a
  | [], _, _, _, h => h
  | x :: w, acc, P, hw, ha => foldl_sub w (psh acc x) P (fun a h => hw a (List.mem_cons_of_mem _ h)) fun a h => by
    unfold psh at h
    split at h
    · exact ha a ((List.dropLast_sublist acc).subset h)
    · rcases List.mem_append.mp h with h | h
      · exact ha a h
      · rw [List.mem_singleton.mp h]
        exact hw x List.mem_cons_self
theorem red_sub {w : List Int} {P : Int → Prop} (h : ∀ a ∈ w, P a) : ∀ a ∈ red w, P a := foldl_sub w [] P h fun _ h => nomatch h
theorem red_len (w : List Int) : (red w).length ≤ w.length := by
  have := foldl_psh_len w []
  rw [List.length_nil, Nat.zero_add] at this
  exact this
end Hx

namespace Hx
open PySem PySem.Spec PyProof.Rows L2 PU
theorem isR_of : ∀ {w : List Int}, (∀ (i : Nat) (x y : Int), w[i]? = some x → w[i + 1]? = some y → x ≠ -y) → isR w = true
  | [], _ => rfl
  | [x], _ => rfl
  | x :: y :: w, h => by
    rw [isR_cons2, isR_of (w := y :: w) fun i a b e1 e2 => h (i + 1) a b (by simpa using e1) (by simpa using e2), decide_eq_false (h 0 x y rfl rfl)]
    rfl
theorem nil_lst {S : Sto} {neg : Bool} {a : List Int} : nilD neg (.lst (iL a)) S = some (.bl (xor neg (decide (a = []))), S) := by
  have e : toPS (.lst (iL a)) S = some (.list (a.map .int)) := by
    show (toPL (iL a)).map PyData.list = _
    rw [toPL_iL]
    rfl
  unfold nilD
  rw [e]
  simp only
  rw [if_pos (shaped_lst a)]
  have e2 : PyData.eqv (.list (a.map .int)) (.list []) = decide (a = []) := by
    rw [PyData.eqv]
    exact eqvInts a []
  rw [e2]
theorem iL_take {h : List Int} {i : Nat} : iL (h.take i) = (iL h).take i := List.map_take
theorem iL_drop {h : List Int} {i : Nat} : iL (h.drop i) = (iL h).drop i := List.map_drop
theorem slc_to {h : List Int} {i : Nat} {S : Sto} : slcD (.lst (iL h)) none (some (i : Int)) S = some (.lst (iL (h.take i)), S) := by
  show some (D.lst (cutG (iL h) none (some (i : Int))), S) = _
  have e : cutG (iL h) none (some (i : Int)) = iL (h.take i) := by
    unfold cutG
    rw [HT.sIx_nat, HT.sIx_none, List.drop_zero, Nat.sub_zero, iL_take]
    by_cases hi : i ≤ (iL h).length
    · rw [Nat.min_eq_left hi]
    · rw [Nat.min_eq_right (by omega), List.take_of_length_le (by omega), List.take_of_length_le (by omega)]
  rw [e]
theorem slc_from {h : List Int} {i : Nat} {S : Sto} : slcD (.lst (iL h)) (some (i : Int)) none S = some (.lst (iL (h.drop i)), S) := by
  show some (D.lst (cutG (iL h) (some (i : Int)) none), S) = _
  have e : cutG (iL h) (some (i : Int)) none = iL (h.drop i) := by
    unfold cutG
    rw [HT.sIx_nat, HT.sIx_none, iL_drop]
    by_cases hi : i ≤ (iL h).length
    · rw [Nat.min_eq_left hi, List.take_of_length_le (by rw [List.length_drop]; exact Nat.le_refl _)]
    · rw [Nat.min_eq_right (by omega), List.drop_of_length_le (Nat.le_refl _), List.drop_of_length_le (by omega)]
      simp
  rw [e]
theorem seqOf_w {w : List Int} {S : Sto} : seqOf (wD w) S = some (iL w) := rfl
theorem cut_two {h : List Int} {i : Nat} {x : Int} (h1 : h[i]? = some x) (h2 : h[i + 1]? = some (-x)) : red (h.take i ++ h.drop (i + 2)) = red h ∧ (h.take i ++ h.drop (i + 2)).length + 2 = h.length := by
  obtain ⟨l1, e1⟩ := List.getElem?_eq_some_iff.mp h1
  obtain ⟨l2, e2⟩ := List.getElem?_eq_some_iff.mp h2
  have e : h = h.take i ++ [x, -x] ++ h.drop (i + 2) := by
    conv => lhs; rw [← List.take_append_drop i h]
    rw [List.drop_eq_getElem_cons l1, List.drop_eq_getElem_cons l2, e1, e2]
    simp
  refine ⟨?_, by rw [List.length_append, List.length_take, List.length_drop]; omega⟩
  conv => rhs; rw [e]
  exact (red_cancel _ _ _).symm
theorem p_law_struck (n : Nat) (w : List Int) (S : Sto) (hd : isDice S n) (hz : w.length ≤ 1000) : ∃ (m : Nat) (S' : Sto), φ_law_struck [.loc n, wD w] S = some (.tup [wD (red w), .int m], S') ∧ (red w).length + 2 * m = w.length ∧ Dx n S S' := by
  have loop : ∃ env' S', loopF ⟨rgD 0 w.length, none⟩ (gNm 4) (sSeq (sAsg (eFz (fLc (iRg1 (aCons (eOp2 subD (eOpL lenD (aCons (eVar 2) (aNil))) (eC (.int 1))) (aNil))) (gNm 5) (bBl (eOp2 cmpEq (eOp2 idxD (eVar 2) (eVar 5)) (eOp2 subD (eC (.int 0)) (eOp2 idxD (eVar 2) (eOp2 addD (eVar 5) (eC (.int 1))))))) (eVar 5) [5])) (gNm 6)) (sIf (bBl (eOp1 (nilD true) (eVar 6))) (sSeq (sAsg (eCall φ_law_one_of 2 (aCons (eVar 0) (aCons (eVar 6) (aNil)))) (gNm 5)) (sAsg (eTup (aCons (eOp2 addD (eSlc (eVar 2) (oNone) (oSome (eVar 5))) (eSlc (eVar 2) (oSome (eOp2 addD (eVar 5) (eC (.int 2)))) (oNone))) (aCons (eOp2 addD (eVar 3) (eC (.int 1))) (aNil)))) (gTp 2 (gsCons (gNm 2) (gsCons (gNm 3) (gsNil)))))) (sNext)))
      ((List.range w.length).map fun i : Nat => D.int (0 + (i : Int))) [some (.loc n), some (wD w), some (.lst (iL w)), some (.int 0), none, none, none] S = some (.nx env', S') ∧
      ∃ h m t a s, env' = [some (.loc n), some (wD w), some (.lst (iL h)), some (.int (m : Nat)), t, a, s] ∧ Dx n S S' ∧ red h = red w ∧ h.length + 2 * m = w.length ∧ (isR h = true ∨ (List.range w.length).length ≤ m) := by
    refine loopF_rel0 _ (fun j env S' => ∃ h m t a s, env = [some (.loc n), some (wD w), some (.lst (iL h)), some (.int (m : Nat)), t, a, s] ∧ Dx n S S' ∧ red h = red w ∧ h.length + 2 * m = w.length ∧ (isR h = true ∨ j ≤ m)) _ _ _ ?_ ⟨w, 0, none, none, none, rfl, Dx.refl hd, rfl, by omega, .inr (Nat.le_refl _)⟩
    rintro j i hi env S1 ⟨h, m, t, a, s, rfl, d1, hr, hl, hj⟩
    have lcf : ∀ (env0 : En), env0[2]? = some (some (D.lst (iL h))) → env0.length = 7 → lcF ⟨rgD 0 ((h.length : Int) - 1).toNat, none⟩ (gNm 5) (bBl (eOp2 cmpEq (eOp2 idxD (eVar 2) (eVar 5)) (eOp2 subD (eC (.int 0)) (eOp2 idxD (eVar 2) (eOp2 addD (eVar 5) (eC (.int 1))))))) (eVar 5) env0 ((List.range ((h.length : Int) - 1).toNat).map fun i : Nat => D.int (0 + (i : Int))) [] S1 =
        some (iL (((List.range ((h.length : Int) - 1).toNat).filter fun i => decide (h.getD i 0 = -(h.getD (i + 1) 0))).map fun i : Nat => 0 + (i : Int)), S1) := by
      intro env0 h2 h7
      rw [lcF_map (fun i : Nat => D.int (0 + (i : Int))) (fun i => decide (h.getD i 0 = -(h.getD (i + 1) 0))) (fun i : Nat => D.int (0 + (i : Int))) _ [] (fun i hi => ⟨_, rfl, ?_, fun _ => ?_⟩) (szN (by rw [List.length_range]; omega))]
      · rw [List.nil_append, iL, List.map_map]
        rfl
      · have hi' := List.mem_range.mp hi
        have l1 : i < h.length := by omega
        have l2 : i + 1 < h.length := by omega
        have g5 : (env0.set 5 (some (D.int (0 + (i : Int)))))[5]? = some (some (D.int (0 + (i : Int)))) := List.getElem?_set_self (by omega)
        have g2 : (env0.set 5 (some (D.int (0 + (i : Int)))))[2]? = some (some (D.lst (iL h))) := by rw [List.getElem?_set_ne (by decide)]; exact h2
        have x1 : idxD (.lst (iL h)) (.int (0 + (i : Int))) S1 = some (.int h[i], S1) := by
          rw [Int.zero_add]
          exact idx_lst (atI_nat (by rw [iL_get, List.getElem?_eq_getElem l1]; rfl))
        have x2 : idxD (.lst (iL h)) (.int (0 + (i : Int) + 1)) S1 = some (.int h[i + 1], S1) := by
          rw [Int.zero_add]
          exact idx_lst (atI_nat (i := i + 1) (by rw [iL_get, List.getElem?_eq_getElem l2]; rfl))
        simp only [ap_wipe, ap_wipe0, ap_runF, ap_seq, ap_next, ap_expr, ap_ret, ap_if, ap_asg, ap_par, ap_aug, ap_nm, ap_tp, ap_gnil, ap_gcons, ap_gix, ap_var, ap_c, ap_op1, ap_op2, ap_opL, ap_anil, ap_acons, ap_tup, ap_lst, ap_fz, ap_new, ap_call, ap_mth, ap_bl, ap_tru, ap_bnot, ap_band, ap_bor, ap_and, ap_or, ap_not, ap_eif, ap_for, ap_lc, ap_rg1, ap_rg2, ap_zp, ap_iseq, ap_slc, ap_onone, ap_osome, ap_chain, ap_lstof, ap_suml, bnd_some, bnd_none, List.map_cons, List.map_nil, List.length_cons, List.length_nil, List.replicate_succ, List.replicate_zero, List.cons_append, List.nil_append, List.append_nil, List.getElem?_cons_zero, List.getElem?_cons_succ, List.set_cons_zero, List.set_cons_succ, Nat.reduceSub, Nat.reduceAdd, Nat.reduceLeDiff, Nat.reduceEqDiff, Nat.zero_add, if_true, if_false, reduceIte, reduceCtorEq, Bool.false_eq_true, Bool.not_true, Bool.not_false, decide_true, decide_false, Nat.sub_self, Nat.sub_zero, Nat.zero_le, Nat.le_refl, gt_i, ge_i, lt_i, le_i, eq_i, ne_i, eq_b, ne_b, add_i, sub_i, neg_i, addI_i, eq_w, ne_w, rev_w, len_w, get_new, set_new, g5, g2, x1, x2, Int.zero_sub]
        simp [List.getD, List.getElem?_eq_getElem l1, List.getElem?_eq_getElem l2]
      · have g5 : (env0.set 5 (some (D.int (0 + (i : Int)))))[5]? = some (some (D.int (0 + (i : Int)))) := List.getElem?_set_self (by omega)
        simp only [ap_wipe, ap_wipe0, ap_runF, ap_seq, ap_next, ap_expr, ap_ret, ap_if, ap_asg, ap_par, ap_aug, ap_nm, ap_tp, ap_gnil, ap_gcons, ap_gix, ap_var, ap_c, ap_op1, ap_op2, ap_opL, ap_anil, ap_acons, ap_tup, ap_lst, ap_fz, ap_new, ap_call, ap_mth, ap_bl, ap_tru, ap_bnot, ap_band, ap_bor, ap_and, ap_or, ap_not, ap_eif, ap_for, ap_lc, ap_rg1, ap_rg2, ap_zp, ap_iseq, ap_slc, ap_onone, ap_osome, ap_chain, ap_lstof, ap_suml, bnd_some, bnd_none, List.map_cons, List.map_nil, List.length_cons, List.length_nil, List.replicate_succ, List.replicate_zero, List.cons_append, List.nil_append, List.append_nil, List.getElem?_cons_zero, List.getElem?_cons_succ, List.set_cons_zero, List.set_cons_succ, Nat.reduceSub, Nat.reduceAdd, Nat.reduceLeDiff, Nat.reduceEqDiff, Nat.zero_add, if_true, if_false, reduceIte, reduceCtorEq, Bool.false_eq_true, Bool.not_true, Bool.not_false, decide_true, decide_false, Nat.sub_self, Nat.sub_zero, Nat.zero_le, Nat.le_refl, gt_i, ge_i, lt_i, le_i, eq_i, ne_i, eq_b, ne_b, add_i, sub_i, neg_i, addI_i, eq_w, ne_w, rev_w, len_w, get_new, set_new, g5]
    generalize hsp : (List.range ((h.length : Int) - 1).toNat).filter (fun i => decide (h.getD i 0 = -(h.getD (i + 1) 0))) = spots at lcf
    have hll : lenD [D.lst (iL h)] S1 = some (.int h.length, S1) := by rw [len_l, iL_len]
    by_cases hs : spots = []
    · subst hs
      have hR : isR h = true := isR_of fun i x y e1 e2 => by
        have l1 := (List.getElem?_eq_some_iff.mp e1).1
        have l2 := (List.getElem?_eq_some_iff.mp e2).1
        intro hxy
        have : i ∈ (List.range ((h.length : Int) - 1).toNat).filter fun i => decide (h.getD i 0 = -(h.getD (i + 1) 0)) := List.mem_filter.mpr ⟨List.mem_range.mpr (by omega), by simp [List.getD, e1, e2, hxy]⟩
        rw [hsp] at this
        cases this
      refine ⟨_, _, [some (.loc n), some (wD w), some (.lst (iL h)), some (.int (m : Nat)), some (D.int (0 + (i : Int))), a, some (.lst (iL []))], S1, rfl, ?_, h, m, _, _, _, rfl, d1, hr, hl, .inl hR⟩
      simp only [ap_wipe, ap_wipe0, ap_runF, ap_seq, ap_next, ap_expr, ap_ret, ap_if, ap_asg, ap_par, ap_aug, ap_nm, ap_tp, ap_gnil, ap_gcons, ap_gix, ap_var, ap_c, ap_op1, ap_op2, ap_opL, ap_anil, ap_acons, ap_tup, ap_lst, ap_fz, ap_new, ap_call, ap_mth, ap_bl, ap_tru, ap_bnot, ap_band, ap_bor, ap_and, ap_or, ap_not, ap_eif, ap_for, ap_lc, ap_rg1, ap_rg2, ap_zp, ap_iseq, ap_slc, ap_onone, ap_osome, ap_chain, ap_lstof, ap_suml, bnd_some, bnd_none, List.map_cons, List.map_nil, List.length_cons, List.length_nil, List.replicate_succ, List.replicate_zero, List.cons_append, List.nil_append, List.append_nil, List.getElem?_cons_zero, List.getElem?_cons_succ, List.set_cons_zero, List.set_cons_succ, Nat.reduceSub, Nat.reduceAdd, Nat.reduceLeDiff, Nat.reduceEqDiff, Nat.zero_add, if_true, if_false, reduceIte, reduceCtorEq, Bool.false_eq_true, Bool.not_true, Bool.not_false, decide_true, decide_false, Nat.sub_self, Nat.sub_zero, Nat.zero_le, Nat.le_refl, gt_i, ge_i, lt_i, le_i, eq_i, ne_i, eq_b, ne_b, add_i, sub_i, neg_i, addI_i, eq_w, ne_w, rev_w, len_w, get_new, set_new, hll]
      rw [if_pos (fit_of (by omega))]
      simp only [ap_wipe, ap_wipe0, ap_runF, ap_seq, ap_next, ap_expr, ap_ret, ap_if, ap_asg, ap_par, ap_aug, ap_nm, ap_tp, ap_gnil, ap_gcons, ap_gix, ap_var, ap_c, ap_op1, ap_op2, ap_opL, ap_anil, ap_acons, ap_tup, ap_lst, ap_fz, ap_new, ap_call, ap_mth, ap_bl, ap_tru, ap_bnot, ap_band, ap_bor, ap_and, ap_or, ap_not, ap_eif, ap_for, ap_lc, ap_rg1, ap_rg2, ap_zp, ap_iseq, ap_slc, ap_onone, ap_osome, ap_chain, ap_lstof, ap_suml, bnd_some, bnd_none, List.map_cons, List.map_nil, List.length_cons, List.length_nil, List.replicate_succ, List.replicate_zero, List.cons_append, List.nil_append, List.append_nil, List.getElem?_cons_zero, List.getElem?_cons_succ, List.set_cons_zero, List.set_cons_succ, Nat.reduceSub, Nat.reduceAdd, Nat.reduceLeDiff, Nat.reduceEqDiff, Nat.zero_add, if_true, if_false, reduceIte, reduceCtorEq, Bool.false_eq_true, Bool.not_true, Bool.not_false, decide_true, decide_false, Nat.sub_self, Nat.sub_zero, Nat.zero_le, Nat.le_refl, gt_i, ge_i, lt_i, le_i, eq_i, ne_i, eq_b, ne_b, add_i, sub_i, neg_i, addI_i, eq_w, ne_w, rev_w, len_w, get_new, set_new, rgD_map]
      have := lcf [some (.loc n), some (wD w), some (.lst (iL h)), some (.int (m : Nat)), some (D.int (0 + (i : Int))), none, s] rfl rfl
      simp only [rgD_map] at this
      rw [this]
      have e := nil_lst (S := S1) (neg := true) (a := [])
      simp only [List.map_nil, iL] at e ⊢
      simp only [ap_wipe, ap_wipe0, ap_runF, ap_seq, ap_next, ap_expr, ap_ret, ap_if, ap_asg, ap_par, ap_aug, ap_nm, ap_tp, ap_gnil, ap_gcons, ap_gix, ap_var, ap_c, ap_op1, ap_op2, ap_opL, ap_anil, ap_acons, ap_tup, ap_lst, ap_fz, ap_new, ap_call, ap_mth, ap_bl, ap_tru, ap_bnot, ap_band, ap_bor, ap_and, ap_or, ap_not, ap_eif, ap_for, ap_lc, ap_rg1, ap_rg2, ap_zp, ap_iseq, ap_slc, ap_onone, ap_osome, ap_chain, ap_lstof, ap_suml, bnd_some, bnd_none, List.map_cons, List.map_nil, List.length_cons, List.length_nil, List.replicate_succ, List.replicate_zero, List.cons_append, List.nil_append, List.append_nil, List.getElem?_cons_zero, List.getElem?_cons_succ, List.set_cons_zero, List.set_cons_succ, Nat.reduceSub, Nat.reduceAdd, Nat.reduceLeDiff, Nat.reduceEqDiff, Nat.zero_add, if_true, if_false, reduceIte, reduceCtorEq, Bool.false_eq_true, Bool.not_true, Bool.not_false, decide_true, decide_false, Nat.sub_self, Nat.sub_zero, Nat.zero_le, Nat.le_refl, gt_i, ge_i, lt_i, le_i, eq_i, ne_i, eq_b, ne_b, add_i, sub_i, neg_i, addI_i, eq_w, ne_w, rev_w, len_w, get_new, set_new, e, Bool.xor_self, Bool.true_xor]
    · have hne : decide (spots.map (fun i : Nat => 0 + (i : Int)) = []) = false := decide_eq_false fun z => hs (List.map_eq_nil_iff.mp z)
      have hlen : spots.length ≤ 1000 := by
        rw [← hsp]
        refine Nat.le_trans (List.length_filter_le _ _) ?_
        rw [List.length_range]
        omega
      have hpos : 1 ≤ spots.length := Nat.one_le_iff_ne_zero.mpr fun z => hs (List.eq_nil_of_length_eq_zero z)
      obtain ⟨j2, d, S2, r1, r2, r3⟩ := p_law_one_of n (iL (spots.map fun i : Nat => 0 + (i : Int))) S1 d1.1 (by rw [iL_len, List.length_map]; omega) iL_clo
      rw [iL_get, List.getElem?_map] at r2
      obtain ⟨i0, hi0, hd0⟩ : ∃ i0 : Nat, spots[j2]? = some i0 ∧ d = .int (0 + (i0 : Int)) := by
        cases hq : spots[j2]? with
        | none => rw [hq] at r2; cases r2
        | some i0 => rw [hq] at r2; cases r2; exact ⟨i0, rfl, rfl⟩
      subst hd0
      have hmem := List.mem_of_getElem? hi0
      rw [← hsp] at hmem
      obtain ⟨hm1, hm2⟩ := List.mem_filter.mp hmem
      have hm1 := List.mem_range.mp hm1
      have l1 : i0 < h.length := by omega
      have l2 : i0 + 1 < h.length := by omega
      have hx : h[i0] = -h[i0 + 1] := by
        have := of_decide_eq_true hm2
        simpa [List.getD, List.getElem?_eq_getElem l1, List.getElem?_eq_getElem l2] using this
      obtain ⟨c1, c2⟩ := cut_two (h := h) (i := i0) (x := h[i0]) (List.getElem?_eq_getElem l1) (by rw [List.getElem?_eq_getElem l2, hx, Int.neg_neg])
      refine ⟨_, _, [some (.loc n), some (wD w), some (.lst (iL (h.take i0 ++ h.drop (i0 + 2)))), some (.int ((m + 1 : Nat))), some (D.int (0 + (i : Int))), some (.int (0 + (i0 : Int))), some (.lst (iL (spots.map fun i : Nat => 0 + (i : Int))))], S2, rfl, ?_, h.take i0 ++ h.drop (i0 + 2), m + 1, _, _, _, rfl, d1.trans r3, c1.trans hr, by omega, ?_⟩
      · simp only [ap_wipe, ap_wipe0, ap_runF, ap_seq, ap_next, ap_expr, ap_ret, ap_if, ap_asg, ap_par, ap_aug, ap_nm, ap_tp, ap_gnil, ap_gcons, ap_gix, ap_var, ap_c, ap_op1, ap_op2, ap_opL, ap_anil, ap_acons, ap_tup, ap_lst, ap_fz, ap_new, ap_call, ap_mth, ap_bl, ap_tru, ap_bnot, ap_band, ap_bor, ap_and, ap_or, ap_not, ap_eif, ap_for, ap_lc, ap_rg1, ap_rg2, ap_zp, ap_iseq, ap_slc, ap_onone, ap_osome, ap_chain, ap_lstof, ap_suml, bnd_some, bnd_none, List.map_cons, List.map_nil, List.length_cons, List.length_nil, List.replicate_succ, List.replicate_zero, List.cons_append, List.nil_append, List.append_nil, List.getElem?_cons_zero, List.getElem?_cons_succ, List.set_cons_zero, List.set_cons_succ, Nat.reduceSub, Nat.reduceAdd, Nat.reduceLeDiff, Nat.reduceEqDiff, Nat.zero_add, if_true, if_false, reduceIte, reduceCtorEq, Bool.false_eq_true, Bool.not_true, Bool.not_false, decide_true, decide_false, Nat.sub_self, Nat.sub_zero, Nat.zero_le, Nat.le_refl, gt_i, ge_i, lt_i, le_i, eq_i, ne_i, eq_b, ne_b, add_i, sub_i, neg_i, addI_i, eq_w, ne_w, rev_w, len_w, get_new, set_new, hll]
        rw [if_pos (fit_of (by omega))]
        simp only [ap_wipe, ap_wipe0, ap_runF, ap_seq, ap_next, ap_expr, ap_ret, ap_if, ap_asg, ap_par, ap_aug, ap_nm, ap_tp, ap_gnil, ap_gcons, ap_gix, ap_var, ap_c, ap_op1, ap_op2, ap_opL, ap_anil, ap_acons, ap_tup, ap_lst, ap_fz, ap_new, ap_call, ap_mth, ap_bl, ap_tru, ap_bnot, ap_band, ap_bor, ap_and, ap_or, ap_not, ap_eif, ap_for, ap_lc, ap_rg1, ap_rg2, ap_zp, ap_iseq, ap_slc, ap_onone, ap_osome, ap_chain, ap_lstof, ap_suml, bnd_some, bnd_none, List.map_cons, List.map_nil, List.length_cons, List.length_nil, List.replicate_succ, List.replicate_zero, List.cons_append, List.nil_append, List.append_nil, List.getElem?_cons_zero, List.getElem?_cons_succ, List.set_cons_zero, List.set_cons_succ, Nat.reduceSub, Nat.reduceAdd, Nat.reduceLeDiff, Nat.reduceEqDiff, Nat.zero_add, if_true, if_false, reduceIte, reduceCtorEq, Bool.false_eq_true, Bool.not_true, Bool.not_false, decide_true, decide_false, Nat.sub_self, Nat.sub_zero, Nat.zero_le, Nat.le_refl, gt_i, ge_i, lt_i, le_i, eq_i, ne_i, eq_b, ne_b, add_i, sub_i, neg_i, addI_i, eq_w, ne_w, rev_w, len_w, get_new, set_new, rgD_map]
        have := lcf [some (.loc n), some (wD w), some (.lst (iL h)), some (.int (m : Nat)), some (D.int (0 + (i : Int))), none, s] rfl rfl
        simp only [rgD_map] at this
        rw [this]
        have e := nil_lst (S := S1) (neg := true) (a := spots.map fun i : Nat => 0 + (i : Int))
        have t1 : slcD (.lst (iL h)) none (some (0 + (i0 : Int))) S2 = some (.lst (iL (h.take i0)), S2) := by rw [Int.zero_add]; exact slc_to
        have t2 : slcD (.lst (iL h)) (some (0 + (i0 : Int) + 2)) none S2 = some (.lst (iL (h.drop (i0 + 2))), S2) := by
          rw [Int.zero_add]
          exact slc_from (i := i0 + 2)
        have t3 : addD (.lst (iL (h.take i0))) (.lst (iL (h.drop (i0 + 2)))) S2 = some (.lst (iL (h.take i0 ++ h.drop (i0 + 2))), S2) := by
          rw [add_ll (sizeBig (by rw [iL_len, iL_len, List.length_take, List.length_drop]; omega)), iL_app]
        simp only [ap_wipe, ap_wipe0, ap_runF, ap_seq, ap_next, ap_expr, ap_ret, ap_if, ap_asg, ap_par, ap_aug, ap_nm, ap_tp, ap_gnil, ap_gcons, ap_gix, ap_var, ap_c, ap_op1, ap_op2, ap_opL, ap_anil, ap_acons, ap_tup, ap_lst, ap_fz, ap_new, ap_call, ap_mth, ap_bl, ap_tru, ap_bnot, ap_band, ap_bor, ap_and, ap_or, ap_not, ap_eif, ap_for, ap_lc, ap_rg1, ap_rg2, ap_zp, ap_iseq, ap_slc, ap_onone, ap_osome, ap_chain, ap_lstof, ap_suml, bnd_some, bnd_none, List.map_cons, List.map_nil, List.length_cons, List.length_nil, List.replicate_succ, List.replicate_zero, List.cons_append, List.nil_append, List.append_nil, List.getElem?_cons_zero, List.getElem?_cons_succ, List.set_cons_zero, List.set_cons_succ, Nat.reduceSub, Nat.reduceAdd, Nat.reduceLeDiff, Nat.reduceEqDiff, Nat.zero_add, if_true, if_false, reduceIte, reduceCtorEq, Bool.false_eq_true, Bool.not_true, Bool.not_false, decide_true, decide_false, Nat.sub_self, Nat.sub_zero, Nat.zero_le, Nat.le_refl, gt_i, ge_i, lt_i, le_i, eq_i, ne_i, eq_b, ne_b, add_i, sub_i, neg_i, addI_i, eq_w, ne_w, rev_w, len_w, get_new, set_new, e, hne, Bool.xor_false, Bool.true_xor, r1, t1, t2, t3]
        rw [if_pos (sizeBig (by omega))]
        simp only [ap_wipe, ap_wipe0, ap_runF, ap_seq, ap_next, ap_expr, ap_ret, ap_if, ap_asg, ap_par, ap_aug, ap_nm, ap_tp, ap_gnil, ap_gcons, ap_gix, ap_var, ap_c, ap_op1, ap_op2, ap_opL, ap_anil, ap_acons, ap_tup, ap_lst, ap_fz, ap_new, ap_call, ap_mth, ap_bl, ap_tru, ap_bnot, ap_band, ap_bor, ap_and, ap_or, ap_not, ap_eif, ap_for, ap_lc, ap_rg1, ap_rg2, ap_zp, ap_iseq, ap_slc, ap_onone, ap_osome, ap_chain, ap_lstof, ap_suml, bnd_some, bnd_none, List.map_cons, List.map_nil, List.length_cons, List.length_nil, List.replicate_succ, List.replicate_zero, List.cons_append, List.nil_append, List.append_nil, List.getElem?_cons_zero, List.getElem?_cons_succ, List.set_cons_zero, List.set_cons_succ, Nat.reduceSub, Nat.reduceAdd, Nat.reduceLeDiff, Nat.reduceEqDiff, Nat.zero_add, if_true, if_false, reduceIte, reduceCtorEq, Bool.false_eq_true, Bool.not_true, Bool.not_false, decide_true, decide_false, Nat.sub_self, Nat.sub_zero, Nat.zero_le, Nat.le_refl, gt_i, ge_i, lt_i, le_i, eq_i, ne_i, eq_b, ne_b, add_i, sub_i, neg_i, addI_i, eq_w, ne_w, rev_w, len_w, get_new, set_new]
        rfl
      · right
        rcases hj with hj | hj
        · exfalso
          have hz := List.all_eq_true.mp ((isR_zip h).trans hj) (h[i0], h[i0 + 1]) (by
            refine List.mem_of_getElem? (i := i0) ?_
            rw [List.getElem?_zip_eq_some]
            refine ⟨List.getElem?_eq_getElem l1, ?_⟩
            rw [List.getElem?_drop, show 1 + i0 = i0 + 1 by omega]
            exact List.getElem?_eq_getElem l2)
          simp [hx] at hz
        · omega
  obtain ⟨env', S', h1, h, m, t, a, s, rfl, d1, hr, hl, hj⟩ := loop
  have hR : isR h = true := by
    rcases hj with hj | hj
    · exact hj
    · rw [List.length_range] at hj
      have : h.length = 0 := by omega
      rw [List.eq_nil_of_length_eq_zero this]
      rfl
  have hh : h = red w := by rw [← hr, red_short hR]
  subst hh
  refine ⟨m, S', ?_, hl, d1⟩
  refine gz_dx0 ?_ d1 ?_
  · unfold f_law_struck
    simp only [ap_wipe, ap_wipe0, ap_runF, ap_seq, ap_next, ap_expr, ap_ret, ap_if, ap_asg, ap_par, ap_aug, ap_nm, ap_tp, ap_gnil, ap_gcons, ap_gix, ap_var, ap_c, ap_op1, ap_op2, ap_opL, ap_anil, ap_acons, ap_tup, ap_lst, ap_fz, ap_new, ap_call, ap_mth, ap_bl, ap_tru, ap_bnot, ap_band, ap_bor, ap_and, ap_or, ap_not, ap_eif, ap_for, ap_lc, ap_rg1, ap_rg2, ap_zp, ap_iseq, ap_slc, ap_onone, ap_osome, ap_chain, ap_lstof, ap_suml, bnd_some, bnd_none, List.map_cons, List.map_nil, List.length_cons, List.length_nil, List.replicate_succ, List.replicate_zero, List.cons_append, List.nil_append, List.append_nil, List.getElem?_cons_zero, List.getElem?_cons_succ, List.set_cons_zero, List.set_cons_succ, Nat.reduceSub, Nat.reduceAdd, Nat.reduceLeDiff, Nat.reduceEqDiff, Nat.zero_add, if_true, if_false, reduceIte, reduceCtorEq, Bool.false_eq_true, Bool.not_true, Bool.not_false, decide_true, decide_false, Nat.sub_self, Nat.sub_zero, Nat.zero_le, Nat.le_refl, gt_i, ge_i, lt_i, le_i, eq_i, ne_i, eq_b, ne_b, add_i, sub_i, neg_i, addI_i, eq_w, ne_w, rev_w, len_w, get_new, set_new, seqOf_w]
    rw [if_pos (sizeBig (by omega))]
    simp only [ap_wipe, ap_wipe0, ap_runF, ap_seq, ap_next, ap_expr, ap_ret, ap_if, ap_asg, ap_par, ap_aug, ap_nm, ap_tp, ap_gnil, ap_gcons, ap_gix, ap_var, ap_c, ap_op1, ap_op2, ap_opL, ap_anil, ap_acons, ap_tup, ap_lst, ap_fz, ap_new, ap_call, ap_mth, ap_bl, ap_tru, ap_bnot, ap_band, ap_bor, ap_and, ap_or, ap_not, ap_eif, ap_for, ap_lc, ap_rg1, ap_rg2, ap_zp, ap_iseq, ap_slc, ap_onone, ap_osome, ap_chain, ap_lstof, ap_suml, bnd_some, bnd_none, List.map_cons, List.map_nil, List.length_cons, List.length_nil, List.replicate_succ, List.replicate_zero, List.cons_append, List.nil_append, List.append_nil, List.getElem?_cons_zero, List.getElem?_cons_succ, List.set_cons_zero, List.set_cons_succ, Nat.reduceSub, Nat.reduceAdd, Nat.reduceLeDiff, Nat.reduceEqDiff, Nat.zero_add, if_true, if_false, reduceIte, reduceCtorEq, Bool.false_eq_true, Bool.not_true, Bool.not_false, decide_true, decide_false, Nat.sub_self, Nat.sub_zero, Nat.zero_le, Nat.le_refl, gt_i, ge_i, lt_i, le_i, eq_i, ne_i, eq_b, ne_b, add_i, sub_i, neg_i, addI_i, eq_w, ne_w, rev_w, len_w, get_new, set_new]
    rw [if_pos (fit_of (by omega))]
    simp only [ap_wipe, ap_wipe0, ap_runF, ap_seq, ap_next, ap_expr, ap_ret, ap_if, ap_asg, ap_par, ap_aug, ap_nm, ap_tp, ap_gnil, ap_gcons, ap_gix, ap_var, ap_c, ap_op1, ap_op2, ap_opL, ap_anil, ap_acons, ap_tup, ap_lst, ap_fz, ap_new, ap_call, ap_mth, ap_bl, ap_tru, ap_bnot, ap_band, ap_bor, ap_and, ap_or, ap_not, ap_eif, ap_for, ap_lc, ap_rg1, ap_rg2, ap_zp, ap_iseq, ap_slc, ap_onone, ap_osome, ap_chain, ap_lstof, ap_suml, bnd_some, bnd_none, List.map_cons, List.map_nil, List.length_cons, List.length_nil, List.replicate_succ, List.replicate_zero, List.cons_append, List.nil_append, List.append_nil, List.getElem?_cons_zero, List.getElem?_cons_succ, List.set_cons_zero, List.set_cons_succ, Nat.reduceSub, Nat.reduceAdd, Nat.reduceLeDiff, Nat.reduceEqDiff, Nat.zero_add, if_true, if_false, reduceIte, reduceCtorEq, Bool.false_eq_true, Bool.not_true, Bool.not_false, decide_true, decide_false, Nat.sub_self, Nat.sub_zero, Nat.zero_le, Nat.le_refl, gt_i, ge_i, lt_i, le_i, eq_i, ne_i, eq_b, ne_b, add_i, sub_i, neg_i, addI_i, eq_w, ne_w, rev_w, len_w, get_new, set_new, Int.toNat_natCast]
    simp only [rgD_map] at h1 ⊢
    rw [h1]
    simp only [ap_wipe, ap_wipe0, ap_runF, ap_seq, ap_next, ap_expr, ap_ret, ap_if, ap_asg, ap_par, ap_aug, ap_nm, ap_tp, ap_gnil, ap_gcons, ap_gix, ap_var, ap_c, ap_op1, ap_op2, ap_opL, ap_anil, ap_acons, ap_tup, ap_lst, ap_fz, ap_new, ap_call, ap_mth, ap_bl, ap_tru, ap_bnot, ap_band, ap_bor, ap_and, ap_or, ap_not, ap_eif, ap_for, ap_lc, ap_rg1, ap_rg2, ap_zp, ap_iseq, ap_slc, ap_onone, ap_osome, ap_chain, ap_lstof, ap_suml, bnd_some, bnd_none, List.map_cons, List.map_nil, List.length_cons, List.length_nil, List.replicate_succ, List.replicate_zero, List.cons_append, List.nil_append, List.append_nil, List.getElem?_cons_zero, List.getElem?_cons_succ, List.set_cons_zero, List.set_cons_succ, Nat.reduceSub, Nat.reduceAdd, Nat.reduceLeDiff, Nat.reduceEqDiff, Nat.zero_add, if_true, if_false, reduceIte, reduceCtorEq, Bool.false_eq_true, Bool.not_true, Bool.not_false, decide_true, decide_false, Nat.sub_self, Nat.sub_zero, Nat.zero_le, Nat.le_refl, gt_i, ge_i, lt_i, le_i, eq_i, ne_i, eq_b, ne_b, add_i, sub_i, neg_i, addI_i, eq_w, ne_w, rev_w, len_w, get_new, set_new, tup_l]
    rw [if_pos (sizeBig (by omega))]
    simp only [ap_wipe, ap_wipe0, ap_runF, ap_seq, ap_next, ap_expr, ap_ret, ap_if, ap_asg, ap_par, ap_aug, ap_nm, ap_tp, ap_gnil, ap_gcons, ap_gix, ap_var, ap_c, ap_op1, ap_op2, ap_opL, ap_anil, ap_acons, ap_tup, ap_lst, ap_fz, ap_new, ap_call, ap_mth, ap_bl, ap_tru, ap_bnot, ap_band, ap_bor, ap_and, ap_or, ap_not, ap_eif, ap_for, ap_lc, ap_rg1, ap_rg2, ap_zp, ap_iseq, ap_slc, ap_onone, ap_osome, ap_chain, ap_lstof, ap_suml, bnd_some, bnd_none, List.map_cons, List.map_nil, List.length_cons, List.length_nil, List.replicate_succ, List.replicate_zero, List.cons_append, List.nil_append, List.append_nil, List.getElem?_cons_zero, List.getElem?_cons_succ, List.set_cons_zero, List.set_cons_succ, Nat.reduceSub, Nat.reduceAdd, Nat.reduceLeDiff, Nat.reduceEqDiff, Nat.zero_add, if_true, if_false, reduceIte, reduceCtorEq, Bool.false_eq_true, Bool.not_true, Bool.not_false, decide_true, decide_false, Nat.sub_self, Nat.sub_zero, Nat.zero_le, Nat.le_refl, gt_i, ge_i, lt_i, le_i, eq_i, ne_i, eq_b, ne_b, add_i, sub_i, neg_i, addI_i, eq_w, ne_w, rev_w, len_w, get_new, set_new]
    rfl
  · show (clo 0 (wD (red w)) && (true && true)) = true
    rw [wD_clo]
    rfl
end Hx

namespace Hx
open PySem PySem.Spec PyProof.Rows L2 PU
theorem is_tt {b : Bool} {S : Sto} : isD true (.bl b) (.bl true) S = some (.bl (xor true (decide (b = true))), S) := rfl
theorem okW_of {k : Nat} {w : List Int} (h : ∀ a ∈ w, a ∈ lets k) : okW k w := fun a ha => lets_ok (h a ha)
theorem made_one (w : List Int) (S : Sto) (h : w.length ≤ 1000) : φ_law_made [.lst [wD w]] S = some (wD (red w), S) := by
  have := p_law_made [w] S (by simpa using h)
  simpa using this
theorem made_two (v w : List Int) (S : Sto) (h : v.length + w.length ≤ 1000) : φ_law_made [.lst [wD v, wD w]] S = some (wD (red (v ++ w)), S) := by
  have := p_law_made [v, w] S (by simpa using h)
  simpa using this
theorem one_of_ws (n : Nat) (ws : List (List Int)) (S : Sto) (h : isDice S n) (hz : 1 ≤ ws.length ∧ ws.length ≤ 1000000) : ∃ (w : List Int) (S' : Sto), φ_law_one_of [.loc n, .lst (ws.map wD)] S = some (wD w, S') ∧ w ∈ ws ∧ Dx n S S' := by
  obtain ⟨j, d, S', r1, r2, r3⟩ := p_law_one_of n (ws.map wD) S h (by rw [List.length_map]; exact hz) ws_clo
  rw [List.getElem?_map] at r2
  cases hq : ws[j]? with
  | none => rw [hq] at r2; cases r2
  | some w =>
    rw [hq] at r2
    cases r2
    exact ⟨w, S', r1, List.mem_of_getElem? hq, r3⟩
theorem isR_iff {w : List Int} {m : Nat} (h : (red w).length + 2 * m = w.length) : isR w = decide ((m : Int) = 0) := by
  by_cases hm : m = 0
  · subst hm
    have e : red w = w := by
      have key : ∀ (w acc : List Int), isR acc = true → (w.foldl psh acc).length = acc.length + w.length → w.foldl psh acc = acc ++ w := by
        intro w
        induction w with
        | nil => intro acc _ _; simp
        | cons x w ih =>
          intro acc ha hl
          rw [List.foldl_cons, List.length_cons] at hl
          have h1 := foldl_psh_len w (psh acc x)
          have h2 := psh_len acc x
          have h3 : psh acc x = acc ++ [x] := by
            unfold psh at h1 h2 hl ⊢
            split
            · rename_i hc
              rw [if_pos hc] at h1 hl
              rw [List.length_dropLast] at h1
              omega
            · rfl
          rw [List.foldl_cons, h3, ih _ (h3 ▸ psh_R ha) (by rw [h3] at hl; rw [hl, List.length_append, List.length_cons, List.length_nil]; omega)]
          simp
      have := key w [] rfl (by show (red w).length = _; simp; omega)
      exact this
    have hR := red_R w
    rw [e] at hR
    rw [hR]
    rfl
  · cases hR : isR w with
    | true =>
      rw [red_short hR] at h
      omega
    | false => exact (decide_eq_false (by omega)).symm
theorem cnt_comp (k : Nat) (w : List Int) (S : Sto) (env : En) (h5 : env[5]? = some (some (wD w))) (h10 : env.length = 10) (hk : k ≤ 4) : lcF ⟨rgD 1 k, none⟩ (gNm 9) bYes (eOp2 subD (eOp2 cntD (eVar 5) (eVar 9)) (eOp2 cntD (eVar 5) (eOp2 subD (eC (.int 0)) (eVar 9)))) env ((List.range k).map fun i : Nat => D.int (1 + (i : Int))) [] S = some (iL (cnts k w), S) := by
  rw [lcF_map (fun i : Nat => D.int (1 + (i : Int))) (fun _ => true) (fun i : Nat => D.int ((w.count (1 + (i : Int)) : Int) - (w.count (-(1 + (i : Int))) : Int))) (List.range k) [] (fun i hi => ⟨_, rfl, rfl, fun _ => ?_⟩) (szN (by rw [List.length_range]; omega))]
  · simp only [fl_true, List.nil_append, cnts, iL, List.map_map]
    rfl
  · have g9 : (env.set 9 (some (D.int (1 + (i : Int)))))[9]? = some (some (D.int (1 + (i : Int)))) := List.getElem?_set_self (by omega)
    have g5 : (env.set 9 (some (D.int (1 + (i : Int)))))[5]? = some (some (wD w)) := by rw [List.getElem?_set_ne (by decide)]; exact h5
    simp only [ap_wipe, ap_wipe0, ap_runF, ap_seq, ap_next, ap_expr, ap_ret, ap_if, ap_asg, ap_par, ap_aug, ap_nm, ap_tp, ap_gnil, ap_gcons, ap_gix, ap_var, ap_c, ap_op1, ap_op2, ap_opL, ap_anil, ap_acons, ap_tup, ap_lst, ap_fz, ap_new, ap_call, ap_mth, ap_bl, ap_tru, ap_bnot, ap_band, ap_bor, ap_and, ap_or, ap_not, ap_eif, ap_for, ap_lc, ap_rg1, ap_rg2, ap_zp, ap_iseq, ap_slc, ap_onone, ap_osome, ap_chain, ap_lstof, ap_suml, bnd_some, bnd_none, List.map_cons, List.map_nil, List.length_cons, List.length_nil, List.replicate_succ, List.replicate_zero, List.cons_append, List.nil_append, List.append_nil, List.getElem?_cons_zero, List.getElem?_cons_succ, List.set_cons_zero, List.set_cons_succ, Nat.reduceSub, Nat.reduceAdd, Nat.reduceLeDiff, Nat.reduceEqDiff, Nat.zero_add, if_true, if_false, reduceIte, reduceCtorEq, Bool.false_eq_true, Bool.not_true, Bool.not_false, decide_true, decide_false, Nat.sub_self, Nat.sub_zero, Nat.zero_le, Nat.le_refl, gt_i, ge_i, lt_i, le_i, eq_i, ne_i, eq_b, ne_b, add_i, sub_i, neg_i, addI_i, eq_w, ne_w, rev_w, len_w, get_new, set_new, g9, g5, cnt_w, Int.zero_sub]
theorem cut_take {ds : List D} {S : Sto} {i : Nat} : slcD (.lst ds) none (some (i : Int)) S = some (.lst (ds.take i), S) := by
  show some (D.lst (cutG ds none (some (i : Int))), S) = _
  have e : cutG ds none (some (i : Int)) = ds.take i := by
    unfold cutG
    rw [HT.sIx_nat, HT.sIx_none, List.drop_zero, Nat.sub_zero]
    by_cases hi : i ≤ ds.length
    · rw [Nat.min_eq_left hi]
    · rw [Nat.min_eq_right (by omega), List.take_of_length_le (by omega), List.take_of_length_le (by omega)]
  rw [e]
theorem cut_120 {ds : List D} {S : Sto} : slcD (.lst ds) none (some 120) S = some (.lst (ds.take 120), S) := cut_take (i := 120)
theorem p_rows_right (n k m : Nat) (S : Sto) (hd : isDice S n) (hk : 1 ≤ k ∧ k ≤ 4) (hm : m ≤ 10) (hz : ∀ i ≤ m, (2 * k) ^ i ≤ 2048) (hcount : m = 0 ∨ ((rowsL k m).countP isR : Int) = 2 * k * (2 * k - 1) ^ (m - 1)) :
    ∃ S', φ_law_are_rows_right [.loc n, .int k, .int m] S = some (.bl true, S') ∧ Dx n S S' := by
  have hlen : (rowsL k m).length ≤ 2048 := by rw [rowsL_len]; exact hz m (Nat.le_refl _)
  have hpos : 1 ≤ (rowsL k m).length := by
    rw [rowsL_len]
    exact Nat.pos_of_ne_zero (Nat.ne_of_gt (Nat.pow_pos (by omega)))
  obtain ⟨out, S1, e1, e2, d1⟩ := p_law_mixed n (rowsL k m) S hd (by omega)
  have wf : ∀ w ∈ rowsL k m, w.length ≤ 10 ∧ okW k w := fun w hw => by
    obtain ⟨h1, h2⟩ := rowsL_word k m w hw
    exact ⟨by omega, okW_of h2⟩
  have hkI : (1 : Int) ≤ (k : Int) ∧ (k : Int) ≤ 4 := by omega
  suffices hf : ∃ S', f_law_are_rows_right [.loc n, .int k, .int m] S = some (.bl true, S') ∧ Dx n S S' by
    obtain ⟨S', h1, h2⟩ := hf
    exact ⟨S', gz_dx0 h1 h2 rfl, h2⟩
  unfold f_law_are_rows_right
  simp only [ap_wipe, ap_wipe0, ap_runF, ap_seq, ap_next, ap_expr, ap_ret, ap_if, ap_asg, ap_par, ap_aug, ap_nm, ap_tp, ap_gnil, ap_gcons, ap_gix, ap_var, ap_c, ap_op1, ap_op2, ap_opL, ap_anil, ap_acons, ap_tup, ap_lst, ap_fz, ap_new, ap_call, ap_mth, ap_bl, ap_tru, ap_bnot, ap_band, ap_bor, ap_and, ap_or, ap_not, ap_eif, ap_for, ap_lc, ap_rg1, ap_rg2, ap_zp, ap_iseq, ap_slc, ap_onone, ap_osome, ap_chain, ap_lstof, ap_suml, bnd_some, bnd_none, List.map_cons, List.map_nil, List.length_cons, List.length_nil, List.replicate_succ, List.replicate_zero, List.cons_append, List.nil_append, List.append_nil, List.getElem?_cons_zero, List.getElem?_cons_succ, List.set_cons_zero, List.set_cons_succ, Nat.reduceSub, Nat.reduceAdd, Nat.reduceLeDiff, Nat.reduceEqDiff, Nat.zero_add, if_true, if_false, reduceIte, reduceCtorEq, Bool.false_eq_true, Bool.not_true, Bool.not_false, decide_true, decide_false, Nat.sub_self, Nat.sub_zero, Nat.zero_le, Nat.le_refl, gt_i, ge_i, lt_i, le_i, eq_i, ne_i, eq_b, ne_b, add_i, sub_i, neg_i, addI_i, eq_w, ne_w, rev_w, len_w, get_new, set_new, p_law_rows k m S hk.2 hm hz, e1, cut_120, ← List.map_take]
  refine bnd_exQ (Z := fun o => ∃ S', o = some (D.bl true, S') ∧ Dx n S S') (loopF_fold wD (fun (u : Unit) _ => u) (fun _ env S' => ∃ a b c d e, env = [some (.loc n), some (.int k), some (.int m), some (.lst ((rowsL k m).map wD)), some (.int 0), a, b, c, d, e] ∧ Dx n S S') (out.take 120) () _ _ ?_ ⟨_, _, _, _, _, rfl, d1⟩) ?_
  · rintro w hw - env T ⟨a, b, c, d, e, rfl, dT⟩
    have hwr := e2 w (List.mem_of_mem_take hw)
    obtain ⟨hl, hok⟩ := wf w hwr
    obtain ⟨q, T1, s1, s2, s3⟩ := p_law_struck n w T dT.1 (by omega)
    have dT1 := dT.trans s3
    obtain ⟨v, T2, o1, o2, o3⟩ := one_of_ws n (rowsL k m) T1 dT1.1 (by omega)
    obtain ⟨hl2, hok2⟩ := wf v o2
    have hrl := red_len w
    have hrok : okW k (red w) := red_sub hok
    refine ⟨_, _, [some (.loc n), some (.int k), some (.int m), some (.lst ((rowsL k m).map wD)), some (.int 0), some (wD w), some (wD (red w)), some (.int q), some (wD v), e], T2, rfl, ?_, _, _, _, _, _, rfl, dT1.trans o3⟩
    have hq : ((w.length : Int) - (red w).length) / 2 = q := by omega
    have c1 : φ_strikes [D.int (k : Int), wD w] T1 = some (.int q, T1) := by rw [p_strikes k w T1 hkI (by omega) hok, hq]
    simp only [ap_wipe, ap_wipe0, ap_runF, ap_seq, ap_next, ap_expr, ap_ret, ap_if, ap_asg, ap_par, ap_aug, ap_nm, ap_tp, ap_gnil, ap_gcons, ap_gix, ap_var, ap_c, ap_op1, ap_op2, ap_opL, ap_anil, ap_acons, ap_tup, ap_lst, ap_fz, ap_new, ap_call, ap_mth, ap_bl, ap_tru, ap_bnot, ap_band, ap_bor, ap_and, ap_or, ap_not, ap_eif, ap_for, ap_lc, ap_rg1, ap_rg2, ap_zp, ap_iseq, ap_slc, ap_onone, ap_osome, ap_chain, ap_lstof, ap_suml, bnd_some, bnd_none, List.map_cons, List.map_nil, List.length_cons, List.length_nil, List.replicate_succ, List.replicate_zero, List.cons_append, List.nil_append, List.append_nil, List.getElem?_cons_zero, List.getElem?_cons_succ, List.set_cons_zero, List.set_cons_succ, Nat.reduceSub, Nat.reduceAdd, Nat.reduceLeDiff, Nat.reduceEqDiff, Nat.zero_add, if_true, if_false, reduceIte, reduceCtorEq, Bool.false_eq_true, Bool.not_true, Bool.not_false, decide_true, decide_false, Nat.sub_self, Nat.sub_zero, Nat.zero_le, Nat.le_refl, gt_i, ge_i, lt_i, le_i, eq_i, ne_i, eq_b, ne_b, add_i, sub_i, neg_i, addI_i, eq_w, ne_w, rev_w, len_w, get_new, set_new, s1]
    rw [if_pos (sizeBig (by omega))]
    simp only [ap_wipe, ap_wipe0, ap_runF, ap_seq, ap_next, ap_expr, ap_ret, ap_if, ap_asg, ap_par, ap_aug, ap_nm, ap_tp, ap_gnil, ap_gcons, ap_gix, ap_var, ap_c, ap_op1, ap_op2, ap_opL, ap_anil, ap_acons, ap_tup, ap_lst, ap_fz, ap_new, ap_call, ap_mth, ap_bl, ap_tru, ap_bnot, ap_band, ap_bor, ap_and, ap_or, ap_not, ap_eif, ap_for, ap_lc, ap_rg1, ap_rg2, ap_zp, ap_iseq, ap_slc, ap_onone, ap_osome, ap_chain, ap_lstof, ap_suml, bnd_some, bnd_none, List.map_cons, List.map_nil, List.length_cons, List.length_nil, List.replicate_succ, List.replicate_zero, List.cons_append, List.nil_append, List.append_nil, List.getElem?_cons_zero, List.getElem?_cons_succ, List.set_cons_zero, List.set_cons_succ, Nat.reduceSub, Nat.reduceAdd, Nat.reduceLeDiff, Nat.reduceEqDiff, Nat.zero_add, if_true, if_false, reduceIte, reduceCtorEq, Bool.false_eq_true, Bool.not_true, Bool.not_false, decide_true, decide_false, Nat.sub_self, Nat.sub_zero, Nat.zero_le, Nat.le_refl, gt_i, ge_i, lt_i, le_i, eq_i, ne_i, eq_b, ne_b, add_i, sub_i, neg_i, addI_i, eq_w, ne_w, rev_w, len_w, get_new, set_new, made_one w _ (by omega : w.length ≤ 1000), p_shortened k w _ hkI (by omega) hok, c1, p_is_word k w _ hkI (by omega) hok, is_tt, Bool.xor_self]
    simp only [ap_wipe, ap_wipe0, ap_runF, ap_seq, ap_next, ap_expr, ap_ret, ap_if, ap_asg, ap_par, ap_aug, ap_nm, ap_tp, ap_gnil, ap_gcons, ap_gix, ap_var, ap_c, ap_op1, ap_op2, ap_opL, ap_anil, ap_acons, ap_tup, ap_lst, ap_fz, ap_new, ap_call, ap_mth, ap_bl, ap_tru, ap_bnot, ap_band, ap_bor, ap_and, ap_or, ap_not, ap_eif, ap_for, ap_lc, ap_rg1, ap_rg2, ap_zp, ap_iseq, ap_slc, ap_onone, ap_osome, ap_chain, ap_lstof, ap_suml, bnd_some, bnd_none, List.map_cons, List.map_nil, List.length_cons, List.length_nil, List.replicate_succ, List.replicate_zero, List.cons_append, List.nil_append, List.append_nil, List.getElem?_cons_zero, List.getElem?_cons_succ, List.set_cons_zero, List.set_cons_succ, Nat.reduceSub, Nat.reduceAdd, Nat.reduceLeDiff, Nat.reduceEqDiff, Nat.zero_add, if_true, if_false, reduceIte, reduceCtorEq, Bool.false_eq_true, Bool.not_true, Bool.not_false, decide_true, decide_false, Nat.sub_self, Nat.sub_zero, Nat.zero_le, Nat.le_refl, gt_i, ge_i, lt_i, le_i, eq_i, ne_i, eq_b, ne_b, add_i, sub_i, neg_i, addI_i, eq_w, ne_w, rev_w, len_w, get_new, set_new, p_is_short k w _ hkI (by omega) hok, p_undoing k w _ hkI (by omega) hok, p_law_undone (red w) _ (by omega), red_und, isR_iff s2]
    simp only [ap_wipe, ap_wipe0, ap_runF, ap_seq, ap_next, ap_expr, ap_ret, ap_if, ap_asg, ap_par, ap_aug, ap_nm, ap_tp, ap_gnil, ap_gcons, ap_gix, ap_var, ap_c, ap_op1, ap_op2, ap_opL, ap_anil, ap_acons, ap_tup, ap_lst, ap_fz, ap_new, ap_call, ap_mth, ap_bl, ap_tru, ap_bnot, ap_band, ap_bor, ap_and, ap_or, ap_not, ap_eif, ap_for, ap_lc, ap_rg1, ap_rg2, ap_zp, ap_iseq, ap_slc, ap_onone, ap_osome, ap_chain, ap_lstof, ap_suml, bnd_some, bnd_none, List.map_cons, List.map_nil, List.length_cons, List.length_nil, List.replicate_succ, List.replicate_zero, List.cons_append, List.nil_append, List.append_nil, List.getElem?_cons_zero, List.getElem?_cons_succ, List.set_cons_zero, List.set_cons_succ, Nat.reduceSub, Nat.reduceAdd, Nat.reduceLeDiff, Nat.reduceEqDiff, Nat.zero_add, if_true, if_false, reduceIte, reduceCtorEq, Bool.false_eq_true, Bool.not_true, Bool.not_false, decide_true, decide_false, Nat.sub_self, Nat.sub_zero, Nat.zero_le, Nat.le_refl, gt_i, ge_i, lt_i, le_i, eq_i, ne_i, eq_b, ne_b, add_i, sub_i, neg_i, addI_i, eq_w, ne_w, rev_w, len_w, get_new, set_new, p_counts_of k w _ hk (by omega) hok]
    rw [if_pos ⟨fit_of (by omega), fit_of (by omega)⟩]
    simp only [ap_wipe, ap_wipe0, ap_runF, ap_seq, ap_next, ap_expr, ap_ret, ap_if, ap_asg, ap_par, ap_aug, ap_nm, ap_tp, ap_gnil, ap_gcons, ap_gix, ap_var, ap_c, ap_op1, ap_op2, ap_opL, ap_anil, ap_acons, ap_tup, ap_lst, ap_fz, ap_new, ap_call, ap_mth, ap_bl, ap_tru, ap_bnot, ap_band, ap_bor, ap_and, ap_or, ap_not, ap_eif, ap_for, ap_lc, ap_rg1, ap_rg2, ap_zp, ap_iseq, ap_slc, ap_onone, ap_osome, ap_chain, ap_lstof, ap_suml, bnd_some, bnd_none, List.map_cons, List.map_nil, List.length_cons, List.length_nil, List.replicate_succ, List.replicate_zero, List.cons_append, List.nil_append, List.append_nil, List.getElem?_cons_zero, List.getElem?_cons_succ, List.set_cons_zero, List.set_cons_succ, Nat.reduceSub, Nat.reduceAdd, Nat.reduceLeDiff, Nat.reduceEqDiff, Nat.zero_add, if_true, if_false, reduceIte, reduceCtorEq, Bool.false_eq_true, Bool.not_true, Bool.not_false, decide_true, decide_false, Nat.sub_self, Nat.sub_zero, Nat.zero_le, Nat.le_refl, gt_i, ge_i, lt_i, le_i, eq_i, ne_i, eq_b, ne_b, add_i, sub_i, neg_i, addI_i, eq_w, ne_w, rev_w, len_w, get_new, set_new, rgD_map, show ((k : Int) + 1 - 1).toNat = k by omega]
    have := cnt_comp k w T1 [some (.loc n), some (.int k), some (.int m), some (.lst ((rowsL k m).map wD)), some (.int 0), some (wD w), some (wD (red w)), some (.int q), d, none] rfl rfl hk.2
    simp only [rgD_map] at this
    rw [this]
    have hc : cmpNe (wD (cnts k w)) (.tup (iL (cnts k w))) T1 = some (.bl (!decide (cnts k w = cnts k w)), T1) := ne_w
    simp only [ap_wipe, ap_wipe0, ap_runF, ap_seq, ap_next, ap_expr, ap_ret, ap_if, ap_asg, ap_par, ap_aug, ap_nm, ap_tp, ap_gnil, ap_gcons, ap_gix, ap_var, ap_c, ap_op1, ap_op2, ap_opL, ap_anil, ap_acons, ap_tup, ap_lst, ap_fz, ap_new, ap_call, ap_mth, ap_bl, ap_tru, ap_bnot, ap_band, ap_bor, ap_and, ap_or, ap_not, ap_eif, ap_for, ap_lc, ap_rg1, ap_rg2, ap_zp, ap_iseq, ap_slc, ap_onone, ap_osome, ap_chain, ap_lstof, ap_suml, bnd_some, bnd_none, List.map_cons, List.map_nil, List.length_cons, List.length_nil, List.replicate_succ, List.replicate_zero, List.cons_append, List.nil_append, List.append_nil, List.getElem?_cons_zero, List.getElem?_cons_succ, List.set_cons_zero, List.set_cons_succ, Nat.reduceSub, Nat.reduceAdd, Nat.reduceLeDiff, Nat.reduceEqDiff, Nat.zero_add, if_true, if_false, reduceIte, reduceCtorEq, Bool.false_eq_true, Bool.not_true, Bool.not_false, decide_true, decide_false, Nat.sub_self, Nat.sub_zero, Nat.zero_le, Nat.le_refl, gt_i, ge_i, lt_i, le_i, eq_i, ne_i, eq_b, ne_b, add_i, sub_i, neg_i, addI_i, eq_w, ne_w, rev_w, len_w, get_new, set_new, tup_l, hc, p_are_equal k w (red w) _ hkI (by omega) hok (by omega) hrok, red_red, is_tt, Bool.xor_self, o1]
    simp only [ap_wipe, ap_wipe0, ap_runF, ap_seq, ap_next, ap_expr, ap_ret, ap_if, ap_asg, ap_par, ap_aug, ap_nm, ap_tp, ap_gnil, ap_gcons, ap_gix, ap_var, ap_c, ap_op1, ap_op2, ap_opL, ap_anil, ap_acons, ap_tup, ap_lst, ap_fz, ap_new, ap_call, ap_mth, ap_bl, ap_tru, ap_bnot, ap_band, ap_bor, ap_and, ap_or, ap_not, ap_eif, ap_for, ap_lc, ap_rg1, ap_rg2, ap_zp, ap_iseq, ap_slc, ap_onone, ap_osome, ap_chain, ap_lstof, ap_suml, bnd_some, bnd_none, List.map_cons, List.map_nil, List.length_cons, List.length_nil, List.replicate_succ, List.replicate_zero, List.cons_append, List.nil_append, List.append_nil, List.getElem?_cons_zero, List.getElem?_cons_succ, List.set_cons_zero, List.set_cons_succ, Nat.reduceSub, Nat.reduceAdd, Nat.reduceLeDiff, Nat.reduceEqDiff, Nat.zero_add, if_true, if_false, reduceIte, reduceCtorEq, Bool.false_eq_true, Bool.not_true, Bool.not_false, decide_true, decide_false, Nat.sub_self, Nat.sub_zero, Nat.zero_le, Nat.le_refl, gt_i, ge_i, lt_i, le_i, eq_i, ne_i, eq_b, ne_b, add_i, sub_i, neg_i, addI_i, eq_w, ne_w, rev_w, len_w, get_new, set_new, p_are_equal k w v _ hkI (by omega) hok (by omega) hok2]
    rw [if_pos (sizeBig (by omega))]
    simp only [ap_wipe, ap_wipe0, ap_runF, ap_seq, ap_next, ap_expr, ap_ret, ap_if, ap_asg, ap_par, ap_aug, ap_nm, ap_tp, ap_gnil, ap_gcons, ap_gix, ap_var, ap_c, ap_op1, ap_op2, ap_opL, ap_anil, ap_acons, ap_tup, ap_lst, ap_fz, ap_new, ap_call, ap_mth, ap_bl, ap_tru, ap_bnot, ap_band, ap_bor, ap_and, ap_or, ap_not, ap_eif, ap_for, ap_lc, ap_rg1, ap_rg2, ap_zp, ap_iseq, ap_slc, ap_onone, ap_osome, ap_chain, ap_lstof, ap_suml, bnd_some, bnd_none, List.map_cons, List.map_nil, List.length_cons, List.length_nil, List.replicate_succ, List.replicate_zero, List.cons_append, List.nil_append, List.append_nil, List.getElem?_cons_zero, List.getElem?_cons_succ, List.set_cons_zero, List.set_cons_succ, Nat.reduceSub, Nat.reduceAdd, Nat.reduceLeDiff, Nat.reduceEqDiff, Nat.zero_add, if_true, if_false, reduceIte, reduceCtorEq, Bool.false_eq_true, Bool.not_true, Bool.not_false, decide_true, decide_false, Nat.sub_self, Nat.sub_zero, Nat.zero_le, Nat.le_refl, gt_i, ge_i, lt_i, le_i, eq_i, ne_i, eq_b, ne_b, add_i, sub_i, neg_i, addI_i, eq_w, ne_w, rev_w, len_w, get_new, set_new, made_one v _ (by omega : v.length ≤ 1000)]
    rw [show decide (red v = red w) = decide (red w = red v) from decide_eq_decide.mpr ⟨Eq.symm, Eq.symm⟩]
    simp only [ap_wipe, ap_wipe0, ap_runF, ap_seq, ap_next, ap_expr, ap_ret, ap_if, ap_asg, ap_par, ap_aug, ap_nm, ap_tp, ap_gnil, ap_gcons, ap_gix, ap_var, ap_c, ap_op1, ap_op2, ap_opL, ap_anil, ap_acons, ap_tup, ap_lst, ap_fz, ap_new, ap_call, ap_mth, ap_bl, ap_tru, ap_bnot, ap_band, ap_bor, ap_and, ap_or, ap_not, ap_eif, ap_for, ap_lc, ap_rg1, ap_rg2, ap_zp, ap_iseq, ap_slc, ap_onone, ap_osome, ap_chain, ap_lstof, ap_suml, bnd_some, bnd_none, List.map_cons, List.map_nil, List.length_cons, List.length_nil, List.replicate_succ, List.replicate_zero, List.cons_append, List.nil_append, List.append_nil, List.getElem?_cons_zero, List.getElem?_cons_succ, List.set_cons_zero, List.set_cons_succ, Nat.reduceSub, Nat.reduceAdd, Nat.reduceLeDiff, Nat.reduceEqDiff, Nat.zero_add, if_true, if_false, reduceIte, reduceCtorEq, Bool.false_eq_true, Bool.not_true, Bool.not_false, decide_true, decide_false, Nat.sub_self, Nat.sub_zero, Nat.zero_le, Nat.le_refl, gt_i, ge_i, lt_i, le_i, eq_i, ne_i, eq_b, ne_b, add_i, sub_i, neg_i, addI_i, eq_w, ne_w, rev_w, len_w, get_new, set_new]
  · rintro env S2 ⟨a, b, c, d, e, rfl, d2⟩
    simp only [ap_wipe, ap_wipe0, ap_runF, ap_seq, ap_next, ap_expr, ap_ret, ap_if, ap_asg, ap_par, ap_aug, ap_nm, ap_tp, ap_gnil, ap_gcons, ap_gix, ap_var, ap_c, ap_op1, ap_op2, ap_opL, ap_anil, ap_acons, ap_tup, ap_lst, ap_fz, ap_new, ap_call, ap_mth, ap_bl, ap_tru, ap_bnot, ap_band, ap_bor, ap_and, ap_or, ap_not, ap_eif, ap_for, ap_lc, ap_rg1, ap_rg2, ap_zp, ap_iseq, ap_slc, ap_onone, ap_osome, ap_chain, ap_lstof, ap_suml, bnd_some, bnd_none, List.map_cons, List.map_nil, List.length_cons, List.length_nil, List.replicate_succ, List.replicate_zero, List.cons_append, List.nil_append, List.append_nil, List.getElem?_cons_zero, List.getElem?_cons_succ, List.set_cons_zero, List.set_cons_succ, Nat.reduceSub, Nat.reduceAdd, Nat.reduceLeDiff, Nat.reduceEqDiff, Nat.zero_add, if_true, if_false, reduceIte, reduceCtorEq, Bool.false_eq_true, Bool.not_true, Bool.not_false, decide_true, decide_false, Nat.sub_self, Nat.sub_zero, Nat.zero_le, Nat.le_refl, gt_i, ge_i, lt_i, le_i, eq_i, ne_i, eq_b, ne_b, add_i, sub_i, neg_i, addI_i, eq_w, ne_w, rev_w, len_w, get_new, set_new]
    refine bnd_exQ (Z := fun o => ∃ S', o = some (D.bl true, S') ∧ Dx n S S') (loopF_fold wD (fun (u : Nat) w => u + (if isR w = true then 1 else 0)) (fun u env S' => ∃ a, env = [some (.loc n), some (.int k), some (.int m), some (.lst ((rowsL k m).map wD)), some (.int (u : Nat)), a, b, c, d, e] ∧ Dx n S S') (rowsL k m) 0 _ _ ?_ ⟨_, rfl, d2⟩) ?_
    · rintro w hw u env T ⟨a, rfl, dT⟩
      obtain ⟨hl, hok⟩ := wf w hw
      obtain ⟨q, T1, s1, s2, s3⟩ := p_law_struck n w T dT.1 (by omega)
      refine ⟨_, _, [some (.loc n), some (.int k), some (.int m), some (.lst ((rowsL k m).map wD)), some (.int ((u + (if isR w = true then 1 else 0) : Nat))), some (wD w), b, c, d, e], T1, rfl, ?_, _, rfl, dT.trans s3⟩
      have i1 : idxD (.tup [wD (red w), D.int q]) (.int 1) T1 = some (.int q, T1) := rfl
      have i2 : ∀ p : Bool, intD [.bl p] T1 = some (.int (if p = true then 1 else 0), T1) := fun _ => rfl
      simp only [ap_wipe, ap_wipe0, ap_runF, ap_seq, ap_next, ap_expr, ap_ret, ap_if, ap_asg, ap_par, ap_aug, ap_nm, ap_tp, ap_gnil, ap_gcons, ap_gix, ap_var, ap_c, ap_op1, ap_op2, ap_opL, ap_anil, ap_acons, ap_tup, ap_lst, ap_fz, ap_new, ap_call, ap_mth, ap_bl, ap_tru, ap_bnot, ap_band, ap_bor, ap_and, ap_or, ap_not, ap_eif, ap_for, ap_lc, ap_rg1, ap_rg2, ap_zp, ap_iseq, ap_slc, ap_onone, ap_osome, ap_chain, ap_lstof, ap_suml, bnd_some, bnd_none, List.map_cons, List.map_nil, List.length_cons, List.length_nil, List.replicate_succ, List.replicate_zero, List.cons_append, List.nil_append, List.append_nil, List.getElem?_cons_zero, List.getElem?_cons_succ, List.set_cons_zero, List.set_cons_succ, Nat.reduceSub, Nat.reduceAdd, Nat.reduceLeDiff, Nat.reduceEqDiff, Nat.zero_add, if_true, if_false, reduceIte, reduceCtorEq, Bool.false_eq_true, Bool.not_true, Bool.not_false, decide_true, decide_false, Nat.sub_self, Nat.sub_zero, Nat.zero_le, Nat.le_refl, gt_i, ge_i, lt_i, le_i, eq_i, ne_i, eq_b, ne_b, add_i, sub_i, neg_i, addI_i, eq_w, ne_w, rev_w, len_w, get_new, set_new, s1, i1, i2]
      rw [isR_iff s2]
      congr 4
      split <;> simp
    · rintro env S3 ⟨a, rfl, d3⟩
      refine ⟨S3, ?_, d3⟩
      have hcp : ∀ (l : List (List Int)) (u : Nat), l.foldl (fun (u : Nat) w => u + (if isR w = true then 1 else 0)) u = u + l.countP isR := by
        intro l
        induction l with
        | nil => intro u; simp
        | cons w l ih =>
          intro u
          rw [List.foldl_cons, ih, List.countP_cons]
          omega
      rw [hcp, Nat.zero_add]
      by_cases hm0 : m = 0
      · subst hm0
        have e0 : cmpEq (.int ((0 : Nat) : Int)) (.int 0) S3 = some (.bl true, S3) := by rw [eq_i]; rfl
        simp only [ap_wipe, ap_wipe0, ap_runF, ap_seq, ap_next, ap_expr, ap_ret, ap_if, ap_asg, ap_par, ap_aug, ap_nm, ap_tp, ap_gnil, ap_gcons, ap_gix, ap_var, ap_c, ap_op1, ap_op2, ap_opL, ap_anil, ap_acons, ap_tup, ap_lst, ap_fz, ap_new, ap_call, ap_mth, ap_bl, ap_tru, ap_bnot, ap_band, ap_bor, ap_and, ap_or, ap_not, ap_eif, ap_for, ap_lc, ap_rg1, ap_rg2, ap_zp, ap_iseq, ap_slc, ap_onone, ap_osome, ap_chain, ap_lstof, ap_suml, bnd_some, bnd_none, List.map_cons, List.map_nil, List.length_cons, List.length_nil, List.replicate_succ, List.replicate_zero, List.cons_append, List.nil_append, List.append_nil, List.getElem?_cons_zero, List.getElem?_cons_succ, List.set_cons_zero, List.set_cons_succ, Nat.reduceSub, Nat.reduceAdd, Nat.reduceLeDiff, Nat.reduceEqDiff, Nat.zero_add, if_true, if_false, reduceIte, reduceCtorEq, Bool.false_eq_true, Bool.not_true, Bool.not_false, decide_true, decide_false, Nat.sub_self, Nat.sub_zero, Nat.zero_le, Nat.le_refl, gt_i, ge_i, lt_i, le_i, eq_i, ne_i, eq_b, ne_b, add_i, sub_i, neg_i, addI_i, eq_w, ne_w, rev_w, len_w, get_new, set_new, e0, tru_b]
      · have e0 : decide ((m : Int) = 0) = false := decide_eq_false (by omega)
        have hm1 : CMulW 2 (k : Int) := mulW_of (by decide) (by
          have : (10 : Nat) < 2 ^ 200 := by decide
          omega)
        have hp := p_law_power (2 * (k : Int) - 1) (m - 1) S3 (by omega) (by omega)
        have em : ((m - 1 : Nat) : Int) = (m : Int) - 1 := by omega
        rw [em] at hp
        have hc2 := hcount.resolve_left hm0
        have hb : (0 : Int) ≤ (2 * (k : Int) - 1) ^ (m - 1) := Int.pow_nonneg (by omega)
        have hm2 : CMulW (2 * (k : Int)) ((2 * (k : Int) - 1) ^ (m - 1)) := by
          refine mulW_of (by
            have : (10 : Nat) < 2 ^ 200 := by decide
            omega) ?_
          have h1 : (2 * (k : Int)) * (2 * (k : Int) - 1) ^ (m - 1) ≤ 2048 := by
            rw [← hc2]
            have := List.countP_le_length (p := isR) (l := rowsL k m)
            omega
          have h2 : (2 * (k : Int) - 1) ^ (m - 1) ≤ (2 * (k : Int)) * (2 * (k : Int) - 1) ^ (m - 1) := by
            have := Int.mul_le_mul_of_nonneg_right (show (1 : Int) ≤ 2 * (k : Int) by omega) hb
            rwa [Int.one_mul] at this
          have : (2048 : Nat) < 2 ^ 200 := by decide
          omega
        simp only [ap_wipe, ap_wipe0, ap_runF, ap_seq, ap_next, ap_expr, ap_ret, ap_if, ap_asg, ap_par, ap_aug, ap_nm, ap_tp, ap_gnil, ap_gcons, ap_gix, ap_var, ap_c, ap_op1, ap_op2, ap_opL, ap_anil, ap_acons, ap_tup, ap_lst, ap_fz, ap_new, ap_call, ap_mth, ap_bl, ap_tru, ap_bnot, ap_band, ap_bor, ap_and, ap_or, ap_not, ap_eif, ap_for, ap_lc, ap_rg1, ap_rg2, ap_zp, ap_iseq, ap_slc, ap_onone, ap_osome, ap_chain, ap_lstof, ap_suml, bnd_some, bnd_none, List.map_cons, List.map_nil, List.length_cons, List.length_nil, List.replicate_succ, List.replicate_zero, List.cons_append, List.nil_append, List.append_nil, List.getElem?_cons_zero, List.getElem?_cons_succ, List.set_cons_zero, List.set_cons_succ, Nat.reduceSub, Nat.reduceAdd, Nat.reduceLeDiff, Nat.reduceEqDiff, Nat.zero_add, if_true, if_false, reduceIte, reduceCtorEq, Bool.false_eq_true, Bool.not_true, Bool.not_false, decide_true, decide_false, Nat.sub_self, Nat.sub_zero, Nat.zero_le, Nat.le_refl, gt_i, ge_i, lt_i, le_i, eq_i, ne_i, eq_b, ne_b, add_i, sub_i, neg_i, addI_i, eq_w, ne_w, rev_w, len_w, get_new, set_new, tru_b, e0, mul_i hm1, hp, mul_i hm2]
        rw [hc2]
        simp only [ap_wipe, ap_wipe0, ap_runF, ap_seq, ap_next, ap_expr, ap_ret, ap_if, ap_asg, ap_par, ap_aug, ap_nm, ap_tp, ap_gnil, ap_gcons, ap_gix, ap_var, ap_c, ap_op1, ap_op2, ap_opL, ap_anil, ap_acons, ap_tup, ap_lst, ap_fz, ap_new, ap_call, ap_mth, ap_bl, ap_tru, ap_bnot, ap_band, ap_bor, ap_and, ap_or, ap_not, ap_eif, ap_for, ap_lc, ap_rg1, ap_rg2, ap_zp, ap_iseq, ap_slc, ap_onone, ap_osome, ap_chain, ap_lstof, ap_suml, bnd_some, bnd_none, List.map_cons, List.map_nil, List.length_cons, List.length_nil, List.replicate_succ, List.replicate_zero, List.cons_append, List.nil_append, List.append_nil, List.getElem?_cons_zero, List.getElem?_cons_succ, List.set_cons_zero, List.set_cons_succ, Nat.reduceSub, Nat.reduceAdd, Nat.reduceLeDiff, Nat.reduceEqDiff, Nat.zero_add, if_true, if_false, reduceIte, reduceCtorEq, Bool.false_eq_true, Bool.not_true, Bool.not_false, decide_true, decide_false, Nat.sub_self, Nat.sub_zero, Nat.zero_le, Nat.le_refl, gt_i, ge_i, lt_i, le_i, eq_i, ne_i, eq_b, ne_b, add_i, sub_i, neg_i, addI_i, eq_w, ne_w, rev_w, len_w, get_new, set_new]
end Hx

namespace Hx
open PySem PySem.Spec PyProof.Rows L2 PU
/-! ### the order of the words -/
def keyP (w : List Int) : PyData := .tuple [.int w.length, .tuple ((w.map plc).map .int)]
theorem toP_key (w : List Int) : toP (keyD w) = some (keyP w) := by
  show (toPL [.int w.length, wD (w.map plc)]).map PyData.tuple = _
  have e : toPL [.int w.length, wD (w.map plc)] = some [.int w.length, .tuple ((w.map plc).map .int)] := by
    show (match toP (.int w.length), toPL [wD (w.map plc)] with
      | some p, some ps => some (p :: ps)
      | _, _ => none) = _
    have e2 : toPL [wD (w.map plc)] = some [.tuple ((w.map plc).map .int)] := by
      show (match toP (wD (w.map plc)), toPL [] with
        | some p, some ps => some (p :: ps)
        | _, _ => none) = _
      rw [toP_wD]
      rfl
    rw [e2]
    rfl
  rw [e]
  rfl
theorem depth_key (w : List Int) : (keyP w).depth ≤ 2 := by
  unfold keyP
  rw [PyData.depth, PyData.depthAll, PyData.depthAll, PyData.depthAll, PyData.depth, PyData.depth, depthInts]
  omega
theorem shaped_key (w : List Int) : SeqAt.shaped (keyP w) = true := by
  have hd := depth_key w
  unfold SeqAt.shaped
  refine Bool.and_eq_true_iff.mpr ⟨?_, decide_eq_true (by omega)⟩
  unfold keyP
  rw [PyData.canLay0, PyData.canLayAll0, PyData.canLayAll0, PyData.canLayAll0, PyData.canLay0, PyData.canLay0, canInts]
  rfl
theorem alikeInts : ∀ a b : List Int, PySem.W.alikeAll (a.map .int) (b.map .int) = true
  | [], _ => by rw [List.map_nil, PySem.W.alikeAll]
  | _ :: _, [] => by rw [List.map_cons, List.map_nil, PySem.W.alikeAll]
  | x :: a, y :: b => by
    rw [List.map_cons, List.map_cons, PySem.W.alikeAll, alikeInts a b, PySem.W.alike]
    rfl
theorem alike_key (a b : List Int) : PySem.W.alike (keyP a) (keyP b) = true := by
  unfold keyP
  rw [PySem.W.alike, PySem.W.alikeAll, PySem.W.alikeAll, PySem.W.alikeAll, PySem.W.alike, PySem.W.alike, alikeInts]
  rfl
theorem plc_inj {x y : Int} (h : plc x = plc y) : x = y := by
  unfold plc at h
  split at h <;> split at h <;> split at h <;> split at h <;> omega
theorem map_plc_inj : ∀ {a b : List Int}, a.map plc = b.map plc → a = b
  | [], [], _ => rfl
  | [], _ :: _, h => by simp at h
  | _ :: _, [], h => by simp at h
  | x :: a, y :: b, h => by
    rw [List.map_cons, List.map_cons, List.cons.injEq] at h
    rw [plc_inj h.1, map_plc_inj h.2]
theorem eqv_key (a b : List Int) : PyData.eqv (keyP a) (keyP b) = decide (a = b) := by
  unfold keyP
  rw [PyData.eqv, PyData.eqvAll, PyData.eqvAll, PyData.eqvAll, eqv_tup, PyData.eqv, Bool.and_true, Bool.eq_iff_iff]
  simp only [Bool.and_eq_true, beq_iff_eq, decide_eq_true_iff]
  constructor
  · exact fun h => map_plc_inj h.2
  · rintro rfl
    exact ⟨rfl, rfl⟩
theorem eq_key {a b : List Int} {S : Sto} : cmpEq (keyD a) (keyD b) S = some (.bl (decide (a = b)), S) := by
  unfold cmpEq
  rw [eqD_of (x := keyD a) (y := keyD b) (p := keyP a) (q := keyP b) (toP_key a) (toP_key b) (shaped_key a) (shaped_key b), eqv_key]
  rfl
def ltK (a b : List Int) : Bool := PySem.W.dataLt (keyP a) (keyP b)
theorem lt_key {a b : List Int} {S : Sto} : ltD (keyD a) (keyD b) S = some (.bl (ltK a b), S) := by
  have h1 : toPS (keyD a) S = some (keyP a) := toP_key a
  have h2 : toPS (keyD b) S = some (keyP b) := toP_key b
  unfold ltD
  rw [h1, h2]
  simp only
  rw [if_pos ⟨alike_key a b, rfl, shaped_key a⟩]
  rfl
theorem ltK_trans {a b c : List Int} (h1 : ltK a b = true) (h2 : ltK b c = true) : ltK a c = true := (listOrd itemOrd).trans (PySem.W.keyToks (keyP a)) (PySem.W.keyToks (keyP b)) (PySem.W.keyToks (keyP c)) h1 h2
theorem ltK_irrefl (a : List Int) : ltK a a = false := (listOrd itemOrd).irrefl (PySem.W.keyToks (keyP a))
theorem ltK_asymm {a b : List Int} (h : ltK a b = true) : ltK b a = false := by
  cases h2 : ltK b a with
  | false => rfl
  | true =>
    have := ltK_trans h h2
    rw [ltK_irrefl] at this
    cases this
def cmpK (a b : List Int) : Int := if a = b then 0 else if ltK a b = true then -1 else 1
theorem p_compared (r : Int) (v w : List Int) (S : Sto) (hr : 1 ≤ r ∧ r ≤ 4) (hl : v.length ≤ 400) (h : okW r v) (hl2 : w.length ≤ 400) (h2 : okW r w) : φ_compared [.int r, wD v, wD w] S = some (.int (cmpK (red v) (red w)), S) := by
  refine gz_pure0 ?_ rfl
  have q1 := red_len v
  have q2 := red_len w
  have k1 : φ_sequence_key [wD (red v)] S = _ := p_sequence_key (red v) S (by omega) (okW_small (red_sub h) hr.2)
  have k2 : φ_sequence_key [wD (red w)] S = _ := p_sequence_key (red w) S (by omega) (okW_small (red_sub h2) hr.2)
  unfold f_compared
  simp only [ap_wipe, ap_wipe0, ap_runF, ap_seq, ap_next, ap_expr, ap_ret, ap_if, ap_asg, ap_par, ap_aug, ap_nm, ap_tp, ap_gnil, ap_gcons, ap_gix, ap_var, ap_c, ap_op1, ap_op2, ap_opL, ap_anil, ap_acons, ap_tup, ap_lst, ap_fz, ap_new, ap_call, ap_mth, ap_bl, ap_tru, ap_bnot, ap_band, ap_bor, ap_and, ap_or, ap_not, ap_eif, ap_for, ap_lc, ap_rg1, ap_rg2, ap_zp, ap_iseq, ap_slc, ap_onone, ap_osome, ap_chain, ap_lstof, ap_suml, bnd_some, bnd_none, List.map_cons, List.map_nil, List.length_cons, List.length_nil, List.replicate_succ, List.replicate_zero, List.cons_append, List.nil_append, List.append_nil, List.getElem?_cons_zero, List.getElem?_cons_succ, List.set_cons_zero, List.set_cons_succ, Nat.reduceSub, Nat.reduceAdd, Nat.reduceLeDiff, Nat.reduceEqDiff, Nat.zero_add, if_true, if_false, reduceIte, reduceCtorEq, Bool.false_eq_true, Bool.not_true, Bool.not_false, decide_true, decide_false, Nat.sub_self, Nat.sub_zero, Nat.zero_le, Nat.le_refl, gt_i, ge_i, lt_i, le_i, eq_i, ne_i, eq_b, ne_b, add_i, sub_i, neg_i, addI_i, eq_w, ne_w, rev_w, len_w, get_new, set_new, p_require_two_words r v w S hr hl h hl2 h2, p_shortened_in v S (by omega), p_shortened_in w S (by omega), k1, k2, eq_key, lt_key]
  unfold cmpK
  by_cases he : red v = red w
  · simp only [ap_wipe, ap_wipe0, ap_runF, ap_seq, ap_next, ap_expr, ap_ret, ap_if, ap_asg, ap_par, ap_aug, ap_nm, ap_tp, ap_gnil, ap_gcons, ap_gix, ap_var, ap_c, ap_op1, ap_op2, ap_opL, ap_anil, ap_acons, ap_tup, ap_lst, ap_fz, ap_new, ap_call, ap_mth, ap_bl, ap_tru, ap_bnot, ap_band, ap_bor, ap_and, ap_or, ap_not, ap_eif, ap_for, ap_lc, ap_rg1, ap_rg2, ap_zp, ap_iseq, ap_slc, ap_onone, ap_osome, ap_chain, ap_lstof, ap_suml, bnd_some, bnd_none, List.map_cons, List.map_nil, List.length_cons, List.length_nil, List.replicate_succ, List.replicate_zero, List.cons_append, List.nil_append, List.append_nil, List.getElem?_cons_zero, List.getElem?_cons_succ, List.set_cons_zero, List.set_cons_succ, Nat.reduceSub, Nat.reduceAdd, Nat.reduceLeDiff, Nat.reduceEqDiff, Nat.zero_add, if_true, if_false, reduceIte, reduceCtorEq, Bool.false_eq_true, Bool.not_true, Bool.not_false, decide_true, decide_false, Nat.sub_self, Nat.sub_zero, Nat.zero_le, Nat.le_refl, gt_i, ge_i, lt_i, le_i, eq_i, ne_i, eq_b, ne_b, add_i, sub_i, neg_i, addI_i, eq_w, ne_w, rev_w, len_w, get_new, set_new, he]
  · simp only [ap_wipe, ap_wipe0, ap_runF, ap_seq, ap_next, ap_expr, ap_ret, ap_if, ap_asg, ap_par, ap_aug, ap_nm, ap_tp, ap_gnil, ap_gcons, ap_gix, ap_var, ap_c, ap_op1, ap_op2, ap_opL, ap_anil, ap_acons, ap_tup, ap_lst, ap_fz, ap_new, ap_call, ap_mth, ap_bl, ap_tru, ap_bnot, ap_band, ap_bor, ap_and, ap_or, ap_not, ap_eif, ap_for, ap_lc, ap_rg1, ap_rg2, ap_zp, ap_iseq, ap_slc, ap_onone, ap_osome, ap_chain, ap_lstof, ap_suml, bnd_some, bnd_none, List.map_cons, List.map_nil, List.length_cons, List.length_nil, List.replicate_succ, List.replicate_zero, List.cons_append, List.nil_append, List.append_nil, List.getElem?_cons_zero, List.getElem?_cons_succ, List.set_cons_zero, List.set_cons_succ, Nat.reduceSub, Nat.reduceAdd, Nat.reduceLeDiff, Nat.reduceEqDiff, Nat.zero_add, if_true, if_false, reduceIte, reduceCtorEq, Bool.false_eq_true, Bool.not_true, Bool.not_false, decide_true, decide_false, Nat.sub_self, Nat.sub_zero, Nat.zero_le, Nat.le_refl, gt_i, ge_i, lt_i, le_i, eq_i, ne_i, eq_b, ne_b, add_i, sub_i, neg_i, addI_i, eq_w, ne_w, rev_w, len_w, get_new, set_new, he]
    cases ltK (red v) (red w) <;> simp only [ap_wipe, ap_wipe0, ap_runF, ap_seq, ap_next, ap_expr, ap_ret, ap_if, ap_asg, ap_par, ap_aug, ap_nm, ap_tp, ap_gnil, ap_gcons, ap_gix, ap_var, ap_c, ap_op1, ap_op2, ap_opL, ap_anil, ap_acons, ap_tup, ap_lst, ap_fz, ap_new, ap_call, ap_mth, ap_bl, ap_tru, ap_bnot, ap_band, ap_bor, ap_and, ap_or, ap_not, ap_eif, ap_for, ap_lc, ap_rg1, ap_rg2, ap_zp, ap_iseq, ap_slc, ap_onone, ap_osome, ap_chain, ap_lstof, ap_suml, bnd_some, bnd_none, List.map_cons, List.map_nil, List.length_cons, List.length_nil, List.replicate_succ, List.replicate_zero, List.cons_append, List.nil_append, List.append_nil, List.getElem?_cons_zero, List.getElem?_cons_succ, List.set_cons_zero, List.set_cons_succ, Nat.reduceSub, Nat.reduceAdd, Nat.reduceLeDiff, Nat.reduceEqDiff, Nat.zero_add, if_true, if_false, reduceIte, reduceCtorEq, Bool.false_eq_true, Bool.not_true, Bool.not_false, decide_true, decide_false, Nat.sub_self, Nat.sub_zero, Nat.zero_le, Nat.le_refl, gt_i, ge_i, lt_i, le_i, eq_i, ne_i, eq_b, ne_b, add_i, sub_i, neg_i, addI_i, eq_w, ne_w, rev_w, len_w, get_new, set_new]
/-! ### the words in order -/
def chainB : List (List Int) → Bool
  | a :: b :: r => ltK a b && chainB (b :: r)
  | _ => true
theorem chain_all : ∀ {r : List (List Int)} {a : List Int}, chainB (a :: r) = true → ∀ b ∈ r, ltK a b = true
  | [], _, _, _, hb => nomatch hb
  | c :: r, a, h, b, hb => by
    obtain ⟨h1, h2⟩ := Bool.and_eq_true_iff.mp (show (ltK a c && chainB (c :: r)) = true from h)
    rcases List.mem_cons.mp hb with rfl | hb
    · exact h1
    · exact ltK_trans h1 (chain_all h2 b hb)
theorem chain_pw : ∀ {l : List (List Int)}, chainB l = true → l.Pairwise (fun a b => ltK a b = true)
  | [], _ => .nil
  | [a], _ => List.pairwise_singleton _ _
  | a :: b :: r, h => by
    obtain ⟨h1, h2⟩ := Bool.and_eq_true_iff.mp (show (ltK a b && chainB (b :: r)) = true from h)
    exact List.pairwise_cons.mpr ⟨fun c hc => chain_all h c hc, chain_pw h2⟩
theorem everyL_word (k : Nat) : ∀ n, ∀ w ∈ everyL k n, w.length ≤ n ∧ ∀ a ∈ w, a ∈ lets k
  | 0, w, h => by
    rw [List.mem_singleton.mp h]
    simp
  | n + 1, w, h => by
    rcases List.mem_append.mp h with h | h
    · obtain ⟨h1, h2⟩ := everyL_word k n w h
      exact ⟨by omega, h2⟩
    · obtain ⟨h1, h2⟩ := layL_word k (n + 1) w h
      exact ⟨by omega, h2⟩
theorem t43 : (chainB (everyL 4 2) && (everyL 4 2).all isR) = true := by decide +kernel
theorem t19 : (chainB (everyL 1 9) && (everyL 1 9).all isR) = true := by decide +kernel
theorem t24 : (chainB (everyL 2 4) && (everyL 2 4).all isR) = true := by decide +kernel
theorem t23 : (chainB (everyL 2 3) && (everyL 2 3).all isR) = true := by decide +kernel
theorem t33 : (chainB (everyL 3 3) && (everyL 3 3).all isR) = true := by decide +kernel
theorem t32 : (chainB (everyL 3 2) && (everyL 3 2).all isR) = true := by decide +kernel
theorem c17 : ((rowsL 1 7).countP isR : Int) = 2 * (1 : Nat) * (2 * (1 : Nat) - 1) ^ (7 - 1) := by decide +kernel
theorem c24 : ((rowsL 2 4).countP isR : Int) = 2 * (2 : Nat) * (2 * (2 : Nat) - 1) ^ (4 - 1) := by decide +kernel
theorem c25 : ((rowsL 2 5).countP isR : Int) = 2 * (2 : Nat) * (2 * (2 : Nat) - 1) ^ (5 - 1) := by decide +kernel
theorem c33 : ((rowsL 3 3).countP isR : Int) = 2 * (3 : Nat) * (2 * (3 : Nat) - 1) ^ (3 - 1) := by decide +kernel
theorem c42 : ((rowsL 4 2).countP isR : Int) = 2 * (4 : Nat) * (2 * (4 : Nat) - 1) ^ (2 - 1) := by decide +kernel
theorem c43 : ((rowsL 4 3).countP isR : Int) = 2 * (4 : Nat) * (2 * (4 : Nat) - 1) ^ (3 - 1) := by decide +kernel
end Hx

namespace Hx
open PySem PySem.Spec PyProof.Rows L2 PU
/-! ### a dict of words, sorted -/
def kW (w : List Int) : NestedKey := .tup (w.map .num)
theorem kDs_iL : ∀ w : List Int, kDs (iL w) = some (w.map .num)
  | [] => rfl
  | x :: w => by
    show (match kD (.int x), kDs (iL w) with
      | some k, some ks => some (k :: ks)
      | _, _ => none) = _
    rw [kDs_iL w]
    rfl
theorem kD_w (w : List Int) : kD (wD w) = some (kW w) := by
  show (match kDs (iL w) with
    | some ks => some (NestedKey.tup ks)
    | none => none) = _
  rw [kDs_iL]
  rfl
theorem kDs_ws : ∀ ws : List (List Int), kDs (ws.map wD) = some (ws.map kW)
  | [] => rfl
  | w :: ws => by
    show (match kD (wD w), kDs (ws.map wD) with
      | some k, some ks => some (k :: ks)
      | _, _ => none) = _
    rw [kDs_ws ws, kD_w]
    rfl
theorem num_inj : ∀ {a b : List Int}, a.map NestedKey.num = b.map NestedKey.num → a = b
  | [], [], _ => rfl
  | [], _ :: _, h => by simp at h
  | _ :: _, [], h => by simp at h
  | x :: a, y :: b, h => by
    rw [List.map_cons, List.map_cons, List.cons.injEq] at h
    rw [NestedKey.num.inj h.1, num_inj h.2]
theorem kW_inj {a b : List Int} (h : kW a = kW b) : a = b := num_inj (NestedKey.tup.inj h)
theorem kW_mem {w : List Int} {ws : List (List Int)} : kW w ∈ ws.map kW ↔ w ∈ ws := by
  constructor
  · intro h
    obtain ⟨v, hv, e⟩ := List.mem_map.mp h
    rw [← kW_inj e]
    exact hv
  · exact fun h => List.mem_map_of_mem h
theorem depth_num : ∀ w : List Int, NestedKey.depthAll (w.map .num) = 0
  | [] => rfl
  | x :: w => by
    rw [List.map_cons, NestedKey.depthAll, depth_num w]
    rfl
theorem kW_depth (w : List Int) : (kW w).depth ≤ 8 := by
  unfold kW
  rw [NestedKey.depth, depth_num]
  omega
/-- the keys in the order they come -/
def addK (acc : List (List Int)) (w : List Int) : List (List Int) := if w ∈ acc then acc else acc ++ [w]
theorem dSetS_w {acc : List (List Int)} {es : List D} {w : List Int} {y : D} (hz : acc.length ≤ 1000) : ∃ es', dSetS (acc.map wD) es (wD w) y = some ((addK acc w).map wD, es') := by
  unfold dSetS
  rw [kDs_ws, kD_w]
  simp only
  have ht : (isTupD (wD w) && (acc.map wD).all isTupD) = true := by
    rw [List.all_map]
    simp [isTupD, wD, Function.comp_def]
  rw [if_pos ⟨ht, kW_depth w, by rw [List.length_map]; have := sizeBig (n := acc.length + 1) (by omega); omega⟩]
  refine ⟨setY (acc.map kW) (kW w) y es, ?_⟩
  congr 2
  unfold setX addK
  by_cases h : w ∈ acc
  · rw [if_pos h, if_pos (kW_mem.mpr h)]
  · rw [if_neg h, if_neg (fun z => h (kW_mem.mp z)), List.map_append]
    rfl
theorem addK_len (acc : List (List Int)) (w : List Int) : (addK acc w).length ≤ acc.length + 1 := by
  unfold addK
  split
  · omega
  · rw [List.length_append]
    exact Nat.le_refl _
theorem addK_mem {acc : List (List Int)} {w v : List Int} : v ∈ addK acc w ↔ v ∈ acc ∨ v = w := by
  unfold addK
  split
  · rename_i h
    constructor
    · exact .inl
    · rintro (h2 | rfl)
      · exact h2
      · exact h
  · simp
theorem addK_nodup {acc : List (List Int)} {w : List Int} (h : acc.Nodup) : (addK acc w).Nodup := by
  unfold addK
  split
  · exact h
  · rename_i hw
    refine List.nodup_append.mpr ⟨h, by simp, fun a ha b hb => ?_⟩
    rw [List.mem_singleton.mp hb]
    rintro rfl
    exact hw ha
theorem dcF_words {ds0 : List D} {env : En} {S : Sto} (h3 : env.length = 3) : ∀ (ws acc : List (List Int)) (es : List D), (∀ w ∈ ws, w.length ≤ 1000) → acc.length + ws.length ≤ 1000 →
    ∃ es', dcF ⟨ds0, none⟩ (gNm 2) bYes (eCall φ_shortened_in 1 (aCons (eVar 2) aNil)) (eC (.bl true)) env (ws.map wD) (acc.map wD) es S = some (((ws.foldl (fun acc w => addK acc (red w)) acc).map wD, es'), S)
  | [], acc, es, _, _ => ⟨es, by
    unfold dcF
    rw [List.map_nil]
    simp only
    rw [if_pos okS_none]
    rfl⟩
  | w :: ws, acc, es, hw, hz => by
    rw [List.length_cons] at hz
    obtain ⟨es1, h1⟩ := dSetS_w (acc := acc) (es := es) (w := red w) (y := .bl true) (by omega)
    have := addK_len acc (red w)
    obtain ⟨es2, h2⟩ := dcF_words (ds0 := ds0) (S := S) h3 ws (addK acc (red w)) es1 (fun v hv => hw v (List.mem_cons_of_mem _ hv)) (by omega)
    refine ⟨es2, ?_⟩
    have g2 : (env.set 2 (some (wD w)))[2]? = some (some (wD w)) := List.getElem?_set_self (by omega)
    unfold dcF
    rw [List.map_cons]
    simp only
    rw [if_pos okS_none]
    simp only [ap_wipe, ap_wipe0, ap_runF, ap_seq, ap_next, ap_expr, ap_ret, ap_if, ap_asg, ap_par, ap_aug, ap_nm, ap_tp, ap_gnil, ap_gcons, ap_gix, ap_var, ap_c, ap_op1, ap_op2, ap_opL, ap_anil, ap_acons, ap_tup, ap_lst, ap_fz, ap_new, ap_call, ap_mth, ap_bl, ap_tru, ap_bnot, ap_band, ap_bor, ap_and, ap_or, ap_not, ap_eif, ap_for, ap_lc, ap_rg1, ap_rg2, ap_zp, ap_iseq, ap_slc, ap_onone, ap_osome, ap_chain, ap_lstof, ap_suml, bnd_some, bnd_none, List.map_cons, List.map_nil, List.length_cons, List.length_nil, List.replicate_succ, List.replicate_zero, List.cons_append, List.nil_append, List.append_nil, List.getElem?_cons_zero, List.getElem?_cons_succ, List.set_cons_zero, List.set_cons_succ, Nat.reduceSub, Nat.reduceAdd, Nat.reduceLeDiff, Nat.reduceEqDiff, Nat.zero_add, if_true, if_false, reduceIte, reduceCtorEq, Bool.false_eq_true, Bool.not_true, Bool.not_false, decide_true, decide_false, Nat.sub_self, Nat.sub_zero, Nat.zero_le, Nat.le_refl, gt_i, ge_i, lt_i, le_i, eq_i, ne_i, eq_b, ne_b, add_i, sub_i, neg_i, addI_i, eq_w, ne_w, rev_w, len_w, get_new, set_new, bYes, g2, p_shortened_in w S (hw w List.mem_cons_self), h1]
    exact h2
theorem foldK_mem : ∀ (ws acc : List (List Int)) (v : List Int), v ∈ ws.foldl (fun acc w => addK acc (red w)) acc ↔ v ∈ acc ∨ ∃ w ∈ ws, v = red w
  | [], acc, v => by simp
  | w :: ws, acc, v => by
    rw [List.foldl_cons, foldK_mem ws, addK_mem]
    simp [or_assoc]
theorem foldK_nodup : ∀ (ws acc : List (List Int)), acc.Nodup → (ws.foldl (fun acc w => addK acc (red w)) acc).Nodup
  | [], _, h => h
  | w :: ws, acc, h => foldK_nodup ws _ (addK_nodup h)
theorem foldK_len : ∀ (ws acc : List (List Int)), (ws.foldl (fun acc w => addK acc (red w)) acc).length ≤ acc.length + ws.length
  | [], _ => by simp
  | w :: ws, acc => by
    rw [List.foldl_cons, List.length_cons]
    have := foldK_len ws (addK acc (red w))
    have := addK_len acc (red w)
    omega
theorem keysF_w {S : Sto} : ∀ (ws : List (List Int)), (∀ w ∈ ws, w.length ≤ 1000 ∧ smallW w) → keysF φ_sequence_key S (ws.map wD) = some (ws.map keyD)
  | [], _ => rfl
  | w :: ws, h => by
    rw [List.map_cons, keysF, p_sequence_key w S (h w List.mem_cons_self).1 (h w List.mem_cons_self).2, keysF_w ws fun v hv => h v (List.mem_cons_of_mem _ hv)]
    simp only
    rw [if_pos trivial]
    rfl
theorem toPL_keys : ∀ ws : List (List Int), toPL (ws.map keyD) = some (ws.map keyP)
  | [] => rfl
  | w :: ws => by
    show (match toP (keyD w), toPL (ws.map keyD) with
      | some p, some ps => some (p :: ps)
      | _, _ => none) = _
    rw [toP_key, toPL_keys ws]
    rfl
theorem zip_two : ∀ ws : List (List Int), (ws.map wD).zip (ws.map keyP) = ws.map fun w => (wD w, keyP w)
  | [] => rfl
  | w :: ws => by
    rw [List.map_cons, List.map_cons, List.zip_cons_cons, zip_two ws]
    rfl
theorem toks_inj : ∀ {a b : List Int}, PySem.W.keyToksAll (a.map .int) = PySem.W.keyToksAll (b.map .int) → a = b
  | [], [], _ => rfl
  | [], y :: b, h => by
    rw [List.map_nil, List.map_cons, PySem.W.keyToksAll, PySem.W.keyToksAll] at h
    simp at h
  | x :: a, [], h => by
    rw [List.map_nil, List.map_cons, PySem.W.keyToksAll, PySem.W.keyToksAll] at h
    simp at h
  | x :: a, y :: b, h => by
    rw [List.map_cons, List.map_cons, PySem.W.keyToksAll, PySem.W.keyToksAll, PySem.W.keyToks, PySem.W.keyToks] at h
    simp at h
    rw [h.1, toks_inj h.2]
theorem key_toks {a b : List Int} (h : PySem.W.keyToks (keyP a) = PySem.W.keyToks (keyP b)) : a = b := by
  unfold keyP at h
  simp only [PySem.W.keyToks, PySem.W.keyToksAll] at h
  simp at h
  obtain ⟨h1, h2⟩ := h
  have h4 : PySem.W.keyToksAll ((a.map plc).map .int) = PySem.W.keyToksAll ((b.map plc).map .int) := by
    rw [List.map_map, List.map_map]
    exact h2
  exact map_plc_inj (toks_inj h4)
/-- sorted: the one list in order -/
theorem sortK_words {acc l : List (List Int)} (hn : acc.Nodup) (hl : l.Pairwise (fun a b => ltK a b = true)) (hm : ∀ w, w ∈ acc ↔ w ∈ l) : sortK (acc.map wD) (acc.map keyP) = l.map wD := by
  unfold sortK
  rw [zip_two]
  have hln : l.Nodup := hl.imp fun {a b} h z => by
    rw [z, ltK_irrefl] at h
    cases h
  have hp : acc.Perm l := (List.perm_ext_iff_of_nodup hn hln).mpr hm
  have e : (acc.map fun w => (wD w, keyP w)).mergeSort (PySem.W.dataLe false Prod.snd) = l.map fun w => (wD w, keyP w) := by
    refine List.Perm.eq_of_pairwise (le := fun a b => PySem.W.dataLe false Prod.snd a b = true) (fun a b ha hb h1 h2 => ?_) (PySem.W.sort_pairwise (PySem.W.sortLe_total _ _ _) _) ?_ ((List.mergeSort_perm _ _).trans (hp.map _))
    · have ha' := (List.mergeSort_perm _ _).mem_iff.mp ha
      obtain ⟨u, hu, rfl⟩ := List.mem_map.mp ha'
      obtain ⟨v, hv, rfl⟩ := List.mem_map.mp hb
      have k1 : (!ltK v u) = true := h1
      have k2 : (!ltK u v) = true := h2
      have := (listOrd itemOrd).total (PySem.W.keyToks (keyP u)) (PySem.W.keyToks (keyP v)) ((Bool.not_eq_true' _).mp k2) ((Bool.not_eq_true' _).mp k1)
      rw [key_toks this]
    · refine List.pairwise_map.mpr (hl.imp fun {a b} h => ?_)
      show (!ltK b a) = true
      rw [ltK_asymm h]
      rfl
  rw [e, List.map_map]
  rfl
theorem p_sorted_words (r : Int) (ws l : List (List Int)) (S : Sto) (hr : 1 ≤ r ∧ r ≤ 4) (h1 : ws.length ≤ 20) (h2 : (ws.map List.length).sum ≤ 400) (h : ∀ w ∈ ws, okW r w) (hl : l.Pairwise (fun a b => ltK a b = true)) (hm : ∀ v, v ∈ l ↔ ∃ w ∈ ws, v = red w) :
    φ_sorted_words [.int r, wsD ws] S = some (wsD l, S) := by
  refine gz_pure0 ?_ ws_clo
  have hlen : ∀ w ∈ ws, w.length ≤ 400 := fun w hw => Nat.le_trans (len_le_sum hw) h2
  obtain ⟨es', hd⟩ := dcF_words (ds0 := ws.map wD) (S := S) (env := [some (.int r), some (wsD ws), none]) rfl ws [] [] (fun w hw => by have := hlen w hw; omega) (by simp; omega)
  generalize hacc : ws.foldl (fun acc w => addK acc (red w)) [] = acc at hd
  have hmem : ∀ v, v ∈ acc ↔ v ∈ l := fun v => by
    rw [← hacc, foldK_mem, hm]
    simp
  have hnd : acc.Nodup := by
    rw [← hacc]
    exact foldK_nodup ws [] List.nodup_nil
  have hsm : ∀ w ∈ acc, w.length ≤ 1000 ∧ smallW w := fun w hw => by
    rw [← hacc] at hw
    rcases (foldK_mem ws [] w).mp hw with z | ⟨v, hv, rfl⟩
    · cases z
    · have := red_len v
      have := hlen v hv
      exact ⟨by omega, okW_small (red_sub (h v hv)) hr.2⟩
  have hsort : sortFD φ_sequence_key (acc.map wD) S = some (l.map wD) := by
    unfold sortFD
    rw [keysF_w acc hsm]
    simp only
    rw [toPL_keys]
    simp only
    rw [if_pos, sortK_words hnd hl hmem]
    refine ⟨fun d hd d' hd' => ?_, .inl fun d hd => ?_, fun d hd => ?_⟩
    · obtain ⟨a, _, rfl⟩ := List.mem_map.mp hd
      obtain ⟨b, _, rfl⟩ := List.mem_map.mp hd'
      exact alike_key a b
    · obtain ⟨a, _, rfl⟩ := List.mem_map.mp hd
      exact ⟨_, _, rfl⟩
    · obtain ⟨a, _, rfl⟩ := List.mem_map.mp hd
      have := depth_key a
      omega
  unfold f_sorted_words
  have hd' : fDc (iSeq (eVar 1)) (gNm 2) bYes (eCall φ_shortened_in 1 (aCons (eVar 2) aNil)) (eC (.bl true)) [2] [some (.int r), some (wsD ws), none] S = some ((acc.map wD, es'), S) := by
    show bnd (iSeq (eVar 1) [some (.int r), some (wsD ws), none] S) (fun c S1 => dcF c (gNm 2) bYes (eCall φ_shortened_in 1 (aCons (eVar 2) aNil)) (eC (.bl true)) (wipeE [some (.int r), some (wsD ws), none] [2]) c.items [] [] S1) = _
    simp only [ap_wipe, ap_wipe0, ap_runF, ap_seq, ap_next, ap_expr, ap_ret, ap_if, ap_asg, ap_par, ap_aug, ap_nm, ap_tp, ap_gnil, ap_gcons, ap_gix, ap_var, ap_c, ap_op1, ap_op2, ap_opL, ap_anil, ap_acons, ap_tup, ap_lst, ap_fz, ap_new, ap_call, ap_mth, ap_bl, ap_tru, ap_bnot, ap_band, ap_bor, ap_and, ap_or, ap_not, ap_eif, ap_for, ap_lc, ap_rg1, ap_rg2, ap_zp, ap_iseq, ap_slc, ap_onone, ap_osome, ap_chain, ap_lstof, ap_suml, bnd_some, bnd_none, List.map_cons, List.map_nil, List.length_cons, List.length_nil, List.replicate_succ, List.replicate_zero, List.cons_append, List.nil_append, List.append_nil, List.getElem?_cons_zero, List.getElem?_cons_succ, List.set_cons_zero, List.set_cons_succ, Nat.reduceSub, Nat.reduceAdd, Nat.reduceLeDiff, Nat.reduceEqDiff, Nat.zero_add, if_true, if_false, reduceIte, reduceCtorEq, Bool.false_eq_true, Bool.not_true, Bool.not_false, decide_true, decide_false, Nat.sub_self, Nat.sub_zero, Nat.zero_le, Nat.le_refl, gt_i, ge_i, lt_i, le_i, eq_i, ne_i, eq_b, ne_b, add_i, sub_i, neg_i, addI_i, eq_w, ne_w, rev_w, len_w, get_new, set_new]
    simp only [ap_wipe, ap_wipe0, ap_runF, ap_seq, ap_next, ap_expr, ap_ret, ap_if, ap_asg, ap_par, ap_aug, ap_nm, ap_tp, ap_gnil, ap_gcons, ap_gix, ap_var, ap_c, ap_op1, ap_op2, ap_opL, ap_anil, ap_acons, ap_tup, ap_lst, ap_fz, ap_new, ap_call, ap_mth, ap_bl, ap_tru, ap_bnot, ap_band, ap_bor, ap_and, ap_or, ap_not, ap_eif, ap_for, ap_lc, ap_rg1, ap_rg2, ap_zp, ap_iseq, ap_slc, ap_onone, ap_osome, ap_chain, ap_lstof, ap_suml, bnd_some, bnd_none, List.map_cons, List.map_nil, List.length_cons, List.length_nil, List.replicate_succ, List.replicate_zero, List.cons_append, List.nil_append, List.append_nil, List.getElem?_cons_zero, List.getElem?_cons_succ, List.set_cons_zero, List.set_cons_succ, Nat.reduceSub, Nat.reduceAdd, Nat.reduceLeDiff, Nat.reduceEqDiff, Nat.zero_add, if_true, if_false, reduceIte, reduceCtorEq, Bool.false_eq_true, Bool.not_true, Bool.not_false, decide_true, decide_false, Nat.sub_self, Nat.sub_zero, Nat.zero_le, Nat.le_refl, gt_i, ge_i, lt_i, le_i, eq_i, ne_i, eq_b, ne_b, add_i, sub_i, neg_i, addI_i, eq_w, ne_w, rev_w, len_w, get_new, set_new, wsD]
    exact hd
  have hs : fSortF φ_sequence_key (eFzD (fDc (iSeq (eVar 1)) (gNm 2) bYes (eCall φ_shortened_in 1 (aCons (eVar 2) aNil)) (eC (.bl true)) [2])) [some (.int r), some (wsD ws), none] S = some (l.map wD, S) := by
    show bnd (bnd (fDc (iSeq (eVar 1)) (gNm 2) bYes (eCall φ_shortened_in 1 (aCons (eVar 2) aNil)) (eC (.bl true)) [2] [some (.int r), some (wsD ws), none] S) fun p S1 => some (.dct p.1 p.2, S1)) (fun d S1 => match itD d S1 with
      | some ds => match sortFD φ_sequence_key ds S1 with
        | some out => some (out, S1)
        | none => none
      | none => none) = _
    rw [hd', bnd_some, bnd_some]
    have ei : itD (.dct (acc.map wD) es') S = some (acc.map wD) := rfl
    rw [ei]
    simp only
    rw [hsort]
  simp only [ap_wipe, ap_wipe0, ap_runF, ap_seq, ap_next, ap_expr, ap_ret, ap_if, ap_asg, ap_par, ap_aug, ap_nm, ap_tp, ap_gnil, ap_gcons, ap_gix, ap_var, ap_c, ap_op1, ap_op2, ap_opL, ap_anil, ap_acons, ap_tup, ap_lst, ap_fz, ap_new, ap_call, ap_mth, ap_bl, ap_tru, ap_bnot, ap_band, ap_bor, ap_and, ap_or, ap_not, ap_eif, ap_for, ap_lc, ap_rg1, ap_rg2, ap_zp, ap_iseq, ap_slc, ap_onone, ap_osome, ap_chain, ap_lstof, ap_suml, bnd_some, bnd_none, List.map_cons, List.map_nil, List.length_cons, List.length_nil, List.replicate_succ, List.replicate_zero, List.cons_append, List.nil_append, List.append_nil, List.getElem?_cons_zero, List.getElem?_cons_succ, List.set_cons_zero, List.set_cons_succ, Nat.reduceSub, Nat.reduceAdd, Nat.reduceLeDiff, Nat.reduceEqDiff, Nat.zero_add, if_true, if_false, reduceIte, reduceCtorEq, Bool.false_eq_true, Bool.not_true, Bool.not_false, decide_true, decide_false, Nat.sub_self, Nat.sub_zero, Nat.zero_le, Nat.le_refl, gt_i, ge_i, lt_i, le_i, eq_i, ne_i, eq_b, ne_b, add_i, sub_i, neg_i, addI_i, eq_w, ne_w, rev_w, len_w, get_new, set_new, p_require_told_words r ws S hr h1 h2 h, hs, tup_l]
  rfl
end Hx

namespace Hx
open PySem PySem.Spec PyProof.Rows L2 PU
theorem cut_5 {ds : List D} {S : Sto} : slcD (.lst ds) none (some 5) S = some (.lst (ds.take 5), S) := cut_take (i := 5)
theorem cmpK_ij {l : List (List Int)} (hl : l.Pairwise (fun a b => ltK a b = true)) {i j : Nat} {a b : List Int} (hi : l[i]? = some a) (hj : l[j]? = some b) : cmpK a b = b2i (decide ((j : Int) < i)) - b2i (decide ((i : Int) < j)) := by
  obtain ⟨h1, e1⟩ := List.getElem?_eq_some_iff.mp hi
  obtain ⟨h2, e2⟩ := List.getElem?_eq_some_iff.mp hj
  have hp := List.pairwise_iff_getElem.mp hl
  unfold cmpK
  rcases Nat.lt_trichotomy i j with h | h | h
  · have hlt := hp i j h1 h2 h
    rw [e1, e2] at hlt
    have hne : a ≠ b := fun z => by rw [z, ltK_irrefl] at hlt; cases hlt
    rw [if_neg hne, if_pos hlt, decide_eq_false (by omega), decide_eq_true (by omega)]
    rfl
  · subst h
    rw [hi] at hj
    cases hj
    rw [if_pos rfl]
    simp
  · have hlt := hp j i h2 h1 h
    rw [e1, e2] at hlt
    have hne : a ≠ b := fun z => by rw [z, ltK_irrefl] at hlt; cases hlt
    rw [if_neg hne, if_neg (by rw [ltK_asymm hlt]; exact Bool.false_ne_true), decide_eq_true (by omega), decide_eq_false (by omega)]
    rfl
theorem sum_le {l : List (List Int)} {c : Nat} (h : ∀ w ∈ l, w.length ≤ c) : (l.map List.length).sum ≤ l.length * c := by
  induction l with
  | nil => simp
  | cons w l ih =>
    rw [List.map_cons, List.sum_cons, List.length_cons, Nat.add_mul]
    have := h w List.mem_cons_self
    have := ih fun v hv => h v (List.mem_cons_of_mem _ hv)
    omega
theorem p_pairs_right (n k m : Nat) (S : Sto) (hd : isDice S n) (hk : 1 ≤ k ∧ k ≤ 4) (hm : m ≤ 9) (hz : ∀ i ≤ m, (2 * k) ^ i ≤ 8192) (ht : (chainB (everyL k m) && (everyL k m).all isR) = true) :
    ∃ S', φ_law_are_pairs_right [.loc n, .int k, .int m] S = some (.bl true, S') ∧ Dx n S S' := by
  obtain ⟨hch, hall⟩ := Bool.and_eq_true_iff.mp ht
  have hpw := chain_pw hch
  have hR : ∀ w ∈ everyL k m, isR w = true := List.all_eq_true.mp hall
  have wf : ∀ w ∈ everyL k m, w.length ≤ 9 ∧ okW k w := fun w hw => by
    obtain ⟨h1, h2⟩ := everyL_word k m w hw
    exact ⟨by omega, okW_of h2⟩
  have hlen := everyL_len k m hz
  have hpos : 1 ≤ (everyL k m).length := by
    have h0 : ∀ m, [] ∈ everyL k m := by
      intro m
      induction m with
      | zero => exact List.mem_singleton.mpr rfl
      | succ m ih => exact List.mem_append_left _ ih
    exact List.length_pos_of_mem (h0 m)
  have hkI : (1 : Int) ≤ (k : Int) ∧ (k : Int) ≤ 4 := by omega
  suffices hf : ∃ S', f_law_are_pairs_right [.loc n, .int k, .int m] S = some (.bl true, S') ∧ Dx n S S' by
    obtain ⟨S', h1, h2⟩ := hf
    exact ⟨S', gz_dx0 h1 h2 rfl, h2⟩
  unfold f_law_are_pairs_right
  have htl : ∀ T : Sto, tupD [.lst (iL (lets k))] T = some (wD (lets k), T) := fun _ => rfl
  simp only [ap_wipe, ap_wipe0, ap_runF, ap_seq, ap_next, ap_expr, ap_ret, ap_if, ap_asg, ap_par, ap_aug, ap_nm, ap_tp, ap_gnil, ap_gcons, ap_gix, ap_var, ap_c, ap_op1, ap_op2, ap_opL, ap_anil, ap_acons, ap_tup, ap_lst, ap_fz, ap_new, ap_call, ap_mth, ap_bl, ap_tru, ap_bnot, ap_band, ap_bor, ap_and, ap_or, ap_not, ap_eif, ap_for, ap_lc, ap_rg1, ap_rg2, ap_zp, ap_iseq, ap_slc, ap_onone, ap_osome, ap_chain, ap_lstof, ap_suml, bnd_some, bnd_none, List.map_cons, List.map_nil, List.length_cons, List.length_nil, List.replicate_succ, List.replicate_zero, List.cons_append, List.nil_append, List.append_nil, List.getElem?_cons_zero, List.getElem?_cons_succ, List.set_cons_zero, List.set_cons_succ, Nat.reduceSub, Nat.reduceAdd, Nat.reduceLeDiff, Nat.reduceEqDiff, Nat.zero_add, if_true, if_false, reduceIte, reduceCtorEq, Bool.false_eq_true, Bool.not_true, Bool.not_false, decide_true, decide_false, Nat.sub_self, Nat.sub_zero, Nat.zero_le, Nat.le_refl, gt_i, ge_i, lt_i, le_i, eq_i, ne_i, eq_b, ne_b, add_i, sub_i, neg_i, addI_i, eq_w, ne_w, rev_w, len_w, get_new, set_new, p_law_every k m S hk.2 (by omega) hz, p_alphabet k S hk, p_law_letters k S hk.2, htl]
  rw [if_pos (fit_of (by omega))]
  simp only [ap_wipe, ap_wipe0, ap_runF, ap_seq, ap_next, ap_expr, ap_ret, ap_if, ap_asg, ap_par, ap_aug, ap_nm, ap_tp, ap_gnil, ap_gcons, ap_gix, ap_var, ap_c, ap_op1, ap_op2, ap_opL, ap_anil, ap_acons, ap_tup, ap_lst, ap_fz, ap_new, ap_call, ap_mth, ap_bl, ap_tru, ap_bnot, ap_band, ap_bor, ap_and, ap_or, ap_not, ap_eif, ap_for, ap_lc, ap_rg1, ap_rg2, ap_zp, ap_iseq, ap_slc, ap_onone, ap_osome, ap_chain, ap_lstof, ap_suml, bnd_some, bnd_none, List.map_cons, List.map_nil, List.length_cons, List.length_nil, List.replicate_succ, List.replicate_zero, List.cons_append, List.nil_append, List.append_nil, List.getElem?_cons_zero, List.getElem?_cons_succ, List.set_cons_zero, List.set_cons_succ, Nat.reduceSub, Nat.reduceAdd, Nat.reduceLeDiff, Nat.reduceEqDiff, Nat.zero_add, if_true, if_false, reduceIte, reduceCtorEq, Bool.false_eq_true, Bool.not_true, Bool.not_false, decide_true, decide_false, Nat.sub_self, Nat.sub_zero, Nat.zero_le, Nat.le_refl, gt_i, ge_i, lt_i, le_i, eq_i, ne_i, eq_b, ne_b, add_i, sub_i, neg_i, addI_i, eq_w, ne_w, rev_w, len_w, get_new, set_new, rgD_map]
  refine bnd_exQ (Z := fun o => ∃ S', o = some (D.bl true, S') ∧ Dx n S S') (loopF_rel0 (fun i : Nat => D.int (0 + (i : Int))) (fun _ env S' => ∃ a b c d e f, env = [some (.loc n), some (.int k), some (.int m), some (.lst ((everyL k m).map wD)), a, b, c, d, e, f, none, none, none] ∧ Dx n S S') (List.range (60 : Int).toNat) _ _ ?_ ⟨_, _, _, _, _, _, rfl, Dx.refl hd⟩) ?_
  · rintro t tv htv env T ⟨a, b, c, d, e, f, rfl, dT⟩
    obtain ⟨i, T1, r1, r2, r3⟩ := p_law_roll n ((everyL k m).map wD).length T dT.1 (by rw [List.length_map]; omega)
    have dT1 := dT.trans r3
    obtain ⟨j, T2, s1, s2, s3⟩ := p_law_roll n ((everyL k m).map wD).length T1 dT1.1 (by rw [List.length_map]; omega)
    have dT2 := dT1.trans s3
    rw [List.length_map] at r2 s2
    have hi : i < (everyL k m).length := by omega
    have hj : j < (everyL k m).length := by omega
    obtain ⟨u, hu⟩ : ∃ u, (everyL k m)[i]? = some u := ⟨_, List.getElem?_eq_getElem hi⟩
    obtain ⟨v, hv⟩ : ∃ v, (everyL k m)[j]? = some v := ⟨_, List.getElem?_eq_getElem hj⟩
    have mu := List.mem_of_getElem? hu
    have mv := List.mem_of_getElem? hv
    obtain ⟨lu, ou⟩ := wf u mu
    obtain ⟨lv, ov⟩ := wf v mv
    have ru := red_short (hR u mu)
    have rv := red_short (hR v mv)
    have xu : idxD (.lst ((everyL k m).map wD)) (.int i) T2 = some (wD u, T2) := idx_lst (atI_nat (by rw [List.getElem?_map, hu]; rfl))
    have xv : idxD (.lst ((everyL k m).map wD)) (.int j) T2 = some (wD v, T2) := idx_lst (atI_nat (by rw [List.getElem?_map, hv]; rfl))
    have m1 := made_two u v T2 (by omega)
    have m2 := made_two v u T2 (by omega)
    have p1 : φ_product [.int k, .tup [wD u, wD v]] T2 = some (wD (red (u ++ v)), T2) := by
      have := p_product k [u, v] T2 hkI (by simp) (by simp; omega) (by
        intro w hw
        rcases List.mem_cons.mp hw with rfl | hw
        · exact ou
        · rw [List.mem_singleton.mp hw]
          exact ov)
      simpa [wsD] using this
    have l1 := p_loss k u v T2 hkI (by omega) ou (by omega) ov
    rw [ru, rv] at l1
    have c1 := p_compared k u v T2 hkI (by omega) ou (by omega) ov
    rw [ru, rv, cmpK_ij hpw hu hv] at c1
    have d1 := p_do_pass k u v T2 hkI (by omega) ou (by omega) ov
    have hll := loss_len v u (hR u mu) (hR v mv)
    have e1 : v.foldl psh u = red (u ++ v) := by rw [red_app, ru]
    rw [e1] at hll
    have hmul : CMulW 2 ((lostN u.reverse v : Nat) : Int) := mulW_of (by decide) (by
      have : (1000 : Nat) < 2 ^ 200 := by decide
      omega)
    refine ⟨_, _, [some (.loc n), some (.int k), some (.int m), some (.lst ((everyL k m).map wD)), some (.int (0 + (tv : Int))), some (.int i), some (.int j), some (wD u), some (wD v), some (wD (red (u ++ v))), none, none, none], T2, rfl, ?_, _, _, _, _, _, _, rfl, dT2⟩
    simp only [ap_wipe, ap_wipe0, ap_runF, ap_seq, ap_next, ap_expr, ap_ret, ap_if, ap_asg, ap_par, ap_aug, ap_nm, ap_tp, ap_gnil, ap_gcons, ap_gix, ap_var, ap_c, ap_op1, ap_op2, ap_opL, ap_anil, ap_acons, ap_tup, ap_lst, ap_fz, ap_new, ap_call, ap_mth, ap_bl, ap_tru, ap_bnot, ap_band, ap_bor, ap_and, ap_or, ap_not, ap_eif, ap_for, ap_lc, ap_rg1, ap_rg2, ap_zp, ap_iseq, ap_slc, ap_onone, ap_osome, ap_chain, ap_lstof, ap_suml, bnd_some, bnd_none, List.map_cons, List.map_nil, List.length_cons, List.length_nil, List.replicate_succ, List.replicate_zero, List.cons_append, List.nil_append, List.append_nil, List.getElem?_cons_zero, List.getElem?_cons_succ, List.set_cons_zero, List.set_cons_succ, Nat.reduceSub, Nat.reduceAdd, Nat.reduceLeDiff, Nat.reduceEqDiff, Nat.zero_add, if_true, if_false, reduceIte, reduceCtorEq, Bool.false_eq_true, Bool.not_true, Bool.not_false, decide_true, decide_false, Nat.sub_self, Nat.sub_zero, Nat.zero_le, Nat.le_refl, gt_i, ge_i, lt_i, le_i, eq_i, ne_i, eq_b, ne_b, add_i, sub_i, neg_i, addI_i, eq_w, ne_w, rev_w, len_w, get_new, set_new, len_l, r1, s1, xu, xv]
    rw [if_pos (sizeBig (by omega))]
    simp only [ap_wipe, ap_wipe0, ap_runF, ap_seq, ap_next, ap_expr, ap_ret, ap_if, ap_asg, ap_par, ap_aug, ap_nm, ap_tp, ap_gnil, ap_gcons, ap_gix, ap_var, ap_c, ap_op1, ap_op2, ap_opL, ap_anil, ap_acons, ap_tup, ap_lst, ap_fz, ap_new, ap_call, ap_mth, ap_bl, ap_tru, ap_bnot, ap_band, ap_bor, ap_and, ap_or, ap_not, ap_eif, ap_for, ap_lc, ap_rg1, ap_rg2, ap_zp, ap_iseq, ap_slc, ap_onone, ap_osome, ap_chain, ap_lstof, ap_suml, bnd_some, bnd_none, List.map_cons, List.map_nil, List.length_cons, List.length_nil, List.replicate_succ, List.replicate_zero, List.cons_append, List.nil_append, List.append_nil, List.getElem?_cons_zero, List.getElem?_cons_succ, List.set_cons_zero, List.set_cons_succ, Nat.reduceSub, Nat.reduceAdd, Nat.reduceLeDiff, Nat.reduceEqDiff, Nat.zero_add, if_true, if_false, reduceIte, reduceCtorEq, Bool.false_eq_true, Bool.not_true, Bool.not_false, decide_true, decide_false, Nat.sub_self, Nat.sub_zero, Nat.zero_le, Nat.le_refl, gt_i, ge_i, lt_i, le_i, eq_i, ne_i, eq_b, ne_b, add_i, sub_i, neg_i, addI_i, eq_w, ne_w, rev_w, len_w, get_new, set_new, m1]
    rw [if_pos (sizeBig (by omega))]
    simp only [ap_wipe, ap_wipe0, ap_runF, ap_seq, ap_next, ap_expr, ap_ret, ap_if, ap_asg, ap_par, ap_aug, ap_nm, ap_tp, ap_gnil, ap_gcons, ap_gix, ap_var, ap_c, ap_op1, ap_op2, ap_opL, ap_anil, ap_acons, ap_tup, ap_lst, ap_fz, ap_new, ap_call, ap_mth, ap_bl, ap_tru, ap_bnot, ap_band, ap_bor, ap_and, ap_or, ap_not, ap_eif, ap_for, ap_lc, ap_rg1, ap_rg2, ap_zp, ap_iseq, ap_slc, ap_onone, ap_osome, ap_chain, ap_lstof, ap_suml, bnd_some, bnd_none, List.map_cons, List.map_nil, List.length_cons, List.length_nil, List.replicate_succ, List.replicate_zero, List.cons_append, List.nil_append, List.append_nil, List.getElem?_cons_zero, List.getElem?_cons_succ, List.set_cons_zero, List.set_cons_succ, Nat.reduceSub, Nat.reduceAdd, Nat.reduceLeDiff, Nat.reduceEqDiff, Nat.zero_add, if_true, if_false, reduceIte, reduceCtorEq, Bool.false_eq_true, Bool.not_true, Bool.not_false, decide_true, decide_false, Nat.sub_self, Nat.sub_zero, Nat.zero_le, Nat.le_refl, gt_i, ge_i, lt_i, le_i, eq_i, ne_i, eq_b, ne_b, add_i, sub_i, neg_i, addI_i, eq_w, ne_w, rev_w, len_w, get_new, set_new, p1, l1, mul_i hmul]
    rw [show (2 : Int) * (lostN u.reverse v : Nat) = (u.length : Int) + v.length - (red (u ++ v)).length by omega]
    simp only [ap_wipe, ap_wipe0, ap_runF, ap_seq, ap_next, ap_expr, ap_ret, ap_if, ap_asg, ap_par, ap_aug, ap_nm, ap_tp, ap_gnil, ap_gcons, ap_gix, ap_var, ap_c, ap_op1, ap_op2, ap_opL, ap_anil, ap_acons, ap_tup, ap_lst, ap_fz, ap_new, ap_call, ap_mth, ap_bl, ap_tru, ap_bnot, ap_band, ap_bor, ap_and, ap_or, ap_not, ap_eif, ap_for, ap_lc, ap_rg1, ap_rg2, ap_zp, ap_iseq, ap_slc, ap_onone, ap_osome, ap_chain, ap_lstof, ap_suml, bnd_some, bnd_none, List.map_cons, List.map_nil, List.length_cons, List.length_nil, List.replicate_succ, List.replicate_zero, List.cons_append, List.nil_append, List.append_nil, List.getElem?_cons_zero, List.getElem?_cons_succ, List.set_cons_zero, List.set_cons_succ, Nat.reduceSub, Nat.reduceAdd, Nat.reduceLeDiff, Nat.reduceEqDiff, Nat.zero_add, if_true, if_false, reduceIte, reduceCtorEq, Bool.false_eq_true, Bool.not_true, Bool.not_false, decide_true, decide_false, Nat.sub_self, Nat.sub_zero, Nat.zero_le, Nat.le_refl, gt_i, ge_i, lt_i, le_i, eq_i, ne_i, eq_b, ne_b, add_i, sub_i, neg_i, addI_i, eq_w, ne_w, rev_w, len_w, get_new, set_new, c1, sub_b, d1]
    rw [if_pos (sizeBig (by omega))]
    simp only [ap_wipe, ap_wipe0, ap_runF, ap_seq, ap_next, ap_expr, ap_ret, ap_if, ap_asg, ap_par, ap_aug, ap_nm, ap_tp, ap_gnil, ap_gcons, ap_gix, ap_var, ap_c, ap_op1, ap_op2, ap_opL, ap_anil, ap_acons, ap_tup, ap_lst, ap_fz, ap_new, ap_call, ap_mth, ap_bl, ap_tru, ap_bnot, ap_band, ap_bor, ap_and, ap_or, ap_not, ap_eif, ap_for, ap_lc, ap_rg1, ap_rg2, ap_zp, ap_iseq, ap_slc, ap_onone, ap_osome, ap_chain, ap_lstof, ap_suml, bnd_some, bnd_none, List.map_cons, List.map_nil, List.length_cons, List.length_nil, List.replicate_succ, List.replicate_zero, List.cons_append, List.nil_append, List.append_nil, List.getElem?_cons_zero, List.getElem?_cons_succ, List.set_cons_zero, List.set_cons_succ, Nat.reduceSub, Nat.reduceAdd, Nat.reduceLeDiff, Nat.reduceEqDiff, Nat.zero_add, if_true, if_false, reduceIte, reduceCtorEq, Bool.false_eq_true, Bool.not_true, Bool.not_false, decide_true, decide_false, Nat.sub_self, Nat.sub_zero, Nat.zero_le, Nat.le_refl, gt_i, ge_i, lt_i, le_i, eq_i, ne_i, eq_b, ne_b, add_i, sub_i, neg_i, addI_i, eq_w, ne_w, rev_w, len_w, get_new, set_new, m2]
  · rintro env T ⟨a, b, c, d, e, f, rfl, dT⟩
    obtain ⟨q, T1, r1, r2, r3⟩ := p_law_roll n 15 T dT.1 (by omega)
    have dT1 := dT.trans r3
    have someL := lcF_rel (ds0 := rgD 0 q) (g := gNm 4) (t := bYes) (f := eCall φ_law_one_of 2 (aCons (eVar 0) (aCons (eVar 3) aNil))) (env := [some (.loc n), some (.int k), some (.int m), some (.lst ((everyL k m).map wD)), none, b, c, d, e, f, none, none, none]) (fun i : Nat => D.int (0 + (i : Int)))
      (fun acc S' => Dx n S S' ∧ ∃ ws : List (List Int), acc = ws.map wD ∧ ∀ w ∈ ws, w ∈ everyL k m) (List.range q) [] T1 (fun i _ acc U ⟨dU, ws, hws, hmem⟩ => by
        obtain ⟨w, U', o1, o2, o3⟩ := one_of_ws n (everyL k m) U dU.1 (by omega)
        refine ⟨_, U, U, wD w, U', rfl, rfl, ?_, dU.trans o3, ws ++ [w], by rw [hws, List.map_append]; rfl, fun v hv => ?_⟩
        · simp only [ap_wipe, ap_wipe0, ap_runF, ap_seq, ap_next, ap_expr, ap_ret, ap_if, ap_asg, ap_par, ap_aug, ap_nm, ap_tp, ap_gnil, ap_gcons, ap_gix, ap_var, ap_c, ap_op1, ap_op2, ap_opL, ap_anil, ap_acons, ap_tup, ap_lst, ap_fz, ap_new, ap_call, ap_mth, ap_bl, ap_tru, ap_bnot, ap_band, ap_bor, ap_and, ap_or, ap_not, ap_eif, ap_for, ap_lc, ap_rg1, ap_rg2, ap_zp, ap_iseq, ap_slc, ap_onone, ap_osome, ap_chain, ap_lstof, ap_suml, bnd_some, bnd_none, List.map_cons, List.map_nil, List.length_cons, List.length_nil, List.replicate_succ, List.replicate_zero, List.cons_append, List.nil_append, List.append_nil, List.getElem?_cons_zero, List.getElem?_cons_succ, List.set_cons_zero, List.set_cons_succ, Nat.reduceSub, Nat.reduceAdd, Nat.reduceLeDiff, Nat.reduceEqDiff, Nat.zero_add, if_true, if_false, reduceIte, reduceCtorEq, Bool.false_eq_true, Bool.not_true, Bool.not_false, decide_true, decide_false, Nat.sub_self, Nat.sub_zero, Nat.zero_le, Nat.le_refl, gt_i, ge_i, lt_i, le_i, eq_i, ne_i, eq_b, ne_b, add_i, sub_i, neg_i, addI_i, eq_w, ne_w, rev_w, len_w, get_new, set_new, o1]
        · rcases List.mem_append.mp hv with hv | hv
          · exact hmem v hv
          · rw [List.mem_singleton.mp hv]
            exact o2) (szN (by rw [List.length_range]; omega)) ⟨dT1, [], rfl, fun _ h => nomatch h⟩
    obtain ⟨out, T2, k1, ⟨dT2, ws, rfl, hmem⟩, hlo⟩ := someL
    rw [List.length_map, List.length_nil, List.length_range, Nat.zero_add] at hlo
    refine ⟨T2, ?_, dT2⟩
    simp only [ap_wipe, ap_wipe0, ap_runF, ap_seq, ap_next, ap_expr, ap_ret, ap_if, ap_asg, ap_par, ap_aug, ap_nm, ap_tp, ap_gnil, ap_gcons, ap_gix, ap_var, ap_c, ap_op1, ap_op2, ap_opL, ap_anil, ap_acons, ap_tup, ap_lst, ap_fz, ap_new, ap_call, ap_mth, ap_bl, ap_tru, ap_bnot, ap_band, ap_bor, ap_and, ap_or, ap_not, ap_eif, ap_for, ap_lc, ap_rg1, ap_rg2, ap_zp, ap_iseq, ap_slc, ap_onone, ap_osome, ap_chain, ap_lstof, ap_suml, bnd_some, bnd_none, List.map_cons, List.map_nil, List.length_cons, List.length_nil, List.replicate_succ, List.replicate_zero, List.cons_append, List.nil_append, List.append_nil, List.getElem?_cons_zero, List.getElem?_cons_succ, List.set_cons_zero, List.set_cons_succ, Nat.reduceSub, Nat.reduceAdd, Nat.reduceLeDiff, Nat.reduceEqDiff, Nat.zero_add, if_true, if_false, reduceIte, reduceCtorEq, Bool.false_eq_true, Bool.not_true, Bool.not_false, decide_true, decide_false, Nat.sub_self, Nat.sub_zero, Nat.zero_le, Nat.le_refl, gt_i, ge_i, lt_i, le_i, eq_i, ne_i, eq_b, ne_b, add_i, sub_i, neg_i, addI_i, eq_w, ne_w, rev_w, len_w, get_new, set_new, r1]
    rw [if_pos (fit_of (by omega))]
    simp only [ap_wipe, ap_wipe0, ap_runF, ap_seq, ap_next, ap_expr, ap_ret, ap_if, ap_asg, ap_par, ap_aug, ap_nm, ap_tp, ap_gnil, ap_gcons, ap_gix, ap_var, ap_c, ap_op1, ap_op2, ap_opL, ap_anil, ap_acons, ap_tup, ap_lst, ap_fz, ap_new, ap_call, ap_mth, ap_bl, ap_tru, ap_bnot, ap_band, ap_bor, ap_and, ap_or, ap_not, ap_eif, ap_for, ap_lc, ap_rg1, ap_rg2, ap_zp, ap_iseq, ap_slc, ap_onone, ap_osome, ap_chain, ap_lstof, ap_suml, bnd_some, bnd_none, List.map_cons, List.map_nil, List.length_cons, List.length_nil, List.replicate_succ, List.replicate_zero, List.cons_append, List.nil_append, List.append_nil, List.getElem?_cons_zero, List.getElem?_cons_succ, List.set_cons_zero, List.set_cons_succ, Nat.reduceSub, Nat.reduceAdd, Nat.reduceLeDiff, Nat.reduceEqDiff, Nat.zero_add, if_true, if_false, reduceIte, reduceCtorEq, Bool.false_eq_true, Bool.not_true, Bool.not_false, decide_true, decide_false, Nat.sub_self, Nat.sub_zero, Nat.zero_le, Nat.le_refl, gt_i, ge_i, lt_i, le_i, eq_i, ne_i, eq_b, ne_b, add_i, sub_i, neg_i, addI_i, eq_w, ne_w, rev_w, len_w, get_new, set_new, rgD_map, Int.toNat_natCast]
    simp only [rgD_map] at k1
    rw [k1]
    have hwl : ∀ w ∈ ws, w.length ≤ 9 := fun w hw => (wf w (hmem w hw)).1
    simp only [ap_wipe, ap_wipe0, ap_runF, ap_seq, ap_next, ap_expr, ap_ret, ap_if, ap_asg, ap_par, ap_aug, ap_nm, ap_tp, ap_gnil, ap_gcons, ap_gix, ap_var, ap_c, ap_op1, ap_op2, ap_opL, ap_anil, ap_acons, ap_tup, ap_lst, ap_fz, ap_new, ap_call, ap_mth, ap_bl, ap_tru, ap_bnot, ap_band, ap_bor, ap_and, ap_or, ap_not, ap_eif, ap_for, ap_lc, ap_rg1, ap_rg2, ap_zp, ap_iseq, ap_slc, ap_onone, ap_osome, ap_chain, ap_lstof, ap_suml, bnd_some, bnd_none, List.map_cons, List.map_nil, List.length_cons, List.length_nil, List.replicate_succ, List.replicate_zero, List.cons_append, List.nil_append, List.append_nil, List.getElem?_cons_zero, List.getElem?_cons_succ, List.set_cons_zero, List.set_cons_succ, Nat.reduceSub, Nat.reduceAdd, Nat.reduceLeDiff, Nat.reduceEqDiff, Nat.zero_add, if_true, if_false, reduceIte, reduceCtorEq, Bool.false_eq_true, Bool.not_true, Bool.not_false, decide_true, decide_false, Nat.sub_self, Nat.sub_zero, Nat.zero_le, Nat.le_refl, gt_i, ge_i, lt_i, le_i, eq_i, ne_i, eq_b, ne_b, add_i, sub_i, neg_i, addI_i, eq_w, ne_w, rev_w, len_w, get_new, set_new, cut_5, ← List.map_take]
    rw [lcF_map wD (fun _ => true) (fun w => wD (w ++ [1, -1])) (ws.take 5) [] (fun w hw => ⟨_, rfl, rfl, fun _ => ?_⟩) (szN (by rw [List.length_take]; omega))]
    · have ht5 : (ws.take 5).length ≤ 5 := by rw [List.length_take]; omega
      simp only [ap_wipe, ap_wipe0, ap_runF, ap_seq, ap_next, ap_expr, ap_ret, ap_if, ap_asg, ap_par, ap_aug, ap_nm, ap_tp, ap_gnil, ap_gcons, ap_gix, ap_var, ap_c, ap_op1, ap_op2, ap_opL, ap_anil, ap_acons, ap_tup, ap_lst, ap_fz, ap_new, ap_call, ap_mth, ap_bl, ap_tru, ap_bnot, ap_band, ap_bor, ap_and, ap_or, ap_not, ap_eif, ap_for, ap_lc, ap_rg1, ap_rg2, ap_zp, ap_iseq, ap_slc, ap_onone, ap_osome, ap_chain, ap_lstof, ap_suml, bnd_some, bnd_none, List.map_cons, List.map_nil, List.length_cons, List.length_nil, List.replicate_succ, List.replicate_zero, List.cons_append, List.nil_append, List.append_nil, List.getElem?_cons_zero, List.getElem?_cons_succ, List.set_cons_zero, List.set_cons_succ, Nat.reduceSub, Nat.reduceAdd, Nat.reduceLeDiff, Nat.reduceEqDiff, Nat.zero_add, if_true, if_false, reduceIte, reduceCtorEq, Bool.false_eq_true, Bool.not_true, Bool.not_false, decide_true, decide_false, Nat.sub_self, Nat.sub_zero, Nat.zero_le, Nat.le_refl, gt_i, ge_i, lt_i, le_i, eq_i, ne_i, eq_b, ne_b, add_i, sub_i, neg_i, addI_i, eq_w, ne_w, rev_w, len_w, get_new, set_new, fl_true]
      rw [show ((ws.take 5).map fun w => wD (w ++ [1, -1])) = (((ws.take 5).map fun w => w ++ [1, -1]).map wD) by rw [List.map_map]; rfl]
      rw [add_ll (sizeBig (by rw [List.length_map, List.length_map, List.length_map]; omega)), ← List.map_append]
      simp only [ap_wipe, ap_wipe0, ap_runF, ap_seq, ap_next, ap_expr, ap_ret, ap_if, ap_asg, ap_par, ap_aug, ap_nm, ap_tp, ap_gnil, ap_gcons, ap_gix, ap_var, ap_c, ap_op1, ap_op2, ap_opL, ap_anil, ap_acons, ap_tup, ap_lst, ap_fz, ap_new, ap_call, ap_mth, ap_bl, ap_tru, ap_bnot, ap_band, ap_bor, ap_and, ap_or, ap_not, ap_eif, ap_for, ap_lc, ap_rg1, ap_rg2, ap_zp, ap_iseq, ap_slc, ap_onone, ap_osome, ap_chain, ap_lstof, ap_suml, bnd_some, bnd_none, List.map_cons, List.map_nil, List.length_cons, List.length_nil, List.replicate_succ, List.replicate_zero, List.cons_append, List.nil_append, List.append_nil, List.getElem?_cons_zero, List.getElem?_cons_succ, List.set_cons_zero, List.set_cons_succ, Nat.reduceSub, Nat.reduceAdd, Nat.reduceLeDiff, Nat.reduceEqDiff, Nat.zero_add, if_true, if_false, reduceIte, reduceCtorEq, Bool.false_eq_true, Bool.not_true, Bool.not_false, decide_true, decide_false, Nat.sub_self, Nat.sub_zero, Nat.zero_le, Nat.le_refl, gt_i, ge_i, lt_i, le_i, eq_i, ne_i, eq_b, ne_b, add_i, sub_i, neg_i, addI_i, eq_w, ne_w, rev_w, len_w, get_new, set_new, tup_l]
      have hps := p_sorted_words k (ws ++ (ws.take 5).map fun w => w ++ [1, -1]) ((everyL k m).filter fun w => decide (w ∈ ws)) T2 hkI (by rw [List.length_append, List.length_map]; omega) (by
          rw [List.map_append, List.sum_append_nat]
          have a1 := sum_le hwl
          have a2 : (((ws.take 5).map fun w => w ++ [1, -1]).map List.length).sum ≤ ((ws.take 5).map fun w => w ++ [(1 : Int), -1]).length * 11 := sum_le fun w hw => by
            obtain ⟨v, hv, rfl⟩ := List.mem_map.mp hw
            have := hwl v (List.mem_of_mem_take hv)
            rw [List.length_append]
            simp
            omega
          rw [List.length_map] at a2
          have a3 : ws.length * 9 ≤ 14 * 9 := Nat.mul_le_mul_right _ (by omega)
          have a4 : (ws.take 5).length * 11 ≤ 5 * 11 := Nat.mul_le_mul_right _ ht5
          omega) (fun w hw => by
          rcases List.mem_append.mp hw with hw | hw
          · exact (wf w (hmem w hw)).2
          · obtain ⟨v, hv, rfl⟩ := List.mem_map.mp hw
            have ov := (wf v (hmem v (List.mem_of_mem_take hv))).2
            intro x hx
            rcases List.mem_append.mp hx with hx | hx
            · exact ov x hx
            · unfold okL
              simp at hx
              rcases hx with rfl | rfl <;> omega) (hpw.sublist List.filter_sublist) (fun v => by
          rw [List.mem_filter, decide_eq_true_iff]
          constructor
          · rintro ⟨h1, h2⟩
            exact ⟨v, List.mem_append_left _ h2, (red_short (hR v h1)).symm⟩
          · rintro ⟨w, hw, rfl⟩
            have key : ∃ u ∈ ws, red w = u := by
              rcases List.mem_append.mp hw with hw | hw
              · exact ⟨w, hw, red_short (hR w (hmem w hw))⟩
              · obtain ⟨u, hu, rfl⟩ := List.mem_map.mp hw
                have hu := List.mem_of_mem_take hu
                refine ⟨u, hu, ?_⟩
                have := red_cancel u [] 1
                rw [List.append_nil, List.append_nil] at this
                rw [this]
                exact red_short (hR u (hmem u hu))
            obtain ⟨u, hu, e⟩ := key
            rw [e]
            exact ⟨hmem u hu, hu⟩)
      have hps' : φ_sorted_words [.int k, .tup ((ws ++ (ws.take 5).map fun w => w ++ [1, -1]).map wD)] T2 = _ := hps
      rw [hps']
      simp only [ap_wipe, ap_wipe0, ap_runF, ap_seq, ap_next, ap_expr, ap_ret, ap_if, ap_asg, ap_par, ap_aug, ap_nm, ap_tp, ap_gnil, ap_gcons, ap_gix, ap_var, ap_c, ap_op1, ap_op2, ap_opL, ap_anil, ap_acons, ap_tup, ap_lst, ap_fz, ap_new, ap_call, ap_mth, ap_bl, ap_tru, ap_bnot, ap_band, ap_bor, ap_and, ap_or, ap_not, ap_eif, ap_for, ap_lc, ap_rg1, ap_rg2, ap_zp, ap_iseq, ap_slc, ap_onone, ap_osome, ap_chain, ap_lstof, ap_suml, bnd_some, bnd_none, List.map_cons, List.map_nil, List.length_cons, List.length_nil, List.replicate_succ, List.replicate_zero, List.cons_append, List.nil_append, List.append_nil, List.getElem?_cons_zero, List.getElem?_cons_succ, List.set_cons_zero, List.set_cons_succ, Nat.reduceSub, Nat.reduceAdd, Nat.reduceLeDiff, Nat.reduceEqDiff, Nat.zero_add, if_true, if_false, reduceIte, reduceCtorEq, Bool.false_eq_true, Bool.not_true, Bool.not_false, decide_true, decide_false, Nat.sub_self, Nat.sub_zero, Nat.zero_le, Nat.le_refl, gt_i, ge_i, lt_i, le_i, eq_i, ne_i, eq_b, ne_b, add_i, sub_i, neg_i, addI_i, eq_w, ne_w, rev_w, len_w, get_new, set_new]
      rw [lcF_map wD (fun w => decide (w ∈ ws)) wD (everyL k m) [] (fun w hw => ⟨_, rfl, ?_, fun _ => ?_⟩) (szN (by omega))]
      · have he : cmpEq (wsD ((everyL k m).filter fun w => decide (w ∈ ws))) (.tup (((everyL k m).filter fun w => decide (w ∈ ws)).map wD)) T2 = _ := eq_ws (a := (everyL k m).filter fun w => decide (w ∈ ws)) (b := (everyL k m).filter fun w => decide (w ∈ ws))
        simp only [ap_wipe, ap_wipe0, ap_runF, ap_seq, ap_next, ap_expr, ap_ret, ap_if, ap_asg, ap_par, ap_aug, ap_nm, ap_tp, ap_gnil, ap_gcons, ap_gix, ap_var, ap_c, ap_op1, ap_op2, ap_opL, ap_anil, ap_acons, ap_tup, ap_lst, ap_fz, ap_new, ap_call, ap_mth, ap_bl, ap_tru, ap_bnot, ap_band, ap_bor, ap_and, ap_or, ap_not, ap_eif, ap_for, ap_lc, ap_rg1, ap_rg2, ap_zp, ap_iseq, ap_slc, ap_onone, ap_osome, ap_chain, ap_lstof, ap_suml, bnd_some, bnd_none, List.map_cons, List.map_nil, List.length_cons, List.length_nil, List.replicate_succ, List.replicate_zero, List.cons_append, List.nil_append, List.append_nil, List.getElem?_cons_zero, List.getElem?_cons_succ, List.set_cons_zero, List.set_cons_succ, Nat.reduceSub, Nat.reduceAdd, Nat.reduceLeDiff, Nat.reduceEqDiff, Nat.zero_add, if_true, if_false, reduceIte, reduceCtorEq, Bool.false_eq_true, Bool.not_true, Bool.not_false, decide_true, decide_false, Nat.sub_self, Nat.sub_zero, Nat.zero_le, Nat.le_refl, gt_i, ge_i, lt_i, le_i, eq_i, ne_i, eq_b, ne_b, add_i, sub_i, neg_i, addI_i, eq_w, ne_w, rev_w, len_w, get_new, set_new, tup_l, he]
      · simp only [ap_wipe, ap_wipe0, ap_runF, ap_seq, ap_next, ap_expr, ap_ret, ap_if, ap_asg, ap_par, ap_aug, ap_nm, ap_tp, ap_gnil, ap_gcons, ap_gix, ap_var, ap_c, ap_op1, ap_op2, ap_opL, ap_anil, ap_acons, ap_tup, ap_lst, ap_fz, ap_new, ap_call, ap_mth, ap_bl, ap_tru, ap_bnot, ap_band, ap_bor, ap_and, ap_or, ap_not, ap_eif, ap_for, ap_lc, ap_rg1, ap_rg2, ap_zp, ap_iseq, ap_slc, ap_onone, ap_osome, ap_chain, ap_lstof, ap_suml, bnd_some, bnd_none, List.map_cons, List.map_nil, List.length_cons, List.length_nil, List.replicate_succ, List.replicate_zero, List.cons_append, List.nil_append, List.append_nil, List.getElem?_cons_zero, List.getElem?_cons_succ, List.set_cons_zero, List.set_cons_succ, Nat.reduceSub, Nat.reduceAdd, Nat.reduceLeDiff, Nat.reduceEqDiff, Nat.zero_add, if_true, if_false, reduceIte, reduceCtorEq, Bool.false_eq_true, Bool.not_true, Bool.not_false, decide_true, decide_false, Nat.sub_self, Nat.sub_zero, Nat.zero_le, Nat.le_refl, gt_i, ge_i, lt_i, le_i, eq_i, ne_i, eq_b, ne_b, add_i, sub_i, neg_i, addI_i, eq_w, ne_w, rev_w, len_w, get_new, set_new, in_ws]
      · simp only [ap_wipe, ap_wipe0, ap_runF, ap_seq, ap_next, ap_expr, ap_ret, ap_if, ap_asg, ap_par, ap_aug, ap_nm, ap_tp, ap_gnil, ap_gcons, ap_gix, ap_var, ap_c, ap_op1, ap_op2, ap_opL, ap_anil, ap_acons, ap_tup, ap_lst, ap_fz, ap_new, ap_call, ap_mth, ap_bl, ap_tru, ap_bnot, ap_band, ap_bor, ap_and, ap_or, ap_not, ap_eif, ap_for, ap_lc, ap_rg1, ap_rg2, ap_zp, ap_iseq, ap_slc, ap_onone, ap_osome, ap_chain, ap_lstof, ap_suml, bnd_some, bnd_none, List.map_cons, List.map_nil, List.length_cons, List.length_nil, List.replicate_succ, List.replicate_zero, List.cons_append, List.nil_append, List.append_nil, List.getElem?_cons_zero, List.getElem?_cons_succ, List.set_cons_zero, List.set_cons_succ, Nat.reduceSub, Nat.reduceAdd, Nat.reduceLeDiff, Nat.reduceEqDiff, Nat.zero_add, if_true, if_false, reduceIte, reduceCtorEq, Bool.false_eq_true, Bool.not_true, Bool.not_false, decide_true, decide_false, Nat.sub_self, Nat.sub_zero, Nat.zero_le, Nat.le_refl, gt_i, ge_i, lt_i, le_i, eq_i, ne_i, eq_b, ne_b, add_i, sub_i, neg_i, addI_i, eq_w, ne_w, rev_w, len_w, get_new, set_new]
    · have hw9 := hwl w (List.mem_of_mem_take hw)
      simp only [ap_wipe, ap_wipe0, ap_runF, ap_seq, ap_next, ap_expr, ap_ret, ap_if, ap_asg, ap_par, ap_aug, ap_nm, ap_tp, ap_gnil, ap_gcons, ap_gix, ap_var, ap_c, ap_op1, ap_op2, ap_opL, ap_anil, ap_acons, ap_tup, ap_lst, ap_fz, ap_new, ap_call, ap_mth, ap_bl, ap_tru, ap_bnot, ap_band, ap_bor, ap_and, ap_or, ap_not, ap_eif, ap_for, ap_lc, ap_rg1, ap_rg2, ap_zp, ap_iseq, ap_slc, ap_onone, ap_osome, ap_chain, ap_lstof, ap_suml, bnd_some, bnd_none, List.map_cons, List.map_nil, List.length_cons, List.length_nil, List.replicate_succ, List.replicate_zero, List.cons_append, List.nil_append, List.append_nil, List.getElem?_cons_zero, List.getElem?_cons_succ, List.set_cons_zero, List.set_cons_succ, Nat.reduceSub, Nat.reduceAdd, Nat.reduceLeDiff, Nat.reduceEqDiff, Nat.zero_add, if_true, if_false, reduceIte, reduceCtorEq, Bool.false_eq_true, Bool.not_true, Bool.not_false, decide_true, decide_false, Nat.sub_self, Nat.sub_zero, Nat.zero_le, Nat.le_refl, gt_i, ge_i, lt_i, le_i, eq_i, ne_i, eq_b, ne_b, add_i, sub_i, neg_i, addI_i, eq_w, ne_w, rev_w, len_w, get_new, set_new]
      rw [if_pos (sizeBig (by omega))]
      simp only [ap_wipe, ap_wipe0, ap_runF, ap_seq, ap_next, ap_expr, ap_ret, ap_if, ap_asg, ap_par, ap_aug, ap_nm, ap_tp, ap_gnil, ap_gcons, ap_gix, ap_var, ap_c, ap_op1, ap_op2, ap_opL, ap_anil, ap_acons, ap_tup, ap_lst, ap_fz, ap_new, ap_call, ap_mth, ap_bl, ap_tru, ap_bnot, ap_band, ap_bor, ap_and, ap_or, ap_not, ap_eif, ap_for, ap_lc, ap_rg1, ap_rg2, ap_zp, ap_iseq, ap_slc, ap_onone, ap_osome, ap_chain, ap_lstof, ap_suml, bnd_some, bnd_none, List.map_cons, List.map_nil, List.length_cons, List.length_nil, List.replicate_succ, List.replicate_zero, List.cons_append, List.nil_append, List.append_nil, List.getElem?_cons_zero, List.getElem?_cons_succ, List.set_cons_zero, List.set_cons_succ, Nat.reduceSub, Nat.reduceAdd, Nat.reduceLeDiff, Nat.reduceEqDiff, Nat.zero_add, if_true, if_false, reduceIte, reduceCtorEq, Bool.false_eq_true, Bool.not_true, Bool.not_false, decide_true, decide_false, Nat.sub_self, Nat.sub_zero, Nat.zero_le, Nat.le_refl, gt_i, ge_i, lt_i, le_i, eq_i, ne_i, eq_b, ne_b, add_i, sub_i, neg_i, addI_i, eq_w, ne_w, rev_w, len_w, get_new, set_new]
      have : addD (wD w) (wD [1, -1]) T2 = some (wD (w ++ [1, -1]), T2) := add_w (sizeBig (by simp; omega))
      exact this
end Hx

namespace Hx
open PySem PySem.Spec PyProof.Rows L2 PU
theorem pow_i {i j : Int} {S : Sto} (h : CPow i j) : powD (.int i) (.int j) S = some (.int (i ^ j.toNat), S) := by
  unfold powD PU.intOp
  simp only
  rw [if_pos h]
theorem int_i {i : Int} {S : Sto} : intD [.int i] S = some (.int i, S) := rfl
theorem int_b {b : Bool} {S : Sto} : intD [.bl b] S = some (.int (if b = true then 1 else 0), S) := rfl
theorem max_i {i j : Int} {S : Sto} : max2D [.int i, .int j] S = some (.int (if j > i then j else i), S) := rfl
theorem min_i {i j : Int} {S : Sto} : min2D [.int i, .int j] S = some (.int (if j < i then j else i), S) := rfl
theorem len_rol {ds : List D} {S : Sto} : lenD [.rol ds] S = some (.int ds.length, S) := rfl
def bigM : Int := 10 ^ (55 : Int).toNat * 10 ^ (55 : Int).toNat
theorem bigM_pos : 0 < bigM := by decide +kernel
theorem big_mul : CMulW (10 ^ (55 : Int).toNat) (10 ^ (55 : Int).toNat) := mulW_of (by decide +kernel) (by decide +kernel)
theorem p_law_dice (ns : List Int) (t : Nat) (S : Sto) (ht : t ≤ 1) : ∃ a b, φ_law_dice [.rol (iL ns), .int t] S = some (.loc S.length, S ++ [.lst [.int a, .int b]]) ∧ okA a ∧ okB b := by
  have cell : ∃ c : Int, (eIf (bBl (eOp2 cmpLt (eVar 1) (eOpL lenD (aCons (eVar 0) (aNil))))) (eOpL intD (aCons (eOp2 idxD (eVar 0) (eVar 1)) (aNil))) (eOp2 addD (eOp2 mulD (eC (.int 131)) (eVar 1)) (eC (.int 71)))) [some (.rol (iL ns)), some (.int t), none, none] S = some (.int c, S) := by
    by_cases h : t < ns.length
    · refine ⟨ns[t], ?_⟩
      have hx : idxD (.rol (iL ns)) (.int t) S = some (.int ns[t], S) := idx_rol (atI_nat (by rw [iL_get, List.getElem?_eq_getElem h]; rfl))
      have hd : decide ((t : Int) < (ns.length : Int)) = true := decide_eq_true (by omega)
      simp only [ap_wipe, ap_wipe0, ap_runF, ap_seq, ap_next, ap_expr, ap_ret, ap_if, ap_asg, ap_par, ap_aug, ap_nm, ap_tp, ap_gnil, ap_gcons, ap_gix, ap_var, ap_c, ap_op1, ap_op2, ap_opL, ap_anil, ap_acons, ap_tup, ap_lst, ap_fz, ap_new, ap_call, ap_mth, ap_bl, ap_tru, ap_bnot, ap_band, ap_bor, ap_and, ap_or, ap_not, ap_eif, ap_for, ap_lc, ap_rg1, ap_rg2, ap_zp, ap_iseq, ap_slc, ap_onone, ap_osome, ap_chain, ap_lstof, ap_suml, bnd_some, bnd_none, List.map_cons, List.map_nil, List.length_cons, List.length_nil, List.replicate_succ, List.replicate_zero, List.cons_append, List.nil_append, List.append_nil, List.getElem?_cons_zero, List.getElem?_cons_succ, List.set_cons_zero, List.set_cons_succ, Nat.reduceSub, Nat.reduceAdd, Nat.reduceLeDiff, Nat.reduceEqDiff, Nat.zero_add, if_true, if_false, reduceIte, reduceCtorEq, Bool.false_eq_true, Bool.not_true, Bool.not_false, decide_true, decide_false, Nat.sub_self, Nat.sub_zero, Nat.zero_le, Nat.le_refl, gt_i, ge_i, lt_i, le_i, eq_i, ne_i, eq_b, ne_b, add_i, sub_i, neg_i, addI_i, eq_w, ne_w, rev_w, len_w, get_new, set_new, len_rol, List.length_map, hd, hx, int_i]
    · have hd : decide ((t : Int) < (ns.length : Int)) = false := decide_eq_false (by omega)
      have hm : CMulW 131 (t : Int) := mulW_of (by decide) (by
        have : (10 : Nat) < 2 ^ 200 := by decide
        omega)
      exact ⟨131 * (t : Int) + 71, by simp only [ap_wipe, ap_wipe0, ap_runF, ap_seq, ap_next, ap_expr, ap_ret, ap_if, ap_asg, ap_par, ap_aug, ap_nm, ap_tp, ap_gnil, ap_gcons, ap_gix, ap_var, ap_c, ap_op1, ap_op2, ap_opL, ap_anil, ap_acons, ap_tup, ap_lst, ap_fz, ap_new, ap_call, ap_mth, ap_bl, ap_tru, ap_bnot, ap_band, ap_bor, ap_and, ap_or, ap_not, ap_eif, ap_for, ap_lc, ap_rg1, ap_rg2, ap_zp, ap_iseq, ap_slc, ap_onone, ap_osome, ap_chain, ap_lstof, ap_suml, bnd_some, bnd_none, List.map_cons, List.map_nil, List.length_cons, List.length_nil, List.replicate_succ, List.replicate_zero, List.cons_append, List.nil_append, List.append_nil, List.getElem?_cons_zero, List.getElem?_cons_succ, List.set_cons_zero, List.set_cons_succ, Nat.reduceSub, Nat.reduceAdd, Nat.reduceLeDiff, Nat.reduceEqDiff, Nat.zero_add, if_true, if_false, reduceIte, reduceCtorEq, Bool.false_eq_true, Bool.not_true, Bool.not_false, decide_true, decide_false, Nat.sub_self, Nat.sub_zero, Nat.zero_le, Nat.le_refl, gt_i, ge_i, lt_i, le_i, eq_i, ne_i, eq_b, ne_b, add_i, sub_i, neg_i, addI_i, eq_w, ne_w, rev_w, len_w, get_new, set_new, len_rol, List.length_map, hd, mul_i hm]⟩
  obtain ⟨c, hc⟩ := cell
  have p16 : CPow 10 16 := ⟨by decide, by decide, by decide⟩
  have p55 : CPow 10 55 := ⟨by decide, by decide, by decide⟩
  have hm1 : CMulW 7919 (t : Int) := mulW_of (by decide) (by
    have : (10 : Nat) < 2 ^ 200 := by decide
    omega)
  have hm2 : CMulW 31 (if decide (c < 0) = true then 1 else 0) := mulW_of (by decide) (by split <;> decide)
  unfold φ_law_dice f_law_dice
  refine ⟨(if (if c < 0 then -c else c) - 10 ^ (16 : Int).toNat > 0 then (if c < 0 then -c else c) - 10 ^ (16 : Int).toNat else 0) % bigM, ((if c < 0 then -c else c) % 18446744073709551557 + 7919 * t + 31 * (if decide (c < 0) = true then 1 else 0)) % 18446744073709551616, ?_, Int.emod_nonneg _ (Int.ne_of_gt bigM_pos), Int.emod_nonneg _ (by decide), Int.emod_lt_of_pos _ (by decide)⟩
  simp only [ap_runF, ap_seq, ap_asg, List.map_cons, List.map_nil, List.length_cons, List.length_nil, Nat.reduceSub, Nat.reduceAdd, List.replicate_succ, List.replicate_zero, List.cons_append, List.nil_append]
  rw [hc]
  have hbm : ∀ x : Int, modD (.int x) (.int (10 ^ (55 : Int).toNat * 10 ^ (55 : Int).toNat)) S = some (.int (x % bigM), S) := fun x => mod_i bigM_pos
  simp only [ap_wipe, ap_wipe0, ap_runF, ap_seq, ap_next, ap_expr, ap_ret, ap_if, ap_asg, ap_par, ap_aug, ap_nm, ap_tp, ap_gnil, ap_gcons, ap_gix, ap_var, ap_c, ap_op1, ap_op2, ap_opL, ap_anil, ap_acons, ap_tup, ap_lst, ap_fz, ap_new, ap_call, ap_mth, ap_bl, ap_tru, ap_bnot, ap_band, ap_bor, ap_and, ap_or, ap_not, ap_eif, ap_for, ap_lc, ap_rg1, ap_rg2, ap_zp, ap_iseq, ap_slc, ap_onone, ap_osome, ap_chain, ap_lstof, ap_suml, bnd_some, bnd_none, List.map_cons, List.map_nil, List.length_cons, List.length_nil, List.replicate_succ, List.replicate_zero, List.cons_append, List.nil_append, List.append_nil, List.getElem?_cons_zero, List.getElem?_cons_succ, List.set_cons_zero, List.set_cons_succ, Nat.reduceSub, Nat.reduceAdd, Nat.reduceLeDiff, Nat.reduceEqDiff, Nat.zero_add, if_true, if_false, reduceIte, reduceCtorEq, Bool.false_eq_true, Bool.not_true, Bool.not_false, decide_true, decide_false, Nat.sub_self, Nat.sub_zero, Nat.zero_le, Nat.le_refl, gt_i, ge_i, lt_i, le_i, eq_i, ne_i, eq_b, ne_b, add_i, sub_i, neg_i, addI_i, eq_w, ne_w, rev_w, len_w, get_new, set_new, abs_i, pow_i p16, pow_i p55, mul_i big_mul, max_i, hbm]
  rw [mod_i (by decide : (0 : Int) < 18446744073709551557)]
  simp only [ap_wipe, ap_wipe0, ap_runF, ap_seq, ap_next, ap_expr, ap_ret, ap_if, ap_asg, ap_par, ap_aug, ap_nm, ap_tp, ap_gnil, ap_gcons, ap_gix, ap_var, ap_c, ap_op1, ap_op2, ap_opL, ap_anil, ap_acons, ap_tup, ap_lst, ap_fz, ap_new, ap_call, ap_mth, ap_bl, ap_tru, ap_bnot, ap_band, ap_bor, ap_and, ap_or, ap_not, ap_eif, ap_for, ap_lc, ap_rg1, ap_rg2, ap_zp, ap_iseq, ap_slc, ap_onone, ap_osome, ap_chain, ap_lstof, ap_suml, bnd_some, bnd_none, List.map_cons, List.map_nil, List.length_cons, List.length_nil, List.replicate_succ, List.replicate_zero, List.cons_append, List.nil_append, List.append_nil, List.getElem?_cons_zero, List.getElem?_cons_succ, List.set_cons_zero, List.set_cons_succ, Nat.reduceSub, Nat.reduceAdd, Nat.reduceLeDiff, Nat.reduceEqDiff, Nat.zero_add, if_true, if_false, reduceIte, reduceCtorEq, Bool.false_eq_true, Bool.not_true, Bool.not_false, decide_true, decide_false, Nat.sub_self, Nat.sub_zero, Nat.zero_le, Nat.le_refl, gt_i, ge_i, lt_i, le_i, eq_i, ne_i, eq_b, ne_b, add_i, sub_i, neg_i, addI_i, eq_w, ne_w, rev_w, len_w, get_new, set_new, mul_i hm1, int_b, mul_i hm2]
  rw [mod_i (by decide : (0 : Int) < 18446744073709551616)]
  simp only [ap_wipe, ap_wipe0, ap_runF, ap_seq, ap_next, ap_expr, ap_ret, ap_if, ap_asg, ap_par, ap_aug, ap_nm, ap_tp, ap_gnil, ap_gcons, ap_gix, ap_var, ap_c, ap_op1, ap_op2, ap_opL, ap_anil, ap_acons, ap_tup, ap_lst, ap_fz, ap_new, ap_call, ap_mth, ap_bl, ap_tru, ap_bnot, ap_band, ap_bor, ap_and, ap_or, ap_not, ap_eif, ap_for, ap_lc, ap_rg1, ap_rg2, ap_zp, ap_iseq, ap_slc, ap_onone, ap_osome, ap_chain, ap_lstof, ap_suml, bnd_some, bnd_none, List.map_cons, List.map_nil, List.length_cons, List.length_nil, List.replicate_succ, List.replicate_zero, List.cons_append, List.nil_append, List.append_nil, List.getElem?_cons_zero, List.getElem?_cons_succ, List.set_cons_zero, List.set_cons_succ, Nat.reduceSub, Nat.reduceAdd, Nat.reduceLeDiff, Nat.reduceEqDiff, Nat.zero_add, if_true, if_false, reduceIte, reduceCtorEq, Bool.false_eq_true, Bool.not_true, Bool.not_false, decide_true, decide_false, Nat.sub_self, Nat.sub_zero, Nat.zero_le, Nat.le_refl, gt_i, ge_i, lt_i, le_i, eq_i, ne_i, eq_b, ne_b, add_i, sub_i, neg_i, addI_i, eq_w, ne_w, rev_w, len_w, get_new, set_new]
  rw [if_pos (sizeBig (by omega))]
  simp only [ap_wipe, ap_wipe0, ap_runF, ap_seq, ap_next, ap_expr, ap_ret, ap_if, ap_asg, ap_par, ap_aug, ap_nm, ap_tp, ap_gnil, ap_gcons, ap_gix, ap_var, ap_c, ap_op1, ap_op2, ap_opL, ap_anil, ap_acons, ap_tup, ap_lst, ap_fz, ap_new, ap_call, ap_mth, ap_bl, ap_tru, ap_bnot, ap_band, ap_bor, ap_and, ap_or, ap_not, ap_eif, ap_for, ap_lc, ap_rg1, ap_rg2, ap_zp, ap_iseq, ap_slc, ap_onone, ap_osome, ap_chain, ap_lstof, ap_suml, bnd_some, bnd_none, List.map_cons, List.map_nil, List.length_cons, List.length_nil, List.replicate_succ, List.replicate_zero, List.cons_append, List.nil_append, List.append_nil, List.getElem?_cons_zero, List.getElem?_cons_succ, List.set_cons_zero, List.set_cons_succ, Nat.reduceSub, Nat.reduceAdd, Nat.reduceLeDiff, Nat.reduceEqDiff, Nat.zero_add, if_true, if_false, reduceIte, reduceCtorEq, Bool.false_eq_true, Bool.not_true, Bool.not_false, decide_true, decide_false, Nat.sub_self, Nat.sub_zero, Nat.zero_le, Nat.le_refl, gt_i, ge_i, lt_i, le_i, eq_i, ne_i, eq_b, ne_b, add_i, sub_i, neg_i, addI_i, eq_w, ne_w, rev_w, len_w, get_new, set_new]
structure Good (k m q : Nat) : Prop where
  hk : 1 ≤ k ∧ k ≤ 4
  hm : m ≤ 10
  hz : ∀ i ≤ m, (2 * k) ^ i ≤ 2048
  hc : m = 0 ∨ ((rowsL k m).countP isR : Int) = 2 * k * (2 * k - 1) ^ (m - 1)
  hq : q ≤ 9
  hy : ∀ i ≤ q, (2 * k) ^ i ≤ 8192
  ht : (chainB (everyL k q) && (everyL k q).all isR) = true
def menuD : List D := [.tup [.int 1, .int 7, .int 9], .tup [.int 2, .int 4, .int 4], .tup [.int 2, .int 5, .int 3], .tup [.int 3, .int 3, .int 3], .tup [.int 4, .int 2, .int 2], .tup [.int 4, .int 3, .int 2], .tup [.int 3, .int 0, .int 2]]
theorem menu_good {j : Nat} {d : D} (h : menuD[j]? = some d) : ∃ k m q : Nat, d = .tup [.int k, .int m, .int q] ∧ Good k m q := by
  match j, h with
  | 0, h => cases h; exact ⟨1, 7, 9, rfl, ⟨by decide, by decide, by decide, .inr c17, by decide, by decide, t19⟩⟩
  | 1, h => cases h; exact ⟨2, 4, 4, rfl, ⟨by decide, by decide, by decide, .inr c24, by decide, by decide, t24⟩⟩
  | 2, h => cases h; exact ⟨2, 5, 3, rfl, ⟨by decide, by decide, by decide, .inr c25, by decide, by decide, t23⟩⟩
  | 3, h => cases h; exact ⟨3, 3, 3, rfl, ⟨by decide, by decide, by decide, .inr c33, by decide, by decide, t33⟩⟩
  | 4, h => cases h; exact ⟨4, 2, 2, rfl, ⟨by decide, by decide, by decide, .inr c42, by decide, by decide, t43⟩⟩
  | 5, h => cases h; exact ⟨4, 3, 2, rfl, ⟨by decide, by decide, by decide, .inr c43, by decide, by decide, t43⟩⟩
  | 6, h => cases h; exact ⟨3, 0, 2, rfl, ⟨by decide, by decide, by decide, .inl rfl, by decide, by decide, t32⟩⟩
  | j + 7, h => simp [menuD] at h
theorem p_law (ns : List Int) : φ_law [.rol (iL ns)] [] = some (.bl true, []) := by
  suffices hf : ∃ S', f_law [.rol (iL ns)] [] = some (.bl true, S') by
    obtain ⟨S', h⟩ := hf
    exact gz_pure (S := []) (G := S') h rfl
  unfold f_law
  simp only [ap_wipe, ap_wipe0, ap_runF, ap_seq, ap_next, ap_expr, ap_ret, ap_if, ap_asg, ap_par, ap_aug, ap_nm, ap_tp, ap_gnil, ap_gcons, ap_gix, ap_var, ap_c, ap_op1, ap_op2, ap_opL, ap_anil, ap_acons, ap_tup, ap_lst, ap_fz, ap_new, ap_call, ap_mth, ap_bl, ap_tru, ap_bnot, ap_band, ap_bor, ap_and, ap_or, ap_not, ap_eif, ap_for, ap_lc, ap_rg1, ap_rg2, ap_zp, ap_iseq, ap_slc, ap_onone, ap_osome, ap_chain, ap_lstof, ap_suml, bnd_some, bnd_none, List.map_cons, List.map_nil, List.length_cons, List.length_nil, List.replicate_succ, List.replicate_zero, List.cons_append, List.nil_append, List.append_nil, List.getElem?_cons_zero, List.getElem?_cons_succ, List.set_cons_zero, List.set_cons_succ, Nat.reduceSub, Nat.reduceAdd, Nat.reduceLeDiff, Nat.reduceEqDiff, Nat.zero_add, if_true, if_false, reduceIte, reduceCtorEq, Bool.false_eq_true, Bool.not_true, Bool.not_false, decide_true, decide_false, Nat.sub_self, Nat.sub_zero, Nat.zero_le, Nat.le_refl, gt_i, ge_i, lt_i, le_i, eq_i, ne_i, eq_b, ne_b, add_i, sub_i, neg_i, addI_i, eq_w, ne_w, rev_w, len_w, get_new, set_new, len_rol, min_i, max_i]
  have hb : ∀ x : Int, (if (if x < 2 then x else 2) > 1 then (if x < 2 then x else 2) else 1) = 1 ∨ (if (if x < 2 then x else 2) > 1 then (if x < 2 then x else 2) else 1) = 2 := fun x => by
    split <;> split at * <;> omega
  have hb2 := hb (iL ns).length
  generalize (if (if ((iL ns).length : Int) < 2 then ((iL ns).length : Int) else 2) > 1 then (if ((iL ns).length : Int) < 2 then ((iL ns).length : Int) else 2) else 1) = cnt at hb2
  rw [if_pos (fit_of (by omega))]
  simp only [ap_wipe, ap_wipe0, ap_runF, ap_seq, ap_next, ap_expr, ap_ret, ap_if, ap_asg, ap_par, ap_aug, ap_nm, ap_tp, ap_gnil, ap_gcons, ap_gix, ap_var, ap_c, ap_op1, ap_op2, ap_opL, ap_anil, ap_acons, ap_tup, ap_lst, ap_fz, ap_new, ap_call, ap_mth, ap_bl, ap_tru, ap_bnot, ap_band, ap_bor, ap_and, ap_or, ap_not, ap_eif, ap_for, ap_lc, ap_rg1, ap_rg2, ap_zp, ap_iseq, ap_slc, ap_onone, ap_osome, ap_chain, ap_lstof, ap_suml, bnd_some, bnd_none, List.map_cons, List.map_nil, List.length_cons, List.length_nil, List.replicate_succ, List.replicate_zero, List.cons_append, List.nil_append, List.append_nil, List.getElem?_cons_zero, List.getElem?_cons_succ, List.set_cons_zero, List.set_cons_succ, Nat.reduceSub, Nat.reduceAdd, Nat.reduceLeDiff, Nat.reduceEqDiff, Nat.zero_add, if_true, if_false, reduceIte, reduceCtorEq, Bool.false_eq_true, Bool.not_true, Bool.not_false, decide_true, decide_false, Nat.sub_self, Nat.sub_zero, Nat.zero_le, Nat.le_refl, gt_i, ge_i, lt_i, le_i, eq_i, ne_i, eq_b, ne_b, add_i, sub_i, neg_i, addI_i, eq_w, ne_w, rev_w, len_w, get_new, set_new, rgD_map]
  refine bnd_exQ (Z := fun o => ∃ S', o = some (D.bl true, S')) (loopF_rel0 (fun i : Nat => D.int (0 + (i : Int))) (fun _ env S' => ∃ a b c d e, env = [some (.rol (iL ns)), a, b, c, d, e]) (List.range cnt.toNat) _ _ ?_ ⟨_, _, _, _, _, rfl⟩) ?_
  · rintro j i hi env T ⟨a, b, c, d, e, rfl⟩
    have hi1 : i ≤ 1 := by
      have h1 := (List.getElem?_eq_some_iff.mp hi).1
      rw [List.length_range] at h1
      rw [List.getElem?_range h1] at hi
      cases hi
      omega
    obtain ⟨x, y, h1, h2, h3⟩ := p_law_dice ns i T hi1
    have dd : isDice (T ++ [.lst [.int x, .int y]]) T.length := ⟨x, y, get_new, h2, h3⟩
    obtain ⟨jj, dm, T1, o1, o2, o3⟩ := p_law_one_of T.length menuD (T ++ [.lst [.int x, .int y]]) dd (by decide) rfl
    obtain ⟨k, m, q, rfl, g⟩ := menu_good o2
    obtain ⟨T2, r1, r2⟩ := p_rows_right T.length k m T1 o3.1 g.hk g.hm g.hz g.hc
    obtain ⟨T3, s1, s2⟩ := p_pairs_right T.length k q T2 r2.1 g.hk g.hq g.hy g.ht
    have h1' : φ_law_dice [.rol (iL ns), .int (0 + (i : Int))] T = some (.loc T.length, T ++ [.lst [.int x, .int y]]) := by rw [Int.zero_add]; exact h1
    refine ⟨_, _, [some (.rol (iL ns)), some (.int (0 + (i : Int))), some (.loc T.length), some (.int k), some (.int m), some (.int q)], T3, rfl, ?_, _, _, _, _, _, rfl⟩
    simp only [ap_wipe, ap_wipe0, ap_runF, ap_seq, ap_next, ap_expr, ap_ret, ap_if, ap_asg, ap_par, ap_aug, ap_nm, ap_tp, ap_gnil, ap_gcons, ap_gix, ap_var, ap_c, ap_op1, ap_op2, ap_opL, ap_anil, ap_acons, ap_tup, ap_lst, ap_fz, ap_new, ap_call, ap_mth, ap_bl, ap_tru, ap_bnot, ap_band, ap_bor, ap_and, ap_or, ap_not, ap_eif, ap_for, ap_lc, ap_rg1, ap_rg2, ap_zp, ap_iseq, ap_slc, ap_onone, ap_osome, ap_chain, ap_lstof, ap_suml, bnd_some, bnd_none, List.map_cons, List.map_nil, List.length_cons, List.length_nil, List.replicate_succ, List.replicate_zero, List.cons_append, List.nil_append, List.append_nil, List.getElem?_cons_zero, List.getElem?_cons_succ, List.set_cons_zero, List.set_cons_succ, Nat.reduceSub, Nat.reduceAdd, Nat.reduceLeDiff, Nat.reduceEqDiff, Nat.zero_add, if_true, if_false, reduceIte, reduceCtorEq, Bool.false_eq_true, Bool.not_true, Bool.not_false, decide_true, decide_false, Nat.sub_self, Nat.sub_zero, Nat.zero_le, Nat.le_refl, gt_i, ge_i, lt_i, le_i, eq_i, ne_i, eq_b, ne_b, add_i, sub_i, neg_i, addI_i, eq_w, ne_w, rev_w, len_w, get_new, set_new, h1']
    simp only [if_pos (sizeBig (show 3 ≤ 1000000 by omega)), if_pos (sizeBig (show 7 ≤ 1000000 by omega)), bnd_some]
    have o1' := o1
    unfold menuD at o1'
    simp only [ap_wipe, ap_wipe0, ap_runF, ap_seq, ap_next, ap_expr, ap_ret, ap_if, ap_asg, ap_par, ap_aug, ap_nm, ap_tp, ap_gnil, ap_gcons, ap_gix, ap_var, ap_c, ap_op1, ap_op2, ap_opL, ap_anil, ap_acons, ap_tup, ap_lst, ap_fz, ap_new, ap_call, ap_mth, ap_bl, ap_tru, ap_bnot, ap_band, ap_bor, ap_and, ap_or, ap_not, ap_eif, ap_for, ap_lc, ap_rg1, ap_rg2, ap_zp, ap_iseq, ap_slc, ap_onone, ap_osome, ap_chain, ap_lstof, ap_suml, bnd_some, bnd_none, List.map_cons, List.map_nil, List.length_cons, List.length_nil, List.replicate_succ, List.replicate_zero, List.cons_append, List.nil_append, List.append_nil, List.getElem?_cons_zero, List.getElem?_cons_succ, List.set_cons_zero, List.set_cons_succ, Nat.reduceSub, Nat.reduceAdd, Nat.reduceLeDiff, Nat.reduceEqDiff, Nat.zero_add, if_true, if_false, reduceIte, reduceCtorEq, Bool.false_eq_true, Bool.not_true, Bool.not_false, decide_true, decide_false, Nat.sub_self, Nat.sub_zero, Nat.zero_le, Nat.le_refl, gt_i, ge_i, lt_i, le_i, eq_i, ne_i, eq_b, ne_b, add_i, sub_i, neg_i, addI_i, eq_w, ne_w, rev_w, len_w, get_new, set_new]
    rw [if_pos (sizeBig (by omega))]
    simp only [ap_wipe, ap_wipe0, ap_runF, ap_seq, ap_next, ap_expr, ap_ret, ap_if, ap_asg, ap_par, ap_aug, ap_nm, ap_tp, ap_gnil, ap_gcons, ap_gix, ap_var, ap_c, ap_op1, ap_op2, ap_opL, ap_anil, ap_acons, ap_tup, ap_lst, ap_fz, ap_new, ap_call, ap_mth, ap_bl, ap_tru, ap_bnot, ap_band, ap_bor, ap_and, ap_or, ap_not, ap_eif, ap_for, ap_lc, ap_rg1, ap_rg2, ap_zp, ap_iseq, ap_slc, ap_onone, ap_osome, ap_chain, ap_lstof, ap_suml, bnd_some, bnd_none, List.map_cons, List.map_nil, List.length_cons, List.length_nil, List.replicate_succ, List.replicate_zero, List.cons_append, List.nil_append, List.append_nil, List.getElem?_cons_zero, List.getElem?_cons_succ, List.set_cons_zero, List.set_cons_succ, Nat.reduceSub, Nat.reduceAdd, Nat.reduceLeDiff, Nat.reduceEqDiff, Nat.zero_add, if_true, if_false, reduceIte, reduceCtorEq, Bool.false_eq_true, Bool.not_true, Bool.not_false, decide_true, decide_false, Nat.sub_self, Nat.sub_zero, Nat.zero_le, Nat.le_refl, gt_i, ge_i, lt_i, le_i, eq_i, ne_i, eq_b, ne_b, add_i, sub_i, neg_i, addI_i, eq_w, ne_w, rev_w, len_w, get_new, set_new, o1', r1, s1, tru_b]
  · rintro env T ⟨a, b, c, d, e, rfl⟩
    exact ⟨T, by simp only [ap_wipe, ap_wipe0, ap_runF, ap_seq, ap_next, ap_expr, ap_ret, ap_if, ap_asg, ap_par, ap_aug, ap_nm, ap_tp, ap_gnil, ap_gcons, ap_gix, ap_var, ap_c, ap_op1, ap_op2, ap_opL, ap_anil, ap_acons, ap_tup, ap_lst, ap_fz, ap_new, ap_call, ap_mth, ap_bl, ap_tru, ap_bnot, ap_band, ap_bor, ap_and, ap_or, ap_not, ap_eif, ap_for, ap_lc, ap_rg1, ap_rg2, ap_zp, ap_iseq, ap_slc, ap_onone, ap_osome, ap_chain, ap_lstof, ap_suml, bnd_some, bnd_none, List.map_cons, List.map_nil, List.length_cons, List.length_nil, List.replicate_succ, List.replicate_zero, List.cons_append, List.nil_append, List.append_nil, List.getElem?_cons_zero, List.getElem?_cons_succ, List.set_cons_zero, List.set_cons_succ, Nat.reduceSub, Nat.reduceAdd, Nat.reduceLeDiff, Nat.reduceEqDiff, Nat.zero_add, if_true, if_false, reduceIte, reduceCtorEq, Bool.false_eq_true, Bool.not_true, Bool.not_false, decide_true, decide_false, Nat.sub_self, Nat.sub_zero, Nat.zero_le, Nat.le_refl, gt_i, ge_i, lt_i, le_i, eq_i, ne_i, eq_b, ne_b, add_i, sub_i, neg_i, addI_i, eq_w, ne_w, rev_w, len_w, get_new, set_new]⟩
end Hx

namespace Hx
open PySem PySem.Spec PyProof.Rows L2 PU
theorem facts {P : Program} {w : World} {K : PySem.W.Frag} {h : Heap} {mg : Str → Option Value} {f : Addr} (X : K.In h) (G : h.Ns mainGlobals mg) (hfa : mg ("law" : Str) = some (.ref f)) (c : He.SaysD fa fn K) :
    ∃ fd : FuncData, (∀ (s : Shared) (v : Value), BindsTo s fd ⟨[v], []⟩ [("script", v)]) ∧ ∀ base : Heap, K.In base → base.Ns mainGlobals mg → FnOk P w K mg base CX0 10 f fd ["script"] (spF 1 φ_law) := by
  have T : Tx K mg := Tx.of X G c
  obtain ⟨fd, F⟩ := c.def_ 48 (d := d_law) rfl
  have F' : FnP K "law" s_law (He.fAd K d_law.at_) fd := F
  have e := hfa.symm.trans (T.glo "law" (by decide))
  cases e
  have b := FunD.bindsA (ps := ["script"]) F' fun _ _ _ _ _ _ us hl => match us, hl with | [_], _ => rfl
  exact ⟨fd, fun s v => b s [v] rfl, fun base _ _ => x_law T F'⟩
theorem sp_law {K : PySem.W.Frag} (nl : noL K = true) {H : Hp} {a : Addr} {ns : List Int} (hS : SqL K H a (ns.map V.int)) : spF 1 φ_law [.ref a] H (fun v _ => v = .bl true) fun _ _ _ => False := by
  rcases hS with hS | ⟨o, its, n, h1, h2, _⟩
  · exact ⟨rfl, [.rol (iL ns)], ⟨[], []⟩, [], .bl true, [], ⟨.ref a, [], rfl, ⟨a, _, rfl, hS, ⟨by simp, by simp⟩, repL_ints ns⟩, rfl⟩, ⟨rfl, List.nodup_nil, fun n x b e => by simp at e, fun b hb => by simp at hb⟩, p_law ns, fun v H' m' _ _ r => r⟩
  · exact absurd h2 (noL_ok nl h1)
end Hx
open PySem PySem.W PySem.Calls PyProof.Rows
theorem PySem.Challenge.cw_undonewords_k30_whole_all_rows_of_letter_holds : PySem.Challenge.rw_undonewords_k30_whole_all_rows_of_letter.Holds := by
  w_on; o_law
  refine HandSHeadRun.head_any (r := OpenLaw.row PySem.Challenge.rw_undonewords_k30_whole_all_rows_of_letter) (q := view (OpenLaw.row PySem.Challenge.rw_undonewords_k30_whole_all_rows_of_letter).prog [60]) (H := Hx.hk) (ob := Hx.ob) (M := 6000) (loose := Hx.loose) (d := HandSHeadRun.topDef (OpenLaw.row PySem.Challenge.rw_undonewords_k30_whole_all_rows_of_letter).prog 60) (kwd := []) Hx.ob_eq
    (by kernel_rfl) (fun s => by kernel_rfl) Hx.run (by kernel_rfl) (by kernel_rfl) (by kernel_rfl) (by rfl) (by first | assumption | decide +kernel) (by decide +kernel) ⟨rfl, rfl, rfl, rfl, rfl, by decide +kernel⟩ ?hw ?hc
  case hw => w_witness2
  case hc =>
    refine L2.walk_ofE (l := PySem.Challenge.rw_undonewords_k30_whole_all_rows_of_letter) (n := 63) (k := 10) (x := "script") (CX := L2.CX0) rfl (by decide) (by kernel_rfl) ⟨rfl, by decide, by decide⟩ ?F (fun _ _ _ _ z => z)
    intro w mg fa h Y G hmg0
    obtain ⟨K, KX, c, nl⟩ := Y
    have hmg : mg ("law" : PySem.Str) = some (.ref fa) := by
      have e : (HandSHeadRun.topDef (OpenLaw.row PySem.Challenge.rw_undonewords_k30_whole_all_rows_of_letter).prog 60).name = ("law" : PySem.Str) := by kernel_rfl
      rw [← e]
      exact hmg0
    obtain ⟨fd, hb, hF⟩ := Hx.facts (P := (PySem.Challenge.rw_undonewords_k30_whole_all_rows_of_letter).prog) (w := w) KX G hmg c
    exact ⟨K, fd, PU.spF 1 Hx.φ_law, KX, hb, fun H a ns hl _ hS => Hx.sp_law nl hS, hF⟩
