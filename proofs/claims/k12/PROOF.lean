import PyProof.Rows.All
import Wide.All
import OpenK.AllK
import Wide.FinOn
import HandS.Base
import HandS.Call
import HandS.List
import HandS.Dict
import HandS.Iter
import HandS.Comp
import HandS.Walk
import HandS.Exc
import HandS.ExcOwn
import HandS.Words
import HandS.WordsExc
import HandS.Defaults
import HandS.TupAny
import HandS.Deep
import HandS.CallSlots
import HandS.Strs
import HandS.Set
import HandS.SetFor
import HandS.Lambda
import KE.KDictKeyed
import KE.DataEq
import HandS.TupMul
import HandS.Style
import HandS.TupLe
import HandS.Text
import HandS.IsInst
import HandS.Conv
import PyProof.Rows.SortShellAny
import KE.GoesNew
import HandS.OwnEq
import OpenK.KOps
import KE.SortKeyHeap
import HandS.Head0
import HandS.Head1
import HandS.Head2
import HandS.HeadEnd
import HandS.HeadHook1
import HandS.HeadHook2
import HandS.HeadHook3
import HandS.HeadHook4
import HandS.HeadWalk
import HandS.EndTab
import KE.Datum
import HandS.Zip
import HandS.SortRule
import KE.DatumIndex
import PyProof.Rows.TupAdd
import KE.SortCalls
import KE.SortData
import KE.KDictDisplayH
import HandS.TupLen
import HandS.ExcInit
import HandS.ExcSuper
import HandS.ExcField
import HandS.TryMany
import HandS.ExcIs
import HandS.ExcValue
import HandS.Nested
import KE.KExcSuper
import KE.KExcInit
import KE.KExcIs
import KE.KEqNest
import HandS.MakeKwOnly
import PySem.Challenge.RW_offerstands_k12_streams_that_bring
set_option Elab.async false
set_option linter.all false
set_option maxRecDepth 100000
set_option maxHeartbeats 4000000
set_option autoImplicit false
namespace TW
open PySem PySem.Spec L2

/-- tree values: tuples (and lists, dicts, objects that nobody writes any more) as trees; loc n: the n-th cell of the mirror's heap; ty, cls: a built-in type, an own class -/
inductive T where
  | non | bl (b : Bool) | int (i : Int) | str (s : Str)
  | tup (xs : List T) | ktup (xs : List T) | lst (xs : List T) | klst (xs : List T) | set (xs : List Int)
  | dK (ks : List Key) (vs : List T) | dT (ks : List (List Key)) (vs : List T) | dN (ks : List NestedKey) (vs : List T)
  | obj (c : Str) (ns : List Str) (vs : List T)
  | loc (n : Nat)
  | ty (n : String) | cls (c : Str)
/-- cells -/
inductive MO where
  | lst (xs : List T) | set (xs : List Int) | dK (kvs : List (Key × T)) | dT (kvs : List (List Key × T)) | dN (kvs : List (NestedKey × T)) | ins (c : Str) (fs : List (Str × T))
abbrev MH := List MO
inductive Res (α : Type) where
  | ok (a : α) (h : MH) | exc (c : Str) (fs : List (Str × T)) (h : MH) | bad
namespace Res
@[simp] def bind {α β : Type} (r : Res α) (k : α → MH → Res β) : Res β := match r with
  | .ok a h => k a h
  | .exc c fs h => .exc c fs h
  | .bad => .bad
end Res
abbrev Rho := List (Option T)
abbrev EM := Rho → MH → Res T
abbrev TM := Rho → MH → Res Bool
abbrev AM := Rho → MH → Res (List T)


/-- names of classes to addresses; the tables of code objects, each with the name that its code objects bear; what is said to stand all along -/
structure Cln where
  of : Str → Option Addr
  tabs : List (Addr × Str)
  pin : Addr → HO → Prop := fun _ _ => False
instance : CoeFun Cln (fun _ => Str → Option Addr) := ⟨Cln.of⟩
abbrev NT (o : HO) : Prop := ∀ ps, o ≠ .tbl ps
/-- no table, no tuple -/
abbrev NZ (o : HO) : Prop := NT o ∧ ∀ vs, o ≠ .tup vs
/-- it stands at a, a dict perhaps locked -/
def isDk : HO → Bool
  | .dK _ => true
  | .dT _ => true
  | _ => false
def Sm (H : Hp) (a : Addr) (o : HO) : Prop := H a = some o ∨ (isDk o = true ∧ ∃ ob, H a = some (.frz ob o))
theorem Sm.ex {H : Hp} {a : Addr} {o : HO} (h : Sm H a o) (e : isDk o = false := by rfl) : H a = some o := by
  rcases h with h | ⟨d, _⟩
  · exact h
  · rw [e] at d
    cases d
theorem Sm.there {H : Hp} {a : Addr} {o : HO} (h : Sm H a o) : ∃ u, H a = some u := by
  rcases h with h | ⟨_, ob, h⟩
  · exact ⟨_, h⟩
  · exact ⟨_, h⟩
theorem Sm.same {H H' : Hp} {a : Addr} {o : HO} (h : Sm H a o) (e : H' a = H a) : Sm H' a o := by
  unfold Sm
  rw [e]
  exact h
theorem Sm.rd {H : Hp} {a : Addr} {o : HO} (h : Sm H a o) : Rd H a o := by
  rcases h with h | ⟨_, ob, h⟩
  · exact .inl h
  · exact .inr ⟨ob, h⟩
/-- what a mirror leans on: the program, the world, the written part, the classes by names -/
structure Gx where
  P : Program
  w : World
  K : PySem.W.Frag
  cl : Cln
/-- of a context -/
abbrev gx (X : Cx) (cl : Cln) : Gx := ⟨X.prog, X.w, X.K, cl⟩

/-- the cells' addresses, in the mirror's order; z: what is under way and no value names yet -/
structure Ml where
  c : List Addr
  z : List Addr
def Ml.no (m : Ml) (a : Addr) : Prop := a ∉ m.c ∧ a ∉ m.z
section
variable (G : Gx) (m : Ml) (H : Hp)
def KTup (K : PySem.W.Frag) (a : Addr) (xs : List V) : Prop := ∃ (o : Obj) (its : Array Value) (n : Nat), K.lookup a = some o ∧ o.cls = .type "tuple" ∧ o.dict = none ∧ o.data = .seq its n ∧ its.size ≤ sizeLine ∧ Vals xs its.toList
/-- a set of ints (as a list that holds each member once or more) -/
def FzS (a : Addr) (xs : List Int) : Prop := ∃ S n, H a = some (SetO G.w a S n) ∧ (∀ k, S k = decide (k ∈ xs)) ∧ n ≤ xs.length
def KLst (K : PySem.W.Frag) (a : Addr) (xs : List V) : Prop := ∃ (o : Obj) (its : Array Value) (n : Nat), K.lookup a = some o ∧ o.cls = .type "list" ∧ o.dict = none ∧ o.data = .seq its n ∧ its.size ≤ sizeLine ∧ Vals xs its.toList
def Fz (a : Addr) (o : HO) : Prop := Rd H a o ∧ m.no a
/-- a tuple that is known to the object: it has no __dict__ -/
def FTup (a : Addr) (xs : List V) : Prop := ∃ o : Obj, H a = some (.frz o (.tup xs)) ∧ o.cls = .type "tuple" ∧ o.dict = none ∧ m.no a
mutual
/-- a key of any depth, its tuples tracked -/
def KeyAt : NestedKey → V → Prop
  | .none, v => v = .non
  | .num i, v => v = .int i
  | .text s, v => v = .str s
  | .tup ks, v => ∃ a vs, v = .ref a ∧ (H a = some (.tup vs) ∧ m.no a) ∧ KeyAll ks vs
def KeyAll : List NestedKey → List V → Prop
  | [], vs => vs = []
  | k :: ks, vs => ∃ v r, vs = v :: r ∧ KeyAt k v ∧ KeyAll ks r
end
/-- a dict whose keys are such, at a: its keys, where they lie, its values -/
def DicN (P : Program) (w : World) (a : Addr) (q : List (NestedKey × Addr × V)) : HO := .ext fun h => q.length ≤ sizeLine ∧ (a == sysModules) = false ∧ ∃ ys : List (NestedKey × Addr × Value), Paired (fun (p : NestedKey × Addr × V) (y : NestedKey × Addr × Value) => p.1 = y.1 ∧ p.2.1 = y.2.1 ∧ RelV p.2.2 y.2.2) q ys ∧
  ∃ o es ep, h.get? a = some o ∧ o.ExactDict ∧ o.data = .dict es ep ∧ es.toList = ys.map (entryOfKey (nestedKind P w)) ∧ (ys.map (·.1)).Nodup
def KeysN (q : List (NestedKey × Addr × V)) : Prop := ∀ y ∈ q, KeyAt m H y.1 (.ref y.2.1) ∧ y.1.depth ≤ 8
mutual
def R : T → V → Prop
  | .non, v => v = .non
  | .bl b, v => v = .bl b
  | .int i, v => v = .int i
  | .str s, v => v = .str s
  | .tup xs, v => ∃ a vs, v = .ref a ∧ (H a = some (.tup vs) ∧ m.no a) ∧ Rs xs vs
  | .ktup xs, v => ∃ a vs, v = .ref a ∧ (KTup G.K a vs ∨ FTup m H a vs) ∧ Rs xs vs
  | .set xs, v => ∃ a, v = .ref a ∧ FzS G H a xs ∧ m.no a
  | .lst xs, v => ∃ a vs, v = .ref a ∧ (H a = some (.lst vs) ∧ m.no a) ∧ Rs xs vs
  | .klst xs, v => ∃ a vs, v = .ref a ∧ (Fz m H a (.lst vs) ∨ KLst G.K a vs) ∧ Rs xs vs
  | .dK ks xs, v => ∃ a vs, v = .ref a ∧ Fz m H a (.dK (ks.zip vs)) ∧ ks.length = vs.length ∧ Rs xs vs
  | .dT ks xs, v => ∃ a vs, v = .ref a ∧ Fz m H a (.dT (ks.zip vs)) ∧ ks.length = vs.length ∧ Rs xs vs
  | .dN ks xs, v => ∃ a q, v = .ref a ∧ (H a = some (DicN G.P G.w a q) ∧ m.no a) ∧ ks = q.map (·.1) ∧ KeysN m H q ∧ Rs xs (q.map fun y => y.2.2)
  | .obj c ns xs, v => ∃ a C dx vs, v = .ref a ∧ G.cl c = some C ∧ (H a = some (.ins C dx (ns.zip vs)) ∧ m.no a) ∧ ns.length = vs.length ∧ Rs xs vs
  | .loc n, v => ∃ a, m.c[n]? = some a ∧ v = .ref a
  | .ty n, v => v = .ty n
  | .cls c, v => ∃ C, G.cl c = some C ∧ v = .ref C
def Rs : List T → List V → Prop
  | [], vs => vs = []
  | x :: xs, vs => ∃ v r, vs = v :: r ∧ R x v ∧ Rs xs r
end
/-- pairs with keys -/
def Rk {k : Type} (kvs : List (k × T)) (q : List (k × V)) : Prop := kvs.map (·.1) = q.map (·.1) ∧ Rs G m H (kvs.map (·.2)) (q.map (·.2))
def RO (a : Addr) : MO → Prop
  | .lst xs => ∃ vs, H a = some (.lst vs) ∧ Rs G m H xs vs
  | .set xs => FzS G H a xs
  | .dK kvs => ∃ q, H a = some (.dK q) ∧ Rk G m H kvs q
  | .dT kvs => ∃ q, H a = some (.dT q) ∧ Rk G m H kvs q
  | .dN kvs => ∃ q, H a = some (DicN G.P G.w a q) ∧ kvs.map (·.1) = q.map (·.1) ∧ KeysN m H q ∧ Rs G m H (kvs.map (·.2)) (q.map fun y => y.2.2)
  | .ins c fs => ∃ C dx q, G.cl c = some C ∧ H a = some (.ins C dx q) ∧ Rk G m H fs q
/-- the tables of code objects; what is said to stand -/
def TabM : Prop := (∀ p ∈ G.cl.tabs, ∃ ps : Array Value, H p.1 = some (.tbl ps) ∧ m.no p.1 ∧ TriplesOk ps.toList ∧ ∀ (pos : Pos) (cv : Value), codeAmong pos ps.toList = some cv → ∃ c, cv = .ref c ∧ H c = some (LamX.CodeO c p.2) ∧ m.no c) ∧ ∀ a o, G.cl.pin a o → NT o ∧ Sm H a o ∧ m.no a
/-- the mirror's heap is held -/
structure Rel (hp : MH) : Prop where
  len : m.c.length = hp.length
  nd : m.c.Nodup
  ob : ∀ (n : Nat) (a : Addr) (o : MO), m.c[n]? = some a → hp[n]? = some o → RO G m H a o
  zs : ∀ a ∈ m.z, ∃ o, NZ o ∧ H a = some o
  zd : ∀ a ∈ m.z, a ∉ m.c
  tb : TabM G m H
/-- the names' values -/
structure RE (r : Rho) (σ : St) : Prop where
  len : r.length = σ.length
  at_ : ∀ (i : Nat) (x : T), r[i]? = some (some x) → ∃ v, σ[i]? = some (some v) ∧ R G m H x v
end
/-- what holds of values stays: the cells stand where they stood, what is tracked and no cell, nor under way, stands -/
structure Wk (m m' : Ml) (H H' : Hp) : Prop where
  pre : ∃ n, m'.c = m.c ++ n
  fr : ∀ a o, NT o → Sm H a o → m.no a → Sm H' a o ∧ m'.no a
/-- later: more cells, and what is tracked and no cell stands -/
structure Stp (m m' : Ml) (H H' : Hp) : Prop where
  pz : m'.z = m.z
  pre : ∃ n, m'.c = m.c ++ n
  fr : ∀ a o, NT o → Sm H a o → a ∉ m.c → Sm H' a o ∧ a ∉ m'.c
  zx : ∀ a o, NT o → H a = some o → a ∈ m.z → a ∉ m.c → H' a = some o
section
variable {G : Gx} {m m' m'' : Ml} {H H' H'' : Hp}
theorem Stp.wk (s : Stp m m' H H') : Wk m m' H H' := ⟨s.pre, fun a o t e n => ⟨(s.fr a o t e n.1).1, (s.fr a o t e n.1).2, by rw [s.pz]; exact n.2⟩⟩
theorem Stp.refl : Stp m m H H := ⟨rfl, ⟨[], by simp⟩, fun _ _ _ h n => ⟨h, n⟩, fun _ _ _ h _ _ => h⟩
theorem Stp.trans (a : Stp m m' H H') (b : Stp m' m'' H' H'') : Stp m m'' H H'' := by
  obtain ⟨n, e⟩ := a.pre
  obtain ⟨n', e'⟩ := b.pre
  refine ⟨b.pz.trans a.pz, ⟨n ++ n', by rw [e', e, List.append_assoc]⟩, fun c o t h k => ?_, fun c o t h z k => ?_⟩
  · obtain ⟨h1, k1⟩ := a.fr c o t h k
    exact b.fr c o t h1 k1
  · exact b.zx c o t (a.zx c o t h z k) (by rw [a.pz]; exact z) (a.fr c o t (.inl h) k).2
theorem Wk.cell (s : Wk m m' H H') {n : Nat} {a : Addr} (h : m.c[n]? = some a) : m'.c[n]? = some a := by
  obtain ⟨k, e⟩ := s.pre
  rw [e, List.getElem?_append_left (List.getElem?_eq_some_iff.mp h).1]
  exact h
theorem Stp.cell (s : Stp m m' H H') {n : Nat} {a : Addr} (h : m.c[n]? = some a) : m'.c[n]? = some a := s.wk.cell h
theorem Fz.wk {a : Addr} {o : HO} (f : Fz m H a o) (s : Wk m m' H H') (t : NT o := by intro _ z; cases z) : Fz m' H' a o := by
  obtain ⟨r, n⟩ := f
  rcases r with r | ⟨ob, r⟩
  · obtain ⟨h, k⟩ := s.fr a _ t (.inl r) n
    exact ⟨h.rd, k⟩
  · obtain ⟨h, k⟩ := s.fr a _ (by intro _ z; cases z) (.inl r) n
    exact ⟨.inr ⟨ob, h.ex⟩, k⟩
theorem FTup.wk {a : Addr} {xs : List V} (f : FTup m H a xs) (s : Wk m m' H H') : FTup m' H' a xs := by
  obtain ⟨o, h, c, d, n⟩ := f
  obtain ⟨h2, n2⟩ := s.fr a _ (by intro _ z; cases z) (.inl h) n
  exact ⟨o, h2.ex, c, d, n2⟩
theorem Fz.step {a : Addr} {o : HO} (f : Fz m H a o) (s : Stp m m' H H') (t : NT o := by intro _ z; cases z) : Fz m' H' a o := f.wk s.wk t
theorem Fz.sq {K : PySem.W.Frag} {a : Addr} {xs : List V} (f : Fz m H a (.lst xs)) : SqL K H a xs := .inl f.1
mutual
theorem KeyAt.to (t : ∀ a vs, H a = some (.tup vs) → m.no a → H' a = some (.tup vs) ∧ m'.no a) : ∀ (k : NestedKey) (v : V), KeyAt m H k v → KeyAt m' H' k v
  | .none, _, h => h
  | .num _, _, h => h
  | .text _, _, h => h
  | .tup ks, _, h => by
    simp only [KeyAt] at h ⊢
    obtain ⟨a, vs, e, f, r⟩ := h
    exact ⟨a, vs, e, t a vs f.1 f.2, KeyAll.to t ks vs r⟩
theorem KeyAll.to (t : ∀ a vs, H a = some (.tup vs) → m.no a → H' a = some (.tup vs) ∧ m'.no a) : ∀ (ks : List NestedKey) (vs : List V), KeyAll m H ks vs → KeyAll m' H' ks vs
  | [], _, h => h
  | k :: ks, _, h => by
    simp only [KeyAll] at h ⊢
    obtain ⟨v, r, e, h1, h2⟩ := h
    exact ⟨v, r, e, KeyAt.to t k v h1, KeyAll.to t ks r h2⟩
end
theorem KeysN.to {q : List (NestedKey × Addr × V)} (h : KeysN m H q) (t : ∀ a vs, H a = some (.tup vs) → m.no a → H' a = some (.tup vs) ∧ m'.no a) : KeysN m' H' q := fun y hy => ⟨KeyAt.to t _ _ (h y hy).1, (h y hy).2⟩
theorem Wk.tups (s : Wk m m' H H') : ∀ a vs, H a = some (.tup vs) → m.no a → H' a = some (.tup vs) ∧ m'.no a := fun a vs e n => ⟨(s.fr a _ (by intro _ z; cases z) (.inl e) n).1.ex, (s.fr a _ (by intro _ z; cases z) (.inl e) n).2⟩
theorem DicN.nt {P : Program} {w : World} {a : Addr} {q : List (NestedKey × Addr × V)} : NT (DicN P w a q) := by
  intro _ z
  unfold DicN at z
  cases z
theorem DicN.nz {P : Program} {w : World} {a : Addr} {q : List (NestedKey × Addr × V)} : NZ (DicN P w a q) := ⟨DicN.nt, by
  intro _ z
  unfold DicN at z
  cases z⟩
mutual
theorem R.wk (s : Wk m m' H H') : ∀ (x : T) (v : V), R G m H x v → R G m' H' x v
  | .non, _, h => h
  | .bl _, _, h => h
  | .int _, _, h => h
  | .str _, _, h => h
  | .ty _, _, h => h
  | .cls _, _, h => by
    simp only [R] at h ⊢
    exact h
  | .tup xs, _, h => by
    simp only [R] at h ⊢
    obtain ⟨a, vs, e, f, r⟩ := h
    exact ⟨a, vs, e, ⟨(s.fr a _ (by intro _ z; cases z) (.inl f.1) f.2).1.ex, (s.fr a _ (by intro _ z; cases z) (.inl f.1) f.2).2⟩, Rs.wk s xs vs r⟩
  | .ktup xs, _, h => by
    simp only [R] at h ⊢
    obtain ⟨a, vs, e, f, r⟩ := h
    exact ⟨a, vs, e, f.imp id fun f => f.wk s, Rs.wk s xs vs r⟩
  | .set xs, _, h => by
    simp only [R] at h ⊢
    obtain ⟨a, e, ⟨S, c, h1, h2, h5⟩, n⟩ := h
    obtain ⟨h3, n'⟩ := s.fr a _ (by intro _ z; unfold SetO at z; cases z) (.inl h1) n
    exact ⟨a, e, ⟨S, c, h3.ex, h2, h5⟩, n'⟩
  | .lst xs, _, h => by
    simp only [R] at h ⊢
    obtain ⟨a, vs, e, f, r⟩ := h
    exact ⟨a, vs, e, ⟨(s.fr a _ (by intro _ z; cases z) (.inl f.1) f.2).1.ex, (s.fr a _ (by intro _ z; cases z) (.inl f.1) f.2).2⟩, Rs.wk s xs vs r⟩
  | .klst xs, _, h => by
    simp only [R] at h ⊢
    obtain ⟨a, vs, e, f, r⟩ := h
    exact ⟨a, vs, e, f.elim (fun f => .inl (f.wk s)) .inr, Rs.wk s xs vs r⟩
  | .dK ks xs, _, h => by
    simp only [R] at h ⊢
    obtain ⟨a, vs, e, f, l, r⟩ := h
    exact ⟨a, vs, e, f.wk s, l, Rs.wk s xs vs r⟩
  | .dT ks xs, _, h => by
    simp only [R] at h ⊢
    obtain ⟨a, vs, e, f, l, r⟩ := h
    exact ⟨a, vs, e, f.wk s, l, Rs.wk s xs vs r⟩
  | .dN ks xs, _, h => by
    simp only [R] at h ⊢
    obtain ⟨a, q, e, f, l, kn, r⟩ := h
    exact ⟨a, q, e, ⟨(s.fr a _ DicN.nt (.inl f.1) f.2).1.ex, (s.fr a _ DicN.nt (.inl f.1) f.2).2⟩, l, kn.to s.tups, Rs.wk s xs _ r⟩
  | .obj c ns xs, _, h => by
    simp only [R] at h ⊢
    obtain ⟨a, C, dx, vs, e, hc, f, l, r⟩ := h
    exact ⟨a, C, dx, vs, e, hc, ⟨(s.fr a _ (by intro _ z; cases z) (.inl f.1) f.2).1.ex, (s.fr a _ (by intro _ z; cases z) (.inl f.1) f.2).2⟩, l, Rs.wk s xs vs r⟩
  | .loc n, _, h => by
    simp only [R] at h ⊢
    obtain ⟨a, e, q⟩ := h
    exact ⟨a, s.cell e, q⟩
theorem Rs.wk (s : Wk m m' H H') : ∀ (xs : List T) (vs : List V), Rs G m H xs vs → Rs G m' H' xs vs
  | [], _, h => h
  | x :: xs, _, h => by
    simp only [Rs] at h ⊢
    obtain ⟨v, r, e, h1, h2⟩ := h
    exact ⟨v, r, e, R.wk s x v h1, Rs.wk s xs r h2⟩
end
theorem R.step (s : Stp m m' H H') (x : T) (v : V) (h : R G m H x v) : R G m' H' x v := R.wk s.wk x v h
theorem Rs.step (s : Stp m m' H H') (xs : List T) (vs : List V) (h : Rs G m H xs vs) : Rs G m' H' xs vs := Rs.wk s.wk xs vs h
theorem Rk.wk {k : Type} {kvs : List (k × T)} {q : List (k × V)} (s : Wk m m' H H') (h : Rk G m H kvs q) : Rk G m' H' kvs q := ⟨h.1, Rs.wk s _ _ h.2⟩
theorem RE.wk {r : Rho} {σ : St} (s : Wk m m' H H') (h : RE G m H r σ) : RE G m' H' r σ :=
  ⟨h.len, fun i x e => let ⟨v, e1, q⟩ := h.at_ i x e; ⟨v, e1, R.wk s x v q⟩⟩
theorem Rk.step {k : Type} {kvs : List (k × T)} {q : List (k × V)} (s : Stp m m' H H') (h : Rk G m H kvs q) : Rk G m' H' kvs q := ⟨h.1, Rs.step s _ _ h.2⟩
theorem RE.step {r : Rho} {σ : St} (s : Stp m m' H H') (h : RE G m H r σ) : RE G m' H' r σ :=
  ⟨h.len, fun i x e => let ⟨v, e1, q⟩ := h.at_ i x e; ⟨v, e1, R.step s x v q⟩⟩
theorem RE.set {r : Rho} {σ : St} {i : Nat} {x : T} {v : V} (h : RE G m H r σ) (q : R G m H x v) : RE G m H (r.set i (some x)) (σ.set i (some v)) := by
  refine ⟨by simp [h.len], fun j y e => ?_⟩
  by_cases hj : i = j
  · subst hj
    have hl : i < r.length := by
      have := (List.getElem?_eq_some_iff.mp e).1
      simpa using this
    rw [List.getElem?_set_self hl] at e
    cases e
    exact ⟨v, List.getElem?_set_self (by rw [← h.len]; exact hl), q⟩
  · rw [List.getElem?_set_ne hj] at e ⊢
    exact h.at_ j y e
theorem RE.unset {r : Rho} {σ : St} {i : Nat} (h : RE G m H r σ) : RE G m H (r.set i none) (σ.set i none) := by
  refine ⟨by simp [h.len], fun j y e => ?_⟩
  by_cases hj : i = j
  · subst hj
    have hl : i < r.length := by
      have := (List.getElem?_eq_some_iff.mp e).1
      simpa using this
    rw [List.getElem?_set_self hl] at e
    cases e
  · rw [List.getElem?_set_ne hj] at e ⊢
    exact h.at_ j y e
theorem Rs.len : ∀ {xs : List T} {vs : List V}, Rs G m H xs vs → xs.length = vs.length
  | [], _, h => by simp only [Rs] at h; subst h; rfl
  | x :: xs, _, h => by
    simp only [Rs] at h
    obtain ⟨v, r, rfl, _, h2⟩ := h
    simp [Rs.len h2]
theorem Rs.nil_iff {vs : List V} : Rs G m H [] vs ↔ vs = [] := by simp [Rs]
theorem Rs.cons_iff {x : T} {xs : List T} {vs : List V} : Rs G m H (x :: xs) vs ↔ ∃ v r, vs = v :: r ∧ R G m H x v ∧ Rs G m H xs r := by simp [Rs]
theorem Rs.cons {x : T} {xs : List T} {v : V} {vs : List V} (h : R G m H x v) (t : Rs G m H xs vs) : Rs G m H (x :: xs) (v :: vs) := Rs.cons_iff.mpr ⟨v, vs, rfl, h, t⟩
theorem Rs.nil : Rs G m H [] [] := Rs.nil_iff.mpr rfl
theorem Rs.app : ∀ {xs ys : List T} {vs ws : List V}, Rs G m H xs vs → Rs G m H ys ws → Rs G m H (xs ++ ys) (vs ++ ws)
  | [], _, _, _, h, t => by rw [Rs.nil_iff.mp h]; exact t
  | x :: xs, _, _, _, h, t => by
    obtain ⟨v, r, rfl, h1, h2⟩ := Rs.cons_iff.mp h
    exact Rs.cons h1 (Rs.app h2 t)
theorem Rs.get : ∀ {xs : List T} {vs : List V} {i : Nat} {x : T}, Rs G m H xs vs → xs[i]? = some x → ∃ v, vs[i]? = some v ∧ R G m H x v
  | [], _, _, _, _, e => by simp at e
  | y :: xs, _, 0, x, h, e => by
    obtain ⟨v, r, rfl, h1, _⟩ := Rs.cons_iff.mp h
    simp at e; subst e
    exact ⟨v, rfl, h1⟩
  | y :: xs, _, i + 1, x, h, e => by
    obtain ⟨v, r, rfl, _, h2⟩ := Rs.cons_iff.mp h
    obtain ⟨w, e1, q⟩ := Rs.get (i := i) (x := x) h2 (by simpa using e)
    exact ⟨w, by simpa using e1, q⟩
theorem Rs.getV {xs : List T} {vs : List V} {i : Nat} {v : V} (h : Rs G m H xs vs) (e : vs[i]? = some v) : ∃ x, xs[i]? = some x ∧ R G m H x v := by
  have hl := Rs.len h
  have hi : i < xs.length := by rw [hl]; exact (List.getElem?_eq_some_iff.mp e).1
  obtain ⟨w, e2, q⟩ := Rs.get h (List.getElem?_eq_getElem hi)
  rw [e] at e2; cases e2
  exact ⟨_, List.getElem?_eq_getElem hi, q⟩
theorem Rs.take : ∀ {xs : List T} {vs : List V} (n : Nat), Rs G m H xs vs → Rs G m H (xs.take n) (vs.take n)
  | [], _, n, h => by rw [Rs.nil_iff.mp h]; simp; exact Rs.nil
  | x :: xs, _, 0, h => by simp; exact Rs.nil
  | x :: xs, _, n + 1, h => by
    obtain ⟨v, r, rfl, h1, h2⟩ := Rs.cons_iff.mp h
    exact Rs.cons h1 (Rs.take n h2)
theorem Rs.drop : ∀ {xs : List T} {vs : List V} (n : Nat), Rs G m H xs vs → Rs G m H (xs.drop n) (vs.drop n)
  | [], _, n, h => by rw [Rs.nil_iff.mp h]; simp; exact Rs.nil
  | x :: xs, _, 0, h => h
  | x :: xs, _, n + 1, h => by
    obtain ⟨v, r, rfl, h1, h2⟩ := Rs.cons_iff.mp h
    exact Rs.drop n h2
theorem Rs.set : ∀ {xs : List T} {vs : List V} {x : T} {v : V} (n : Nat), Rs G m H xs vs → R G m H x v → Rs G m H (xs.set n x) (vs.set n v)
  | [], _, _, _, n, h, q => by rw [Rs.nil_iff.mp h]; simp; exact Rs.nil
  | y :: xs, _, x, v, 0, h, q => by
    obtain ⟨w, r, rfl, h1, h2⟩ := Rs.cons_iff.mp h
    exact Rs.cons q h2
  | y :: xs, _, x, v, n + 1, h, q => by
    obtain ⟨w, r, rfl, h1, h2⟩ := Rs.cons_iff.mp h
    exact Rs.cons h1 (Rs.set n h2 q)
theorem Rs.eraseIdx : ∀ {xs : List T} {vs : List V} (n : Nat), Rs G m H xs vs → Rs G m H (xs.eraseIdx n) (vs.eraseIdx n)
  | [], _, n, h => by rw [Rs.nil_iff.mp h]; simp; exact Rs.nil
  | y :: xs, _, 0, h => by
    obtain ⟨w, r, rfl, h1, h2⟩ := Rs.cons_iff.mp h
    exact h2
  | y :: xs, _, n + 1, h => by
    obtain ⟨w, r, rfl, h1, h2⟩ := Rs.cons_iff.mp h
    exact Rs.cons h1 (Rs.eraseIdx n h2)
theorem Rs.dropLast {xs : List T} {vs : List V} (h : Rs G m H xs vs) : Rs G m H xs.dropLast vs.dropLast := by
  rw [List.dropLast_eq_take, List.dropLast_eq_take, Rs.len h]
  exact Rs.take _ h
theorem Rs.reverse : ∀ {xs : List T} {vs : List V}, Rs G m H xs vs → Rs G m H xs.reverse vs.reverse
  | [], _, h => by rw [Rs.nil_iff.mp h]; exact Rs.nil
  | x :: xs, _, h => by
    obtain ⟨w, r, rfl, h1, h2⟩ := Rs.cons_iff.mp h
    rw [List.reverse_cons, List.reverse_cons]
    exact Rs.app (Rs.reverse h2) (Rs.cons h1 Rs.nil)

/-- what is wanted behind a mirror's step -/
def Pst {α : Type} (G : Gx) (m : Ml) (H : Hp) (r : Res α) (Q : α → Ml → MH → Hp → Prop) (W : XK) : Prop := match r with
  | .ok a h => ∀ m' H', Stp m m' H H' → Rel G m' H' h → Q a m' h H'
  | .exc c fs h => ∀ m' H', Stp m m' H H' → Rel G m' H' h → ∀ C d, G.cl c = some C → ((fs = [] ∧ d = none) ∨ ∃ dx q, d = some dx ∧ Fz m' H' dx (.xd q) ∧ Rk G m' H' fs q) → W (.ref C) d H'
  | .bad => False
theorem Pst.mono {α : Type} {r : Res α} {Q Q' : α → Ml → MH → Hp → Prop} {W W' : XK} (p : Pst G m H r Q W) (h : ∀ a m' hp H', Stp m m' H H' → Q a m' hp H' → Q' a m' hp H') (hw : ∀ c d H', W c d H' → W' c d H') : Pst G m H r Q' W' := by
  cases r with
  | ok a hp => exact fun m' H' s rel => h a m' hp H' s (p m' H' s rel)
  | exc c fs hp => exact fun m' H' s rel C d e q => hw _ _ _ (p m' H' s rel C d e q)
  | bad => exact p
theorem Pst.step {α : Type} {r : Res α} {Q : α → Ml → MH → Hp → Prop} {W : XK} (p : Pst G m H r Q W) (s : Stp m m' H H') : Pst G m' H' r Q W := by
  cases r with
  | ok a hp => exact fun m'' H'' s' rel => p m'' H'' (s.trans s') rel
  | exc c fs hp => exact fun m'' H'' s' rel C d e q => p m'' H'' (s.trans s') rel C d e q
  | bad => exact p
/-- one after the other -/
theorem Pst.bind {α β : Type} {r : Res α} {k : α → MH → Res β} {Q : β → Ml → MH → Hp → Prop} {W : XK} (p : Pst G m H (r.bind k) Q W) :
    Pst G m H r (fun a m1 h1 H1 => Rel G m1 H1 h1 ∧ Pst G m1 H1 (k a h1) Q W) W := by
  cases r with
  | ok a hp => exact fun m' H' s rel => ⟨rel, Pst.step (by exact p) s⟩
  | exc c fs hp => exact p
  | bad => exact p
theorem Pst.ok_ {α : Type} {a : α} {hp : MH} {Q : α → Ml → MH → Hp → Prop} {W : XK} (p : Pst G m H (.ok a hp) Q W) (rel : Rel G m H hp) : Q a m hp H := p m H .refl rel
end

/-! ### the readings -/
/-- of an expression -/
def tM (G : Gx) (W : WX) (f : EM) : TE := fun σ H Q => ∃ r hp m, RE G m H r σ ∧ Rel G m H hp ∧ Pst G m H (f r hp) (fun x m' _ H' => ∀ v, R G m' H' x v → Q v H') (fun c d H' => W c d σ H')
/-- of a test -/
def tMT (G : Gx) (W : WX) (f : TM) : TT := fun σ H Q => ∃ r hp m, RE G m H r σ ∧ Rel G m H hp ∧ Pst G m H (f r hp) (fun b _ _ H' => Q b H') (fun c d H' => W c d σ H')
/-- of arguments -/
def tMA (G : Gx) (W : WX) (f : AM) : TA := fun σ H Q => ∃ r hp m, RE G m H r σ ∧ Rel G m H hp ∧ Pst G m H (f r hp) (fun xs m' _ H' => ∀ vs, Rs G m' H' xs vs → Q vs H') (fun c d H' => W c d σ H')
structure ME (X : Cx) (cl : Cln) (W : WX) (e : Expr) (f : EM) : Prop where
  pe : PE X e (tM (gx X cl) W f)
structure MT (X : Cx) (cl : Cln) (W : WX) (e : Expr) (f : TM) : Prop where
  pt : PT X e (tMT (gx X cl) W f)
structure MA (X : Cx) (cl : Cln) (W : WX) (es : List Expr) (f : AM) : Prop where
  pa : PA X es (tMA (gx X cl) W f)
theorem PE.imp {X : Cx} {e : Expr} {t t' : TE} (h : PE X e t) (i : ∀ σ H Q, t' σ H Q → t σ H Q) : PE X e t' := ⟨fun pins s σ H Q I q => h.run pins s σ H Q I (i σ H Q q)⟩
theorem PT.imp {X : Cx} {e : Expr} {t t' : TT} (h : PT X e t) (i : ∀ σ H Q, t' σ H Q → t σ H Q) : PT X e t' := ⟨fun pins s σ H Q I q => h.run pins s σ H Q I (i σ H Q q)⟩
theorem PA.imp {X : Cx} {e : List Expr} {t t' : TA} (h : PA X e t) (i : ∀ σ H Q, t' σ H Q → t σ H Q) : PA X e t' := ⟨fun pos pins s σ H Q I q => h.run pos pins s σ H Q I (i σ H Q q)⟩
theorem OpR.imp {X : Cx} {f : Value → Value → Sem Value} {r r' : R2} (h : OpR X f r) (i : ∀ x y H Q, r' x y H Q → r x y H Q) : OpR X f r' := fun pins s σ H x y v u Q I rx ry q => h pins s σ H x y v u Q I rx ry (i x y H Q q)
theorem CallR.imp {X : Cx} {f : Value} {r r' : List V → Hp → VK → Prop} (h : CallR X f r) (i : ∀ xs H Q, r' xs H Q → r xs H Q) : CallR X f r' := fun pins s σ H xs us Q I rx q => h pins s σ H xs us Q I rx (i xs H Q q)
abbrev W0 : XK := fun _ _ _ => False
/-- an operation on two values by its mirror -/
def rM (G : Gx) (g : T → T → MH → Res T) : R2 := fun v w H Q => ∃ m hp x y, Rel G m H hp ∧ R G m H x v ∧ R G m H y w ∧ Pst G m H (g x y hp) (fun z m' _ H' => ∀ u, R G m' H' z u → Q u H') W0
/-- a call of a known value by its mirror -/
def rMC (G : Gx) (g : List T → MH → Res T) : List V → Hp → VK → Prop := fun vs H Q => ∃ m hp xs, Rel G m H hp ∧ Rs G m H xs vs ∧ Pst G m H (g xs hp) (fun z m' _ H' => ∀ u, R G m' H' z u → Q u H') W0

section
variable {X : Cx} {cl : Cln} {W : WX} {a b c e : Expr} {es : List Expr} {f g : EM} {pos : Pos}
/-- two in a row, then k -/
theorem two_ok {σ : St} {H : Hp} {Q : VK} {k : T → T → MH → Res T} (h : tM (gx X cl) W (fun r hp => (f r hp).bind fun x h1 => (g r h1).bind fun y h2 => k x y h2) σ H Q) :
    tM (gx X cl) W f σ H fun v H1 => tM (gx X cl) W g σ H1 fun w H2 => ∃ m hp x y, Rel (gx X cl) m H2 hp ∧ R (gx X cl) m H2 x v ∧ R (gx X cl) m H2 y w ∧ Pst (gx X cl) m H2 (k x y hp) (fun z m' _ H' => ∀ u, R (gx X cl) m' H' z u → Q u H') (fun c d H' => W c d σ H') := by
  obtain ⟨r, hp, m, re, rel, p⟩ := h
  refine ⟨r, hp, m, re, rel, p.bind.mono (fun x m1 h1 H1 s1 q v rv => ?_) fun _ _ _ z => z⟩
  obtain ⟨rel1, p1⟩ := q
  refine ⟨r, h1, m1, re.step s1, rel1, p1.bind.mono (fun y m2 h2 H2 s2 q2 w rw' => ?_) fun _ _ _ z => z⟩
  exact ⟨m2, h2, x, y, q2.1, R.step s2 x v rv, rw', q2.2⟩
/-- the operation raises nothing -/
def NoX (g : T → T → MH → Res T) : Prop := ∀ x y h c fs h', g x y h ≠ .exc c fs h'
theorem Pst.nox {G : Gx} {m : Ml} {H : Hp} {α : Type} {r : Res α} {Q : α → Ml → MH → Hp → Prop} {W W' : XK} (n : ∀ c fs h', r ≠ .exc c fs h') (p : Pst G m H r Q W) : Pst G m H r Q W' := by
  cases r with
  | ok a hp => exact p
  | exc c fs hp => exact absurd rfl (n c fs hp)
  | bad => exact p
def emOp (k : T → T → MH → Res T) (f g : EM) : EM := fun r hp => (f r hp).bind fun x h1 => (g r h1).bind fun y h2 => k x y h2
theorem me_op {op : Operator} {k : T → T → MH → Res T} (ho : OpR X (binaryOp op) (rM (gx X cl) k)) (hn : NoX k) (ha : ME X cl W a f) (hb : ME X cl W b g) : ME X cl W (.BinOp a op b pos) (emOp k f g) := by
  refine ⟨PE.imp (pe_op ho ha.pe hb.pe) fun σ H Q h => ?_⟩
  obtain ⟨r, hp, m, re, rel, p⟩ := two_ok h
  refine ⟨r, hp, m, re, rel, p.mono (fun x m' h' H' s q v rv => ?_) fun _ _ _ z => z⟩
  obtain ⟨r2, hp2, m2, re2, rel2, p2⟩ := q v rv
  refine ⟨r2, hp2, m2, re2, rel2, p2.mono (fun y m3 h3 H3 s3 q3 w rw' => ?_) fun _ _ _ z => z⟩
  obtain ⟨m4, hp4, x4, y4, rel4, rx, ry, p4⟩ := q3 w rw'
  exact ⟨m4, hp4, x4, y4, rel4, rx, ry, p4.nox (hn _ _ _)⟩
theorem me_cmp {op : CmpOp} {k : T → T → MH → Res T} (ho : OpR X (compareOp op) (rM (gx X cl) k)) (hn : NoX k) (ha : ME X cl W a f) (hb : ME X cl W b g) (hm : behindInMarks op b = false) : ME X cl W (.Compare a [op] [b] pos) (emOp k f g) := by
  refine ⟨PE.imp (pe_cmpR ho ha.pe hb.pe hm) fun σ H Q h => ?_⟩
  obtain ⟨r, hp, m, re, rel, p⟩ := two_ok h
  refine ⟨r, hp, m, re, rel, p.mono (fun x m' h' H' s q v rv => ?_) fun _ _ _ z => z⟩
  obtain ⟨r2, hp2, m2, re2, rel2, p2⟩ := q v rv
  refine ⟨r2, hp2, m2, re2, rel2, p2.mono (fun y m3 h3 H3 s3 q3 w rw' => ?_) fun _ _ _ z => z⟩
  obtain ⟨m4, hp4, x4, y4, rel4, rx, ry, p4⟩ := q3 w rw'
  exact ⟨m4, hp4, x4, y4, rel4, rx, ry, p4.nox (hn _ _ _)⟩
/-- a value that must be a truth value -/
def isBl : T → MH → Res Bool
  | .bl b, h => .ok b h
  | _, _ => .bad
theorem isBl_ok {G : Gx} {m : Ml} {H : Hp} {x : T} {hp : MH} {v : V} {Q : Bool → Ml → MH → Hp → Prop} {W : XK} (rv : R G m H x v) (rel : Rel G m H hp) (p : Pst G m H (isBl x hp) Q W) : ∃ k, v = .bl k ∧ Q k m hp H := by
  cases x with
  | bl k =>
    simp only [R] at rv
    exact ⟨k, rv, p.ok_ rel⟩
  | _ => exact p.elim
def tmOf (f : EM) : TM := fun r hp => (f r hp).bind isBl
theorem mt_cmp {op : CmpOp} {k : T → T → MH → Res T} (ho : OpR X (compareOp op) (rM (gx X cl) k)) (hn : NoX k) (ha : ME X cl W a f) (hb : ME X cl W b g) (hm : behindInMarks op b = false) : MT X cl W (.Compare a [op] [b] pos) (tmOf (emOp k f g)) := by
  refine ⟨PT.imp (pt_cmpR ho ha.pe hb.pe hm) fun σ H Q h => ?_⟩
  have h' : tM (gx X cl) W (emOp k f g) σ H fun x H' => ∃ b, x = .bl b ∧ Q b H' := by
    obtain ⟨r, hp, m, re, rel, p⟩ := h
    refine ⟨r, hp, m, re, rel, p.bind.mono (fun x m' h' H' s q v rv => ?_) fun _ _ _ z => z⟩
    obtain ⟨b, e, q⟩ := isBl_ok rv q.1 q.2
    exact ⟨b, e, q⟩
  obtain ⟨r, hp, m, re, rel, p⟩ := two_ok h'
  refine ⟨r, hp, m, re, rel, p.mono (fun x m' h' H' s q v rv => ?_) fun _ _ _ z => z⟩
  obtain ⟨r2, hp2, m2, re2, rel2, p2⟩ := q v rv
  refine ⟨r2, hp2, m2, re2, rel2, p2.mono (fun y m3 h3 H3 s3 q3 w rw' => ?_) fun _ _ _ z => z⟩
  obtain ⟨m4, hp4, x4, y4, rel4, rx, ry, p4⟩ := q3 w rw'
  exact ⟨m4, hp4, x4, y4, rel4, rx, ry, p4.nox (hn _ _ _)⟩
end
end TW
namespace TW
open PySem PySem.Spec L2

/-! ### cells and new objects -/
section
variable {G : Gx} {m m' : Ml} {H H' : Hp} {hp : MH} {p a : Addr} {o : HO}
theorem RO.there {mo : MO} (h : RO G m H a mo) : ∃ o, H a = some o := by
  cases mo with
  | lst xs => obtain ⟨vs, e, _⟩ := h; exact ⟨_, e⟩
  | set xs => obtain ⟨S, c, e, _⟩ := h; exact ⟨_, e⟩
  | dK xs => obtain ⟨vs, e, _⟩ := h; exact ⟨_, e⟩
  | dT xs => obtain ⟨vs, e, _⟩ := h; exact ⟨_, e⟩
  | dN kvs => obtain ⟨q, e, _⟩ := h; exact ⟨_, e⟩
  | ins c fs => obtain ⟨_, _, vs, _, e, _⟩ := h; exact ⟨_, e⟩
/-- one more cell -/
def Ml.add (m : Ml) (p : Addr) : Ml := ⟨m.c ++ [p], m.z⟩
theorem Rel.at_mem (rel : Rel G m H hp) (h : p ∈ m.c) : ∃ (n : Nat) (mo : MO), m.c[n]? = some p ∧ hp[n]? = some mo ∧ RO G m H p mo := by
  obtain ⟨n, hn, e⟩ := List.mem_iff_getElem.mp h
  have h1 : m.c[n]? = some p := by rw [List.getElem?_eq_getElem hn, e]
  have h2 : n < hp.length := by rw [← rel.len]; exact hn
  exact ⟨n, hp[n], h1, List.getElem?_eq_getElem h2, rel.ob n p _ h1 (List.getElem?_eq_getElem h2)⟩
theorem Rel.free (rel : Rel G m H hp) (h : H p = none) : p ∉ m.c := fun hm => by
  obtain ⟨n, mo, _, _, ro⟩ := rel.at_mem hm
  obtain ⟨o, e⟩ := ro.there
  rw [h] at e; cases e
theorem Rel.freeZ (rel : Rel G m H hp) (h : H p = none) : m.no p := ⟨rel.free h, fun hz => by
  obtain ⟨o, _, e⟩ := rel.zs p hz
  rw [h] at e; cases e⟩
/-- the tables stand where no table, no code object is changed -/
theorem TabM.to (tb : TabM G m H) (e : ∀ b, (∃ o, H b = some o) → m.no b → H' b = H b ∧ m'.no b) : TabM G m' H' := by
  refine ⟨fun q hq => ?_, fun a o p => ?_⟩
  · obtain ⟨ps, h1, n1, h2, h3⟩ := tb.1 q hq
    obtain ⟨e1, n2⟩ := e q.1 ⟨_, h1⟩ n1
    refine ⟨ps, by rw [e1]; exact h1, n2, h2, fun pos cv hc => ?_⟩
    obtain ⟨c, e2, h4, n3⟩ := h3 pos cv hc
    obtain ⟨e3, n4⟩ := e c ⟨_, h4⟩ n3
    exact ⟨c, e2, by rw [e3]; exact h4, n4⟩
  · obtain ⟨t, h1, n1⟩ := tb.2 a o p
    obtain ⟨e1, n2⟩ := e a h1.there n1
    exact ⟨t, h1.same e1, n2⟩
theorem Sm.far {u : HO} (h : Sm H a u) (e : H p = none) : a ≠ p := by
  obtain ⟨q, hq⟩ := h.there
  exact ne_of_none hq e
theorem Stp.new (h : H p = none) : Stp m m H (upd H p o) := ⟨rfl, ⟨[], by simp⟩, fun a u _ e n => ⟨e.same (upd_ne (e.far h)), n⟩, fun a u _ e _ _ => by rw [upd_ne (ne_of_none e h)]; exact e⟩
theorem Stp.newc (h : H p = none) : Stp m (m.add p) H (upd H p o) := ⟨rfl, ⟨[p], rfl⟩, fun a u _ e n => ⟨e.same (upd_ne (e.far h)), by
  show a ∉ m.c ++ [p]
  rw [List.mem_append, List.mem_singleton]
  rintro (z | z)
  · exact n z
  · exact e.far h z⟩, fun a u _ e _ _ => by rw [upd_ne (ne_of_none e h)]; exact e⟩
theorem Stp.wr (h : a ∈ m.c) : Stp m m H (upd H a o) := ⟨rfl, ⟨[], by simp⟩, fun b u _ e n => ⟨e.same (upd_ne (fun z : b = a => n (by rw [z]; exact h))), n⟩, fun b u _ e _ n => by rw [upd_ne (fun z : b = a => n (by rw [z]; exact h))]; exact e⟩
theorem RO.wk {mo : MO} (h : RO G m H a mo) (s : Wk m m' H H') (e : H' a = H a) : RO G m' H' a mo := by
  cases mo with
  | lst xs => obtain ⟨vs, e1, q⟩ := h; exact ⟨vs, by rw [e]; exact e1, Rs.wk s _ _ q⟩
  | set xs => obtain ⟨S, c, e1, q⟩ := h; exact ⟨S, c, by rw [e]; exact e1, q⟩
  | dK xs => obtain ⟨vs, e1, q⟩ := h; exact ⟨vs, by rw [e]; exact e1, q.wk s⟩
  | dT xs => obtain ⟨vs, e1, q⟩ := h; exact ⟨vs, by rw [e]; exact e1, q.wk s⟩
  | dN kvs => obtain ⟨q, e1, l, kn, r⟩ := h; exact ⟨q, by rw [e]; exact e1, l, kn.to s.tups, Rs.wk s _ _ r⟩
  | ins c fs => obtain ⟨C, dx, vs, hc, e1, q⟩ := h; exact ⟨C, dx, vs, hc, by rw [e]; exact e1, q.wk s⟩
theorem RO.step {mo : MO} (h : RO G m H a mo) (s : Stp m m' H H') (e : H' a = H a) : RO G m' H' a mo := h.wk s.wk e
theorem upd_there {b : Addr} (h : ∃ u, H b = some u) : ∃ u, upd H p o b = some u := by
  unfold upd
  split
  · exact ⟨_, rfl⟩
  · exact h
theorem zs_ne {b : Addr} (h : ∃ u, NZ u ∧ H b = some u) (hne : b ≠ p) : ∃ u, NZ u ∧ upd H p o b = some u := by
  obtain ⟨u, t, e⟩ := h
  exact ⟨u, t, by rw [upd_ne hne]; exact e⟩
theorem zs_new {b : Addr} (h : ∃ u, NZ u ∧ H b = some u) (hp : H p = none) : ∃ u, NZ u ∧ upd H p o b = some u := by
  obtain ⟨u, t, e⟩ := id h
  exact zs_ne h (ne_of_none e hp)
theorem zs_any {b : Addr} (h : ∃ u, NZ u ∧ H b = some u) (t : NZ o) : ∃ u, NZ u ∧ upd H p o b = some u := by
  by_cases e : b = p
  · rw [e]
    exact ⟨o, t, upd_same⟩
  · exact zs_ne h e
theorem Rel.new (rel : Rel G m H hp) (h : H p = none) : Rel G m (upd H p o) hp := ⟨rel.len, rel.nd, fun n a mo e1 e2 => by
  have ro := rel.ob n a mo e1 e2
  obtain ⟨u, e⟩ := ro.there
  exact ro.step (Stp.new h) (by rw [upd_ne (ne_of_none e h)]), fun a ha => zs_new (rel.zs a ha) h, rel.zd, rel.tb.to fun b hb n => ⟨by obtain ⟨o, q⟩ := hb; rw [upd_ne (ne_of_none q h)], n⟩⟩
theorem Rel.newc (rel : Rel G m H hp) (h : H p = none) {mo : MO} (new : RO G (m.add p) (upd H p o) p mo) : Rel G (m.add p) (upd H p o) (hp ++ [mo]) := by
  have np := rel.free h
  refine ⟨by simp [Ml.add, rel.len], ?_, fun n a mo' e1 e2 => ?_, fun a ha => zs_new (rel.zs a ha) h, fun a ha hc => ?_, rel.tb.to fun b hb n => ?_⟩
  · show (m.c ++ [p]).Nodup
    rw [List.nodup_append]
    refine ⟨rel.nd, by simp, fun x hx y hy => ?_⟩
    rw [List.mem_singleton] at hy
    subst hy
    exact fun z => np (z ▸ hx)
  · have e1 : (m.c ++ [p])[n]? = some a := e1
    by_cases hn : n < m.c.length
    · rw [List.getElem?_append_left hn] at e1
      rw [List.getElem?_append_left (by rw [← rel.len]; exact hn)] at e2
      have ro := rel.ob n a mo' e1 e2
      obtain ⟨u, e⟩ := ro.there
      exact ro.step (Stp.newc h) (by rw [upd_ne (ne_of_none e h)])
    · have hn' : n = m.c.length := by
        have := (List.getElem?_eq_some_iff.mp e1).1
        simp at this
        omega
      subst hn'
      rw [List.getElem?_append_right (Nat.le_refl _)] at e1
      rw [rel.len, List.getElem?_append_right (Nat.le_refl _)] at e2
      simp at e1 e2
      subst e1 e2
      exact new
  · have hc : a ∈ m.c ++ [p] := hc
    rw [List.mem_append, List.mem_singleton] at hc
    rcases hc with hc | rfl
    · exact rel.zd a ha hc
    · exact (rel.freeZ h).2 ha
  · obtain ⟨o, q⟩ := hb
    refine ⟨by rw [upd_ne (ne_of_none q h)], fun z => ?_, n.2⟩
    rcases List.mem_append.mp z with z | z
    · exact n.1 z
    · rw [List.mem_singleton] at z
      exact ne_of_none q h z
theorem Rel.wr (rel : Rel G m H hp) {n : Nat} (h : m.c[n]? = some a) {mo : MO} (new : RO G m (upd H a o) a mo) : Rel G m (upd H a o) (hp.set n mo) := by
  have ha : a ∈ m.c := List.mem_of_getElem? h
  refine ⟨by simp [rel.len], rel.nd, fun k b mo' e1 e2 => ?_, fun b hb => zs_ne (rel.zs b hb) (fun z => rel.zd b hb (by rw [z]; exact ha)), rel.zd, rel.tb.to fun b _ n => ⟨by rw [upd_ne (fun z : b = a => n.1 (by rw [z]; exact ha))], n⟩⟩
  by_cases hk : n = k
  · subst hk
    rw [h] at e1; cases e1
    have hl : n < hp.length := by rw [← rel.len]; exact (List.getElem?_eq_some_iff.mp h).1
    rw [List.getElem?_set_self hl] at e2
    cases e2
    exact new
  · rw [List.getElem?_set_ne hk] at e2
    have ro := rel.ob k b mo' e1 e2
    have hb : b ≠ a := by
      intro z
      subst z
      exact hk ((List.getElem_inj rel.nd).mp ((List.getElem?_eq_some_iff.mp h).2.trans (List.getElem?_eq_some_iff.mp e1).2.symm))
    exact ro.step (Stp.wr ha) (by rw [upd_ne hb])
/-- what is under way is changed -/
theorem Wk.pr {D : Addr} (h : D ∈ m.z) : Wk m m H (upd H D o) := ⟨⟨[], by simp⟩, fun b u _ e n => ⟨e.same (upd_ne (fun z : b = D => n.2 (by rw [z]; exact h))), n⟩⟩
theorem Rel.pr (rel : Rel G m H hp) {D : Addr} (h : D ∈ m.z) (t : NZ o := by refine ⟨?_, ?_⟩ <;> (intro _ z; cases z)) : Rel G m (upd H D o) hp := ⟨rel.len, rel.nd, fun n a mo e1 e2 => by
  have hne : a ≠ D := fun z => rel.zd D h (by rw [← z]; exact List.mem_of_getElem? e1)
  exact (rel.ob n a mo e1 e2).wk (Wk.pr h) (by rw [upd_ne hne]), fun a ha => zs_any (rel.zs a ha) t, rel.zd, rel.tb.to fun b _ n => ⟨by rw [upd_ne (fun z : b = D => n.2 (by rw [z]; exact h))], n⟩⟩
/-- it is laid -/
def Ml.lay (m : Ml) (D : Addr) : Ml := ⟨m.c, D :: m.z⟩
theorem Wk.lay {D : Addr} (h : H D = none) : Wk m (m.lay D) H (upd H D o) := ⟨⟨[], by simp [Ml.lay]⟩, fun b u _ e n => ⟨e.same (upd_ne (e.far h)), n.1, fun z => by
  rcases List.mem_cons.mp z with z | z
  · exact e.far h z
  · exact n.2 z⟩⟩
theorem Rel.lay (rel : Rel G m H hp) {D : Addr} (h : H D = none) (t : NZ o := by refine ⟨?_, ?_⟩ <;> (intro _ z; cases z)) : Rel G (m.lay D) (upd H D o) hp := ⟨rel.len, rel.nd, fun n a mo e1 e2 => by
  have ro := rel.ob n a mo e1 e2
  obtain ⟨u, e⟩ := ro.there
  exact ro.wk (Wk.lay h) (by rw [upd_ne (ne_of_none e h)]), fun a ha => by
  rcases List.mem_cons.mp ha with rfl | ha
  · exact ⟨_, t, upd_same⟩
  · exact zs_new (rel.zs a ha) h, fun a ha hc => by
  rcases List.mem_cons.mp ha with rfl | ha
  · exact rel.free h hc
  · exact rel.zd a ha hc, rel.tb.to fun b hb n => by
  obtain ⟨o, q⟩ := hb
  refine ⟨by rw [upd_ne (ne_of_none q h)], n.1, fun z => ?_⟩
  rcases List.mem_cons.mp z with z | z
  · exact ne_of_none q h z
  · exact n.2 z⟩
/-- it is handed out -/
theorem Wk.out {D : Addr} {z : List Addr} (h : m.z = D :: z) : Wk m ⟨m.c, z⟩ H H := ⟨⟨[], by simp⟩, fun b u _ e n => ⟨e, n.1, fun q => n.2 (by rw [h]; exact List.mem_cons_of_mem _ q)⟩⟩
theorem Rel.out (rel : Rel G m H hp) {D : Addr} {z : List Addr} (h : m.z = D :: z) : Rel G ⟨m.c, z⟩ H hp := ⟨rel.len, rel.nd, fun n a mo e1 e2 => (rel.ob n a mo e1 e2).wk (Wk.out h) rfl, fun a ha => rel.zs a (by rw [h]; exact List.mem_cons_of_mem _ ha), fun a ha => rel.zd a (by rw [h]; exact List.mem_cons_of_mem _ ha), rel.tb.to fun b _ n => ⟨rfl, n.1, fun q => n.2 (by rw [h]; exact List.mem_cons_of_mem _ q)⟩⟩
theorem Rel.cell (rel : Rel G m H hp) {n : Nat} {v : V} {mo : MO} (h : R G m H (.loc n) v) (e : hp[n]? = some mo) : ∃ a, m.c[n]? = some a ∧ v = .ref a ∧ RO G m H a mo := by
  simp only [R] at h
  obtain ⟨a, e1, e2⟩ := h
  exact ⟨a, e1, e2, rel.ob n a mo e1 e⟩
/-- a value handed out at once -/
theorem Pst.done {α : Type} {x : α} {Q : α → Ml → MH → Hp → Prop} {W : XK} (h : ∀ m' H', Stp m m' H H' → Rel G m' H' hp → Q x m' hp H') : Pst G m H (.ok x hp) Q W := h
end

/-! ### readings by one value, by arguments -/
section
variable {X : Cx} {cl : Cln} {W : WX} {a b c e : Expr} {es : List Expr} {f g : EM} {fa : AM} {pos : Pos}
theorem one_ok {σ : L2.St} {H : Hp} {Q : VK} {k : T → MH → Res T} (h : tM (gx X cl) W (fun r hp => (f r hp).bind k) σ H Q) :
    tM (gx X cl) W f σ H fun v H1 => ∃ m hp x, Rel (gx X cl) m H1 hp ∧ R (gx X cl) m H1 x v ∧ Pst (gx X cl) m H1 (k x hp) (fun z m' _ H' => ∀ u, R (gx X cl) m' H' z u → Q u H') (fun c d H' => W c d σ H') := by
  obtain ⟨r, hp, m, re, rel, p⟩ := h
  exact ⟨r, hp, m, re, rel, p.bind.mono (fun x m1 h1 H1 s1 q v rv => ⟨m1, h1, x, q.1, rv, q.2⟩) fun _ _ _ z => z⟩
theorem args_ok {σ : L2.St} {H : Hp} {Q : VK} {k : List T → MH → Res T} (h : tM (gx X cl) W (fun r hp => (fa r hp).bind k) σ H Q) :
    tMA (gx X cl) W fa σ H fun vs H1 => ∃ m hp xs, Rel (gx X cl) m H1 hp ∧ Rs (gx X cl) m H1 xs vs ∧ Pst (gx X cl) m H1 (k xs hp) (fun z m' _ H' => ∀ u, R (gx X cl) m' H' z u → Q u H') (fun c d H' => W c d σ H') := by
  obtain ⟨r, hp, m, re, rel, p⟩ := h
  exact ⟨r, hp, m, re, rel, p.bind.mono (fun x m1 h1 H1 s1 q v rv => ⟨m1, h1, x, q.1, rv, q.2⟩) fun _ _ _ z => z⟩
theorem tM.mono {G : Gx} {σ : L2.St} {H : Hp} {Q Q' : VK} (h : tM G W f σ H Q) (i : ∀ v H', Q v H' → Q' v H') : tM G W f σ H Q' := by
  obtain ⟨r, hp, m, re, rel, p⟩ := h
  exact ⟨r, hp, m, re, rel, p.mono (fun x m1 h1 H1 s1 q v rv => i _ _ (q v rv)) fun _ _ _ z => z⟩

/-! ### names, constants -/
def vr (i : Nat) : EM := fun r hp => match r[i]? with
  | some (some x) => .ok x hp
  | _ => .bad
theorem me_v (i : Nat) {x : Str} (hN : X.N[i]? = some x := by rfl) (hv : Vis X.env.scope x := by first | exact Or.inl rfl | exact Or.inr (Or.inl rfl) | exact Or.inr (Or.inr rfl)) (hd : (x == ("__debug__" : Str)) = false := by decide)
    (hcd : (x == ("__classdict__" : Str)) = false := by decide) : ME X cl W (.Name x pos) (vr i) := by
  refine ⟨PE.imp (pe_var hN hv hd hcd) fun σ H Q h => ?_⟩
  obtain ⟨r, hp, m, re, rel, p⟩ := h
  unfold vr at p
  split at p
  · rename_i x e
    obtain ⟨v, e1, q⟩ := re.at_ i x e
    exact ⟨v, e1, p.ok_ rel v q⟩
  · exact p.elim
def cst (x : T) : EM := fun _ hp => .ok x hp
theorem me_c {x : T} {v : V} (h : PE X e (tC v)) (hR : ∀ m H, R (gx X cl) m H x v := by intro _ _; exact rfl) : ME X cl W e (cst x) := by
  refine ⟨PE.imp h fun σ H Q h => ?_⟩
  obtain ⟨r, hp, m, re, rel, p⟩ := h
  exact p.ok_ rel v (hR _ _)
theorem me_int {i : Int} {j : Nat} : ME X cl W (.Constant (.int i) j pos) (cst (.int i)) := me_c pe_int fun m H => by simp only [R]
theorem me_bl {i : Bool} {j : Nat} : ME X cl W (.Constant (.bool i) j pos) (cst (.bl i)) := me_c pe_bl fun m H => by simp only [R]
theorem me_non {j : Nat} : ME X cl W (.Constant .none j pos) (cst .non) := me_c pe_non fun m H => by simp only [R]
theorem me_str {s : Str} {j : Nat} : ME X cl W (.Constant (.str s) j pos) (cst (.str s)) := me_c pe_str fun m H => by simp only [R]
/-- a module's constant -/
theorem me_gint {x : Str} {i : Int} (hg : Gl X x) (hm : ∃ t, X.mg x = some (.int i t)) (hd : (x == ("__debug__" : Str)) = false := by decide) : ME X cl W (.Name x pos) (cst (.int i)) := by
  obtain ⟨t, hm⟩ := hm
  exact me_c (v := .int i) (pe_glob hg hm ⟨t, rfl⟩ hd) fun m H => by simp only [R]
theorem me_gstr {x : Str} {i : Str} (hg : Gl X x) (hm : ∃ t, X.mg x = some (.str i t)) (hd : (x == ("__debug__" : Str)) = false := by decide) : ME X cl W (.Name x pos) (cst (.str i)) := by
  obtain ⟨t, hm⟩ := hm
  exact me_c (v := .str i) (pe_glob hg hm ⟨t, rfl⟩ hd) fun m H => by simp only [R]

/-! ### arguments, displays -/
def an : AM := fun _ hp => .ok [] hp
def ac (f : EM) (g : AM) : AM := fun r hp => (f r hp).bind fun x h1 => (g r h1).bind fun xs h2 => .ok (x :: xs) h2
theorem ma_n : MA X cl W [] an := ⟨PA.imp pa_nil fun σ H Q h => by
  obtain ⟨r, hp, m, re, rel, p⟩ := h
  exact p.ok_ rel [] Rs.nil⟩
theorem ma_c {g : AM} (ha : ME X cl W e f) (hr : MA X cl W es g) (hs : starEach (e :: es) X.env = (false, eval e X.env) :: starEach es X.env := by rfl) : MA X cl W (e :: es) (ac f g) := by
  refine ⟨PA.imp (pa_cons ha.pe hr.pa hs) fun σ H Q h => ?_⟩
  obtain ⟨r, hp, m, re, rel, p⟩ := h
  refine ⟨r, hp, m, re, rel, p.bind.mono (fun x m1 h1 H1 s1 q v rv => ?_) fun _ _ _ z => z⟩
  refine ⟨r, h1, m1, re.step s1, q.1, q.2.bind.mono (fun xs m2 h2 H2 s2 q2 vs rvs => ?_) fun _ _ _ z => z⟩
  exact q2.2.ok_ q2.1 _ (Rs.cons (R.step s2 _ _ rv) rvs)
def tupK (xs : List T) (hp : MH) : Res T := if xs.length ≤ sizeLine then .ok (.tup xs) hp else .bad
def emT (g : AM) : EM := fun r hp => (g r hp).bind tupK
theorem tup_new {G : Gx} {m : Ml} {H : Hp} {hp : MH} {xs : List T} {vs : List V} {p : Addr} (rel : Rel G m H hp) (rs : Rs G m H xs vs) (h : H p = none) : R G m (upd H p (.tup vs)) (.tup xs) (.ref p) := by
  simp only [R]
  exact ⟨p, vs, rfl, ⟨upd_same, rel.freeZ h⟩, Rs.step (Stp.new h) _ _ rs⟩
theorem lst_new {G : Gx} {m : Ml} {H : Hp} {hp : MH} {xs : List T} {vs : List V} {p : Addr} (rel : Rel G m H hp) (rs : Rs G m H xs vs) (h : H p = none) : R G m (upd H p (.lst vs)) (.lst xs) (.ref p) := by
  simp only [R]
  exact ⟨p, vs, rfl, ⟨upd_same, rel.freeZ h⟩, Rs.step (Stp.new h) _ _ rs⟩
theorem me_tup {g : AM} {x1} (h : MA X cl W es g) : ME X cl W (.Tuple es x1 pos) (emT g) := by
  refine ⟨PE.imp (pe_tup h.pa) fun σ H Q h => ?_⟩
  obtain ⟨r, hp, m, re, rel, p⟩ := args_ok h
  refine ⟨r, hp, m, re, rel, p.mono (fun xs m' h' H' s q vs rv => ?_) fun _ _ _ z => z⟩
  obtain ⟨m2, hp2, ys, rel2, rs, p2⟩ := q vs rv
  unfold tupK at p2
  split at p2
  · rename_i hl
    refine ⟨by rw [← Rs.len rs]; exact hl, fun a ha => ?_⟩
    exact p2 m2 _ (Stp.new ha) (rel2.new ha) _ (tup_new rel2 rs ha)
  · exact p2.elim
/-- a list that nobody writes -/
def lstK (xs : List T) (hp : MH) : Res T := if xs.length ≤ sizeLine then .ok (.lst xs) hp else .bad
/-- a list in a cell -/
def lstL (xs : List T) (hp : MH) : Res T := if xs.length ≤ sizeLine then .ok (.loc hp.length) (hp ++ [.lst xs]) else .bad
def emL (k : List T → MH → Res T) (g : AM) : EM := fun r hp => (g r hp).bind k
theorem cell_new {G : Gx} {m : Ml} {H : Hp} {hp : MH} {xs : List T} {vs : List V} {p : Addr} (rel : Rel G m H hp) (rs : Rs G m H xs vs) (h : H p = none) :
    Stp m (m.add p) H (upd H p (.lst vs)) ∧ Rel G (m.add p) (upd H p (.lst vs)) (hp ++ [.lst xs]) ∧ R G (m.add p) (upd H p (.lst vs)) (.loc hp.length) (.ref p) := by
  have s : Stp m (m.add p) H (upd H p (.lst vs)) := Stp.newc h
  refine ⟨s, rel.newc h ⟨vs, upd_same, Rs.step s _ _ rs⟩, ?_⟩
  simp only [R]
  refine ⟨p, ?_, rfl⟩
  show (m.c ++ [p])[_]? = _
  rw [← rel.len, List.getElem?_append_right (Nat.le_refl _)]
  simp
/-- what makes a new list of values: either way -/
theorem lst_two {G : Gx} {k : List T → MH → Res T} (hk : k = lstK ∨ k = lstL) {m : Ml} {H : Hp} {hp : MH} {xs : List T} {vs : List V} {Q : VK} {W : XK} (rel : Rel G m H hp) (rs : Rs G m H xs vs)
    (p : Pst G m H (k xs hp) (fun z m' _ H' => ∀ u, R G m' H' z u → Q u H') W) : xs.length ≤ sizeLine ∧ ∀ a, H a = none → Q (.ref a) (upd H a (.lst vs)) := by
  rcases hk with rfl | rfl
  · unfold lstK at p
    split at p
    · rename_i hl
      exact ⟨hl, fun a ha => p m _ (Stp.new ha) (rel.new ha) _ (lst_new rel rs ha)⟩
    · exact p.elim
  · unfold lstL at p
    split at p
    · rename_i hl
      refine ⟨hl, fun a ha => ?_⟩
      obtain ⟨s, r2, q⟩ := cell_new rel rs ha
      exact p _ _ s r2 _ q
    · exact p.elim
theorem me_lst {g : AM} {k : List T → MH → Res T} (hk : k = lstK ∨ k = lstL) (h : MA X cl W es g) : ME X cl W (.List es pos) (emL k g) := by
  refine ⟨PE.imp (pe_lst h.pa) fun σ H Q h => ?_⟩
  obtain ⟨r, hp, m, re, rel, p⟩ := args_ok h
  refine ⟨r, hp, m, re, rel, p.mono (fun xs m' h' H' s q vs rv => ?_) fun _ _ _ z => z⟩
  obtain ⟨m2, hp2, ys, rel2, rs, p2⟩ := q vs rv
  obtain ⟨hl, q2⟩ := lst_two hk rel2 rs p2
  exact ⟨by rw [← Rs.len rs]; exact hl, q2⟩

/-! ### tests -/
def tAn (f g : TM) : TM := fun r hp => (f r hp).bind fun c h1 => if c = true then g r h1 else .ok false h1
def tOrr (f g : TM) : TM := fun r hp => (f r hp).bind fun c h1 => if c = true then .ok true h1 else g r h1
def tNo (f : TM) : TM := fun r hp => (f r hp).bind fun c h1 => .ok (!c) h1
structure MW (X : Cx) (cl : Cln) (W : WX) (e : Expr) (f : TM) : Prop where
  pw : PW X e (tMT (gx X cl) W f)
theorem MW.mt {f : TM} (h : MW X cl W e f) : MT X cl W e f := ⟨h.pw.pt⟩
theorem PW.imp {t t' : TT} (h : PW X e t) (i : ∀ σ H Q, t' σ H Q → t σ H Q) : PW X e t' := ⟨fun wh pins s σ H Q I q => h.run wh pins s σ H Q I (i σ H Q q)⟩
variable {F F' : TM} {rest : List Expr}
theorem mw_a1 (h : MT X cl W a F) : MW X cl W (.BoolOp .And [a] pos) F := ⟨pw_and1 h.pt⟩
theorem mw_o1 (h : MT X cl W a F) : MW X cl W (.BoolOp .Or [a] pos) F := ⟨pw_or1 h.pt⟩
theorem mw_and (ha : MT X cl W a F) (hb : MW X cl W (.BoolOp .And (b :: rest) pos) F') : MW X cl W (.BoolOp .And (a :: b :: rest) pos) (tAn F F') := by
  refine ⟨PW.imp (pw_and ha.pt hb.pw) fun σ H Q h => ?_⟩
  obtain ⟨r, hp, m, re, rel, p⟩ := h
  refine ⟨r, hp, m, re, rel, p.bind.mono (fun b m1 h1 H1 s1 q => ?_) fun _ _ _ z => z⟩
  cases b with
  | true => exact ⟨r, h1, m1, re.step s1, q.1, q.2⟩
  | false => exact q.2.ok_ q.1
theorem mw_or (ha : MT X cl W a F) (hb : MW X cl W (.BoolOp .Or (b :: rest) pos) F') : MW X cl W (.BoolOp .Or (a :: b :: rest) pos) (tOrr F F') := by
  refine ⟨PW.imp (pw_or ha.pt hb.pw) fun σ H Q h => ?_⟩
  obtain ⟨r, hp, m, re, rel, p⟩ := h
  refine ⟨r, hp, m, re, rel, p.bind.mono (fun b m1 h1 H1 s1 q => ?_) fun _ _ _ z => z⟩
  cases b with
  | false => exact ⟨r, h1, m1, re.step s1, q.1, q.2⟩
  | true => exact q.2.ok_ q.1
theorem mt_not (ha : MT X cl W a F) : MT X cl W (.UnaryOp .Not a pos) (tNo F) := by
  refine ⟨PT.imp (pt_not ha.pt) fun σ H Q h => ?_⟩
  obtain ⟨r, hp, m, re, rel, p⟩ := h
  refine ⟨r, hp, m, re, rel, p.bind.mono (fun b m1 h1 H1 s1 q => ?_) fun _ _ _ z => z⟩
  exact q.2.ok_ q.1
/-- as values -/
def eAn (f g : EM) : EM := fun r hp => (f r hp).bind fun x h1 => match x with
  | .bl true => g r h1
  | .bl false => .ok (.bl false) h1
  | _ => .bad
def eOr (f g : EM) : EM := fun r hp => (f r hp).bind fun x h1 => match x with
  | .bl false => g r h1
  | .bl true => .ok (.bl true) h1
  | _ => .bad
def eNo (f : EM) : EM := fun r hp => (f r hp).bind fun x h1 => match x with
  | .bl b => .ok (.bl (!b)) h1
  | _ => .bad
theorem me_b1 {op : BoolOp} (h : ME X cl W a f) : ME X cl W (.BoolOp op [a] pos) f := ⟨pe_one h.pe⟩
theorem me_and (ha : ME X cl W a f) (hb : ME X cl W (.BoolOp .And (b :: rest) pos) g) : ME X cl W (.BoolOp .And (a :: b :: rest) pos) (eAn f g) := by
  refine ⟨PE.imp (pe_and ha.pe hb.pe) fun σ H Q h => ?_⟩
  obtain ⟨r, hp, m, re, rel, p⟩ := h
  refine ⟨r, hp, m, re, rel, p.bind.mono (fun x m1 h1 H1 s1 q v rv => ?_) fun _ _ _ z => z⟩
  cases x with
  | bl c =>
    simp only [R] at rv
    refine ⟨c, rv, ?_⟩
    cases c with
    | true => exact ⟨r, h1, m1, re.step s1, q.1, q.2⟩
    | false => exact q.2.ok_ q.1 _ (by simp only [R])
  | _ => exact q.2.elim
theorem me_or (ha : ME X cl W a f) (hb : ME X cl W (.BoolOp .Or (b :: rest) pos) g) : ME X cl W (.BoolOp .Or (a :: b :: rest) pos) (eOr f g) := by
  refine ⟨PE.imp (pe_or ha.pe hb.pe) fun σ H Q h => ?_⟩
  obtain ⟨r, hp, m, re, rel, p⟩ := h
  refine ⟨r, hp, m, re, rel, p.bind.mono (fun x m1 h1 H1 s1 q v rv => ?_) fun _ _ _ z => z⟩
  cases x with
  | bl c =>
    simp only [R] at rv
    refine ⟨c, rv, ?_⟩
    cases c with
    | false => exact ⟨r, h1, m1, re.step s1, q.1, q.2⟩
    | true => exact q.2.ok_ q.1 _ (by simp only [R])
  | _ => exact q.2.elim
theorem me_not (ha : ME X cl W a f) : ME X cl W (.UnaryOp .Not a pos) (eNo f) := by
  refine ⟨PE.imp (pe_not ha.pe) fun σ H Q h => ?_⟩
  obtain ⟨r, hp, m, re, rel, p⟩ := h
  refine ⟨r, hp, m, re, rel, p.bind.mono (fun x m1 h1 H1 s1 q v rv => ?_) fun _ _ _ z => z⟩
  cases x with
  | bl c =>
    simp only [R] at rv
    exact ⟨c, rv, q.2.ok_ q.1 _ (by simp only [R])⟩
  | _ => exact q.2.elim
def eIf (t : TM) (f g : EM) : EM := fun r hp => (t r hp).bind fun c h1 => if c = true then f r h1 else g r h1
theorem me_if {c : Expr} (hc : MT X cl W c F) (ha : ME X cl W a f) (hb : ME X cl W b g) : ME X cl W (.IfExp c a b pos) (eIf F f g) := by
  refine ⟨PE.imp (pe_ifExp hc.pt ha.pe hb.pe) fun σ H Q h => ?_⟩
  obtain ⟨r, hp, m, re, rel, p⟩ := h
  refine ⟨r, hp, m, re, rel, p.bind.mono (fun b m1 h1 H1 s1 q => ?_) fun _ _ _ z => z⟩
  cases b with
  | true => exact ⟨r, h1, m1, re.step s1, q.1, q.2⟩
  | false => exact ⟨r, h1, m1, re.step s1, q.1, q.2⟩
/-- a value whose truth is asked: it must be a truth value (mt_tru: any) -/
theorem mt_val (h : ME X cl W a f) (he : ∀ whole, isTrue a X.env whole = (do let v ← whole; standAt a.pos; holding [v] (truthy v)) := by intro _; rfl) : MT X cl W a (tmOf f) := by
  refine ⟨PT.imp (pt_val h.pe he) fun σ H Q h => ?_⟩
  obtain ⟨r, hp, m, re, rel, p⟩ := h
  refine ⟨r, hp, m, re, rel, p.bind.mono (fun x m1 h1 H1 s1 q v rv => ?_) fun _ _ _ z => z⟩
  exact isBl_ok rv q.1 q.2
end
end TW
namespace TW
open PySem PySem.Spec L2

/-! ### what a sequence holds -/
def lstAt (hp : MH) (n : Nat) : Option (List T) := match hp[n]? with
  | some (.lst xs) => some xs
  | _ => none
/-- a list's items (read) -/
def lsOf (hp : MH) : T → Option (List T)
  | .lst xs => some xs
  | .klst xs => some xs
  | .loc n => lstAt hp n
  | _ => none
/-- a list's items, the list no locked one -/
def lsW (hp : MH) : T → Option (List T)
  | .lst xs => some xs
  | .loc n => lstAt hp n
  | _ => none
/-- a tuple's items -/
def tpOf : T → Option (List T)
  | .tup xs => some xs
  | .ktup xs => some xs
  | _ => none
section
variable {G : Gx} {m : Ml} {H : Hp} {hp : MH} {x : T} {v : V} {xs : List T}
theorem lstAt_ok (rel : Rel G m H hp) {n : Nat} (h : R G m H (.loc n) v) (e : lstAt hp n = some xs) : ∃ a vs, m.c[n]? = some a ∧ v = .ref a ∧ H a = some (.lst vs) ∧ Rs G m H xs vs := by
  unfold lstAt at e
  split at e
  · rename_i ys q
    cases e
    obtain ⟨a, e1, e2, vs, e3, rs⟩ := rel.cell h q
    exact ⟨a, vs, e1, e2, e3, rs⟩
  · cases e
theorem lsOf_ok (rel : Rel G m H hp) (h : R G m H x v) (e : lsOf hp x = some xs) : ∃ a vs, v = .ref a ∧ SqL G.K H a vs ∧ Rs G m H xs vs := by
  cases x with
  | lst ys =>
    cases e
    simp only [R] at h
    obtain ⟨a, vs, rfl, f, rs⟩ := h
    exact ⟨a, vs, rfl, SqL.of f.1, rs⟩
  | klst ys =>
    cases e
    simp only [R] at h
    obtain ⟨a, vs, rfl, f, rs⟩ := h
    exact ⟨a, vs, rfl, f.elim (fun f => .inl f.1) .inr, rs⟩
  | loc n =>
    obtain ⟨a, vs, _, e2, e3, rs⟩ := lstAt_ok rel h e
    exact ⟨a, vs, e2, SqL.of e3, rs⟩
  | _ => cases e
theorem lsW_ok (rel : Rel G m H hp) (h : R G m H x v) (e : lsW hp x = some xs) : ∃ a vs, v = .ref a ∧ H a = some (.lst vs) ∧ Rs G m H xs vs := by
  cases x with
  | lst ys =>
    cases e
    simp only [R] at h
    obtain ⟨a, vs, rfl, f, rs⟩ := h
    exact ⟨a, vs, rfl, f.1, rs⟩
  | loc n =>
    obtain ⟨a, vs, _, e2, e3, rs⟩ := lstAt_ok rel h e
    exact ⟨a, vs, e2, e3, rs⟩
  | _ => cases e
theorem tpOf_ok (h : R G m H x v) (e : tpOf x = some xs) : ∃ a vs, v = .ref a ∧ SqT G.K H a vs ∧ Rs G m H xs vs := by
  cases x with
  | tup ys =>
    cases e
    simp only [R] at h
    obtain ⟨a, vs, rfl, f, rs⟩ := h
    exact ⟨a, vs, rfl, SqT.of f.1, rs⟩
  | ktup ys =>
    cases e
    simp only [R] at h
    obtain ⟨a, vs, rfl, f, rs⟩ := h
    refine ⟨a, vs, rfl, ?_, rs⟩
    rcases f with ⟨o, its, n, h1, h2, _, h3⟩ | ⟨o, h1, _⟩
    · exact .inr ⟨o, its, n, h1, h2, h3⟩
    · exact .inl (.inr ⟨o, h1⟩)
  | _ => cases e
end

/-! ### values as data -/
def mapO {α β : Type} (f : α → Option β) : List α → Option (List β)
  | [] => some []
  | x :: xs => match f x with
    | some y => (match mapO f xs with
      | some ys => some (y :: ys)
      | none => none)
    | none => none
def toD (hp : MH) : Nat → T → Option PyData
  | _, .non => some .none
  | _, .bl b => some (.bool b)
  | _, .int i => some (.int i)
  | _, .str s => some (.str s)
  | k + 1, .tup xs => (mapO (toD hp k) xs).map .tuple
  | k + 1, .ktup xs => (mapO (toD hp k) xs).map .tuple
  | k + 1, .lst xs => (mapO (toD hp k) xs).map .list
  | k + 1, .klst xs => (mapO (toD hp k) xs).map .list
  | k + 1, .loc n => (match lstAt hp n with
    | some xs => (mapO (toD hp k) xs).map .list
    | none => none)
  | _, _ => none
/-- how deep data may lie -/
abbrev deep : Nat := 14
section
variable {G : Gx} {m : Ml} {H : Hp} {hp : MH}
theorem mapO_some {α β : Type} {f : α → Option β} {x : α} {xs : List α} {zs : List β} (h : mapO f (x :: xs) = some zs) : ∃ y ys, f x = some y ∧ mapO f xs = some ys ∧ zs = y :: ys := by
  simp only [mapO] at h
  split at h
  · rename_i y e
    split at h
    · rename_i ys e2
      cases h
      exact ⟨y, ys, e, e2, rfl⟩
    · cases h
  · cases h
theorem mapO_len {α β : Type} {f : α → Option β} : ∀ {xs : List α} {zs : List β}, mapO f xs = some zs → xs.length = zs.length
  | [], _, h => by cases h; rfl
  | x :: xs, _, h => by
    obtain ⟨y, ys, _, e, rfl⟩ := mapO_some h
    simp [mapO_len e]
theorem toDs_ok {f : T → Option PyData} (h : ∀ x v d, R G m H x v → f x = some d → Dp G.K H v d) : ∀ (xs : List T) (vs : List V) (ds : List PyData), Rs G m H xs vs → mapO f xs = some ds → DpAll G.K H vs ds
  | [], vs, ds, rs, e => by
    rw [Rs.nil_iff.mp rs]
    cases e
    exact .nil
  | x :: xs, vs, ds, rs, e => by
    obtain ⟨v, r, rfl, h1, h2⟩ := Rs.cons_iff.mp rs
    obtain ⟨y, ys, e1, e2, rfl⟩ := mapO_some e
    exact .cons (h x v y h1 e1) (toDs_ok h xs r ys h2 e2)
theorem toD_ok (rel : Rel G m H hp) : ∀ (k : Nat) (x : T) (v : V) (d : PyData), R G m H x v → toD hp k x = some d → Dp G.K H v d := by
  intro k
  induction k with
  | zero =>
    intro x v d h e
    cases x <;> first
      | (cases e; done)
      | (simp only [R] at h; subst h; cases e; constructor)
  | succ k ih =>
    intro x v d h e
    cases x with
    | non => simp only [R] at h; subst h; cases e; constructor
    | bl b => simp only [R] at h; subst h; cases e; constructor
    | int b => simp only [R] at h; subst h; cases e; constructor
    | str b => simp only [R] at h; subst h; cases e; constructor
    | tup xs =>
      obtain ⟨a, vs, rfl, sq, rs⟩ := tpOf_ok (xs := xs) h rfl
      obtain ⟨ds, e1, rfl⟩ := Option.map_eq_some_iff.mp (show (mapO (toD hp k) xs).map PyData.tuple = some d from e)
      exact .tup sq (toDs_ok ih xs vs ds rs e1)
    | ktup xs =>
      obtain ⟨a, vs, rfl, sq, rs⟩ := tpOf_ok (xs := xs) h rfl
      obtain ⟨ds, e1, rfl⟩ := Option.map_eq_some_iff.mp (show (mapO (toD hp k) xs).map PyData.tuple = some d from e)
      exact .tup sq (toDs_ok ih xs vs ds rs e1)
    | lst xs =>
      obtain ⟨a, vs, rfl, sq, rs⟩ := lsOf_ok (xs := xs) rel h rfl
      obtain ⟨ds, e1, rfl⟩ := Option.map_eq_some_iff.mp (show (mapO (toD hp k) xs).map PyData.list = some d from e)
      exact .lst sq (toDs_ok ih xs vs ds rs e1)
    | klst xs =>
      obtain ⟨a, vs, rfl, sq, rs⟩ := lsOf_ok (xs := xs) rel h rfl
      obtain ⟨ds, e1, rfl⟩ := Option.map_eq_some_iff.mp (show (mapO (toD hp k) xs).map PyData.list = some d from e)
      exact .lst sq (toDs_ok ih xs vs ds rs e1)
    | loc n =>
      have e0 : (match lstAt hp n with
        | some xs => (mapO (toD hp k) xs).map PyData.list
        | none => none) = some d := e
      split at e0
      · rename_i xs q
        obtain ⟨a, vs, rfl, sq, rs⟩ := lsOf_ok (xs := xs) rel h q
        obtain ⟨ds, e1, rfl⟩ := Option.map_eq_some_iff.mp e0
        exact .lst sq (toDs_ok ih xs vs ds rs e1)
      · cases e0
    | _ => cases e
theorem toD_plain : ∀ (k : Nat) (x : T) (d : PyData), toD hp k x = some d → d.plain = true ∧ d.depth ≤ k := by
  have all : ∀ (f : T → Option PyData) (k : Nat), (∀ x d, f x = some d → d.plain = true ∧ d.depth ≤ k) → ∀ (xs : List T) (ds : List PyData), mapO f xs = some ds → PyData.plainAll ds = true ∧ PyData.depthAll ds ≤ k := by
    intro f k hf xs
    induction xs with
    | nil => intro ds e; cases e; exact ⟨rfl, Nat.zero_le _⟩
    | cons x xs ih =>
      intro ds e
      obtain ⟨y, ys, e1, e2, rfl⟩ := mapO_some e
      obtain ⟨h1, h2⟩ := hf x y e1
      obtain ⟨h3, h4⟩ := ih ys e2
      exact ⟨by simp only [PyData.plainAll, h1, h3]; rfl, by simp only [PyData.depthAll]; omega⟩
  intro k
  induction k with
  | zero =>
    intro x d e
    cases x <;> first
      | (cases e; done)
      | (cases e; exact ⟨rfl, Nat.le_refl _⟩)
  | succ k ih =>
    intro x d e
    have seqT : ∀ xs, (mapO (toD hp k) xs).map PyData.tuple = some d → d.plain = true ∧ d.depth ≤ k + 1 := fun xs e => by
      obtain ⟨ds, e1, rfl⟩ := Option.map_eq_some_iff.mp e
      obtain ⟨h1, h2⟩ := all _ k ih xs ds e1
      exact ⟨by simp only [PyData.plain]; exact h1, by simp only [PyData.depth]; omega⟩
    have seqL : ∀ xs, (mapO (toD hp k) xs).map PyData.list = some d → d.plain = true ∧ d.depth ≤ k + 1 := fun xs e => by
      obtain ⟨ds, e1, rfl⟩ := Option.map_eq_some_iff.mp e
      obtain ⟨h1, h2⟩ := all _ k ih xs ds e1
      exact ⟨by simp only [PyData.plain]; exact h1, by simp only [PyData.depth]; omega⟩
    cases x with
    | tup xs => exact seqT xs e
    | ktup xs => exact seqT xs e
    | lst xs => exact seqL xs e
    | klst xs => exact seqL xs e
    | loc n =>
      have e0 : (match lstAt hp n with
        | some xs => (mapO (toD hp k) xs).map PyData.list
        | none => none) = some d := e
      split at e0
      · exact seqL _ e0
      · cases e0
    | _ => first
      | (cases e; done)
      | (cases e; exact ⟨rfl, Nat.zero_le _⟩)
end

/-! ### operators -/
section
variable {X : Cx} {cl : Cln}
/-- ints in, under C -/
def iT (C : Int → Int → Bool) (g : Int → Int → T) (x y : T) (hp : MH) : Res T := match x, y with
  | .int i, .int j => if C i j = true then .ok (g i j) hp else .bad
  | _, _ => .bad
theorem iT_nox {C : Int → Int → Bool} {g : Int → Int → T} : NoX (iT C g) := fun x y h c fs h' e => by
  unfold iT at e
  split at e
  · split at e <;> cases e
  · cases e
theorem op_iT {f : Value → Value → Sem Value} {C : Int → Int → Prop} {Cb : Int → Int → Bool} {gv : Int → Int → V} {g : Int → Int → T} (h : OpR X f (rI C gv)) (hc : ∀ i j, Cb i j = true → C i j) (hr : ∀ i j m H, R (gx X cl) m H (g i j) (gv i j)) :
    OpR X f (rM (gx X cl) (iT Cb g)) := OpR.imp h fun v w H Q q => by
  obtain ⟨m, hp, x, y, rel, rx, ry, p⟩ := q
  unfold iT at p
  split at p
  · rename_i i j
    simp only [R] at rx ry
    split at p
    · rename_i hcc
      exact ⟨i, j, rx, ry, hc i j hcc, p.ok_ rel _ (hr i j m H)⟩
    · exact p.elim
  · exact p.elim
theorem rI0_of {f : Value → Value → Sem Value} {gv : Int → Int → V} (h : OpR X f (rI0 gv)) : OpR X f (rI (fun _ _ => True) gv) := OpR.imp h fun v w H Q q => by
  obtain ⟨i, j, e1, e2, _, q⟩ := q
  exact ⟨i, j, e1, e2, q⟩
instance decCMul (i j : Int) : Decidable (CMul i j) := by unfold CMul; infer_instance
instance decCDiv (i j : Int) : Decidable (CDiv i j) := by unfold CDiv; infer_instance
instance decCPow (i j : Int) : Decidable (CPow i j) := by unfold CPow; infer_instance
abbrev yes : Int → Int → Bool := fun _ _ => true
def subT := iT yes fun i j => .int (i - j)
def mulI := iT (fun i j => decide (CMul i j)) fun i j => .int (i * j)
def modT := iT (fun _ j => decide (0 < j)) fun i j => .int (i % j)
def fdvT := iT (fun i j => decide (CDiv i j)) fun i j => .int (i / j)
def powT := iT (fun i j => decide (CPow i j)) fun i j => .int (i ^ j.toNat)
def shlT := iT (fun i j => decide (CPow i j)) fun i j => .int (i * 2 ^ j.toNat)
def shrT := iT (fun _ j => decide (0 ≤ j)) fun i j => .int (i / 2 ^ j.toNat)
def andT := iT yes fun i j => .int (Builtin.bitAnd i j)
def orT := iT yes fun i j => .int (Builtin.bitOr i j)
def ltT := iT yes fun i j => .bl (decide (i < j))
def leT := iT yes fun i j => .bl (decide (i ≤ j))
def gtT := iT yes fun i j => .bl (decide (j < i))
def geT := iT yes fun i j => .bl (decide (j ≤ i))
theorem o_sub : OpR X (binaryOp .Sub) (rM (gx X cl) subT) := op_iT (rI0_of op_sub) (fun _ _ _ => trivial) fun _ _ _ _ => by simp only [R]
theorem o_mod : OpR X (binaryOp .Mod) (rM (gx X cl) modT) := op_iT op_mod (fun _ _ h => of_decide_eq_true h) fun _ _ _ _ => by simp only [R]
theorem o_and : OpR X (binaryOp .BitAnd) (rM (gx X cl) andT) := op_iT (rI0_of op_and) (fun _ _ _ => trivial) fun _ _ _ _ => by simp only [R]
theorem o_or : OpR X (binaryOp .BitOr) (rM (gx X cl) orT) := op_iT (rI0_of op_or) (fun _ _ _ => trivial) fun _ _ _ _ => by simp only [R]
theorem o_shr : OpR X (binaryOp .RShift) (rM (gx X cl) shrT) := op_iT op_shr (fun _ _ h => of_decide_eq_true h) fun _ _ _ _ => by simp only [R]
theorem o_lt : OpR X (compareOp .Lt) (rM (gx X cl) ltT) := op_iT (rI0_of op_lt) (fun _ _ _ => trivial) fun _ _ _ _ => by simp only [R]
theorem o_le : OpR X (compareOp .LtE) (rM (gx X cl) leT) := op_iT (rI0_of op_le) (fun _ _ _ => trivial) fun _ _ _ _ => by simp only [R]
theorem o_gt : OpR X (compareOp .Gt) (rM (gx X cl) gtT) := op_iT (rI0_of op_gt) (fun _ _ _ => trivial) fun _ _ _ _ => by simp only [R]
theorem o_ge : OpR X (compareOp .GtE) (rM (gx X cl) geT) := op_iT (rI0_of op_ge) (fun _ _ _ => trivial) fun _ _ _ _ => by simp only [R]
end
end TW
namespace TW
open PySem PySem.Spec L2

section
variable {X : Cx} {cl : Cln} {W : WX} {a b c e : Expr} {es : List Expr} {f g : EM} {pos : Pos}
/-! ### + and * -/
def addT (x y : T) (hp : MH) : Res T := match x, y with
  | .int i, .int j => .ok (.int (i + j)) hp
  | .str s, .str t => if s.length + t.length ≤ sizeLine then .ok (.str (s ++ t)) hp else .bad
  | .tup xs, .tup ys => if xs.length + ys.length ≤ sizeLine then .ok (.tup (xs ++ ys)) hp else .bad
  | _, _ => .bad
theorem n_add : NoX addT := fun x y h c fs h' e => by
  unfold addT at e
  split at e
  · cases e
  · split at e <;> cases e
  · split at e <;> cases e
  · cases e
theorem o_add : OpR X (binaryOp .Add) (rM (gx X cl) addT) := by
  refine OpR.imp (OpR.or (OpR.or op_add op_add_str) op_catA) fun v w H Q q => ?_
  obtain ⟨m, hp, x, y, rel, rx, ry, p⟩ := q
  unfold addT at p
  split at p
  · simp only [R] at rx ry
    exact .inl (.inl ⟨_, _, rx, ry, p.ok_ rel _ (by simp only [R])⟩)
  · simp only [R] at rx ry
    split at p
    · rename_i hl
      exact .inl (.inr ⟨_, _, rx, ry, hl, p.ok_ rel _ (by simp only [R])⟩)
    · exact p.elim
  · rename_i xs ys
    have rx0 := rx
    have ry0 := ry
    simp only [R] at rx ry
    obtain ⟨a, vs, rfl, f, rs⟩ := rx
    obtain ⟨b, ws, rfl, f2, rs2⟩ := ry
    split at p
    · rename_i hl
      refine .inr ⟨a, b, vs, ws, rfl, rfl, SqT.of f.1, SqT.of f2.1, by rw [← Rs.len rs, ← Rs.len rs2]; exact hl, fun z => ?_, fun _ z => ?_, fun _ _ q hq => ?_⟩
      · have e : xs = [] := List.eq_nil_of_length_eq_zero (by rw [Rs.len rs, z]; rfl)
        subst e
        exact p.ok_ rel _ (by simpa using ry0)
      · have e : ys = [] := List.eq_nil_of_length_eq_zero (by rw [Rs.len rs2, z]; rfl)
        subst e
        exact p.ok_ rel _ (by simpa using rx0)
      · exact p m _ (Stp.new hq) (rel.new hq) _ (tup_new rel (Rs.app rs rs2) hq)
    · exact p.elim
  · exact p.elim
/-- lists together: a new list, told how -/
def catT (k : List T → MH → Res T) (x y : T) (hp : MH) : Res T := match lsW hp x, lsW hp y with
  | some xs, some ys => k (xs ++ ys) hp
  | _, _ => .bad
theorem lst_two_nox {k : List T → MH → Res T} (hk : k = lstK ∨ k = lstL) (xs : List T) (hp : MH) : ∀ c fs h', k xs hp ≠ .exc c fs h' := by
  rcases hk with rfl | rfl
  · intro c fs h' e; unfold lstK at e; split at e <;> cases e
  · intro c fs h' e; unfold lstL at e; split at e <;> cases e
theorem n_cat {k : List T → MH → Res T} (hk : k = lstK ∨ k = lstL) : NoX (catT k) := fun x y h c fs h' e => by
  unfold catT at e
  split at e
  · exact lst_two_nox hk _ _ _ _ _ e
  · cases e
theorem o_cat {k : List T → MH → Res T} (hk : k = lstK ∨ k = lstL) : OpR X (binaryOp .Add) (rM (gx X cl) (catT k)) := by
  refine OpR.imp op_cat fun v w H Q q => ?_
  obtain ⟨m, hp, x, y, rel, rx, ry, p⟩ := q
  unfold catT at p
  split at p
  · rename_i xs ys e1 e2
    obtain ⟨a, vs, rfl, ha, rs⟩ := lsW_ok rel rx e1
    obtain ⟨b, ws, rfl, hb, rs2⟩ := lsW_ok rel ry e2
    obtain ⟨hl, q2⟩ := lst_two hk rel (Rs.app rs rs2) p
    refine ⟨a, b, vs, ws, rfl, rfl, ha, hb, ?_, q2⟩
    rw [List.length_append, Rs.len rs, Rs.len rs2] at hl
    exact hl
  · exact p.elim
def mulT (x y : T) (hp : MH) : Res T := match x, y with
  | .int i, .int j => if CMul i j then .ok (.int (i * j)) hp else .bad
  | .tup xs, .int k => if xs.length ≤ 1000 ∧ xs ≠ [] ∧ 2 ≤ k ∧ k ≤ 1000 then .ok (.tup (List.replicate k.toNat xs).flatten) hp else .bad
  | _, _ => .bad
theorem n_mul : NoX mulT := fun x y h c fs h' e => by
  unfold mulT at e
  split at e
  · split at e <;> cases e
  · split at e <;> cases e
  · cases e
theorem Rs.rep {G : Gx} {m : Ml} {H : Hp} {xs : List T} {vs : List V} (h : Rs G m H xs vs) : ∀ k : Nat, Rs G m H (List.replicate k xs).flatten (List.replicate k vs).flatten
  | 0 => Rs.nil
  | k + 1 => by
    rw [List.replicate_succ, List.replicate_succ, List.flatten_cons, List.flatten_cons]
    exact Rs.app h (Rs.rep h k)
theorem o_mul : OpR X (binaryOp .Mult) (rM (gx X cl) mulT) := by
  refine OpR.imp (OpR.or op_mul op_repT) fun v w H Q q => ?_
  obtain ⟨m, hp, x, y, rel, rx, ry, p⟩ := q
  unfold mulT at p
  split at p
  · simp only [R] at rx ry
    split at p
    · rename_i hc
      exact .inl ⟨_, _, rx, ry, hc, p.ok_ rel _ (by simp only [R])⟩
    · exact p.elim
  · rename_i xs k
    simp only [R] at rx ry
    obtain ⟨a, vs, rfl, f, rs⟩ := rx
    split at p
    · rename_i hc
      obtain ⟨h1, h2, h3, h4⟩ := hc
      refine .inr ⟨a, k, vs, rfl, ry, SqT.of f.1, fun z => h2 (List.eq_nil_of_length_eq_zero (by rw [Rs.len rs, z]; rfl)), h3, h4, by rw [← Rs.len rs]; exact h1, fun q hq => ?_⟩
      exact p m _ (Stp.new hq) (rel.new hq) _ (tup_new rel (Rs.rep rs _) hq)
    · exact p.elim
  · exact p.elim

/-! ### == and != of data -/
def eqT (x y : T) (hp : MH) : Res T := match toD hp deep x, toD hp deep y with
  | some d, some e => .ok (.bl (PyData.eqv d e)) hp
  | _, _ => .bad
def neT (x y : T) (hp : MH) : Res T := match toD hp deep x, toD hp deep y with
  | some d, some e => .ok (.bl (!PyData.eqv d e)) hp
  | _, _ => .bad
theorem n_eq : NoX eqT := fun x y h c fs h' e => by
  unfold eqT at e
  split at e <;> cases e
theorem n_ne : NoX neT := fun x y h c fs h' e => by
  unfold neT at e
  split at e <;> cases e
theorem room_deep {A : Around} (hu : A.units + 66 < cLine) {d e : PyData} (h : d.depth ≤ deep) : A.units + min d.depth e.depth < cLine := by
  have h1 : min d.depth e.depth ≤ d.depth := Nat.min_le_left _ _
  have h2 : deep = 14 := rfl
  omega
theorem o_eq (hu : X.A.units + 66 < cLine) : OpR X (compareOp .Eq) (rM (gx X cl) eqT) := by
  intro pins s σ H v w u u' Q I rv rw' q
  obtain ⟨m, hp, x, y, rel, rx, ry, p⟩ := q
  unfold eqT at p
  split at p
  · rename_i d e h1 h2
    obtain ⟨as, r1⟩ := Dp.reads I d v u (toD_ok rel _ x v d rx h1) rv
    obtain ⟨bs, r2⟩ := Dp.reads I e w u' (toD_ok rel _ y w e ry h2) rw'
    obtain ⟨p1, l1⟩ := toD_plain _ x d h1
    obtain ⟨p2, l2⟩ := toD_plain _ y e h2
    exact SeqAt.eq_plain r1 r2 p1 p2 (room_deep hu l1) ⟨.bl _, H, I, rfl, p.ok_ rel _ (by simp only [R])⟩
  · exact p.elim
theorem o_ne (hu : X.A.units + 66 < cLine) : OpR X (compareOp .NotEq) (rM (gx X cl) neT) := by
  intro pins s σ H v w u u' Q I rv rw' q
  obtain ⟨m, hp, x, y, rel, rx, ry, p⟩ := q
  unfold neT at p
  split at p
  · rename_i d e h1 h2
    obtain ⟨as, r1⟩ := Dp.reads I d v u (toD_ok rel _ x v d rx h1) rv
    obtain ⟨bs, r2⟩ := Dp.reads I e w u' (toD_ok rel _ y w e ry h2) rw'
    obtain ⟨p1, l1⟩ := toD_plain _ x d h1
    obtain ⟨p2, l2⟩ := toD_plain _ y e h2
    exact SeqAt.ne_plain r1 r2 p1 p2 (room_deep hu l1) ⟨.bl _, H, I, rfl, p.ok_ rel _ (by simp only [R])⟩
  · exact p.elim

/-! ### is None, is not None, is of truth values -/
def isNT (neg : Bool) (x y : T) (hp : MH) : Res T := match x, y with
  | .non, .non => .ok (.bl (!neg)) hp
  | .bl i, .bl j => .ok (.bl (if neg then !decide (i = j) else decide (i = j))) hp
  | _, .non => .ok (.bl neg) hp
  | _, _ => .bad
theorem n_is {neg : Bool} : NoX (isNT neg) := fun x y h c fs h' e => by
  unfold isNT at e
  split at e <;> cases e
theorem R.non_iff {G : Gx} {m : Ml} {H : Hp} {x : T} {v : V} (h : R G m H x v) : decide (v = V.non) = (match x with
    | .non => true
    | _ => false) := by
  cases x with
  | non => simp only [R] at h; subst h; rfl
  | bl i => simp only [R] at h; subst h; rfl
  | int i => simp only [R] at h; subst h; rfl
  | str i => simp only [R] at h; subst h; rfl
  | tup xs => simp only [R] at h; obtain ⟨a, vs, rfl, _⟩ := h; rfl
  | ktup xs => simp only [R] at h; obtain ⟨a, vs, rfl, _⟩ := h; rfl
  | lst xs => simp only [R] at h; obtain ⟨a, vs, rfl, _⟩ := h; rfl
  | klst xs => simp only [R] at h; obtain ⟨a, vs, rfl, _⟩ := h; rfl
  | set xs => simp only [R] at h; obtain ⟨a, rfl, _⟩ := h; rfl
  | dK ks xs => simp only [R] at h; obtain ⟨a, vs, rfl, _⟩ := h; rfl
  | dT ks xs => simp only [R] at h; obtain ⟨a, vs, rfl, _⟩ := h; rfl
  | dN ks xs => simp only [R] at h; obtain ⟨a, q, rfl, _⟩ := h; rfl
  | obj c ns xs => simp only [R] at h; obtain ⟨a, C, dx, vs, rfl, _⟩ := h; rfl
  | loc n => simp only [R] at h; obtain ⟨a, _, rfl⟩ := h; rfl
  | ty n => simp only [R] at h; subst h; rfl
  | cls n => simp only [R] at h; obtain ⟨a, _, rfl⟩ := h; rfl
theorem o_is : OpR X (compareOp .Is) (rM (gx X cl) (isNT false)) := by
  refine OpR.imp (OpR.or op_isN op_is_bl) fun v w H Q q => ?_
  obtain ⟨m, hp, x, y, rel, rx, ry, p⟩ := q
  cases y with
  | non =>
    have e := R.non_iff rx
    simp only [R] at ry
    refine .inl ⟨ry, ?_⟩
    rw [e]
    cases x <;> exact p.ok_ rel _ (by simp only [R]; try rfl)
  | bl j =>
    cases x with
    | bl i =>
      simp only [R] at rx ry
      exact .inr ⟨i, j, rx, ry, p.ok_ rel _ (by simp [R])⟩
    | _ => exact p.elim
  | _ => cases x <;> exact p.elim
theorem o_isnot : OpR X (compareOp .IsNot) (rM (gx X cl) (isNT true)) := by
  refine OpR.imp (OpR.or op_notN op_isnot_bl) fun v w H Q q => ?_
  obtain ⟨m, hp, x, y, rel, rx, ry, p⟩ := q
  cases y with
  | non =>
    have e := R.non_iff rx
    simp only [R] at ry
    refine .inl ⟨ry, ?_⟩
    rw [e]
    cases x <;> exact p.ok_ rel _ (by simp only [R]; try rfl)
  | bl j =>
    cases x with
    | bl i =>
      simp only [R] at rx ry
      exact .inr ⟨i, j, rx, ry, p.ok_ rel _ (by simp [R])⟩
    | _ => exact p.elim
  | _ => cases x <;> exact p.elim
end
end TW
namespace TW
open PySem PySem.Spec L2

/-! ### dicts -/
def kyOf : T → Option Key
  | .int i => some (.inl i)
  | .str s => some (.inr s)
  | _ => none
def kysOf : T → Option (List Key)
  | .tup xs => mapO kyOf xs
  | _ => none
def dkOf (hp : MH) : T → Option (List (Key × T))
  | .dK ks vs => some (ks.zip vs)
  | .loc n => (match hp[n]? with
    | some (.dK kvs) => some kvs
    | _ => none)
  | _ => none
def dtOf (hp : MH) : T → Option (List (List Key × T))
  | .dT ks vs => some (ks.zip vs)
  | .loc n => (match hp[n]? with
    | some (.dT kvs) => some kvs
    | _ => none)
  | _ => none
section
variable {κ : Type} [DecidableEq κ]
def look : List (κ × T) → κ → Option T
  | [], _ => none
  | (j, x) :: r, k => if j = k then some x else look r k
def putT (kvs : List (κ × T)) (k : κ) (y : T) : List (κ × T) :=
  if (kvs.any fun z => decide (z.1 = k)) = true then kvs.map (fun z => if z.1 = k then (z.1, y) else z) else kvs ++ [(k, y)]
end
section
variable {G : Gx} {m : Ml} {H : Hp} {hp : MH} {x : T} {v : V} {κ : Type} [DecidableEq κ]
theorem Rk.nil_iff {q : List (κ × V)} : Rk G m H ([] : List (κ × T)) q ↔ q = [] := by
  unfold Rk
  constructor
  · intro h
    have := h.1
    simp at this
    exact this
  · rintro rfl
    exact ⟨rfl, Rs.nil⟩
theorem Rk.cons_iff {k : κ} {y : T} {r : List (κ × T)} {q : List (κ × V)} : Rk G m H ((k, y) :: r) q ↔ ∃ w t, q = (k, w) :: t ∧ R G m H y w ∧ Rk G m H r t := by
  unfold Rk
  constructor
  · rintro ⟨h1, h2⟩
    obtain ⟨w, t, e, h3, h4⟩ := Rs.cons_iff.mp h2
    cases q with
    | nil => simp at e
    | cons p q =>
      obtain ⟨k', w'⟩ := p
      simp only [List.map_cons, List.cons.injEq] at h1 e
      obtain ⟨rfl, h1⟩ := h1
      obtain ⟨rfl, rfl⟩ := e
      exact ⟨w', q, rfl, h3, h1, h4⟩
  · rintro ⟨w, t, rfl, h1, h2, h3⟩
    exact ⟨by simp [h2], Rs.cons h1 h3⟩
theorem Rk.look : ∀ {kvs : List (κ × T)} {q : List (κ × V)} (k : κ), Rk G m H kvs q → (TW.look kvs k = none ∧ valV q k = none) ∨ ∃ y w, TW.look kvs k = some y ∧ valV q k = some w ∧ R G m H y w
  | [], q, k, h => by
    rw [Rk.nil_iff.mp h]
    exact .inl ⟨rfl, rfl⟩
  | (j, y) :: r, q, k, h => by
    obtain ⟨w, t, rfl, h1, h2⟩ := Rk.cons_iff.mp h
    by_cases e : j = k
    · exact .inr ⟨y, w, by simp [TW.look, e], by rw [valV_pos (p := (j, w)) e], h1⟩
    · rcases Rk.look k h2 with ⟨a, b⟩ | ⟨y', w', a, b, c⟩
      · exact .inl ⟨by simp [TW.look, e, a], by rw [valV_neg (p := (j, w)) e]; exact b⟩
      · exact .inr ⟨y', w', by simp [TW.look, e, a], by rw [valV_neg (p := (j, w)) e]; exact b, c⟩
theorem Rk.any (k : κ) : ∀ {kvs : List (κ × T)} {q : List (κ × V)}, Rk G m H kvs q → (kvs.any fun z => decide (z.1 = k)) = q.any fun z => decide (z.1 = k)
  | [], q, h => by rw [Rk.nil_iff.mp h]; rfl
  | (j, y) :: r, q, h => by
    obtain ⟨w, t, rfl, h1, h2⟩ := Rk.cons_iff.mp h
    rw [List.any_cons, List.any_cons, Rk.any k h2]
theorem Rk.repl (k : κ) {y : T} {w : V} (hy : R G m H y w) : ∀ {kvs : List (κ × T)} {q : List (κ × V)}, Rk G m H kvs q → Rk G m H (kvs.map fun z => if z.1 = k then (z.1, y) else z) (q.map fun z => if z.1 = k then (z.1, w) else z)
  | [], q, h => by rw [Rk.nil_iff.mp h]; exact Rk.nil_iff.mpr rfl
  | (j, z) :: r, q, h => by
    obtain ⟨u, t, rfl, h1, h2⟩ := Rk.cons_iff.mp h
    rw [List.map_cons, List.map_cons]
    by_cases e : j = k
    · rw [if_pos e, if_pos e]
      exact Rk.cons_iff.mpr ⟨w, _, rfl, hy, Rk.repl k hy h2⟩
    · rw [if_neg e, if_neg e]
      exact Rk.cons_iff.mpr ⟨u, _, rfl, h1, Rk.repl k hy h2⟩
theorem Rk.app {a b : List (κ × T)} {p q : List (κ × V)} (h : Rk G m H a p) (h2 : Rk G m H b q) : Rk G m H (a ++ b) (p ++ q) := ⟨by rw [List.map_append, List.map_append, h.1, h2.1], by rw [List.map_append, List.map_append]; exact Rs.app h.2 h2.2⟩
theorem Rk.put (k : κ) {y : T} {w : V} (hy : R G m H y w) {kvs : List (κ × T)} {q : List (κ × V)} (h : Rk G m H kvs q) : Rk G m H (putT kvs k y) (putK q k w) := by
  unfold putT putK
  rw [h.any k]
  split
  · exact Rk.repl k hy h
  · exact h.app (Rk.cons_iff.mpr ⟨w, [], rfl, hy, Rk.nil_iff.mpr rfl⟩)
theorem Rk.len {kvs : List (κ × T)} {q : List (κ × V)} (h : Rk G m H kvs q) : kvs.length = q.length := by
  have := congrArg List.length h.1
  simpa using this
theorem rk_zip {ks : List κ} {xs : List T} {vs : List V} (hl : ks.length = vs.length) (rs : Rs G m H xs vs) : Rk G m H (ks.zip xs) (ks.zip vs) := by
  have e := Rs.len rs
  refine ⟨?_, ?_⟩
  · rw [List.map_fst_zip (by omega), List.map_fst_zip (by omega)]
  · rw [List.map_snd_zip (by omega), List.map_snd_zip (by omega)]
    exact rs
end
section
variable {G : Gx} {m : Ml} {H : Hp} {hp : MH} {x : T} {v : V}
theorem kyOf_ok {k : Key} (h : R G m H x v) (e : kyOf x = some k) : v = kV k := by
  cases x <;> first
    | (cases e; done)
    | (simp only [R] at h; subst h; cases e; rfl)
theorem kys_ok {ks : List Key} : ∀ {xs : List T} {vs : List V} {ks : List Key}, Rs G m H xs vs → mapO kyOf xs = some ks → vs = ks.map kV
  | [], vs, ks, rs, e => by
    cases e
    rw [Rs.nil_iff.mp rs]
    rfl
  | x :: xs, vs, ks, rs, e => by
    obtain ⟨v, r, rfl, h1, h2⟩ := Rs.cons_iff.mp rs
    obtain ⟨y, ys, e1, e2, rfl⟩ := mapO_some e
    rw [kyOf_ok h1 e1, kys_ok (ks := ks) h2 e2]
    rfl
theorem kysOf_ok {ks : List Key} (h : R G m H x v) (e : kysOf x = some ks) : ∃ a, v = .ref a ∧ H a = some (.tup (ks.map kV)) := by
  cases x with
  | tup xs =>
    simp only [R] at h
    obtain ⟨a, vs, rfl, f, rs⟩ := h
    rw [kys_ok (ks := ks) rs e] at f
    exact ⟨a, rfl, f.1⟩
  | _ => cases e
theorem dkOf_ok {kvs : List (Key × T)} (rel : Rel G m H hp) (h : R G m H x v) (e : dkOf hp x = some kvs) : ∃ a q, v = .ref a ∧ Rd H a (.dK q) ∧ Rk G m H kvs q := by
  cases x with
  | dK ks xs =>
    cases e
    simp only [R] at h
    obtain ⟨a, vs, rfl, f, hl, rs⟩ := h
    exact ⟨a, _, rfl, f.1, rk_zip hl rs⟩
  | loc n =>
    simp only [dkOf] at e
    split at e
    · rename_i q z
      cases e
      obtain ⟨a, e1, e2, w, e3, rk⟩ := rel.cell h z
      exact ⟨a, w, e2, .inl e3, rk⟩
    · cases e
  | _ => cases e
theorem dtOf_ok {kvs : List (List Key × T)} (rel : Rel G m H hp) (h : R G m H x v) (e : dtOf hp x = some kvs) : ∃ a q, v = .ref a ∧ Rd H a (.dT q) ∧ Rk G m H kvs q := by
  cases x with
  | dT ks xs =>
    cases e
    simp only [R] at h
    obtain ⟨a, vs, rfl, f, hl, rs⟩ := h
    exact ⟨a, _, rfl, f.1, rk_zip hl rs⟩
  | loc n =>
    simp only [dtOf] at e
    split at e
    · rename_i q z
      cases e
      obtain ⟨a, e1, e2, w, e3, rk⟩ := rel.cell h z
      exact ⟨a, w, e2, .inl e3, rk⟩
    · cases e
  | _ => cases e
end
/-- what a dict holds at a key: none: no dict, or no key of its kind -/
def dGet (hp : MH) (d k : T) : Option (Option T) := match dkOf hp d, kyOf k with
  | some kvs, some j => some (look kvs j)
  | _, _ => (match dtOf hp d, kysOf k with
    | some kvs, some j => some (look kvs j)
    | _, _ => none)
section
variable {G : Gx} {m : Ml} {H : Hp} {hp : MH}
theorem dGet_ok (rel : Rel G m H hp) {d k : T} {v w : V} {o : Option T} (hd : R G m H d v) (hk : R G m H k w) (e : dGet hp d k = some o) :
    ∃ a q, v = .ref a ∧ DGet H a w q ∧ ((o = none ∧ q = none) ∨ ∃ y u, o = some y ∧ q = some u ∧ R G m H y u) := by
  unfold dGet at e
  split at e
  · rename_i kvs j e1 e2
    cases e
    obtain ⟨a, q, rfl, rd, rk⟩ := dkOf_ok rel hd e1
    have ew := kyOf_ok hk e2
    exact ⟨a, valV q j, rfl, .inl ⟨q, j, rd, ew, rfl⟩, rk.look j⟩
  · split at e
    · rename_i kvs j e1 e2
      cases e
      obtain ⟨a, q, rfl, rd, rk⟩ := dtOf_ok rel hd e1
      obtain ⟨b, rfl, hb⟩ := kysOf_ok hk e2
      exact ⟨a, valV q j, rfl, .inr ⟨q, j, b, rd, rfl, hb, rfl⟩, rk.look j⟩
    · cases e
end

/-! ### x in y -/
def inB (hp : MH) (x y : T) : Option Bool := match dGet hp y x with
  | some o => some o.isSome
  | none => (match toD hp deep x, toD hp deep y with
    | some d, some (.list ds) => some (ds.any fun z => PyData.eqv z d)
    | some d, some (.tuple ds) => some (ds.any fun z => PyData.eqv z d)
    | some (.str i), some (.str j) => some (!(Builtin.Str.occurrences j i 0 j.length 1).isEmpty)
    | _, _ => none)
def inT (neg : Bool) (x y : T) (hp : MH) : Res T := match inB hp x y with
  | some b => .ok (.bl (if neg = true then !b else b)) hp
  | none => .bad
theorem n_in {neg : Bool} : NoX (inT neg) := fun x y h c fs h' e => by
  unfold inT at e
  split at e <;> cases e
section
variable {X : Cx} {cl : Cln}
theorem toD_str {hp : MH} {k : Nat} {x : T} {s : Str} (h : toD hp k x = some (.str s)) : x = .str s := by
  have no : ∀ (xs : List T) (j : Nat), (mapO (toD hp j) xs).map PyData.tuple ≠ some (.str s) ∧ (mapO (toD hp j) xs).map PyData.list ≠ some (.str s) := fun xs j => by
    cases mapO (toD hp j) xs with
    | none => exact ⟨fun e => (by cases e), fun e => (by cases e)⟩
    | some ds => exact ⟨fun e => (by cases e), fun e => (by cases e)⟩
  cases k with
  | zero => cases x <;> first
    | (cases h; done)
    | (cases h; rfl)
  | succ k =>
    cases x with
    | tup xs => exact absurd h (no xs k).1
    | ktup xs => exact absurd h (no xs k).1
    | lst xs => exact absurd h (no xs k).2
    | klst xs => exact absurd h (no xs k).2
    | loc n =>
      have e0 : (match lstAt hp n with
        | some xs => (mapO (toD hp k) xs).map PyData.list
        | none => none) = some (.str s) := h
      split at e0
      · exact absurd e0 (no _ k).2
      · cases e0
    | _ => first
      | (cases h; done)
      | (cases h; rfl)
theorem room_deep2 {A : Around} (hu : A.units + 66 < cLine) {d : PyData} {ds : List PyData} (h : d.depth ≤ deep) : A.units + 1 + min (PyData.depthAll ds) d.depth < cLine := by
  have h1 : min (PyData.depthAll ds) d.depth ≤ d.depth := Nat.min_le_right _ _
  have h2 : deep = 14 := rfl
  omega
theorem o_inb {op : CmpOp} {neg : Bool} (hop : (op = .In ∧ neg = false) ∨ (op = .NotIn ∧ neg = true)) (hu : X.A.units + 66 < cLine) : OpR X (compareOp op) (rM (gx X cl) (inT neg)) := by
  intro pins s σ H v w u u' Q I rv rw' q
  obtain ⟨m, hp, x, y, rel, rx, ry, p⟩ := q
  unfold inT at p
  split at p
  · rename_i b e
    have fin : ∀ c, c = (if neg = true then !b else b) → EP X pins σ Q (.bool c) s := fun c ec => ⟨.bl c, H, I, rfl, p.ok_ rel _ (by simp only [R, ec])⟩
    have finT : ∀ c s', Inv X pins σ H s' → c = (if neg = true then !b else b) → EP X pins σ Q (.bool c) s' := fun c s' I' ec => ⟨.bl c, H, I', rfl, p.ok_ rel _ (by simp only [R, ec])⟩
    unfold inB at e
    split at e
    · rename_i o eo
      obtain ⟨a, q, rfl, g, ro⟩ := dGet_ok rel ry rx eo
      have ei : q.isSome = o.isSome := by
        rcases ro with ⟨rfl, rfl⟩ | ⟨_, _, rfl, rfl, _⟩ <;> rfl
      cases e
      cases rw'
      rcases hop with ⟨rfl, rfl⟩ | ⟨rfl, rfl⟩
      · exact d_in (by omega) I g rv fun s' I' => finT _ s' I' (by simp [ei])
      · exact d_notIn (by omega) I g rv fun s' I' => finT _ s' I' (by simp [ei])
    · split at e
      · rename_i d ds h1 h2
        cases e
        obtain ⟨as, r1⟩ := Dp.reads I d v u (toD_ok rel _ x v d rx h1) rv
        obtain ⟨bs, r2⟩ := Dp.reads I _ w u' (toD_ok rel _ y w _ ry h2) rw'
        obtain ⟨p1, l1⟩ := toD_plain _ x d h1
        obtain ⟨p2, l2⟩ := toD_plain _ y _ h2
        rcases hop with ⟨rfl, rfl⟩ | ⟨rfl, rfl⟩
        · exact SeqAt.in_list_data r2 r1 (by simpa only [PyData.plain] using p2) p1 (room_deep2 hu l1) (fin _ (by simp))
        · exact SeqAt.notIn_list_data r2 r1 (by simpa only [PyData.plain] using p2) p1 (room_deep2 hu l1) (fin _ (by simp))
      · rename_i d ds h1 h2
        cases e
        obtain ⟨as, r1⟩ := Dp.reads I d v u (toD_ok rel _ x v d rx h1) rv
        obtain ⟨bs, r2⟩ := Dp.reads I _ w u' (toD_ok rel _ y w _ ry h2) rw'
        obtain ⟨p1, l1⟩ := toD_plain _ x d h1
        obtain ⟨p2, l2⟩ := toD_plain _ y _ h2
        rcases hop with ⟨rfl, rfl⟩ | ⟨rfl, rfl⟩
        · exact SeqAt.in_tuple_data r2 r1 (by simpa only [PyData.plain] using p2) p1 (room_deep2 hu l1) (fin _ (by simp))
        · exact SeqAt.notIn_tuple_data r2 r1 (by simpa only [PyData.plain] using p2) p1 (room_deep2 hu l1) (fin _ (by simp))
      · rename_i i j h1 h2
        cases e
        obtain rfl := toD_str h1
        obtain rfl := toD_str h2
        simp only [R] at rx ry
        subst rx ry
        rcases hop with ⟨rfl, rfl⟩ | ⟨rfl, rfl⟩
        · exact op_in_str pins s σ H _ _ u u' Q I rv rw' ⟨i, j, rfl, rfl, p.ok_ rel _ (by simp [R])⟩
        · exact op_notin_str pins s σ H _ _ u u' Q I rv rw' ⟨i, j, rfl, rfl, p.ok_ rel _ (by simp [R])⟩
      · cases e
  · exact p.elim
theorem o_in (hu : X.A.units + 66 < cLine) : OpR X (compareOp .In) (rM (gx X cl) (inT false)) := o_inb (.inl ⟨rfl, rfl⟩) hu
theorem o_notin (hu : X.A.units + 66 < cLine) : OpR X (compareOp .NotIn) (rM (gx X cl) (inT true)) := o_inb (.inr ⟨rfl, rfl⟩) hu
end
end TW
namespace TW
open PySem PySem.Spec L2

/-! ### x[i] -/
def ixT (x y : T) (hp : MH) : Res T := match y with
  | .int i => (match lsOf hp x with
    | some xs => (match atI xs i with
      | some z => .ok z hp
      | none => .bad)
    | none => (match tpOf x with
      | some xs => (match atI xs i with
        | some z => .ok z hp
        | none => .bad)
      | none => (match x with
        | .str z => if z.length ≤ sizeLine then (match atI z.cps.toList i with
          | some c => .ok (.str ⟨#[c]⟩) hp
          | none => .bad) else .bad
        | _ => (match dGet hp x y with
          | some (some z) => .ok z hp
          | _ => .bad))))
  | _ => (match dGet hp x y with
    | some (some z) => .ok z hp
    | _ => .bad)
section
variable {G : Gx} {m : Ml} {H : Hp} {hp : MH}
theorem atI_ok {xs : List T} {vs : List V} {i : Int} {z : T} (rs : Rs G m H xs vs) (e : atI xs i = some z) : ∃ v, atI vs i = some v ∧ R G m H z v := by
  unfold atI at e ⊢
  rw [← Rs.len rs]
  obtain ⟨j, e1, e2⟩ := Option.bind_eq_some_iff.mp e
  obtain ⟨v, e3, q⟩ := Rs.get rs e2
  exact ⟨v, by rw [e1]; exact e3, q⟩
end
section
variable {X : Cx} {cl : Cln} {W : WX} {a b c e : Expr} {es : List Expr} {f g : EM} {pos : Pos}
theorem ix_dict (hu : X.A.units + 1 < cLine) : IxR X (fun x y H Q => ∃ a v, x = .ref a ∧ DGet H a y (some v) ∧ Q v H) := by
  intro value slice pins s σ H x y v u Q I rx ry h hs
  obtain ⟨a, z, rfl, gt, q⟩ := h
  cases rx
  have hT := dict_typeIs I gt
  unfold PyProof.Rows.subscriptTail
  refine wpAny_bind ?_
  rw [getitemInPython_of_ne hT.not_modules]
  refine wpAny_bind (wpAny_specialOf hT PySem.F.slot_dict_getitem.lookup ?_)
  have go : wpAny (model X.prog X.w) X.A (subscripted slice false (.ref a) u) (fun r s3 => wpAny (model X.prog X.w) X.A (letTemporaryGo value (.ref a) r >>= fun _ => pure r) (EP X pins σ Q) X.xe s3) X.xe s := by
    rw [hs]
    exact wpAny_operating (d_getItem hu I gt ry fun w' s' I' rw' => wpAny_bind (wpAny_letTemporaryGo (wpAny_pure ⟨z, H, I', rw', q⟩)))
  first
    | exact wpAny_pure (wpAny_bind go)
    | exact wpAny_bind (wpAny_pure (wpAny_bind go))
    | exact wpAny_bind go
theorem IxR.imp {r r' : R2} (h : IxR X r) (i : ∀ x y H Q, r' x y H Q → r x y H Q) : IxR X r' := fun value slice pins s σ H x y v u Q I rx ry q hs => h value slice pins s σ H x y v u Q I rx ry (i _ _ _ _ q) hs
theorem o_ix (hu : X.A.units + 66 < cLine) : IxR X (rM (gx X cl) ixT) := by
  refine IxR.imp (ix_seq.or (ix_dict (by omega))) fun v w H Q q => ?_
  obtain ⟨m, hp, x, y, rel, rx, ry, p⟩ := q
  have dct : Pst (gx X cl) m H (match dGet hp x y with
      | some (some z) => Res.ok z hp
      | _ => .bad) (fun z m' _ H' => ∀ u, R (gx X cl) m' H' z u → Q u H') W0 → ∃ a z, v = .ref a ∧ DGet H a w (some z) ∧ Q z H := fun p => by
    split at p
    · rename_i z ez
      obtain ⟨a, q, rfl, g, ro⟩ := dGet_ok rel rx ry ez
      rcases ro with ⟨e1, _⟩ | ⟨y', u, e1, rfl, r⟩
      · cases e1
      · cases e1
        exact ⟨a, u, rfl, g, p.ok_ rel _ r⟩
    · exact p.elim
  cases y with
  | int i =>
    have ei : w = .int i := by simpa only [R] using ry
    simp only [ixT] at p
    split at p
    · rename_i xs e1
      obtain ⟨a, vs, rfl, sq, rs⟩ := lsOf_ok rel rx e1
      split at p
      · rename_i z ez
        obtain ⟨u, e2, r⟩ := atI_ok rs ez
        exact .inl (.inl ⟨a, vs, i, u, rfl, ei, sq, e2, p.ok_ rel _ r⟩)
      · exact p.elim
    · split at p
      · rename_i xs e1
        obtain ⟨a, vs, rfl, sq, rs⟩ := tpOf_ok rx e1
        split at p
        · rename_i z ez
          obtain ⟨u, e2, r⟩ := atI_ok rs ez
          exact .inl (.inr (.inl ⟨a, vs, i, u, rfl, ei, sq, e2, p.ok_ rel _ r⟩))
        · exact p.elim
      · split at p
        · rename_i z _ _
          simp only [R] at rx
          split at p
          · rename_i hl
            split at p
            · rename_i ch ec
              exact .inl (.inr (.inr ⟨z, i, ch, rx, ei, hl, ec, p.ok_ rel _ (by simp only [R])⟩))
            · exact p.elim
          · exact p.elim
        · exact .inr (dct p)
  | _ => exact .inr (dct p)
theorem n_ix : NoX ixT := fun x y h c fs h' e => by
  unfold ixT at e
  repeat' (split at e)
  all_goals cases e
theorem me_ix (hu : X.A.units + 66 < cLine) (ha : ME X cl W a f) (hb : ME X cl W b g) (hs : PlainIx b := by exact fun _ _ => rfl) : ME X cl W (.Subscript a b pos) (emOp ixT f g) := by
  refine ⟨PE.imp (pe_ix (o_ix (cl := cl) hu) ha.pe hb.pe hs) fun σ H Q h => ?_⟩
  obtain ⟨r, hp, m, re, rel, p⟩ := two_ok h
  refine ⟨r, hp, m, re, rel, p.mono (fun x m' h' H' s q v rv => ?_) fun _ _ _ z => z⟩
  obtain ⟨r2, hp2, m2, re2, rel2, p2⟩ := q v rv
  refine ⟨r2, hp2, m2, re2, rel2, p2.mono (fun y m3 h3 H3 s3 q3 w rw' => ?_) fun _ _ _ z => z⟩
  obtain ⟨m4, hp4, x4, y4, rel4, rx, ry, p4⟩ := q3 w rw'
  exact ⟨m4, hp4, x4, y4, rel4, rx, ry, p4.nox (n_ix _ _ _)⟩

/-! ### slices -/
def cutX {α : Type} (xs : List α) (lo hi : Option Int) : List α := (xs.drop (HT.sIx xs.length 0 lo)).take (HT.sIx xs.length xs.length hi - HT.sIx xs.length 0 lo)
theorem Rs.cut {G : Gx} {m : Ml} {H : Hp} {xs : List T} {vs : List V} (rs : Rs G m H xs vs) (lo hi : Option Int) : Rs G m H (cutX xs lo hi) (cutV vs lo hi) := by
  unfold cutX cutV
  rw [Rs.len rs]
  exact Rs.take _ (Rs.drop _ rs)
/-- x[lo:hi], a list's told how -/
def slT (k : List T → MH → Res T) (x : T) (lo hi : Option Int) (hp : MH) : Res T := match lsOf hp x with
  | some xs => k (cutX xs lo hi) hp
  | none => (match x with
    | .tup xs => .ok (.tup (cutX xs lo hi)) hp
    | _ => .bad)
abbrev PM := Rho → MH → Res (Option Int)
def pNo : PM := fun _ hp => .ok none hp
def pSo (f : EM) : PM := fun r hp => (f r hp).bind fun x h1 => match x with
  | .int i => .ok (some i) h1
  | _ => .bad
def tMO (G : Gx) (W : WX) (f : PM) : TO := fun σ H Q => ∃ r hp m, RE G m H r σ ∧ Rel G m H hp ∧ Pst G m H (f r hp) (fun b _ _ H' => Q b H') (fun c d H' => W c d σ H')
structure MP (X : Cx) (cl : Cln) (W : WX) (e : Option Expr) (f : PM) : Prop where
  po : PO X e (tMO (gx X cl) W f)
theorem mp_no : MP X cl W none pNo := ⟨⟨fun pins s σ H Q I h => po_none.run pins s σ H Q I (by
  obtain ⟨r, hp, m, re, rel, p⟩ := h
  exact p.ok_ rel)⟩⟩
theorem mp_so (ha : ME X cl W e f) : MP X cl W (some e) (pSo f) := ⟨⟨fun pins s σ H Q I h => (po_some ha.pe).run pins s σ H Q I (by
  obtain ⟨r, hp, m, re, rel, p⟩ := h
  refine ⟨r, hp, m, re, rel, p.bind.mono (fun x m1 h1 H1 s1 q v rv => ?_) fun _ _ _ z => z⟩
  obtain ⟨rel1, p1⟩ := q
  split at p1
  · rename_i i
    simp only [R] at rv
    exact ⟨i, rv, p1.ok_ rel1⟩
  · exact p1.elim)⟩⟩
def emSl (k : List T → MH → Res T) (f : EM) (lo hi : PM) : EM := fun r hp => (f r hp).bind fun x h1 => (lo r h1).bind fun l h2 => (hi r h2).bind fun u h3 => slT k x l u h3
theorem sl_any : SlR X (fun x lo hi H Q => rSlL X.K x lo hi H Q ∨ rSlA X.K x lo hi H Q) := sl_list.or sl_tupA
theorem me_sl {k : List T → MH → Res T} (hk : k = lstK ∨ k = lstL) {lo hi : Option Expr} {pl ph : PM} {p2 : Pos} (ha : ME X cl W a f) (hl : MP X cl W lo pl) (hh : MP X cl W hi ph) : ME X cl W (.Subscript a (.Slice lo hi none p2) pos) (emSl k f pl ph) := by
  refine ⟨PE.imp (pe_slice sl_any ha.pe hl.po hh.po) fun σ H Q h => ?_⟩
  obtain ⟨r, hp, m, re, rel, p⟩ := h
  refine ⟨r, hp, m, re, rel, p.bind.mono (fun x m1 h1 H1 s1 q v rv => ?_) fun _ _ _ z => z⟩
  refine ⟨r, h1, m1, re.step s1, q.1, q.2.bind.mono (fun l m2 h2 H2 s2 q2 => ?_) fun _ _ _ z => z⟩
  refine ⟨r, h2, m2, (re.step s1).step s2, q2.1, q2.2.bind.mono (fun u m3 h3 H3 s3 q3 => ?_) fun _ _ _ z => z⟩
  obtain ⟨rel3, p3⟩ := q3
  have rx := R.step s3 _ _ (R.step s2 _ _ rv)
  unfold slT at p3
  split at p3
  · rename_i xs e1
    obtain ⟨a, vs, rfl, sq, rs⟩ := lsOf_ok rel3 rx e1
    obtain ⟨_, q4⟩ := lst_two hk rel3 (rs.cut l u) p3
    exact .inl ⟨a, vs, rfl, sq, q4⟩
  · split at p3
    · rename_i xs _
      have rx0 := rx
      simp only [R] at rx
      obtain ⟨a, vs, rfl, f, rs⟩ := rx
      refine .inr ⟨a, vs, rfl, SqT.of f.1, fun z => ?_, fun _ p hp => ?_⟩
      · have e : cutX xs l u = xs := by
          unfold cutX
          rw [Rs.len rs, z.1, z.2, List.drop_zero, Nat.sub_zero, List.take_of_length_le (by rw [Rs.len rs]; exact Nat.le_refl _)]
        refine p3.ok_ rel3 _ ?_
        rw [e]
        exact rx0
      · exact p3 m3 _ (Stp.new hp) (rel3.new hp) _ (tup_new rel3 (rs.cut l u) hp)
    · exact p3.elim
/-- xs[::-1] of a list -/
def rvT (k : List T → MH → Res T) (x : T) (hp : MH) : Res T := match lsOf hp x with
  | some xs => k xs.reverse hp
  | none => .bad
def em1 (k : T → MH → Res T) (f : EM) : EM := fun r hp => (f r hp).bind k
theorem me_rev {k : List T → MH → Res T} (hk : k = lstK ∨ k = lstL) {j : Nat} {p1 p2 p3 : Pos} (ha : ME X cl W e f) : ME X cl W (.Subscript e (.Slice none none (some (.UnaryOp .USub (.Constant (.int 1) j p1) p2)) p3) pos) (em1 (rvT k) f) := by
  refine ⟨PE.imp (pe_revL ha.pe) fun σ H Q h => ?_⟩
  obtain ⟨r, hp, m, re, rel, p⟩ := one_ok h
  refine ⟨r, hp, m, re, rel, p.mono (fun x m1 h1 H1 s1 q v rv => ?_) fun _ _ _ z => z⟩
  obtain ⟨m2, hp2, y, rel2, ry, p2⟩ := q v rv
  unfold rvT at p2
  split at p2
  · rename_i xs e1
    obtain ⟨a, vs, rfl, sq, rs⟩ := lsOf_ok rel2 ry e1
    obtain ⟨_, q4⟩ := lst_two hk rel2 rs.reverse p2
    exact ⟨a, vs, rfl, sq, q4⟩
  · exact p2.elim

/-! ### e.f, an attribute of an object -/
def lk {β : Type} (f : Str) : List (Str × β) → Option β
  | [] => none
  | (g, x) :: r => if f = g then some x else lk f r
theorem lk_lookup {β : Type} (f : Str) : ∀ l : List (Str × β), l.lookup f = lk f l
  | [] => rfl
  | (g, x) :: r => by
    rw [List.lookup_cons]
    simp only [lk]
    by_cases h : f = g
    · rw [if_pos h, beq_iff_eq.mpr h]
    · rw [if_neg h, beq_eq_false_iff_ne.mpr h, lk_lookup f r]
theorem Rk.lk {G : Gx} {m : Ml} {H : Hp} {f : Str} {z : T} : ∀ {kvs : List (Str × T)} {q : List (Str × V)}, Rk G m H kvs q → lk f kvs = some z → ∃ v, q.lookup f = some v ∧ R G m H z v
  | [], q, h, e => by cases e
  | (g, x) :: r, q, h, e => by
    obtain ⟨w, t, rfl, h1, h2⟩ := Rk.cons_iff.mp h
    rw [lk_lookup]
    simp only [TW.lk] at e ⊢
    split at e
    · rename_i hfg
      cases e
      exact ⟨w, by rw [if_pos hfg], h1⟩
    · rename_i hfg
      rw [if_neg hfg, ← lk_lookup]
      exact Rk.lk h2 e
/-- oc: the classes whose objects have attributes -/
def atT (oc : List Str) (f : Str) (x : T) (hp : MH) : Res T := match x with
  | .obj c ns vs => if c ∈ oc then (match lk f (ns.zip vs) with
    | some z => .ok z hp
    | none => .bad) else .bad
  | .loc n => (match hp[n]? with
    | some (.ins c fs) => if c ∈ oc then (match lk f fs with
      | some z => .ok z hp
      | none => .bad) else .bad
    | _ => .bad)
  | _ => .bad
/-- what is known of these classes' attribute f -/
def AtOk (K : PySem.W.Frag) (cl : Cln) (oc : List Str) (f : Str) : Prop := ∀ c ∈ oc, ∀ C, cl c = some C → Cls K C ∧ NoAttr K C f
theorem me_at {oc : List Str} {nm : Str} (hc : AtOk X.K cl oc nm) (ha : ME X cl W e f) (hb : attributeBase e nm X.env (eval e X.env) = eval e X.env := by rfl) : ME X cl W (.Attribute e nm pos) (em1 (atT oc nm) f) := by
  refine ⟨PE.imp (pe_fld ha.pe hb) fun σ H Q h => ?_⟩
  obtain ⟨r, hp, m, re, rel, p⟩ := one_ok h
  refine ⟨r, hp, m, re, rel, p.mono (fun x m1 h1 H1 s1 q v rv => ?_) fun _ _ _ z => z⟩
  obtain ⟨m2, hp2, y, rel2, ry, p2⟩ := q v rv
  unfold atT at p2
  split at p2
  · rename_i c ns vs
    simp only [R] at ry
    obtain ⟨a, C, dx, us, rfl, hC, f, hl, rs⟩ := ry
    split at p2
    · rename_i hmem
      obtain ⟨k1, k2⟩ := hc c hmem C hC
      split at p2
      · rename_i z ez
        obtain ⟨u, eu, ru⟩ := (rk_zip hl rs).lk ez
        exact ⟨a, C, dx, _, u, rfl, f.1, k1, k2, eu, p2.ok_ rel2 _ ru⟩
      · exact p2.elim
    · exact p2.elim
  · rename_i n
    split at p2
    · rename_i c fs ec
      obtain ⟨a, e1, rfl, C, dx, qv, hC, hH, rk⟩ := rel2.cell ry ec
      split at p2
      · rename_i hmem
        obtain ⟨k1, k2⟩ := hc c hmem C hC
        split at p2
        · rename_i z ez
          obtain ⟨u, eu, ru⟩ := rk.lk ez
          exact ⟨a, C, dx, _, u, rfl, hH, k1, k2, eu, p2.ok_ rel2 _ ru⟩
        · exact p2.elim
      · exact p2.elim
    · exact p2.elim
  · exact p2.elim
end
end TW
namespace TW
open PySem PySem.Spec L2

mutual
def beqT : T → T → Bool
  | .non, .non => true
  | .bl a, .bl b => decide (a = b)
  | .int a, .int b => decide (a = b)
  | .str a, .str b => decide (a = b)
  | .tup a, .tup b => beqTs a b
  | .ktup a, .ktup b => beqTs a b
  | .lst a, .lst b => beqTs a b
  | .klst a, .klst b => beqTs a b
  | .set a, .set b => decide (a = b)
  | .dK k a, .dK j b => decide (k = j) && beqTs a b
  | .dT k a, .dT j b => decide (k = j) && beqTs a b
  | .dN k a, .dN j b => decide (k = j) && beqTs a b
  | .obj c k a, .obj d j b => decide (c = d) && (decide (k = j) && beqTs a b)
  | .loc a, .loc b => decide (a = b)
  | .ty a, .ty b => decide (a = b)
  | .cls a, .cls b => decide (a = b)
  | _, _ => false
def beqTs : List T → List T → Bool
  | [], [] => true
  | a :: x, b :: y => beqT a b && beqTs x y
  | _, _ => false
end
mutual
theorem beqT_ok : ∀ a b : T, beqT a b = true → a = b
  | .non, b, h => by cases b <;> first | rfl | (simp [beqT] at h; done)
  | .bl x, b, h => by cases b <;> first | (simp [beqT] at h; rw [h]; done) | (simp [beqT] at h; done)
  | .int x, b, h => by cases b <;> first | (simp [beqT] at h; rw [h]; done) | (simp [beqT] at h; done)
  | .str x, b, h => by cases b <;> first | (simp [beqT] at h; rw [h]; done) | (simp [beqT] at h; done)
  | .set x, b, h => by cases b <;> first | (simp [beqT] at h; rw [h]; done) | (simp [beqT] at h; done)
  | .loc x, b, h => by cases b <;> first | (simp [beqT] at h; rw [h]; done) | (simp [beqT] at h; done)
  | .ty x, b, h => by cases b <;> first | (simp [beqT] at h; rw [h]; done) | (simp [beqT] at h; done)
  | .cls x, b, h => by cases b <;> first | (simp [beqT] at h; rw [h]; done) | (simp [beqT] at h; done)
  | .tup x, b, h => by
    cases b with
    | tup y => simp only [beqT] at h; rw [beqTs_ok x y h]
    | _ => simp [beqT] at h
  | .ktup x, b, h => by
    cases b with
    | ktup y => simp only [beqT] at h; rw [beqTs_ok x y h]
    | _ => simp [beqT] at h
  | .lst x, b, h => by
    cases b with
    | lst y => simp only [beqT] at h; rw [beqTs_ok x y h]
    | _ => simp [beqT] at h
  | .klst x, b, h => by
    cases b with
    | klst y => simp only [beqT] at h; rw [beqTs_ok x y h]
    | _ => simp [beqT] at h
  | .dK k x, b, h => by
    cases b with
    | dK j y => simp only [beqT, Bool.and_eq_true, decide_eq_true_eq] at h; rw [h.1, beqTs_ok x y h.2]
    | _ => simp [beqT] at h
  | .dT k x, b, h => by
    cases b with
    | dT j y => simp only [beqT, Bool.and_eq_true, decide_eq_true_eq] at h; rw [h.1, beqTs_ok x y h.2]
    | _ => simp [beqT] at h
  | .dN k x, b, h => by
    cases b with
    | dN j y => simp only [beqT, Bool.and_eq_true, decide_eq_true_eq] at h; rw [h.1, beqTs_ok x y h.2]
    | _ => simp [beqT] at h
  | .obj c k x, b, h => by
    cases b with
    | obj d j y => simp only [beqT, Bool.and_eq_true, decide_eq_true_eq] at h; rw [h.1, h.2.1, beqTs_ok x y h.2.2]
    | _ => simp [beqT] at h
theorem beqTs_ok : ∀ a b : List T, beqTs a b = true → a = b
  | [], b, h => by cases b <;> first | rfl | (simp [beqTs] at h; done)
  | x :: a, b, h => by
    cases b with
    | nil => simp [beqTs] at h
    | cons y b => simp only [beqTs, Bool.and_eq_true] at h; rw [beqT_ok x y h.1, beqTs_ok a b h.2]
end
mutual
theorem beqT_self : ∀ a : T, beqT a a = true
  | .non | .bl _ | .int _ | .str _ | .set _ | .loc _ | .ty _ | .cls _ => by simp [beqT]
  | .tup x | .ktup x | .lst x | .klst x => by simp only [beqT]; exact beqTs_self x
  | .dK k x | .dT k x | .dN k x => by simp only [beqT, decide_true, Bool.true_and]; exact beqTs_self x
  | .obj c k x => by simp only [beqT, decide_true, Bool.true_and]; exact beqTs_self x
theorem beqTs_self : ∀ a : List T, beqTs a a = true
  | [] => by simp [beqTs]
  | x :: a => by simp only [beqTs, beqT_self x, beqTs_self a, Bool.and_self]
end

/-! ### heaps compared -/
def beqMO : MO → MO → Bool
  | .lst a, .lst b => beqTs a b
  | .set a, .set b => decide (a = b)
  | .dK a, .dK b => decide (a.map (·.1) = b.map (·.1)) && beqTs (a.map (·.2)) (b.map (·.2))
  | .dT a, .dT b => decide (a.map (·.1) = b.map (·.1)) && beqTs (a.map (·.2)) (b.map (·.2))
  | .dN a, .dN b => decide (a.map (·.1) = b.map (·.1)) && beqTs (a.map (·.2)) (b.map (·.2))
  | .ins c a, .ins d b => decide (c = d) && (decide (a.map (·.1) = b.map (·.1)) && beqTs (a.map (·.2)) (b.map (·.2)))
  | _, _ => false
def beqH : MH → MH → Bool
  | [], [] => true
  | a :: x, b :: y => beqMO a b && beqH x y
  | _, _ => false
theorem pairs_eq {κ : Type} : ∀ {a b : List (κ × T)}, a.map (·.1) = b.map (·.1) → a.map (·.2) = b.map (·.2) → a = b
  | [], [], _, _ => rfl
  | [], _ :: _, h, _ => by simp at h
  | _ :: _, [], h, _ => by simp at h
  | (x, y) :: a, (z, w) :: b, h1, h2 => by
    simp only [List.map_cons, List.cons.injEq] at h1 h2
    rw [pairs_eq h1.2 h2.2, h1.1, h2.1]
theorem beqMO_ok : ∀ a b : MO, beqMO a b = true → a = b := by
  intro a b h
  cases a <;> cases b <;> simp only [beqMO, Bool.and_eq_true, decide_eq_true_eq, Bool.false_eq_true] at h
  · rw [beqTs_ok _ _ h]
  · rw [h]
  · rw [pairs_eq h.1 (beqTs_ok _ _ h.2)]
  · rw [pairs_eq h.1 (beqTs_ok _ _ h.2)]
  · rw [pairs_eq h.1 (beqTs_ok _ _ h.2)]
  · rw [h.1, pairs_eq h.2.1 (beqTs_ok _ _ h.2.2)]
theorem beqH_ok : ∀ a b : MH, beqH a b = true → a = b
  | [], [], _ => rfl
  | [], _ :: _, h => by simp [beqH] at h
  | _ :: _, [], h => by simp [beqH] at h
  | x :: a, y :: b, h => by
    simp only [beqH, Bool.and_eq_true] at h
    rw [beqMO_ok x y h.1, beqH_ok a b h.2]
theorem beqMO_self (a : MO) : beqMO a a = true := by
  cases a <;> simp [beqMO, beqTs_self]
theorem beqH_self : ∀ a : MH, beqH a a = true
  | [] => rfl
  | x :: a => by simp [beqH, beqMO_self, beqH_self a]

/-! ### a region: what was made within is handed out as trees, its cells are forgotten -/
mutual
/-- no cell from n on is named -/
def low (n : Nat) : T → Bool
  | .tup xs => lows n xs
  | .ktup xs => lows n xs
  | .lst xs => lows n xs
  | .klst xs => lows n xs
  | .dK _ xs => lows n xs
  | .dT _ xs => lows n xs
  | .dN _ xs => lows n xs
  | .obj _ _ xs => lows n xs
  | .loc k => Nat.blt k n
  | _ => true
def lows (n : Nat) : List T → Bool
  | [] => true
  | x :: xs => low n x && lows n xs
end
def lowO (n : Nat) : MO → Bool
  | .lst xs => lows n xs
  | .set _ => true
  | .dK kvs => lows n (kvs.map (·.2))
  | .dT kvs => lows n (kvs.map (·.2))
  | .dN kvs => lows n (kvs.map (·.2))
  | .ins _ fs => lows n (fs.map (·.2))
mutual
/-- cells by g -/
def frW (g : Nat → Option T) : T → Option T
  | .tup xs => (frWs g xs).map .tup
  | .ktup xs => (frWs g xs).map .ktup
  | .lst xs => (frWs g xs).map .lst
  | .klst xs => (frWs g xs).map .klst
  | .dK ks xs => (frWs g xs).map (.dK ks)
  | .dT ks xs => (frWs g xs).map (.dT ks)
  | .dN ks xs => (frWs g xs).map (.dN ks)
  | .obj c ns xs => (frWs g xs).map (.obj c ns)
  | .loc k => g k
  | .non => some .non
  | .bl b => some (.bl b)
  | .int i => some (.int i)
  | .str s => some (.str s)
  | .set xs => some (.set xs)
  | .ty n => some (.ty n)
  | .cls c => some (.cls c)
def frWs (g : Nat → Option T) : List T → Option (List T)
  | [] => some []
  | x :: xs => match frW g x with
    | some y => (match frWs g xs with
      | some ys => some (y :: ys)
      | none => none)
    | none => none
end
/-- a cell as a tree; cells below n stay -/
def frL (hp : MH) (n : Nat) : Nat → Nat → Option T
  | 0, k => if k < n then some (.loc k) else none
  | d + 1, k => if k < n then some (.loc k) else match hp[k]? with
    | some (.lst xs) => (frWs (frL hp n d) xs).map .lst
    | some (.set xs) => some (.set xs)
    | some (.dK kvs) => (frWs (frL hp n d) (kvs.map (·.2))).map (.dK (kvs.map (·.1)))
    | some (.dT kvs) => (frWs (frL hp n d) (kvs.map (·.2))).map (.dT (kvs.map (·.1)))
    | some (.dN kvs) => (frWs (frL hp n d) (kvs.map (·.2))).map (.dN (kvs.map (·.1)))
    | some (.ins c fs) => (frWs (frL hp n d) (fs.map (·.2))).map (.obj c (fs.map (·.1)))
    | none => none
abbrev frD : Nat := 5
def frz (hp : MH) (n : Nat) : T → Option T := frW (frL hp n frD)
/-- the cells below n name none from n on -/
def lowH (n : Nat) (hp : MH) : Bool := (hp.take n).all (lowO n)

section
variable {G : Gx} {m : Ml} {l : List Addr} {H : Hp} {hp : MH}
def Ml.more (m : Ml) (l : List Addr) : Ml := ⟨m.c ++ l, m.z⟩
theorem Ml.less {a : Addr} (h : (m.more l).no a) : m.no a := ⟨fun z => h.1 (List.mem_append_left _ z), h.2⟩
theorem zip_unzip {κ : Type} {kvs : List (κ × T)} {q : List (κ × V)} (h : Rk G m H kvs q) : (kvs.map (·.1)).zip (q.map (·.2)) = q := by
  rw [h.1]
  have : ∀ z : List (κ × V), (z.map (·.1)).zip (z.map (·.2)) = z := fun z => by
    induction z with
    | nil => rfl
    | cons a z ih => simp [ih]
  exact this q
mutual
theorem R.keep : ∀ (x : T) (v : V), low m.c.length x = true → R G (m.more l) H x v → R G m H x v
  | .non, _, _, h => h
  | .bl _, _, _, h => h
  | .int _, _, _, h => h
  | .str _, _, _, h => h
  | .ty _, _, _, h => h
  | .cls _, _, _, h => by
    simp only [R] at h ⊢
    exact h
  | .tup xs, _, hl, h => by
    simp only [R] at h ⊢
    obtain ⟨a, vs, e, f, r⟩ := h
    exact ⟨a, vs, e, ⟨f.1, Ml.less f.2⟩, Rs.keep xs vs hl r⟩
  | .ktup xs, _, hl, h => by
    simp only [R] at h ⊢
    obtain ⟨a, vs, e, f, r⟩ := h
    exact ⟨a, vs, e, f.imp id fun ⟨o, h1, h2, h3, h4⟩ => ⟨o, h1, h2, h3, Ml.less h4⟩, Rs.keep xs vs hl r⟩
  | .lst xs, _, hl, h => by
    simp only [R] at h ⊢
    obtain ⟨a, vs, e, f, r⟩ := h
    exact ⟨a, vs, e, ⟨f.1, Ml.less f.2⟩, Rs.keep xs vs hl r⟩
  | .klst xs, _, hl, h => by
    simp only [R] at h ⊢
    obtain ⟨a, vs, e, f, r⟩ := h
    exact ⟨a, vs, e, f.elim (fun f => .inl ⟨f.1, Ml.less f.2⟩) .inr, Rs.keep xs vs hl r⟩
  | .set xs, _, hl, h => by
    simp only [R] at h ⊢
    obtain ⟨a, e, f, n⟩ := h
    exact ⟨a, e, f, Ml.less n⟩
  | .dK ks xs, _, hl, h => by
    simp only [R] at h ⊢
    obtain ⟨a, vs, e, f, q, r⟩ := h
    exact ⟨a, vs, e, ⟨f.1, Ml.less f.2⟩, q, Rs.keep xs vs hl r⟩
  | .dT ks xs, _, hl, h => by
    simp only [R] at h ⊢
    obtain ⟨a, vs, e, f, q, r⟩ := h
    exact ⟨a, vs, e, ⟨f.1, Ml.less f.2⟩, q, Rs.keep xs vs hl r⟩
  | .dN ks xs, _, hl, h => by
    simp only [R] at h ⊢
    obtain ⟨a, q, e, f, l, kn, r⟩ := h
    exact ⟨a, q, e, ⟨f.1, Ml.less f.2⟩, l, kn.to fun _ _ e n => ⟨e, Ml.less n⟩, Rs.keep xs _ hl r⟩
  | .obj c ns xs, _, hl, h => by
    simp only [R] at h ⊢
    obtain ⟨a, C, dx, vs, e, hc, f, q, r⟩ := h
    exact ⟨a, C, dx, vs, e, hc, ⟨f.1, Ml.less f.2⟩, q, Rs.keep xs vs hl r⟩
  | .loc n, _, hl, h => by
    simp only [R] at h ⊢
    obtain ⟨a, e, q⟩ := h
    refine ⟨a, ?_, q⟩
    have hn : n < m.c.length := Nat.le_of_ble_eq_true hl
    have e : (m.c ++ l)[n]? = some a := e
    rw [List.getElem?_append_left hn] at e
    exact e
theorem Rs.keep : ∀ (xs : List T) (vs : List V), lows m.c.length xs = true → Rs G (m.more l) H xs vs → Rs G m H xs vs
  | [], _, _, h => h
  | x :: xs, _, hl, h => by
    simp only [lows, Bool.and_eq_true] at hl
    obtain ⟨v, r, e, h1, h2⟩ := Rs.cons_iff.mp h
    subst e
    exact Rs.cons (R.keep x v hl.1 h1) (Rs.keep xs r hl.2 h2)
end
theorem RO.keep {a : Addr} {mo : MO} (hl : lowO m.c.length mo = true) (h : RO G (m.more l) H a mo) : RO G m H a mo := by
  cases mo with
  | lst xs => obtain ⟨vs, e, q⟩ := h; exact ⟨vs, e, Rs.keep _ _ hl q⟩
  | set xs => exact h
  | dK xs => obtain ⟨vs, e, q⟩ := h; exact ⟨vs, e, q.1, Rs.keep _ _ hl q.2⟩
  | dT xs => obtain ⟨vs, e, q⟩ := h; exact ⟨vs, e, q.1, Rs.keep _ _ hl q.2⟩
  | dN kvs => obtain ⟨q, e, l, kn, r⟩ := h; exact ⟨q, e, l, kn.to fun _ _ e n => ⟨e, Ml.less n⟩, Rs.keep _ _ hl r⟩
  | ins c fs => obtain ⟨C, dx, vs, hc, e, q⟩ := h; exact ⟨C, dx, vs, hc, e, q.1, Rs.keep _ _ hl q.2⟩
theorem Rel.keep (rel : Rel G (m.more l) H hp) (hl : lowH m.c.length hp = true) : Rel G m H (hp.take m.c.length) := by
  have hlen : (m.c ++ l).length = hp.length := rel.len
  rw [List.length_append] at hlen
  refine ⟨by rw [List.length_take]; omega, (List.nodup_append.mp rel.nd).1, fun n a o e1 e2 => ?_, rel.zs, fun a ha hc => rel.zd a ha (List.mem_append_left _ hc), rel.tb.to fun b _ n => ⟨rfl, Ml.less n⟩⟩
  have hn : n < m.c.length := (List.getElem?_eq_some_iff.mp e1).1
  have e3 : hp[n]? = some o := by rw [List.getElem?_take_of_lt hn] at e2; exact e2
  refine RO.keep ?_ (rel.ob n a o (by show (m.c ++ l)[n]? = _; rw [List.getElem?_append_left hn]; exact e1) e3)
  exact List.all_eq_true.mp hl o (List.mem_of_getElem? e2)
/-- g tells of each cell's tree -/
def FrOk (G : Gx) (m : Ml) (l : List Addr) (H : Hp) (g : Nat → Option T) : Prop := ∀ k a y, (m.more l).c[k]? = some a → g k = some y → R G m H y (.ref a)
mutual
theorem frW_ok {g : Nat → Option T} (hg : FrOk G m l H g) : ∀ (x : T) (v : V) (y : T), R G (m.more l) H x v → frW g x = some y → R G m H y v
  | .non, _, _, h, e => by cases e; exact h
  | .bl _, _, _, h, e => by cases e; exact h
  | .int _, _, _, h, e => by cases e; exact h
  | .str _, _, _, h, e => by cases e; exact h
  | .ty _, _, _, h, e => by cases e; exact h
  | .cls _, _, _, h, e => by
    cases e
    simp only [R] at h ⊢
    exact h
  | .tup xs, _, _, h, e => by
    obtain ⟨ys, e1, rfl⟩ := Option.map_eq_some_iff.mp e
    simp only [R] at h ⊢
    obtain ⟨a, vs, e, f, r⟩ := h
    exact ⟨a, vs, e, ⟨f.1, Ml.less f.2⟩, frWs_ok hg xs vs ys r e1⟩
  | .ktup xs, _, _, h, e => by
    obtain ⟨ys, e1, rfl⟩ := Option.map_eq_some_iff.mp e
    simp only [R] at h ⊢
    obtain ⟨a, vs, e, f, r⟩ := h
    exact ⟨a, vs, e, f.imp id fun ⟨o, h1, h2, h3, h4⟩ => ⟨o, h1, h2, h3, Ml.less h4⟩, frWs_ok hg xs vs ys r e1⟩
  | .lst xs, _, _, h, e => by
    obtain ⟨ys, e1, rfl⟩ := Option.map_eq_some_iff.mp e
    simp only [R] at h ⊢
    obtain ⟨a, vs, e, f, r⟩ := h
    exact ⟨a, vs, e, ⟨f.1, Ml.less f.2⟩, frWs_ok hg xs vs ys r e1⟩
  | .klst xs, _, _, h, e => by
    obtain ⟨ys, e1, rfl⟩ := Option.map_eq_some_iff.mp e
    simp only [R] at h ⊢
    obtain ⟨a, vs, e, f, r⟩ := h
    exact ⟨a, vs, e, f.elim (fun f => .inl ⟨f.1, Ml.less f.2⟩) .inr, frWs_ok hg xs vs ys r e1⟩
  | .set xs, _, _, h, e => by
    cases e
    simp only [R] at h ⊢
    obtain ⟨a, e, f, n⟩ := h
    exact ⟨a, e, f, Ml.less n⟩
  | .dK ks xs, _, _, h, e => by
    obtain ⟨ys, e1, rfl⟩ := Option.map_eq_some_iff.mp e
    simp only [R] at h ⊢
    obtain ⟨a, vs, e, f, q, r⟩ := h
    exact ⟨a, vs, e, ⟨f.1, Ml.less f.2⟩, q, frWs_ok hg xs vs ys r e1⟩
  | .dT ks xs, _, _, h, e => by
    obtain ⟨ys, e1, rfl⟩ := Option.map_eq_some_iff.mp e
    simp only [R] at h ⊢
    obtain ⟨a, vs, e, f, q, r⟩ := h
    exact ⟨a, vs, e, ⟨f.1, Ml.less f.2⟩, q, frWs_ok hg xs vs ys r e1⟩
  | .dN ks xs, _, _, h, e => by
    obtain ⟨ys, e1, rfl⟩ := Option.map_eq_some_iff.mp e
    simp only [R] at h ⊢
    obtain ⟨a, q, e, f, l, kn, r⟩ := h
    exact ⟨a, q, e, ⟨f.1, Ml.less f.2⟩, l, kn.to fun _ _ e n => ⟨e, Ml.less n⟩, frWs_ok hg xs _ ys r e1⟩
  | .obj c ns xs, _, _, h, e => by
    obtain ⟨ys, e1, rfl⟩ := Option.map_eq_some_iff.mp e
    simp only [R] at h ⊢
    obtain ⟨a, C, dx, vs, e, hc, f, q, r⟩ := h
    exact ⟨a, C, dx, vs, e, hc, ⟨f.1, Ml.less f.2⟩, q, frWs_ok hg xs vs ys r e1⟩
  | .loc n, _, _, h, e => by
    simp only [R] at h
    obtain ⟨a, e1, rfl⟩ := h
    exact hg n a _ e1 e
theorem frWs_ok {g : Nat → Option T} (hg : FrOk G m l H g) : ∀ (xs : List T) (vs : List V) (ys : List T), Rs G (m.more l) H xs vs → frWs g xs = some ys → Rs G m H ys vs
  | [], _, _, h, e => by cases e; exact h
  | x :: xs, _, _, h, e => by
    obtain ⟨v, r, rfl, h1, h2⟩ := Rs.cons_iff.mp h
    simp only [frWs] at e
    split at e
    · rename_i y ey
      split at e
      · rename_i ys eys
        cases e
        exact Rs.cons (frW_ok hg x v y h1 ey) (frWs_ok hg xs r ys h2 eys)
      · cases e
    · cases e
end
theorem frL_ok (rel : Rel G (m.more l) H hp) : ∀ d, FrOk G m l H (frL hp m.c.length d) := by
  have below : ∀ k a, k < m.c.length → (m.more l).c[k]? = some a → R G m H (.loc k) (.ref a) := fun k a hk e => by
    simp only [R]
    have e : (m.c ++ l)[k]? = some a := e
    rw [List.getElem?_append_left hk] at e
    exact ⟨a, e, rfl⟩
  have away : ∀ k a, ¬ k < m.c.length → (m.more l).c[k]? = some a → m.no a := fun k a hk e => by
    have e : (m.c ++ l)[k]? = some a := e
    refine ⟨fun hm => ?_, fun hz => rel.zd a hz (List.mem_of_getElem? e)⟩
    rw [List.getElem?_append_right (by omega)] at e
    exact (List.nodup_append.mp rel.nd).2.2 a hm a (List.mem_of_getElem? e) rfl
  intro d
  induction d with
  | zero =>
    intro k a y e1 e
    simp only [frL] at e
    split at e
    · rename_i hk
      cases e
      exact below k a hk e1
    · cases e
  | succ d ih =>
    intro k a y e1 e
    simp only [frL] at e
    split at e
    · rename_i hk
      cases e
      exact below k a hk e1
    · rename_i hk
      have na := away k a hk e1
      split at e
      · rename_i xs eo
        obtain ⟨ys, e2, rfl⟩ := Option.map_eq_some_iff.mp e
        obtain ⟨vs, h1, rs⟩ := rel.ob k a _ e1 eo
        simp only [R]
        exact ⟨a, vs, rfl, ⟨h1, na⟩, frWs_ok ih xs vs ys rs e2⟩
      · rename_i xs eo
        cases e
        have h1 : FzS G H a xs := rel.ob k a _ e1 eo
        simp only [R]
        exact ⟨a, rfl, h1, na⟩
      · rename_i xs eo
        obtain ⟨ys, e2, rfl⟩ := Option.map_eq_some_iff.mp e
        obtain ⟨q, h1, rk⟩ := rel.ob k a _ e1 eo
        simp only [R]
        exact ⟨a, q.map (·.2), rfl, ⟨.inl (by rw [zip_unzip rk]; exact h1), na⟩, by simpa using rk.len, frWs_ok ih _ _ ys rk.2 e2⟩
      · rename_i xs eo
        obtain ⟨ys, e2, rfl⟩ := Option.map_eq_some_iff.mp e
        obtain ⟨q, h1, rk⟩ := rel.ob k a _ e1 eo
        simp only [R]
        exact ⟨a, q.map (·.2), rfl, ⟨.inl (by rw [zip_unzip rk]; exact h1), na⟩, by simpa using rk.len, frWs_ok ih _ _ ys rk.2 e2⟩
      · rename_i xs eo
        obtain ⟨ys, e2, rfl⟩ := Option.map_eq_some_iff.mp e
        obtain ⟨q, h1, l, kn, r⟩ := rel.ob k a _ e1 eo
        simp only [R]
        exact ⟨a, q, rfl, ⟨h1, na⟩, l, kn.to fun _ _ e n => ⟨e, Ml.less n⟩, frWs_ok ih _ _ ys r e2⟩
      · rename_i c xs eo
        obtain ⟨ys, e2, rfl⟩ := Option.map_eq_some_iff.mp e
        obtain ⟨C, dx, q, hc, h1, rk⟩ := rel.ob k a _ e1 eo
        simp only [R]
        exact ⟨a, C, dx, q.map (·.2), rfl, hc, ⟨by rw [zip_unzip rk]; exact h1, na⟩, by simpa using rk.len, frWs_ok ih _ _ ys rk.2 e2⟩
      · cases e
theorem frz_ok (rel : Rel G (m.more l) H hp) {x y : T} {v : V} (h : R G (m.more l) H x v) (e : frz hp m.c.length x = some y) : R G m H y v := frW_ok (frL_ok rel frD) x v y h e
mutual
/-- what is told names no cell that isn't there -/
theorem R.lows : ∀ (x : T) (v : V), R G m H x v → low m.c.length x = true
  | .non, _, _ => rfl
  | .bl _, _, _ => rfl
  | .int _, _, _ => rfl
  | .str _, _, _ => rfl
  | .ty _, _, _ => rfl
  | .cls _, _, _ => rfl
  | .set _, _, _ => rfl
  | .tup xs, _, h => by
    simp only [R] at h
    obtain ⟨a, vs, e, f, r⟩ := h
    exact Rs.lows xs vs r
  | .ktup xs, _, h => by
    simp only [R] at h
    obtain ⟨a, vs, e, f, r⟩ := h
    exact Rs.lows xs vs r
  | .lst xs, _, h => by
    simp only [R] at h
    obtain ⟨a, vs, e, f, r⟩ := h
    exact Rs.lows xs vs r
  | .klst xs, _, h => by
    simp only [R] at h
    obtain ⟨a, vs, e, f, r⟩ := h
    exact Rs.lows xs vs r
  | .dK ks xs, _, h => by
    simp only [R] at h
    obtain ⟨a, vs, e, f, q, r⟩ := h
    exact Rs.lows xs vs r
  | .dT ks xs, _, h => by
    simp only [R] at h
    obtain ⟨a, vs, e, f, q, r⟩ := h
    exact Rs.lows xs vs r
  | .dN ks xs, _, h => by
    simp only [R] at h
    obtain ⟨a, q, e, f, l, kn, r⟩ := h
    exact Rs.lows xs _ r
  | .obj c ns xs, _, h => by
    simp only [R] at h
    obtain ⟨a, C, dx, vs, e, hc, f, q, r⟩ := h
    exact Rs.lows xs vs r
  | .loc n, _, h => by
    simp only [R] at h
    obtain ⟨a, e, q⟩ := h
    exact Nat.ble_eq_true_of_le (List.getElem?_eq_some_iff.mp e).1
theorem Rs.lows : ∀ (xs : List T) (vs : List V), Rs G m H xs vs → TW.lows m.c.length xs = true
  | [], _, _ => rfl
  | x :: xs, _, h => by
    obtain ⟨v, r, e, h1, h2⟩ := Rs.cons_iff.mp h
    simp only [TW.lows, R.lows x v h1, Rs.lows xs r h2, Bool.and_self]
end
theorem RO.lows {a : Addr} {mo : MO} (h : RO G m H a mo) : lowO m.c.length mo = true := by
  cases mo with
  | lst xs => obtain ⟨vs, e, q⟩ := h; exact Rs.lows _ _ q
  | set xs => rfl
  | dK xs => obtain ⟨vs, e, q⟩ := h; exact Rs.lows _ _ q.2
  | dT xs => obtain ⟨vs, e, q⟩ := h; exact Rs.lows _ _ q.2
  | dN kvs => obtain ⟨q, e, l, kn, r⟩ := h; exact Rs.lows _ _ r
  | ins c fs => obtain ⟨C, dx, vs, hc, e, q⟩ := h; exact Rs.lows _ _ q.2
theorem Rel.lows (rel : Rel G m H hp) : lowH m.c.length hp = true := by
  unfold lowH
  rw [List.all_eq_true]
  intro o ho
  have ho : o ∈ hp := List.mem_of_mem_take ho
  obtain ⟨n, hn, e⟩ := List.mem_iff_getElem.mp ho
  have h1 : n < m.c.length := by rw [rel.len]; exact hn
  exact (rel.ob n m.c[n] o (List.getElem?_eq_getElem h1) (by rw [List.getElem?_eq_getElem hn, e])).lows
/-- the cells that were there are as they were, or name none of the new ones -/
def okH (hp0 hp : MH) : Bool := beqH (hp.take hp0.length) hp0 || lowH hp0.length hp
theorem okH_ok {m0 : Ml} {H0 : Hp} {hp0 hp : MH} (rel0 : Rel G m0 H0 hp0) (h : okH hp0 hp = true) : lowH hp0.length hp = true := by
  unfold okH at h
  rw [Bool.or_eq_true] at h
  rcases h with h | h
  · have e := beqH_ok _ _ h
    have q := rel0.lows
    rw [rel0.len] at q
    unfold lowH at q ⊢
    rw [e]
    rw [List.take_length] at q
    exact q
  · exact h
/-- the end of a region that began with hp0 -/
def endR (hp0 : MH) (r : Res T) : Res T := match r with
  | .ok x hp => (match frz hp hp0.length x with
    | some y => if okH hp0 hp = true then .ok y (hp.take hp0.length) else .bad
    | none => .bad)
  | .exc c fs hp => (match frWs (frL hp hp0.length frD) (fs.map (·.2)) with
    | some ys => if okH hp0 hp = true then .exc c ((fs.map (·.1)).zip ys) (hp.take hp0.length) else .bad
    | none => .bad)
  | .bad => .bad
theorem frz_ok2 (rel : Rel G (m.more l) H hp) {xs ys : List T} {vs : List V} (h : Rs G (m.more l) H xs vs) (e : frWs (frL hp m.c.length frD) xs = some ys) : Rs G m H ys vs := frWs_ok (frL_ok rel frD) xs vs ys h e
theorem Stp.back {m0 : Ml} {H0 : Hp} (s : Stp m0 (m0.more l) H0 H) : Stp m0 m0 H0 H := ⟨rfl, ⟨[], by simp⟩, fun a o t e n => ⟨(s.fr a o t e n).1, n⟩, fun a o t e z n => s.zx a o t e z n⟩
/-- behind a region: what is wanted of its end -/
theorem Pst.region {m0 : Ml} {H0 : Hp} {hp0 : MH} {r : Res T} {Q : VK} {W : XK} (rel0 : Rel G m0 H0 hp0)
    (p : Pst G m0 H0 (endR hp0 r) (fun z m' _ H' => ∀ u, R G m' H' z u → Q u H') W) : Pst G m0 H0 r (fun z m' _ H' => ∀ u, R G m' H' z u → Q u H') W := by
  have hl : hp0.length = m0.c.length := rel0.len.symm
  cases r with
  | ok x h =>
    intro m' H' s rel u ru
    obtain ⟨mc, mz⟩ := m'
    obtain ⟨l, rfl⟩ : ∃ l, mc = m0.c ++ l := s.pre
    obtain rfl : mz = m0.z := s.pz
    have s : Stp m0 (m0.more l) H0 H' := s
    have rel : Rel G (m0.more l) H' h := rel
    simp only [endR] at p
    rw [hl] at p
    split at p
    · rename_i y ey
      split at p
      · rename_i hok
        have hlow := okH_ok rel0 hok
        rw [hl] at hlow
        exact p m0 H' s.back (rel.keep hlow) u (frz_ok rel ru ey)
      · exact p.elim
    · exact p.elim
  | exc c fs h =>
    intro m' H' s rel C d hC hd
    obtain ⟨mc, mz⟩ := m'
    obtain ⟨l, rfl⟩ : ∃ l, mc = m0.c ++ l := s.pre
    obtain rfl : mz = m0.z := s.pz
    have s : Stp m0 (m0.more l) H0 H' := s
    have rel : Rel G (m0.more l) H' h := rel
    simp only [endR] at p
    rw [hl] at p
    split at p
    · rename_i ys ey
      split at p
      · rename_i hok
        have hlow := okH_ok rel0 hok
        rw [hl] at hlow
        refine p m0 H' s.back (rel.keep hlow) C d hC ?_
        rcases hd with ⟨rfl, rfl⟩ | ⟨dx, q, rfl, fz, rk⟩
        · exact .inl ⟨rfl, rfl⟩
        · refine .inr ⟨dx, q, rfl, ⟨fz.1, Ml.less fz.2⟩, ?_⟩
          have rs := frz_ok2 rel rk.2 ey
          have e1 := Rs.len rs
          have e2 : fs.length = q.length := rk.len
          refine ⟨?_, ?_⟩
          · rw [List.map_fst_zip (by simp only [List.length_map] at e1 ⊢; omega)]
            exact rk.1
          · rw [List.map_snd_zip (by simp only [List.length_map] at e1 ⊢; omega)]
            exact rs
      · exact p.elim
    · exact p.elim
  | bad => exact p
end
end TW
namespace TW
open PySem PySem.Spec L2

/-! ### flows -/
inductive Fr where
  | nx (r : Rho) (h : MH) | ret (x : T) (h : MH) | bk (r : Rho) (h : MH) | ct (r : Rho) (h : MH) | ex (c : Str) (fs : List (Str × T)) (r : Rho) (h : MH) | bad
abbrev SM := Rho → MH → Fr
/-- an expression, then k -/
@[simp] def lift {α : Type} (x : Res α) (r : Rho) (k : α → MH → Fr) : Fr := match x with
  | .ok a h => k a h
  | .exc c fs h => .ex c fs r h
  | .bad => .bad
def FlQ (G : Gx) (m : Ml) (H : Hp) (D : Ends) (W : WX) : Fr → Prop
  | .nx r h => ∀ m' H' σ', Stp m m' H H' → Rel G m' H' h → RE G m' H' r σ' → D.nx σ' H'
  | .bk r h => ∀ m' H' σ', Stp m m' H H' → Rel G m' H' h → RE G m' H' r σ' → D.bk σ' H'
  | .ct r h => ∀ m' H' σ', Stp m m' H H' → Rel G m' H' h → RE G m' H' r σ' → D.ct σ' H'
  | .ret x h => ∀ m' H', Stp m m' H H' → Rel G m' H' h → ∀ v, R G m' H' x v → D.rt v H'
  | .ex c fs r h => ∀ m' H' σ', Stp m m' H H' → Rel G m' H' h → RE G m' H' r σ' → ∀ C d, G.cl c = some C → ((fs = [] ∧ d = none) ∨ ∃ dx q, d = some dx ∧ Fz m' H' dx (.xd q) ∧ Rk G m' H' fs q) → W (.ref C) d σ' H'
  | .bad => False
section
variable {G : Gx} {m m' : Ml} {H H' : Hp} {D D' : Ends} {W W' : WX} {f : Fr}
theorem FlQ.step (p : FlQ G m H D W f) (s : Stp m m' H H') : FlQ G m' H' D W f := by
  cases f with
  | nx r h => exact fun m2 H2 σ2 s2 => p m2 H2 σ2 (s.trans s2)
  | bk r h => exact fun m2 H2 σ2 s2 => p m2 H2 σ2 (s.trans s2)
  | ct r h => exact fun m2 H2 σ2 s2 => p m2 H2 σ2 (s.trans s2)
  | ret x h => exact fun m2 H2 s2 => p m2 H2 (s.trans s2)
  | ex c fs r h => exact fun m2 H2 σ2 s2 => p m2 H2 σ2 (s.trans s2)
  | bad => exact p
theorem FlQ.lift {α : Type} {x : Res α} {r : Rho} {σ : L2.St} {k : α → MH → Fr} (re : RE G m H r σ) (p : FlQ G m H D W (lift x r k)) :
    Pst G m H x (fun a m1 h1 H1 => Rel G m1 H1 h1 ∧ RE G m1 H1 r σ ∧ FlQ G m1 H1 D W (k a h1)) (fun c d H' => W c d σ H') := by
  cases x with
  | ok a h => exact fun m' H' s rel => ⟨rel, re.step s, FlQ.step (by exact p) s⟩
  | exc c fs h => exact fun m' H' s rel C d hC hd => p m' H' σ s rel (re.step s) C d hC hd
  | bad => exact p
end
/-- of a statement -/
def tMS (G : Gx) (W : WX) (f : SM) : TS := fun D σ H => ∃ r hp m, RE G m H r σ ∧ Rel G m H hp ∧ FlQ G m H D W (f r hp)
structure MS (X : Cx) (cl : Cln) (W : WX) (s : Stmt) (f : SM) : Prop where
  ps : PS X s (tMS (gx X cl) W f)
structure MB (X : Cx) (cl : Cln) (W : WX) (s : List Stmt) (f : SM) : Prop where
  pss : PSs X s (tMS (gx X cl) W f)
theorem PS.imp {X : Cx} {e : Stmt} {t t' : TS} (h : PS X e t) (i : ∀ D σ H, t' D σ H → t D σ H) : PS X e t' := ⟨fun pins s σ H D I q => h.run pins s σ H D I (i D σ H q)⟩
theorem PSs.imp {X : Cx} {e : List Stmt} {t t' : TS} (h : PSs X e t) (i : ∀ D σ H, t' D σ H → t D σ H) : PSs X e t' := ⟨fun pins s σ H D I q => h.run pins s σ H D I (i D σ H q)⟩
/-- one, then the other -/
def sSeq (f g : SM) : SM := fun r h => match f r h with
  | .nx r' h' => g r' h'
  | o => o
def sNx : SM := fun r h => .nx r h
def sBk : SM := fun r h => .bk r h
def sCt : SM := fun r h => .ct r h
/-- what no mirror tells -/
def sBad : SM := fun _ _ => .bad
def sRet (f : EM) : SM := fun r h => lift (f r h) r fun x h1 => .ret x h1
def sRetN : SM := fun _ h => .ret .non h
def sDrop (f : EM) : SM := fun r h => lift (f r h) r fun _ h1 => .nx r h1
def sIf (t : TM) (f g : SM) : SM := fun r h => lift (t r h) r fun b h1 => if b = true then f r h1 else g r h1
def sSet (i : Nat) (f : EM) : SM := fun r h => lift (f r h) r fun x h1 => .nx (r.set i (some x)) h1
section
variable {X : Cx} {cl : Cln} {W : WX} {st : Stmt} {rest : List Stmt} {e : Expr} {f : EM} {F F' : SM} {pos : Pos}
theorem seq_ok {D : Ends} {σ : L2.St} {H : Hp} (h : tMS (gx X cl) W (sSeq F F') D σ H) : tSeq (tMS (gx X cl) W F) (tMS (gx X cl) W F') D σ H := by
  obtain ⟨r, hp, m, re, rel, p⟩ := h
  refine ⟨r, hp, m, re, rel, ?_⟩
  unfold sSeq at p
  cases e : F r hp with
  | nx r' h' =>
    rw [e] at p
    exact fun m' H' σ' s rel' re' => ⟨r', h', m', re', rel', p.step s⟩
  | bk r' h' => rw [e] at p; exact p
  | ct r' h' => rw [e] at p; exact p
  | ret x h' => rw [e] at p; exact p
  | ex c fs r' h' => rw [e] at p; exact p
  | bad => rw [e] at p; exact p
theorem mb_nil : MB X cl W [] sNx := ⟨PSs.imp pss_nil fun D σ H h => by
  obtain ⟨r, hp, m, re, rel, p⟩ := h
  exact p m H σ .refl rel re⟩
theorem mb_cons (h1 : MS X cl W st F) (h2 : MB X cl W rest F') : MB X cl W (st :: rest) (sSeq F F') := ⟨PSs.imp (pss_cons h1.ps h2.pss) fun _ _ _ h => seq_ok h⟩
theorem mb_one (h1 : MS X cl W st F) : MB X cl W [st] F := ⟨pss_one h1.ps⟩
theorem ms_pass : MS X cl W (.Pass pos) sNx := ⟨PS.imp ps_pass fun D σ H h => by
  obtain ⟨r, hp, m, re, rel, p⟩ := h
  exact p m H σ .refl rel re⟩
theorem ms_break : MS X cl W (.Break pos) sBk := ⟨PS.imp ps_break fun D σ H h => by
  obtain ⟨r, hp, m, re, rel, p⟩ := h
  exact p m H σ .refl rel re⟩
theorem ms_cont : MS X cl W (.Continue pos) sCt := ⟨PS.imp ps_continue fun D σ H h => by
  obtain ⟨r, hp, m, re, rel, p⟩ := h
  exact p m H σ .refl rel re⟩
theorem ms_doc {x : Str} {j : Nat} {pos' : Pos} : MS X cl W (.Expr (.Constant (.str x) j pos) pos') sNx := ⟨PS.imp ps_doc fun D σ H h => by
  obtain ⟨r, hp, m, re, rel, p⟩ := h
  exact p m H σ .refl rel re⟩
theorem ms_bad : MS X cl W st sBad := ⟨PS.imp ps_never fun D σ H h => by
  obtain ⟨r, hp, m, re, rel, p⟩ := h
  exact p⟩
theorem ms_ret (he : ME X cl W e f) : MS X cl W (.Return (some e) pos) (sRet f) := ⟨PS.imp (ps_ret he.pe) fun D σ H h => by
  obtain ⟨r, hp, m, re, rel, p⟩ := h
  exact ⟨r, hp, m, re, rel, (p.lift re).mono (fun x m1 h1 H1 s q v rv => q.2.2 m1 H1 .refl q.1 v rv) fun _ _ _ z => z⟩⟩
theorem ms_retN : MS X cl W (.Return none pos) sRetN := ⟨PS.imp ps_retN fun D σ H h => by
  obtain ⟨r, hp, m, re, rel, p⟩ := h
  exact p m H .refl rel .non (by simp only [R])⟩
theorem ms_expr (he : ME X cl W e f) (hs : swapsWith e none pos.line X.env = pure false := by rfl) : MS X cl W (.Expr e pos) (sDrop f) := ⟨PS.imp (ps_expr he.pe hs) fun D σ H h => by
  obtain ⟨r, hp, m, re, rel, p⟩ := h
  exact ⟨r, hp, m, re, rel, (p.lift re).mono (fun x m1 h1 H1 s q v rv => q.2.2 m1 H1 σ .refl q.1 q.2.1) fun _ _ _ z => z⟩⟩
theorem ms_if {c : Expr} {a b : List Stmt} {t : TM} (hc : MT X cl W c t) (ha : MB X cl W a F) (hb : MB X cl W b F') : MS X cl W (.If c a b pos) (sIf t F F') := ⟨PS.imp (ps_if hc.pt ha.pss hb.pss) fun D σ H h => by
  obtain ⟨r, hp, m, re, rel, p⟩ := h
  refine ⟨r, hp, m, re, rel, (p.lift re).mono (fun x m1 h1 H1 s q => ?_) fun _ _ _ z => z⟩
  cases x with
  | true => exact ⟨r, h1, m1, q.2.1, q.1, q.2.2⟩
  | false => exact ⟨r, h1, m1, q.2.1, q.1, q.2.2⟩⟩
theorem ms_set (i : Nat) {x : Str} {p2 : Pos} (hN : X.N.Nodup) (he : ME X cl W e f) (hi : X.N[i]? = some x := by rfl) (hx : Loc X.env.scope x := by first | exact Or.inl rfl | exact Or.inr rfl) (hs : swapsWith e (some (.Name x p2)) pos.line X.env = pure false := by rfl)
    (hf : X.fn x = true ∨ X.env.scope.names.lookup x = some .local := by first | exact .inl rfl | exact .inr rfl) : MS X cl W (.Assign [.Name x p2] e pos) (sSet i f) := ⟨PS.imp (ps_set hN hi hx he.pe hs hf) fun D σ H h => by
  obtain ⟨r, hp, m, re, rel, p⟩ := h
  refine ⟨r, hp, m, re, rel, (p.lift re).mono (fun y m1 h1 H1 s q v rv => ?_) fun _ _ _ z => z⟩
  exact q.2.2 m1 H1 _ .refl q.1 (q.2.1.set rv)⟩
end

/-! ### targets -/
abbrev GM := T → Rho → Option Rho
def SameOut (sl : List Nat) (σ σ' : L2.St) : Prop := σ'.length = σ.length ∧ ∀ i, i ∉ sl → σ'[i]? = σ[i]?
def tMG (G : Gx) (sl : List Nat) (g : GM) : TG := fun v σ H Q => ∃ r m x r', RE G m H r σ ∧ R G m H x v ∧ g x r = some r' ∧ ∀ σ', RE G m H r' σ' → SameOut sl σ σ' → Q σ' H
structure MG (X : Cx) (cl : Cln) (tg : Expr) (sl : List Nat) (g : GM) : Prop where
  pg : PG X tg (tMG (gx X cl) sl g)
def gmN (i : Nat) : GM := fun x r => some (r.set i (some x))
abbrev GMs := List T → Rho → Option Rho
def tMGs (G : Gx) (sl : List Nat) (g : GMs) : TGs := fun vs σ H Q => ∃ r m xs r', RE G m H r σ ∧ Rs G m H xs vs ∧ g xs r = some r' ∧ ∀ σ', RE G m H r' σ' → SameOut sl σ σ' → Q σ' H
structure MGs (X : Cx) (cl : Cln) (tg : List Expr) (sl : List Nat) (g : GMs) : Prop where
  pgs : PGs X tg (tMGs (gx X cl) sl g)
def gmNil : GMs := fun xs r => match xs with
  | [] => some r
  | _ => none
def gmCons (g : GM) (gs : GMs) : GMs := fun xs r => match xs with
  | x :: xs => (match g x r with
    | some r' => gs xs r'
    | none => none)
  | [] => none
def gmT (n : Nat) (gs : GMs) : GM := fun x r => match tpOf x with
  | some xs => if xs.length = n then gs xs r else none
  | none => none
section
variable {X : Cx} {cl : Cln} {e : Expr} {es : List Expr} {pos : Pos} {sl sl' : List Nat} {g : GM} {gs : GMs}
theorem SameOut.refl {σ : L2.St} : SameOut sl σ σ := ⟨rfl, fun _ _ => rfl⟩
theorem mg_name (i : Nat) {x : Str} (hN : X.N.Nodup) (hi : X.N[i]? = some x := by rfl) (hx : Loc X.env.scope x := by first | exact Or.inl rfl | exact Or.inr rfl)
    (hf : X.fn x = true ∨ X.env.scope.names.lookup x = some .local := by first | exact .inl rfl | exact .inr rfl) : MG X cl (.Name x pos) [i] (gmN i) := ⟨⟨fun pins s σ H v u Q I rv h => (pg_name hN hi hx hf).run pins s σ H v u Q I rv (by
  obtain ⟨r, m, x, r', re, rx, e, q⟩ := h
  cases e
  refine q _ (re.set rx) ⟨by simp, fun j hj => ?_⟩
  exact List.getElem?_set_ne fun z => hj (by simp [z]))⟩⟩
theorem mgs_nil : MGs X cl [] [] gmNil := ⟨⟨fun pins s σ H v u Q I rv h => pgs_nil.run pins s σ H v u Q I rv (by
  obtain ⟨r, m, xs, r', re, rx, e, q⟩ := h
  unfold gmNil at e
  split at e
  · cases e
    exact ⟨Rs.nil_iff.mp rx, q σ re .refl⟩
  · cases e)⟩⟩
theorem mgs_cons (h1 : MG X cl e sl g) (h2 : MGs X cl es sl' gs) (hs : (assignEach (e :: es) X.env).map (·.2) = assign e X.env :: (assignEach es X.env).map (·.2) := by rfl) : MGs X cl (e :: es) (sl ++ sl') (gmCons g gs) := ⟨⟨fun pins s σ H v u Q I rv h => (pgs_cons h1.pg h2.pgs hs).run pins s σ H v u Q I rv (by
  obtain ⟨r, m, xs, r', re, rx, e, q⟩ := h
  unfold gmCons at e
  split at e
  · rename_i x xs
    obtain ⟨w, t, rfl, h3, h4⟩ := Rs.cons_iff.mp rx
    split at e
    · rename_i r1 e1
      refine ⟨w, t, rfl, r, m, x, r1, re, h3, e1, fun σ1 re1 so1 => ⟨r1, m, xs, r', re1, h4, e, fun σ2 re2 so2 => q σ2 re2 ⟨so2.1.trans so1.1, fun i hi => ?_⟩⟩⟩
      rw [List.mem_append] at hi
      exact (so2.2 i fun z => hi (.inr z)).trans (so1.2 i fun z => hi (.inl z))
    · cases e
  · cases e)⟩⟩
theorem mg_tup {k : Nat} (n : Nat) (hc : X.calm = true) (h : MGs X cl es sl gs) (hn : (assignEach es X.env).length = n := by rfl) (hst : (assignEach es X.env).findIdx? (·.1) = none := by rfl) : MG X cl (.Tuple es k pos) sl (gmT n gs) := ⟨⟨fun pins s σ H v u Q I rv h' => (pg_tup hc h.pgs hn hst).run pins s σ H v u Q I rv (by
  obtain ⟨r, m, x, r', re, rx, e, q⟩ := h'
  unfold gmT at e
  split at e
  · rename_i xs e1
    obtain ⟨a, vs, rfl, sq, rs⟩ := tpOf_ok rx e1
    split at e
    · rename_i hl
      exact ⟨a, vs, rfl, sq, by rw [← Rs.len rs]; exact hl, r, m, xs, r', re, rs, e, q⟩
    · cases e
  · cases e)⟩⟩
def sAsg (g : GM) (f : EM) : SM := fun r h => lift (f r h) r fun x h1 => match g x r with
  | some r' => .nx r' h1
  | none => .bad
theorem ms_asg {W : WX} {v : Expr} {f : EM} (he : ME X cl W v f) (hg : MG X cl e sl g) (hs : swapsWithSole [e] v pos.line X.env = pure false := by rfl) (hw : swappedStores [e] v X.env = pure none := by rfl) (ha : (assignEach [e] X.env).map (·.2) = [assign e X.env] := by rfl) : MS X cl W (.Assign [e] v pos) (sAsg g f) := ⟨PS.imp (ps_asg he.pe hg.pg hs hw ha) fun D σ H h => by
  obtain ⟨r, hp, m, re, rel, p⟩ := h
  refine ⟨r, hp, m, re, rel, (p.lift re).mono (fun y m1 h1 H1 s q v rv => ?_) fun _ _ _ z => z⟩
  obtain ⟨q1, q2, q3⟩ := q
  split at q3
  · rename_i r' e
    exact ⟨r, m1, y, r', q2, rv, e, fun σ' re' _ => q3 m1 H1 σ' .refl q1 re'⟩
  · exact q3.elim⟩
end
end TW
namespace TW
open PySem PySem.Spec L2

/-! ### walks -/
/-- the source still holds what it held -/
abbrev Src := Option (Nat × List T)
def chk (src : Src) (h : MH) : Bool := match src with
  | none => true
  | some (n, its) => (match h[n]? with
    | some (.lst xs) => beqTs xs its
    | _ => false)
abbrev IM := Rho → MH → Res (List T × Src)
def WalkM (G : Gx) (J : It) (its : List T) (src : Src) (m : Ml) (H : Hp) : Prop := ∀ m' H' h', Wk m m' H H' → Rel G m' H' h' → chk src h' = true →
  (∀ i, i < its.length → J.go i H') ∧ J.stop its.length H' ∧ ∀ i x H'' z, J.yld i H' x H'' → its[i]? = some z → Stp m' m' H' H'' ∧ Rel G m' H'' h' ∧ R G m' H'' z x
def tMI (G : Gx) (W : WX) (f : IM) : TI := fun σ H Rr => ∃ r hp m, RE G m H r σ ∧ Rel G m H hp ∧ Pst G m H (f r hp) (fun p m' h' H' => ∀ J, WalkM G J p.1 p.2 m' H' → Rr J H') (fun c d H' => W c d σ H')
structure MI (X : Cx) (cl : Cln) (W : WX) (tg e : Expr) (f : IM) : Prop where
  pi : PI X tg e (tMI (gx X cl) W f)
theorem PI.imp {X : Cx} {tg e : Expr} {t t' : TI} (h : PI X tg e t) (i : ∀ σ H Q, t' σ H Q → t σ H Q) : PI X tg e t' := ⟨fun pins s σ H Q I q => h.run pins s σ H Q I (i σ H Q q)⟩
theorem PI.or {X : Cx} {tg e : Expr} {t t' : TI} (h : PI X tg e t) (h' : PI X tg e t') : PI X tg e (fun σ H Q => t σ H Q ∨ t' σ H Q) := ⟨fun pins s σ H Q I q => by
  rcases q with q | q
  · exact h.run pins s σ H Q I q
  · exact h'.run pins s σ H Q I q⟩
def srcOf (x : T) (xs : List T) : Src := match x with
  | .loc n => some (n, xs)
  | _ => none
def itOf (x : T) (h : MH) : Res (List T × Src) := match lsOf h x with
  | some xs => .ok (xs, srcOf x xs) h
  | none => (match tpOf x with
    | some xs => .ok (xs, none) h
    | none => .bad)
def itE (f : EM) : IM := fun r h => (f r h).bind itOf
theorem chk_of {h : MH} {x : T} {xs : List T} (e : lsOf h x = some xs) : chk (srcOf x xs) h = true := by
  cases x with
  | loc n =>
    simp only [lsOf, lstAt] at e
    simp only [srcOf, chk]
    split at e
    · rename_i ys q
      cases e
      first
        | exact beqTs_self _
        | (rw [q]; exact beqTs_self _)
    · cases e
  | _ => rfl
section
variable {G : Gx} {m : Ml} {H : Hp} {hp : MH} {x : T} {a : Addr} {xs : List T}
/-- a list stays the list while its source is unchanged -/
theorem ls_later (rel : Rel G m H hp) (h : R G m H x (.ref a)) (e : lsOf hp x = some xs) : ∀ m' H' h', Wk m m' H H' → Rel G m' H' h' → chk (srcOf x xs) h' = true → ∃ vs, SqL G.K H' a vs ∧ Rs G m' H' xs vs := by
  intro m' H' h' s rel' c
  cases x with
  | lst ys =>
    cases e
    have := R.wk s _ _ h
    simp only [R] at this
    obtain ⟨b, vs, q, f, rs⟩ := this
    cases q
    exact ⟨vs, SqL.of f.1, rs⟩
  | klst ys =>
    cases e
    have := R.wk s _ _ h
    simp only [R] at this
    obtain ⟨b, vs, q, f, rs⟩ := this
    cases q
    exact ⟨vs, f.elim (fun f => .inl f.1) .inr, rs⟩
  | loc n =>
    have h' := R.wk s _ _ h
    simp only [srcOf, chk] at c
    split at c
    · rename_i zs q
      obtain rfl := beqTs_ok _ _ c
      obtain ⟨b, e1, e2, vs, e3, rs⟩ := rel'.cell h' q
      cases e2
      exact ⟨vs, SqL.of e3, rs⟩
    · cases c
  | _ => cases e
theorem walk_ls (h : ∀ m' H' h', Wk m m' H H' → Rel G m' H' h' → chk (srcOf x xs) h' = true → ∃ vs, SqL G.K H' a vs ∧ Rs G m' H' xs vs) : WalkM G (Itl G.K a) xs (srcOf x xs) m H := by
  intro m' H' h' s rel c
  obtain ⟨vs, sq, rs⟩ := h m' H' h' s rel c
  have hl := Rs.len rs
  refine ⟨fun i hi => ⟨vs, vs[i]'(by omega), sq, by simp [← hl, hi]⟩, ⟨vs, sq, by omega⟩, fun i y H'' z yl ez => ?_⟩
  obtain ⟨rfl, yl⟩ := yl
  obtain ⟨u, e1, r1⟩ := Rs.get rs ez
  have := yl vs sq
  rw [e1] at this
  cases this
  exact ⟨.refl, rel, r1⟩
theorem tp_later (h : R G m H x (.ref a)) (e : tpOf x = some xs) : ∀ m' H', Wk m m' H H' → ∃ vs, SqT G.K H' a vs ∧ Rs G m' H' xs vs := by
  intro m' H' s
  obtain ⟨b, vs, q, sq, rs⟩ := tpOf_ok (R.wk s _ _ h) e
  cases q
  exact ⟨vs, sq, rs⟩
theorem walk_tp (h : ∀ m' H', Wk m m' H H' → ∃ vs, SqT G.K H' a vs ∧ Rs G m' H' xs vs) : WalkM G (Itt G.K a) xs none m H := by
  intro m' H' h' s rel c
  obtain ⟨vs, sq, rs⟩ := h m' H' s
  have hl := Rs.len rs
  refine ⟨fun i hi => ⟨vs, vs[i]'(by omega), sq, by simp [← hl, hi]⟩, ⟨vs, sq, by omega⟩, fun i y H'' z yl ez => ?_⟩
  obtain ⟨rfl, yl⟩ := yl
  obtain ⟨u, e1, r1⟩ := Rs.get rs ez
  have := yl vs sq
  rw [e1] at this
  cases this
  exact ⟨.refl, rel, r1⟩
end
section
variable {X : Cx} {cl : Cln} {W : WX} {tg e : Expr} {f : EM} {es : List Expr} {pos : Pos} {fa : AM}
theorem mi_e (he : ME X cl W e f) : MI X cl W tg e (itE f) := by
  refine ⟨PI.imp (PI.or (pi_list he.pe) (pi_tup he.pe)) fun σ H Q h => ?_⟩
  obtain ⟨r, hp, m, re, rel, p⟩ := h
  unfold itE at p
  cases ex : f r hp with
  | exc c fs h' =>
    rw [ex] at p
    refine .inl ⟨r, hp, m, re, rel, ?_⟩
    rw [ex]
    exact p
  | bad => rw [ex] at p; exact p.elim
  | ok x h1 =>
    rw [ex] at p
    have p : Pst (gx X cl) m H (itOf x h1) _ _ := p
    unfold itOf at p
    split at p
    · rename_i xs e1
      refine .inl ⟨r, hp, m, re, rel, ?_⟩
      rw [ex]
      intro m' H' s rel' v rv
      obtain ⟨a, vs, rfl, sq, rs⟩ := lsOf_ok rel' rv e1
      have := p m' H' s rel' (Itl X.K a) (walk_ls (ls_later rel' rv e1))
      exact ⟨a, rfl, ⟨vs, sq⟩, this⟩
    · split at p
      · rename_i xs e1
        refine .inr ⟨r, hp, m, re, rel, ?_⟩
        rw [ex]
        intro m' H' s rel' v rv
        obtain ⟨a, vs, rfl, sq, rs⟩ := tpOf_ok rv e1
        exact ⟨a, rfl, ⟨vs, sq⟩, p m' H' s rel' (Itt X.K a) (walk_tp (tp_later rv e1))⟩
      · exact p.elim
def rgL (lo : Int) (n : Nat) : List T := (List.range n).map fun i => .int (lo + (i : Nat))
theorem walk_rg {G : Gx} {m : Ml} {H : Hp} (lo : Int) (n : Nat) : WalkM G (Itr lo n) (rgL lo n) none m H := by
  intro m' H' h' s rel c
  have hl : (rgL lo n).length = n := by simp [rgL]
  refine ⟨fun i hi => by rw [hl] at hi; exact hi, by rw [hl]; exact Nat.le_refl _, fun i y H'' z yl ez => ?_⟩
  obtain ⟨rfl, rfl⟩ := yl
  have hi : i < n := by rw [← hl]; exact (List.getElem?_eq_some_iff.mp ez).1
  simp [rgL, hi] at ez
  subst ez
  exact ⟨.refl, rel, by simp only [R]⟩
def rgOk (i : Int) : Bool := decide (-(2 ^ 62) ≤ i) && decide (i < 2 ^ 62)
theorem rgOk_ok {i : Int} (h : rgOk i = true) : -(2 ^ 62) ≤ i ∧ i < 2 ^ 62 := by
  simp only [rgOk, Bool.and_eq_true, decide_eq_true_eq] at h
  exact h
def itR1 (f : AM) : IM := fun r h => (f r h).bind fun xs h1 => match xs with
  | [.int j] => if rgOk j = true then .ok (rgL 0 j.toNat, none) h1 else .bad
  | _ => .bad
def itR2 (f : AM) : IM := fun r h => (f r h).bind fun xs h1 => match xs with
  | [.int i, .int j] => if rgOk i = true ∧ rgOk j = true then .ok (rgL i (j - i).toNat, none) h1 else .bad
  | _ => .bad
theorem mi_r1 {a : Expr} {p : Pos} (hg : Gl X "range") (hm : X.mg "range" = none) (ha : MA X cl W [a] fa) (hs : starEach [a] X.env = [(false, eval a X.env)] := by rfl) : MI X cl W tg (.Call (.Name "range" p) [a] [] pos) (itR1 fa) := by
  refine ⟨PI.imp (pi_range1 hg hm ha.pa hs) fun σ H Q h => ?_⟩
  obtain ⟨r, hp, m, re, rel, p⟩ := h
  refine ⟨r, hp, m, re, rel, p.bind.mono (fun xs m1 h1 H1 s q vs rv => ?_) fun _ _ _ z => z⟩
  obtain ⟨rel1, p1⟩ := q
  split at p1
  · rename_i j
    obtain ⟨v, t, rfl, h2, h3⟩ := Rs.cons_iff.mp rv
    obtain rfl := Rs.nil_iff.mp h3
    simp only [R] at h2
    subst h2
    split at p1
    · rename_i hj
      obtain ⟨l1, l2⟩ := rgOk_ok hj
      exact ⟨j, rfl, l1, l2, (p1.ok_ rel1) _ (walk_rg 0 _)⟩
    · exact p1.elim
  · exact p1.elim
theorem mi_r2 {a b : Expr} {p : Pos} (hg : Gl X "range") (hm : X.mg "range" = none) (ha : MA X cl W [a, b] fa) (hs : starEach [a, b] X.env = [(false, eval a X.env), (false, eval b X.env)] := by rfl) (hs2 : starEach [b] X.env = [(false, eval b X.env)] := by rfl) :
    MI X cl W tg (.Call (.Name "range" p) [a, b] [] pos) (itR2 fa) := by
  refine ⟨PI.imp (pi_range2 hg hm ha.pa hs hs2) fun σ H Q h => ?_⟩
  obtain ⟨r, hp, m, re, rel, p⟩ := h
  refine ⟨r, hp, m, re, rel, p.bind.mono (fun xs m1 h1 H1 s q vs rv => ?_) fun _ _ _ z => z⟩
  obtain ⟨rel1, p1⟩ := q
  split at p1
  · rename_i i j
    obtain ⟨v, t, rfl, h2, h3⟩ := Rs.cons_iff.mp rv
    obtain ⟨w, t, rfl, h4, h5⟩ := Rs.cons_iff.mp h3
    obtain rfl := Rs.nil_iff.mp h5
    simp only [R] at h2 h4
    subst h2 h4
    split at p1
    · rename_i hj
      obtain ⟨l1, l2⟩ := rgOk_ok hj.1
      obtain ⟨l3, l4⟩ := rgOk_ok hj.2
      exact ⟨i, j, rfl, ⟨l1, l2, l3, l4⟩, (p1.ok_ rel1) _ (walk_rg i _)⟩
    · exact p1.elim
  · exact p1.elim
end

/-! ### for -/
def forS (src : Src) (all : List T) (g : GM) (body : SM) : List T → SM
  | [], r, h => if chk src h = true then .nx r h else .bad
  | x :: xs, r, h => if chk src h = true then (match g x r with
    | some r1 => (match body r1 h with
      | .nx r' h' => forS src all g body xs r' h'
      | .ct r' h' => forS src all g body xs r' h'
      | .bk r' h' => .nx r' h'
      | o => o)
    | none => .bad) else .bad
def sFor (it : IM) (g : GM) (body : SM) : SM := fun r h => lift (it r h) r fun p h1 => forS p.2 p.1 g body p.1 r h1
section
variable {X : Cx} {cl : Cln} {W : WX} {tg e : Expr} {body : List Stmt} {pos : Pos} {it : IM} {g : GM} {sl : List Nat} {F : SM}
theorem drop_at {α : Type} {xs : List α} {i : Nat} (h : i < xs.length) : xs.drop i = xs[i] :: xs.drop (i + 1) := List.drop_eq_getElem_cons h
theorem ms_for (hp : PassesOwn (model X.prog X.w) X.A X.env X.xe) (hc : X.calm = true) (hi : MI X cl W tg e it) (hg : MG X cl tg sl g) (hb : MB X cl W body F) (hs : ∀ x, foldedSetIterable e X.env x = pure x := by intro _; rfl) : MS X cl W (.For tg e body [] pos) (sFor it g F) := by
  refine ⟨PS.imp (ps_for hp hc hi.pi hg.pg hb.pss hs) fun D σ H h => ?_⟩
  obtain ⟨r, hp, m, re, rel, p⟩ := h
  refine ⟨r, hp, m, re, rel, (p.lift re).mono (fun q m1 h1 H1 s z J wk => ?_) fun _ _ _ z => z⟩
  obtain ⟨its, src⟩ := q
  obtain ⟨rel1, re1, fl⟩ := z
  let Gd : Hp → Prop := fun H' => ∃ m' h', Wk m1 m' H1 H' ∧ Rel (gx X cl) m' H' h' ∧ chk src h' = true
  have w : Walk J its.length Gd J.yld := ⟨fun i H' hi ⟨m', h', a, b, c⟩ => (wk m' H' h' a b c).1 i hi, fun H' ⟨m', h', a, b, c⟩ => (wk m' H' h' a b c).2.1, fun _ _ _ _ _ _ y => y⟩
  refine for_it w (fun i σ' H' => ∃ m' h' r', RE (gx X cl) m' H' r' σ' ∧ Rel (gx X cl) m' H' h' ∧ Wk m1 m' H1 H' ∧ FlQ (gx X cl) m' H' D W (forS src its g F (its.drop i) r' h')) ?_ ?_ ?_ ?_
  · exact ⟨m1, h1, r, re1, rel1, ⟨⟨[], by simp⟩, fun _ _ _ h n => ⟨h, n⟩⟩, fl⟩
  · rintro i σ' H' hi ⟨m', h', r', re', rel', s', fl'⟩
    refine ⟨m', h', s', rel', ?_⟩
    cases hd : its.drop i with
    | nil =>
      rw [hd] at fl'
      simp only [forS] at fl'
      split at fl'
      · assumption
      · exact fl'.elim
    | cons z zs =>
      rw [hd] at fl'
      simp only [forS] at fl'
      split at fl'
      · assumption
      · exact fl'.elim
  · rintro i x σ' H' H'' hi ⟨m', h', r', re', rel', s', fl'⟩ y
    rw [drop_at hi] at fl'
    simp only [forS] at fl'
    split at fl'
    · rename_i hck
      obtain ⟨_, _, yk⟩ := wk m' H' h' s' rel' hck
      obtain ⟨s2, rel2, rx⟩ := yk i x H'' its[i] y (List.getElem?_eq_getElem hi)
      split at fl'
      · rename_i r1 e1
        refine ⟨r', m', its[i], r1, re'.step s2, rx, e1, fun σ2 re2 _ => ⟨r1, h', m', re2, rel2, ?_⟩⟩
        have fl2 := fl'.step s2
        have s3 : Wk m1 m' H1 H'' := ⟨s'.pre, fun a o t q n => by
          obtain ⟨q1, n1⟩ := s'.fr a o t q n
          exact s2.wk.fr a o t q1 n1⟩
        have nxt : ∀ r4 h4, FlQ (gx X cl) m' H'' D W (forS src its g F (its.drop (i + 1)) r4 h4) → ∀ m5 H5 σ5, Stp m' m5 H'' H5 → Rel (gx X cl) m5 H5 h4 → RE (gx X cl) m5 H5 r4 σ5 →
            ∃ m' h' r', RE (gx X cl) m' H5 r' σ5 ∧ Rel (gx X cl) m' H5 h' ∧ Wk m1 m' H1 H5 ∧ FlQ (gx X cl) m' H5 D W (forS src its g F (its.drop (i + 1)) r' h') := fun r4 h4 q m5 H5 σ5 s5 rel5 re5 => by
          refine ⟨m5, h4, r4, re5, rel5, ⟨?_, fun a o t q n => ?_⟩, q.step s5⟩
          · obtain ⟨n1, e1⟩ := s3.pre
            obtain ⟨n2, e2⟩ := s5.pre
            exact ⟨n1 ++ n2, by rw [e2, e1, List.append_assoc]⟩
          · obtain ⟨q1, n1⟩ := s3.fr a o t q n
            exact s5.wk.fr a o t q1 n1
        cases eb : F r1 h' with
        | nx r4 h4 =>
          rw [eb] at fl2
          exact fun m5 H5 σ5 s5 rel5 re5 => nxt r4 h4 fl2 m5 H5 σ5 s5 rel5 re5
        | ct r4 h4 =>
          rw [eb] at fl2
          exact fun m5 H5 σ5 s5 rel5 re5 => nxt r4 h4 fl2 m5 H5 σ5 s5 rel5 re5
        | bk r4 h4 => rw [eb] at fl2; exact fl2
        | ret v h4 => rw [eb] at fl2; exact fl2
        | ex c fs r4 h4 => rw [eb] at fl2; exact fl2
        | bad => rw [eb] at fl2; exact fl2
      · exact fl'.elim
    · exact fl'.elim
  · rintro σ' H' ⟨m', h', r', re', rel', s', fl'⟩
    rw [List.drop_length] at fl'
    simp only [forS] at fl'
    split at fl'
    · exact fl' m' H' σ' .refl rel' re'
    · exact fl'.elim

/-! ### while -/
def whS (c : TM) (body : SM) : Nat → SM
  | 0, _, _ => .bad
  | n + 1, r, h => lift (c r h) r fun b h1 => if b = true then (match body r h1 with
      | .nx r' h' => whS c body n r' h'
      | .ct r' h' => whS c body n r' h'
      | .bk r' h' => .nx r' h'
      | o => o) else .nx r h1
theorem ms_while (n : Nat) {c : Expr} {t : TM} (hp : PassesOwn (model X.prog X.w) X.A X.env X.xe) (hc : MT X cl W c t) (hb : MB X cl W body F) : MS X cl W (.While c body [] pos) (whS t F n) := by
  refine ⟨PS.imp (ps_while hp hc.pt hb.pss) fun D σ H h => ?_⟩
  obtain ⟨r, hp, m, re, rel, p⟩ := h
  refine ⟨fun k σ H => ∃ r hp m, RE (gx X cl) m H r σ ∧ Rel (gx X cl) m H hp ∧ FlQ (gx X cl) m H D W (whS t F k r hp), ⟨n, r, hp, m, re, rel, p⟩, ?_⟩
  rintro k σ H ⟨r, hp, m, re, rel, p⟩
  cases k with
  | zero => exact p.elim
  | succ k =>
    have p : FlQ (gx X cl) m H D W (lift (t r hp) r fun b h1 => if b = true then (match F r h1 with
      | .nx r' h' => whS t F k r' h'
      | .ct r' h' => whS t F k r' h'
      | .bk r' h' => .nx r' h'
      | o => o) else .nx r h1) := p
    refine ⟨r, hp, m, re, rel, (p.lift re).mono (fun b m1 h1 H1 s z => ?_) fun _ _ _ z => z⟩
    obtain ⟨rel1, re1, fl⟩ := z
    cases b with
    | false => exact fl m1 H1 σ .refl rel1 re1
    | true =>
      refine ⟨fun σ' H' => ∃ r hp m, RE (gx X cl) m H' r σ' ∧ Rel (gx X cl) m H' hp ∧ FlQ (gx X cl) m H' D W (whS t F k r hp), fun σ' H' q => ⟨k, Nat.lt_succ_self _, q⟩, r, h1, m1, re1, rel1, ?_⟩
      have fl : FlQ (gx X cl) m1 H1 D W (match F r h1 with
        | .nx r' h' => whS t F k r' h'
        | .ct r' h' => whS t F k r' h'
        | .bk r' h' => .nx r' h'
        | o => o) := fl
      cases eb : F r h1 with
      | nx r4 h4 =>
        rw [eb] at fl
        exact fun m5 H5 σ5 s5 rel5 re5 => ⟨r4, h4, m5, re5, rel5, fl.step s5⟩
      | ct r4 h4 =>
        rw [eb] at fl
        exact fun m5 H5 σ5 s5 rel5 re5 => ⟨r4, h4, m5, re5, rel5, fl.step s5⟩
      | bk r4 h4 => rw [eb] at fl; exact fl
      | ret v h4 => rw [eb] at fl; exact fl
      | ex c fs r4 h4 => rw [eb] at fl; exact fl
      | bad => rw [eb] at fl; exact fl
end
end TW
namespace TW
open PySem PySem.Spec L2

/-! ### comprehensions -/
/-- nothing may be raised within -/
def calm {α : Type} (x : Res α) : Res α := match x with
  | .ok a h => .ok a h
  | _ => .bad
def wipeR (r : Rho) : List Nat → Rho
  | [] => r
  | v :: vs => (wipeR r vs).set v none
def lcS (src : Src) (all : List T) (g : GM) (tt : TM) (te : EM) (r0 : Rho) : List T → MH → Res (List T)
  | [], h => if chk src h = true then .ok [] h else .bad
  | x :: xs, h => if chk src h = true then (match g x r0 with
    | some r1 => (calm (tt r1 h)).bind fun b h1 => if b = true then (calm (te r1 h1)).bind fun y h2 => (lcS src all g tt te r0 xs h2).bind fun ys h3 => .ok (y :: ys) h3 else lcS src all g tt te r0 xs h1
    | none => .bad) else .bad
def lcM (k : List T → MH → Res T) (it : IM) (g : GM) (tt : TM) (te : EM) (vs : List Nat) : EM := fun r h => (it r h).bind fun p h1 => (lcS p.2 p.1 g tt te (wipeR r vs) p.1 h1).bind k
/-- no test -/
def tYes : TM := fun _ h => .ok true h
/-- a clause's tests -/
structure MTs (X : Cx) (cl : Cln) (W : WX) (es : List Expr) (f : TM) : Prop where
  pts : PTs X es (tMT (gx X cl) W f)
section
variable {G : Gx} {m : Ml} {H : Hp}
theorem RE.wipe {r : Rho} {σ : L2.St} (re : RE G m H r σ) : ∀ vs : List Nat, RE G m H (wipeR r vs) (wipe σ vs)
  | [] => re
  | v :: vs => (RE.wipe re vs).unset
theorem lcS_noexc {src : Src} {all : List T} {g : GM} {tt : TM} {te : EM} {r0 : Rho} : ∀ (xs : List T) (h : MH) (c : Str) (fs : List (Str × T)) (h' : MH), lcS src all g tt te r0 xs h ≠ .exc c fs h'
  | [], h, c, fs, h' => by unfold lcS; split <;> (intro e; cases e)
  | x :: xs, h, c, fs, h' => by
    unfold lcS
    split
    · split
      · rename_i r1 _
        cases tt r1 h with
        | ok b h1 =>
          simp only [calm, Res.bind]
          split
          · cases te r1 h1 with
            | ok y h2 =>
              simp only [calm, Res.bind]
              have := lcS_noexc (src := src) (all := all) (g := g) (tt := tt) (te := te) (r0 := r0) xs h2
              cases e : lcS src all g tt te r0 xs h2 with
              | ok ys h3 => intro q; cases q
              | exc c' fs' h3 => exact absurd e (this _ _ _)
              | bad => intro q; cases q
            | exc c' fs' h2 => intro q; cases q
            | bad => intro q; cases q
          · exact lcS_noexc xs h1 c fs h'
        | exc c' fs' h1 => intro q; cases q
        | bad => intro q; cases q
      · intro q; cases q
    · intro q; cases q
theorem wipe_set {σ : L2.St} (i : Nat) : ∀ vs : List Nat, i ∈ vs → i < σ.length → (wipe σ vs)[i]? = some none
  | [], h, _ => by cases h
  | v :: vs, h, hl => by
    unfold wipe
    by_cases e : v = i
    · subst e
      exact List.getElem?_set_self (by rw [wipe_length]; exact hl)
    · rw [List.getElem?_set_ne e]
      rcases List.mem_cons.mp h with q | q
      · exact absurd q.symm e
      · exact wipe_set i vs q hl
theorem wipe_same {σ σ2 : L2.St} {vs sl : List Nat} (so : SameOut sl (wipe σ vs) σ2) (hs : ∀ i ∈ sl, i ∈ vs) : wipe σ2 vs = wipe σ vs := by
  have hl : σ2.length = σ.length := by rw [so.1, wipe_length]
  apply List.ext_getElem?
  intro i
  by_cases hi : i ∈ vs
  · by_cases hb : i < σ.length
    · rw [wipe_set i vs hi (by omega), wipe_set i vs hi hb]
    · rw [List.getElem?_eq_none (by rw [wipe_length]; omega), List.getElem?_eq_none (by rw [wipe_length]; omega)]
  · rw [wipe_out hi, so.2 i fun z => hi (hs i z)]
end
/-- what is kept while a new object at D is under way -/
structure Way (m1 m : Ml) (H1 H : Hp) (D : Addr) : Prop where
  z : m.z = D :: m1.z
  pre : ∃ n, m.c = m1.c ++ n
  fr : ∀ a o, NT o → Sm H1 a o → a ∉ m1.c → Sm H a o ∧ a ∉ m.c
  zx : ∀ a o, NT o → H1 a = some o → a ∈ m1.z → a ∉ m1.c → H a = some o
section
variable {G : Gx} {m1 m m' : Ml} {H1 H H' : Hp} {D : Addr} {o : HO} {h : MH}
theorem Way.wk (w : Way m1 m H1 H D) (hD : H1 D = none) : Wk m1 m H1 H := ⟨w.pre, fun a o t e n => ⟨(w.fr a o t e n.1).1, (w.fr a o t e n.1).2, fun z => by
  rw [w.z] at z
  rcases List.mem_cons.mp z with z | z
  · exact e.far hD z
  · exact n.2 z⟩⟩
theorem Way.step (w : Way m1 m H1 H D) (s : Stp m m' H H') : Way m1 m' H1 H' D := by
  refine ⟨s.pz.trans w.z, ?_, fun a o t e n => ?_, fun a o t e z n => ?_⟩
  · obtain ⟨n1, e1⟩ := w.pre
    obtain ⟨n2, e2⟩ := s.pre
    exact ⟨n1 ++ n2, by rw [e2, e1, List.append_assoc]⟩
  · obtain ⟨q1, n1⟩ := w.fr a o t e n
    exact s.fr a o t q1 n1
  · exact s.zx a o t (w.zx a o t e z n) (by rw [w.z]; exact List.mem_cons_of_mem _ z) (w.fr a o t (.inl e) n).2
theorem Way.put (w : Way m1 m H1 H D) (hD : H1 D = none) : Way m1 m H1 (upd H D o) D := ⟨w.z, w.pre, fun a u t e n => by
  obtain ⟨q1, n1⟩ := w.fr a u t e n
  exact ⟨q1.same (upd_ne (e.far hD)), n1⟩, fun a u t e z n => by
  rw [upd_ne (ne_of_none e hD)]
  exact w.zx a u t e z n⟩
theorem Way.lay (hD : H1 D = none) : Way m1 (m1.lay D) H1 (upd H1 D o) D := ⟨rfl, ⟨[], by simp [Ml.lay]⟩, fun a u _ e n => ⟨e.same (upd_ne (e.far hD)), n⟩, fun a u _ e _ _ => by
  rw [upd_ne (ne_of_none e hD)]
  exact e⟩
theorem Way.stp (w : Way m1 m H1 H D) : Stp m1 ⟨m.c, m1.z⟩ H1 H := ⟨rfl, w.pre, w.fr, w.zx⟩
theorem Way.stpc (w : Way m1 m H1 H D) (hD : H1 D = none) : Stp m1 ⟨m.c ++ [D], m1.z⟩ H1 H := ⟨rfl, by
  obtain ⟨n, e⟩ := w.pre
  exact ⟨n ++ [D], by show m.c ++ [D] = _; rw [e, List.append_assoc]⟩, fun a u t e n => by
  obtain ⟨q1, n1⟩ := w.fr a u t e n
  refine ⟨q1, fun z => ?_⟩
  rcases List.mem_append.mp z with z | z
  · exact n1 z
  · rw [List.mem_singleton] at z
    exact e.far hD z, w.zx⟩
/-- handed out as a cell -/
theorem Wk.outc (w : m.z = D :: m1.z) (nd : D ∉ m1.z) : Wk m ⟨m.c ++ [D], m1.z⟩ H H := ⟨⟨[D], rfl⟩, fun b u _ e n => ⟨e, fun z => by
  rcases List.mem_append.mp z with z | z
  · exact n.1 z
  · rw [List.mem_singleton] at z
    exact n.2 (by rw [w, z]; exact List.mem_cons_self), fun z => n.2 (by rw [w]; exact List.mem_cons_of_mem _ z)⟩⟩
theorem Rel.outc (rel : Rel G m H h) (w : m.z = D :: m1.z) (nd : D ∉ m1.z) {mo : MO} (new : RO G ⟨m.c ++ [D], m1.z⟩ H D mo) : Rel G ⟨m.c ++ [D], m1.z⟩ H (h ++ [mo]) := by
  have wk : Wk m ⟨m.c ++ [D], m1.z⟩ H H := Wk.outc w nd
  have nc : D ∉ m.c := rel.zd D (by rw [w]; exact List.mem_cons_self)
  refine ⟨by simp [rel.len], ?_, fun n a mo' e1 e2 => ?_, fun a ha => rel.zs a (by rw [w]; exact List.mem_cons_of_mem _ ha), fun a ha hc => ?_, rel.tb.to fun b _ n => ⟨rfl, fun z => ?_, fun z => n.2 (by rw [w]; exact List.mem_cons_of_mem _ z)⟩⟩
  · show (m.c ++ [D]).Nodup
    rw [List.nodup_append]
    refine ⟨rel.nd, by simp, fun x hx y hy => ?_⟩
    rw [List.mem_singleton] at hy
    subst hy
    exact fun z => nc (z ▸ hx)
  · have e1 : (m.c ++ [D])[n]? = some a := e1
    by_cases hn : n < m.c.length
    · rw [List.getElem?_append_left hn] at e1
      rw [List.getElem?_append_left (by rw [← rel.len]; exact hn)] at e2
      exact (rel.ob n a mo' e1 e2).wk wk rfl
    · have hn' : n = m.c.length := by
        have := (List.getElem?_eq_some_iff.mp e1).1
        simp at this
        omega
      subst hn'
      rw [List.getElem?_append_right (Nat.le_refl _)] at e1
      rw [rel.len, List.getElem?_append_right (Nat.le_refl _)] at e2
      simp at e1 e2
      subst e1 e2
      exact new
  · rcases List.mem_append.mp hc with hc | hc
    · exact rel.zd a (by rw [w]; exact List.mem_cons_of_mem _ ha) hc
    · rw [List.mem_singleton] at hc
      exact nd (by rw [← hc]; exact ha)
  · rcases List.mem_append.mp z with z | z
    · exact n.1 z
    · rw [List.mem_singleton] at z
      exact n.2 (by rw [w, z]; exact List.mem_cons_self)
/-- the end of a new list that was under way -/
theorem way_end {h1' : MH} {k : List T → MH → Res T} (hk : k = lstK ∨ k = lstL) {xs : List T} {acc : List V} {Q : VK} {W : XK} (w : Way m1 m H1 H D) (hD : H1 D = none) (rel1 : Rel G m1 H1 h1') (rel : Rel G m H h) (rs : Rs G m H xs acc) (hl : H D = some (.lst acc))
    (p : Pst G m1 H1 (k xs h) (fun z m' _ H' => ∀ u, R G m' H' z u → Q u H') W) : Q (.ref D) H := by
  have nd : D ∉ m1.z := fun z => by
    obtain ⟨o, _, e⟩ := rel1.zs D z
    rw [hD] at e; cases e
  rcases hk with rfl | rfl
  · unfold lstK at p
    split at p
    · have wk : Wk m ⟨m.c, m1.z⟩ H H := Wk.out w.z
      refine p ⟨m.c, m1.z⟩ H w.stp (rel.out w.z) _ ?_
      simp only [R]
      exact ⟨D, acc, rfl, ⟨hl, rel.zd D (by rw [w.z]; exact List.mem_cons_self), nd⟩, Rs.wk wk _ _ rs⟩
    · exact p.elim
  · unfold lstL at p
    split at p
    · refine p _ H (w.stpc hD) (rel.outc w.z nd ⟨acc, hl, Rs.wk (Wk.outc w.z nd) _ _ rs⟩) _ ?_
      simp only [R]
      refine ⟨D, ?_, rfl⟩
      show (m.c ++ [D])[_]? = _
      rw [← rel.len, List.getElem?_append_right (Nat.le_refl _)]
      simp
    · exact p.elim
theorem two_len {k : List T → MH → Res T} (hk : k = lstK ∨ k = lstL) {xs : List T} {Q : T → Ml → MH → Hp → Prop} {W : XK} (p : Pst G m H (k xs h) Q W) : xs.length ≤ sizeLine := by
  rcases hk with rfl | rfl
  · unfold lstK at p
    split at p
    · assumption
    · exact p.elim
  · unfold lstL at p
    split at p
    · assumption
    · exact p.elim
end
abbrev WF : WX := fun _ _ _ _ => False
section
variable {X : Cx} {cl : Cln} {W : WX}
theorem calm_ok {α : Type} {G : Gx} {m : Ml} {H : Hp} {x : Res α} {a : α} {h : MH} {Q : α → Ml → MH → Hp → Prop} {W : XK} (e : calm x = .ok a h) (q : ∀ m' H', Stp m m' H H' → Rel G m' H' h → Q a m' h H') : Pst G m H x Q W := by
  cases x with
  | ok b h' =>
    have e : Res.ok b h' = Res.ok a h := e
    cases e
    exact q
  | exc c fs h' => cases e
  | bad => cases e
/-- what a comprehension reads, from its mirror -/
theorem lc_ok {it : IM} {g : GM} {sl : List Nat} {tt : TM} {te : EM} {vs : List Nat} {k : List T → MH → Res T} (hk : k = lstK ∨ k = lstL) (hsl : ∀ i ∈ sl, i ∈ vs) {σ : L2.St} {H : Hp} {Q : VK} (h : tM (gx X cl) W (lcM k it g tt te vs) σ H Q) :
    tLc (tMI (gx X cl) W it) (tMG (gx X cl) sl g) (tMT (gx X cl) WF tt) (tM (gx X cl) WF te) vs σ H Q := by
  obtain ⟨r, hp, m, re, rel, p⟩ := h
  refine ⟨r, hp, m, re, rel, p.bind.mono (fun q m1 h1 H1 s z J wk D hD => ?_) fun _ _ _ z => z⟩
  obtain ⟨its, src⟩ := q
  obtain ⟨rel1, p1⟩ := z
  have re1 := re.step s
  obtain ⟨ysF, hF, eF, pF⟩ : ∃ ysF hF, lcS src its g tt te (wipeR r vs) its h1 = .ok ysF hF ∧ Pst (gx X cl) m1 H1 (k ysF hF) (fun z m' _ H' => ∀ u, R (gx X cl) m' H' z u → Q u H') (fun c d H' => W c d σ H') := by
    cases e : lcS src its g tt te (wipeR r vs) its h1 with
    | ok ys h2 => rw [e] at p1; exact ⟨ys, h2, rfl, p1⟩
    | exc c fs h2 => exact absurd e (lcS_noexc _ _ _ _ _)
    | bad => rw [e] at p1; exact p1.elim
  have lenF := two_len hk pF
  let Gd : Hp → Prop := fun H' => ∃ m' h', Wk m1 m' H1 H' ∧ Rel (gx X cl) m' H' h' ∧ chk src h' = true
  have w : Walk J its.length Gd J.yld := ⟨fun i H' hi ⟨m', h', a, b, c⟩ => (wk m' H' h' a b c).1 i hi, fun H' ⟨m', h', a, b, c⟩ => (wk m' H' h' a b c).2.1, fun _ _ _ _ _ _ y => y⟩
  refine lc_it w (fun i H' => ∃ m' h' xs acc ys, Way m1 m' H1 H' D ∧ Rel (gx X cl) m' H' h' ∧ Rs (gx X cl) m' H' xs acc ∧ H' D = some (.lst acc) ∧ lcS src its g tt te (wipeR r vs) (its.drop i) h' = .ok ys hF ∧ xs ++ ys = ysF) ?_ ?_ ?_ ?_
  · exact ⟨m1.lay D, h1, [], [], ysF, Way.lay hD, rel1.lay hD, Rs.nil, upd_same, eF, rfl⟩
  · rintro i H' hi ⟨m', h', xs, acc, ys, wy, rel', rs, hd, el, ey⟩
    refine ⟨m', h', wy.wk hD, rel', ?_⟩
    cases hdr : its.drop i with
    | nil =>
      rw [hdr] at el
      unfold lcS at el
      split at el
      · assumption
      · cases el
    | cons z zs =>
      rw [hdr] at el
      unfold lcS at el
      split at el
      · assumption
      · cases el
  · rintro i x H' H'' hi ⟨m', h', xs, acc, ys, wy, rel', rs, hd, el, ey⟩ y
    rw [drop_at hi] at el
    unfold lcS at el
    split at el
    · rename_i hck
      obtain ⟨_, _, yk⟩ := wk m' H' h' (wy.wk hD) rel' hck
      obtain ⟨s2, rel2, rx⟩ := yk i x H'' its[i] y (List.getElem?_eq_getElem hi)
      have wy2 := wy.step s2
      have hd2 : H'' D = some (.lst acc) := (s2.fr D _ (by intro _ z; cases z) (.inl hd) (rel'.zd D (by rw [wy.z]; exact List.mem_cons_self))).1.ex
      have rs2 := Rs.step s2 _ _ rs
      split at el
      · rename_i r1 e1
        refine ⟨wipeR r vs, m', its[i], r1, (re1.wk (wy2.wk hD)).wipe vs, rx, e1, fun σ2 re2 so => ⟨wipe_same so hsl, r1, h', m', re2, rel2, ?_⟩⟩
        cases et : calm (tt r1 h') with
        | exc c fs h2 => rw [et] at el; cases el
        | bad => rw [et] at el; cases el
        | ok b h2 =>
          rw [et] at el
          refine calm_ok et fun m3 H3 s3 rel3 => ?_
          have el : (if b = true then (calm (te r1 h2)).bind fun y h2 => (lcS src its g tt te (wipeR r vs) (its.drop (i + 1)) h2).bind fun ys h3 => .ok (y :: ys) h3 else lcS src its g tt te (wipeR r vs) (its.drop (i + 1)) h2) = .ok ys hF := el
          have wy3 := wy2.step s3
          have hd3 : H3 D = some (.lst acc) := (s3.fr D _ (by intro _ z; cases z) (.inl hd2) (rel2.zd D (by rw [wy2.z]; exact List.mem_cons_self))).1.ex
          have rs3 := Rs.step s3 _ _ rs2
          cases b with
          | false => exact ⟨m3, h2, xs, acc, ys, wy3, rel3, rs3, hd3, el, ey⟩
          | true =>
            have el : ((calm (te r1 h2)).bind fun y h2 => (lcS src its g tt te (wipeR r vs) (its.drop (i + 1)) h2).bind fun ys h3 => .ok (y :: ys) h3) = .ok ys hF := el
            refine ⟨r1, h2, m3, re2.step s3, rel3, ?_⟩
            cases ee : calm (te r1 h2) with
            | exc c fs h3 => rw [ee] at el; cases el
            | bad => rw [ee] at el; cases el
            | ok yt h3 =>
              rw [ee] at el
              have el : ((lcS src its g tt te (wipeR r vs) (its.drop (i + 1)) h3).bind fun ys h3 => .ok (yt :: ys) h3) = .ok ys hF := el
              refine calm_ok ee fun m4 H4 s4 rel4 v rv => ?_
              have wy4 := wy3.step s4
              have hd4 : H4 D = some (.lst acc) := (s4.fr D _ (by intro _ z; cases z) (.inl hd3) (rel3.zd D (by rw [wy3.z]; exact List.mem_cons_self))).1.ex
              have rs4 := Rs.step s4 _ _ rs3
              cases en : lcS src its g tt te (wipeR r vs) (its.drop (i + 1)) h3 with
              | exc c fs h5 => rw [en] at el; cases el
              | bad => rw [en] at el; cases el
              | ok zs h5 =>
                rw [en] at el
                have el : Res.ok (yt :: zs) h5 = Res.ok ys hF := el
                cases el
                have hl : acc.length < sizeLine := by
                  have := Rs.len rs4
                  rw [← ey] at lenF
                  simp only [List.length_append, List.length_cons] at lenF
                  omega
                have inz : D ∈ m4.z := by rw [wy4.z]; exact List.mem_cons_self
                refine ⟨acc, hd4, hl, m4, h3, xs ++ [yt], acc ++ [v], zs, wy4.put hD, rel4.pr inz, ?_, upd_same, en, by rw [← ey]; simp⟩
                exact Rs.wk (Wk.pr inz) _ _ (Rs.app rs4 (Rs.cons rv Rs.nil))
      · cases el
    · cases el
  · rintro H' ⟨m', h', xs, acc, ys, wy, rel', rs, hd, el, ey⟩
    rw [List.drop_length] at el
    unfold lcS at el
    split at el
    · cases el
      rw [List.append_nil] at ey
      subst ey
      exact way_end hk wy hD rel1 rel' rs hd pF
    · cases el
theorem mts_nil : MTs X cl W [] tYes := ⟨⟨fun pins s σ H Q I h => pts_nil.run pins s σ H Q I (by
  obtain ⟨r, hp, m, re, rel, p⟩ := h
  exact p.ok_ rel)⟩⟩
theorem mts_one {c : Expr} {f : TM} (h : MT X cl W c f) : MTs X cl W [c] f := ⟨pts_one h.pt⟩
abbrev Blk (X : Cx) (p : Cx → Prop) (scope : Scope) : Prop := ∀ (s : Shared) (H : Hp) (C : Addr) (cl : List (Str × Addr)) (fp : List Addr), p (X.blk s H scope (compEnvC scope cl C X.env) fp)
variable {elt tg iter : Expr} {ifs : List Expr} {scope : Scope} {own : List (Str × Nat)} {pos spos : Pos} {it : IM} {g : GM} {sl : List Nat} {tt : TM} {te : EM} {k : List T → MH → Res T}
theorem me_lc (hk : k = lstK ∨ k = lstL) (hc : X.calm = true) (hN : X.N.Nodup) (ok : BlkOk X.N X.env.scope scope own) (hi : MI X cl W tg iter it) (hsl : ∀ i ∈ sl, i ∈ own.map (·.2)) (hg : Blk X (fun Y => MG Y cl tg sl g) scope) (ht : Blk X (fun Y => MTs Y cl WF ifs tt) scope) (he : Blk X (fun Y => ME Y cl WF elt te) scope)
    (hs : ∀ x, foldedSetIterable iter X.env x = pure x := by intro _; rfl) : ME X cl W (.ListComp elt [⟨tg, iter, ifs, 0⟩] scope pos) (lcM k it g tt te (own.map (·.2))) :=
  ⟨PE.imp (pe_lc (g := tMG (gx X cl) sl g) (tt := tMT (gx X cl) WF tt) (te := tM (gx X cl) WF te) hc hN hi.pi ok (fun s H C c fp => (hg s H C c fp).pg) (fun s H C c fp => (ht s H C c fp).pts) (fun s H C c fp => (he s H C c fp).pe) hs) fun σ H Q h => lc_ok hk hsl h⟩
theorem ms_setLc (i : Nat) {y : Str} {py : Pos} (hk : k = lstK ∨ k = lstL) (hc : X.calm = true) (hN : X.N.Nodup) (ok : BlkOk X.N X.env.scope scope own) (hi : MI X cl W tg iter it) (hsl : ∀ i ∈ sl, i ∈ own.map (·.2)) (hg : Blk X (fun Y => MG Y cl tg sl g) scope) (ht : Blk X (fun Y => MTs Y cl WF ifs tt) scope) (he : Blk X (fun Y => ME Y cl WF elt te) scope)
    (hy : X.N[i]? = some y := by rfl) (hyl : X.env.scope.names.lookup y = some .local := by rfl) (hsw : swapsWith (.ListComp elt [⟨tg, iter, ifs, 0⟩] scope pos) (some (.Name y py)) spos.line X.env = pure true := by exact sw_true rfl rfl rfl rfl)
    (hs : ∀ x, foldedSetIterable iter X.env x = pure x := by intro _; rfl) : MS X cl W (.Assign [.Name y py] (.ListComp elt [⟨tg, iter, ifs, 0⟩] scope pos) spos) (sSet i (lcM k it g tt te (own.map (·.2)))) := by
  refine ⟨PS.imp (ps_setLc (g := tMG (gx X cl) sl g) (tt := tMT (gx X cl) WF tt) (te := tM (gx X cl) WF te) hc hN hy hyl hsw hi.pi ok (fun s H C c fp => (hg s H C c fp).pg) (fun s H C c fp => (ht s H C c fp).pts) (fun s H C c fp => (he s H C c fp).pe) hs) fun D σ H h => ?_⟩
  refine lc_ok (W := W) hk hsl ?_
  obtain ⟨r, hp, m, re, rel, p⟩ := h
  exact ⟨r, hp, m, re, rel, (p.lift re).mono (fun y m1 h1 H1 s q v rv => q.2.2 m1 H1 _ .refl q.1 (q.2.1.set rv)) fun _ _ _ z => z⟩
end
end TW
namespace TW
open PySem PySem.Spec L2

/-! ### defs -/
abbrev FM := List T → MH → Res T
def startR (n : Nat) (xs : List T) : Rho := xs.map some ++ List.replicate (n - xs.length) none
def fnB (n : Nat) (b : SM) : FM := fun xs h => match b (startR n xs) h with
  | .nx _ h' => .ok .non h'
  | .ret x h' => .ok x h'
  | .ex c fs _ h' => .exc c fs h'
  | _ => .bad
def spM (G : Gx) (n : Nat) (f : FM) : Sp := fun vs H Q E => ∃ m hp xs, Rel G m H hp ∧ Rs G m H xs vs ∧ xs.length = n ∧ Pst G m H (f xs hp) (fun z m' _ H' => ∀ u, R G m' H' z u → Q u H') E
/-- its cells are forgotten at its end -/
def reg (f : FM) : FM := fun xs h => endR h (f xs h)
section
variable {G : Gx} {m : Ml} {H : Hp} {n : Nat} {f : FM}
theorem spM_len {vs : List V} {Q : VK} {E : XK} (h : spM G n f vs H Q E) : vs.length = n := by
  obtain ⟨m, hp, xs, _, rs, hl, _⟩ := h
  rw [← Rs.len rs]
  exact hl
theorem re_start {N : List Str} {xs : List T} {vs : List V} (rs : Rs G m H xs vs) : RE G m H (startR N.length xs) (L2.start N vs) := by
  have hl := Rs.len rs
  unfold startR L2.start
  refine ⟨by simp [hl], fun i x e => ?_⟩
  by_cases hi : i < xs.length
  · rw [List.getElem?_append_left (by simpa using hi)] at e
    rw [List.getElem?_append_left (by simpa [← hl] using hi)]
    rw [List.getElem?_map] at e ⊢
    cases ex : xs[i]? with
    | none => rw [ex] at e; cases e
    | some y =>
      rw [ex] at e
      cases e
      obtain ⟨v, e2, r⟩ := Rs.get rs ex
      exact ⟨v, by rw [e2]; rfl, r⟩
  · rw [List.getElem?_append_right (by simpa using hi), List.getElem?_replicate] at e
    split at e <;> cases e
end
section
variable {P : Program} {w : World} {K : PySem.W.Frag} {mg : Str → Option Value} {base : Heap} {cl : Cln}
theorem fn_reg {k n : Nat} {a : Addr} {fd : FuncData} {ps : List Str} {f : FM} (F : FnOk P w K mg base (L2.CX P w) k a fd ps (spM ⟨P, w, K, cl⟩ n f)) : FnOk P w K mg base (L2.CX P w) k a fd ps (spM ⟨P, w, K, cl⟩ n (reg f)) :=
  F.imp fun vs H Q E h => by
    obtain ⟨m, hp, xs, rel, rs, hl, p⟩ := h
    exact ⟨m, hp, xs, rel, rs, hl, p.region rel⟩
/-- THE RULE: a def by its body's mirror -/
theorem fn_ok {x qual : Str} {params : Arguments} {body : List Stmt} {scope : Scope} {dvs : List V} {kws : List (Str × V)} {f : Addr} {fd : FuncData} {N ps : List Str} {k : Nat} {b : SM} (F : FunD K x qual params body scope dvs kws f fd) (S : FnScope N ps scope)
    (hb : ∀ (cdv : Value) (A : Around) (outer : List Env) (s : Shared) (H : Hp) (E : XK), fd.code = cdv → Room k (A.deeper (PyProof.Rows.envOfC qual scope s.heap.objs.size f cdv)) → MB (cxOf (L2.CX P w) P w K mg base N qual scope f cdv A outer s H E) cl (fun c d _ H => E c d H) body b) :
    FnOk P w K mg base (L2.CX P w) (k + 1) f fd ps (spM ⟨P, w, K, cl⟩ ps.length (fnB N.length b)) := by
  obtain ⟨oc, od, dV, kV, doc, pm, an, cdv, ct, osl, rfl, lk, hcd, _, _⟩ := F.ex
  refine fn_of lk hcd S (fun vs H Q E h => spM_len h) fun A outer s H vs Q E hr h => ⟨_, (hb cdv A outer s H E rfl hr).pss, ?_⟩
  obtain ⟨m, hp, xs, rel, rs, hl, p⟩ := h
  refine ⟨startR N.length xs, hp, m, re_start rs, rel, ?_⟩
  unfold fnB at p
  cases e : b (startR N.length xs) hp with
  | nx r h' => rw [e] at p; exact fun m' H' σ' s rel' re' => p m' H' s rel' _ (by simp only [R])
  | ret v h' => rw [e] at p; exact fun m' H' s rel' v rv => p m' H' s rel' v rv
  | ex c fs r h' => rw [e] at p; exact fun m' H' σ' s rel' re' => p m' H' s rel'
  | bk r h' => rw [e] at p; exact p.elim
  | ct r h' => rw [e] at p; exact p.elim
  | bad => rw [e] at p; exact p.elim
theorem hu_room {k : Nat} {A : Around} (h : Room k A) : A.units + 66 < cLine := by
  have := h.un
  omega
end
/-- a def as its callers know it: n positional arguments are written -/
structure Own (P : Program) (w : World) (K : PySem.W.Frag) (mg : Str → Option Value) (base : Heap) (cl : Cln) (k : Nat) (x : Str) (n : Nat) (f : FM) : Prop where
  ex : ∃ (a : Addr) (fd : FuncData) (ps : List Str), FnOk P w K mg base (L2.CX P w) k a fd ps (spM ⟨P, w, K, cl⟩ n f) ∧ mg x = some (.ref a) ∧ PySem.W.keepIn K (.ref a) = true ∧ Binds K fd ps []
/-- with keywords ks behind n positional ones: g puts them in order -/
structure OwnK (P : Program) (w : World) (K : PySem.W.Frag) (mg : Str → Option Value) (base : Heap) (cl : Cln) (k : Nat) (x : Str) (n nn : Nat) (ks : List Str) (g : List T → List T → List T) (f : FM) : Prop where
  ex : ∃ (a : Addr) (fd : FuncData) (ps : List Str) (gu : List Value → List Value → List Value) (gV : List V → List V → List V), FnOk P w K mg base (L2.CX P w) k a fd ps (spM ⟨P, w, K, cl⟩ nn f) ∧ mg x = some (.ref a) ∧ PySem.W.keepIn K (.ref a) = true ∧ KBn K fd ps n ks gu gV ∧
    ∀ m H xs zs vs ws, Rs ⟨P, w, K, cl⟩ m H xs vs → Rs ⟨P, w, K, cl⟩ m H zs ws → xs.length = n → zs.length = ks.length → Rs ⟨P, w, K, cl⟩ m H (g xs zs) (gV vs ws)
def emCall (f : FM) (g : AM) : EM := fun r h => (g r h).bind f
section
variable {X : Cx} {cl : Cln} {W : WX} {k n : Nat} {x : Str} {f : FM} {p pos : Pos} {e : Expr} {es : List Expr} {fa : AM}
theorem spM_of {G : Gx} {m : Ml} {H : Hp} {hp : MH} {xs : List T} {vs : List V} {a : Addr} {fd : FuncData} {ps : List Str} (rel : Rel G m H hp) (rs : Rs G m H xs vs) {Q : VK} {E : XK} (p : Pst G m H (f xs hp) (fun z m' _ H' => ∀ u, R G m' H' z u → Q u H') E) (hn : xs.length = n) : spM G n f vs H Q E :=
  ⟨m, hp, xs, rel, rs, hn, p⟩
/-- f's mirror where n arguments are given -/
def arg (n : Nat) (f : FM) : FM := fun xs h => if xs.length = n then f xs h else .bad
theorem me_call (O : Own X.prog X.w X.K X.mg X.base cl k x n f) (hr : Room k X.A) (tk : Takes X W) (ha : MA X cl W (e :: es) fa) (hg : Gl X x := by rfl) (hdb : (x == ("__debug__" : Str)) = false := by decide) (he : starEach (e :: es) X.env = (false, eval e X.env) :: starEach es X.env := by rfl) (hpl : (backTo pos (starEach es X.env)).any (·.1) = false := by rfl) :
    ME X cl W (.Call (.Name x p) (e :: es) [] pos) (emCall (arg n f) fa) := by
  obtain ⟨a, fd, ps, F, hm, hk, hb⟩ := O.ex
  refine ⟨PE.imp (pe_callSD (E := WE W) F hr hg hm hk hb .nil (fun σ => passAt tk σ) ha.pa hdb he hpl) fun σ H Q h => ?_⟩
  obtain ⟨r, hp, m, re, rel, p⟩ := args_ok h
  refine ⟨r, hp, m, re, rel, p.mono (fun xs m1 h1 H1 s q vs rv => ?_) fun _ _ _ z => z⟩
  obtain ⟨m2, hp2, ys, rel2, rs, p2⟩ := q vs rv
  unfold arg at p2
  split at p2
  · rename_i hl
    rw [List.append_nil]
    exact ⟨m2, hp2, ys, rel2, rs, hl, p2⟩
  · exact p2.elim
theorem me_call0 (O : Own X.prog X.w X.K X.mg X.base cl k x 0 f) (hr : Room k X.A) (tk : Takes X W) (hg : Gl X x := by rfl) (hdb : (x == ("__debug__" : Str)) = false := by decide) : ME X cl W (.Call (.Name x p) [] [] pos) (emCall f an) := by
  obtain ⟨a, fd, ps, F, hm, hk, hb⟩ := O.ex
  refine ⟨⟨fun pins s σ H Q I h => ?_⟩⟩
  refine wpAny_Call_Name_kw (ld_glob I hg hm ?_ hdb)
  refine PySem.W.callWith_K0 I.kIn hk (run_fnSD (us := []) (vs := []) (E := WE W) F hr hb .nil (passAt tk σ) I .nil ?_)
  obtain ⟨r, hp, m, re, rel, p⟩ := args_ok h
  obtain ⟨m2, hp2, ys, rel2, rs, p2⟩ := p.ok_ rel [] Rs.nil
  have hl : ys = [] := List.eq_nil_of_length_eq_zero (Rs.len rs)
  subst hl
  exact ⟨m2, hp2, [], rel2, rs, rfl, p2⟩
/-- the values of the keywords -/
structure MK (X : Cx) (cl : Cln) (W : WX) (kws : List Keyword) (f : AM) : Prop where
  pk : PK X kws (tMA (gx X cl) W f)
variable {kws : List Keyword} {g : AM} {nm : Option Str} {kpos : Pos} {ff : EM}
theorem PK.imp {t t' : TA} (h : PK X kws t) (i : ∀ σ H Q, t' σ H Q → t σ H Q) : PK X kws t' := ⟨fun pos pins s σ H Q I q => h.run pos pins s σ H Q I (i σ H Q q)⟩
theorem mk_n : MK X cl W [] an := ⟨PK.imp pk_nil fun σ H Q h => by
  obtain ⟨r, hp, m, re, rel, p⟩ := h
  exact p.ok_ rel [] Rs.nil⟩
theorem mk_c (ha : ME X cl W e ff) (hr : MK X cl W kws g) : MK X cl W (⟨nm, e, kpos⟩ :: kws) (ac ff g) := by
  refine ⟨PK.imp (pk_cons ha.pe hr.pk) fun σ H Q h => ?_⟩
  obtain ⟨r, hp, m, re, rel, p⟩ := h
  refine ⟨r, hp, m, re, rel, p.bind.mono (fun x m1 h1 H1 s1 q v rv => ?_) fun _ _ _ z => z⟩
  refine ⟨r, h1, m1, re.step s1, q.1, q.2.bind.mono (fun xs m2 h2 H2 s2 q2 vs rvs => ?_) fun _ _ _ z => z⟩
  exact q2.2.ok_ q2.1 _ (Rs.cons (R.step s2 _ _ rv) rvs)
theorem run_kat {ps ks : List Str} {sp : Sp} {a : Addr} {fd : FuncData} {E : XK} {gu : List Value → List Value → List Value} {gV : List V → List V → List V} {pins : List (Addr × Obj)} {σ : L2.St} {H : Hp} {s : Shared} {Q : VK} {us ws : List Value} {vs zs : List V}
    (F : FnOk X.prog X.w X.K X.mg X.base (L2.CX X.prog X.w) k a fd ps sp) (hr : Room k X.A) (hb : KBn X.K fd ps n ks gu gV) (hx : PassesAt (L2.CX X.prog X.w) X σ E)
    (I : Inv X pins σ H s) (r : Vals vs us) (rz : Vals zs ws) (l1 : vs.length = n) (l2 : zs.length = ks.length) (h : sp (gV vs zs) H Q E) : wpAny (model X.prog X.w) X.A (call (.ref a) us (ks.zip ws)) (EP X pins σ Q) X.xe s := by
  have r2 := hb.rel r rz
  refine wpAny_call (codeAny_mono (F.run X.A X.stack s H ⟨us, ks.zip ws⟩ (gu us ws) (gV vs zs) Q E hr I.env0 (hb.to s us ws I.kIn (r.length.symm.trans l1) (rz.length.symm.trans l2)) r2 h) fun o s' hq => ?_)
  cases o with
  | error ex => exact hx pins H s ex s' I hq
  | ok fl =>
    cases fl with
    | ret u => exact I.after hq
    | next => exact False.elim hq
    | brk => exact False.elim hq
    | cont => exact False.elim hq
def emCallK (n j : Nat) (o : List T → List T → List T) (f : FM) (g gk : AM) : EM := fun r h => (g r h).bind fun xs h1 => (gk r h1).bind fun zs h2 => if xs.length = n ∧ zs.length = j then f (o xs zs) h2 else .bad
theorem kcall_ok {n nn : Nat} {ks : List Str} {o : List T → List T → List T} {gV : List V → List V → List V} {gk : AM} (hT : ∀ m H xs zs vs ws, Rs (gx X cl) m H xs vs → Rs (gx X cl) m H zs ws → xs.length = n → zs.length = ks.length → Rs (gx X cl) m H (o xs zs) (gV vs ws))
    {σ : L2.St} {H : Hp} {Q : VK} (h : tM (gx X cl) W (emCallK n ks.length o (arg nn f) g gk) σ H Q) :
    tMA (gx X cl) W g σ H fun vs H1 => tMA (gx X cl) W gk σ H1 fun zs H2 => vs.length = n ∧ zs.length = ks.length ∧ spM (gx X cl) nn f (gV vs zs) H2 Q (WE W σ) := by
  obtain ⟨r, hp, m, re, rel, p⟩ := h
  refine ⟨r, hp, m, re, rel, p.bind.mono (fun xs m1 h1 H1 s1 q vs rv => ?_) fun _ _ _ z => z⟩
  refine ⟨r, h1, m1, re.step s1, q.1, q.2.bind.mono (fun zs m2 h2 H2 s2 q2 ws rws => ?_) fun _ _ _ z => z⟩
  obtain ⟨rel2, p2⟩ := q2
  split at p2
  · rename_i hl
    have rs := Rs.step s2 _ _ rv
    refine ⟨by rw [← Rs.len rs]; exact hl.1, by rw [← Rs.len rws]; exact hl.2, ?_⟩
    unfold arg at p2
    split at p2
    · rename_i h3
      exact ⟨m2, h2, _, rel2, hT _ _ _ _ _ _ rs rws hl.1 hl.2, h3, p2⟩
    · exact p2.elim
  · exact p2.elim
theorem me_callK {nn : Nat} {ks : List Str} {o : List T → List T → List T} {gk : AM} (O : OwnK X.prog X.w X.K X.mg X.base cl k x n nn ks o f) (hr : Room k X.A) (tk : Takes X W) (ha : MA X cl W (e :: es) g) (hkw : MK X cl W kws gk) (hg : Gl X x := by rfl) (hall : (backToKw pos (keywordEach kws X.env)).all (·.1.isSome) = true := by rfl) (hks : (backToKw pos (keywordEach kws X.env)).filterMap (·.1) = ks := by rfl)
    (hdb : (x == ("__debug__" : Str)) = false := by decide) (he : starEach (e :: es) X.env = (false, eval e X.env) :: starEach es X.env := by rfl)
    (hpl : ((backTo pos (starEach (e :: es) X.env)).any (·.1) || (backToKw pos (keywordEach kws X.env)).any (·.1.isNone)) = false := by rfl) :
    ME X cl W (.Call (.Name x p) (e :: es) kws pos) (emCallK n ks.length o (arg nn f) g gk) := by
  obtain ⟨a, fd, ps, gu, gV, F, hm, hk, hb, hT⟩ := O.ex
  refine ⟨⟨fun pins s σ H Q I h => ?_⟩⟩
  have h := kcall_ok hT h
  refine wpAny_Call_Name_kw (ld_glob I hg hm ?_ hdb)
  refine PySem.W.callWith_KW (h₀ := X.base) I.ok.mod.kin hk hall (thn (ha.pa.run pos pins s σ H _ I h) fun us s1 ⟨vs, H1, I1, r, q⟩ => ?_) hpl he
  refine thn (hkw.pk.run pos pins s1 σ H1 _ I1 q) fun ws s2 ⟨zs, H2, I2, rz, l1, l2, q2⟩ => ⟨I2.kIn, ?_⟩
  rw [hks]
  exact run_kat F hr hb (passAt tk σ) I2 r rz l1 l2 q2
theorem me_callK0 {nn : Nat} {ks : List Str} {o : List T → List T → List T} {gk : AM} (O : OwnK X.prog X.w X.K X.mg X.base cl k x 0 nn ks o f) (hr : Room k X.A) (tk : Takes X W) (hkw : MK X cl W kws gk) (hg : Gl X x := by rfl) (hall : (backToKw pos (keywordEach kws X.env)).all (·.1.isSome) = true := by rfl) (hks : (backToKw pos (keywordEach kws X.env)).filterMap (·.1) = ks := by rfl)
    (hdb : (x == ("__debug__" : Str)) = false := by decide) (hpl : ((backTo pos (starEach [] X.env)).any (·.1) || (backToKw pos (keywordEach kws X.env)).any (·.1.isNone)) = false := by rfl) :
    ME X cl W (.Call (.Name x p) [] kws pos) (emCallK 0 ks.length o (arg nn f) an gk) := by
  obtain ⟨a, fd, ps, gu, gV, F, hm, hk, hb, hT⟩ := O.ex
  refine ⟨⟨fun pins s σ H Q I h => ?_⟩⟩
  have h := kcall_ok hT h
  refine wpAny_Call_Name_kw (ld_glob I hg hm ?_ hdb)
  refine PySem.W.callWith_KW0 (h₀ := X.base) I.ok.mod.kin hk hall ?_ hpl
  obtain ⟨r, hp, m, re, rel, p⟩ := h
  obtain hh := p.ok_ rel [] Rs.nil
  refine thn (hkw.pk.run pos pins s σ H _ I hh) fun ws s2 ⟨zs, H2, I2, rz, l1, l2, q2⟩ => ⟨I2.kIn, ?_⟩
  rw [hks]
  exact run_kat (vs := []) (us := []) F hr hb (passAt tk σ) I2 .nil rz l1 l2 q2

/-! ### methods of one's own classes -/
/-- the class by name whose method m is f; n: arguments without the first -/
structure Mtd (P : Program) (w : World) (K : PySem.W.Frag) (mg : Str → Option Value) (base : Heap) (cl : Cln) (k : Nat) (c : Str) (mn : Str) (n : Nat) (f : FM) : Prop where
  ex : ∀ C, cl c = some C → ∃ (a : Addr) (fd : FuncData) (ps : List Str), FnOk P w K mg base (L2.CX P w) k a fd ps (spM ⟨P, w, K, cl⟩ (n + 1) f) ∧ Cls K C ∧ Meth K C mn a ∧ Binds K fd ps []
/-- an object's class and its attributes -/
def obOf (h : MH) : T → Option (Str × List (Str × T))
  | .obj c ns vs => some (c, ns.zip vs)
  | .loc n => (match h[n]? with
    | some (.ins c fs) => some (c, fs)
    | _ => none)
  | _ => none
theorem obOf_ok {G : Gx} {m : Ml} {H : Hp} {hp : MH} {x : T} {v : V} {c : Str} {fs : List (Str × T)} (rel : Rel G m H hp) (h : R G m H x v) (e : obOf hp x = some (c, fs)) : ∃ a C dx q, v = .ref a ∧ G.cl c = some C ∧ H a = some (.ins C dx q) ∧ Rk G m H fs q := by
  cases x with
  | obj c' ns vs =>
    cases e
    simp only [R] at h
    obtain ⟨a, C, dx, us, rfl, hC, f, hl, rs⟩ := h
    exact ⟨a, C, dx, _, rfl, hC, f.1, rk_zip hl rs⟩
  | loc n =>
    simp only [obOf] at e
    split at e
    · rename_i c' fs' ec
      cases e
      obtain ⟨a, e1, rfl, C, dx, qv, hC, hH, rk⟩ := rel.cell h ec
      exact ⟨a, C, dx, qv, rfl, hC, hH, rk⟩
    · cases e
  | _ => cases e
theorem lookup_none {β γ : Type} {f : Str} : ∀ {a : List (Str × β)} {b : List (Str × γ)}, a.map (·.1) = b.map (·.1) → TW.lk f a = none → b.lookup f = none
  | [], [], _, _ => rfl
  | [], _ :: _, h, _ => by simp at h
  | (k, x) :: r, b, h, e => by
    cases b with
    | nil => simp at h
    | cons q t =>
      obtain ⟨k', y⟩ := q
      simp only [List.map_cons, List.cons.injEq] at h
      obtain ⟨rfl, h⟩ := h
      rw [lk_lookup]
      simp only [TW.lk] at e ⊢
      split at e
      · cases e
      · rename_i hk
        rw [if_neg hk, ← lk_lookup]
        exact lookup_none h e
/-- o.m(..): ms the classes it may be of, each with its method's mirror -/
def emMeth (ms : List (Str × FM)) (mn : Str) (n : Nat) (f : EM) (g : AM) : EM := fun r h => (f r h).bind fun x h1 => match obOf h1 x with
  | some (c, fs) => if TW.lk mn fs = none then (match TW.lk c ms with
    | some F => (g r h1).bind fun xs h2 => if xs.length = n then F (x :: xs) h2 else .bad
    | none => .bad) else .bad
  | none => .bad
theorem lk_mem {β : Type} {f : Str} {z : β} : ∀ {l : List (Str × β)}, TW.lk f l = some z → (f, z) ∈ l
  | (k, y) :: r, e => by
    simp only [TW.lk] at e
    split at e
    · rename_i hk
      cases e
      rw [hk]
      exact List.mem_cons_self
    · exact List.mem_cons_of_mem _ (lk_mem e)
theorem meth_ok {ms : List (Str × FM)} {mn : Str} {n k : Nat} {ff : EM} {g : AM} (hM : ∀ q ∈ ms, Mtd X.prog X.w X.K X.mg X.base cl k q.1 mn n q.2) {σ : L2.St} {H : Hp} {Q : VK} (h : tM (gx X cl) W (emMeth ms mn n ff g) σ H Q) :
    tM (gx X cl) W ff σ H fun v H1 => ∃ a C dx q fa fd ps F, v = .ref a ∧ H1 a = some (.ins C dx q) ∧ Cls X.K C ∧ Meth X.K C mn fa ∧ q.lookup mn = none ∧ FnOk X.prog X.w X.K X.mg X.base (L2.CX X.prog X.w) k fa fd ps (spM (gx X cl) (n + 1) F) ∧ Binds X.K fd ps [] ∧
      tMA (gx X cl) W g σ H1 fun vs H2 => spM (gx X cl) (n + 1) F (.ref a :: vs) H2 Q (WE W σ) := by
  obtain ⟨r, hp, m, re, rel, p⟩ := h
  refine ⟨r, hp, m, re, rel, p.bind.mono (fun x m1 h1 H1 s1 q v rv => ?_) fun _ _ _ z => z⟩
  obtain ⟨rel1, p1⟩ := q
  split at p1
  · rename_i c fs eo
    obtain ⟨a, C, dx, qq, rfl, hC, hH, rk⟩ := obOf_ok rel1 rv eo
    split at p1
    · rename_i hn
      split at p1
      · rename_i F eF
        obtain ⟨fa, fd, ps, FO, hcl, hm, hb⟩ := (hM _ (lk_mem eF)).ex C hC
        refine ⟨a, C, dx, qq, fa, fd, ps, F, rfl, hH, hcl, hm, lookup_none rk.1 hn, FO, hb, r, h1, m1, re.step s1, rel1, p1.bind.mono (fun xs m2 h2 H2 s2 q2 vs rvs => ?_) fun _ _ _ z => z⟩
        obtain ⟨rel2, p2⟩ := q2
        split at p2
        · rename_i hl
          exact ⟨m2, h2, _, rel2, Rs.cons (R.step s2 _ _ rv) rvs, by simp [hl], p2⟩
        · exact p2.elim
      · exact p1.elim
    · exact p1.elim
  · exact p1.elim
theorem me_meth {ms : List (Str × FM)} {mn : Str} {n k : Nat} {o : Expr} {apos : Pos} {pl : Sem Bool} (hM : ∀ q ∈ ms, Mtd X.prog X.w X.K X.mg X.base cl k q.1 mn n q.2) (hr : Room k X.A) (tk : Takes X W) (ho : ME X cl W o ff) (ha : MA X cl W (e :: es) g)
    (hst : starEach (e :: es) X.env = (false, eval e X.env) :: starEach es X.env := by rfl) (hpl : (backTo pos (starEach es X.env)).any (·.1) = false := by rfl)
    (ht : eval (.Call (.Attribute o mn apos) (e :: es) [] pos) X.env = (do
      let ov ← eval o X.env
      standAt apos.atName
      let (f, first) ← holding [ov] (getMethod ov mn pl)
      callWith pos f first (backTo pos (starEach (e :: es) X.env)) (backToKw pos (keywordEach [] X.env))) := by rfl) : ME X cl W (.Call (.Attribute o mn apos) (e :: es) [] pos) (emMeth ms mn n ff g) := by
  refine ⟨⟨fun pins s σ H Q I h => ?_⟩⟩
  have h := meth_ok hM h
  refine PySem.W.methodCall_KW (pl := pl) (thn (ho.pe.run pins s σ H _ I h) fun u s1 ⟨x, H1, I1, rx, a, C, dx, q, fa, fd, ps, F, ex, ea, c, hm, l, FO, hb, q3⟩ => ?_) ht
  subst ex
  obtain rfl : u = Value.ref a := rx
  refine getmeth_ok I1 ea c hm l ?_
  refine PySem.W.callWith_K (first := [.ref a]) (h₀ := X.base) I.ok.mod.kin hm.kp (thn (ha.pa.run pos pins s1 σ H1 _ I1 q3) fun us s2 ⟨vs, H2, I2, r, q2⟩ => ⟨I2.kIn, ?_⟩) hst hpl
  exact run_fnSD (us := .ref a :: us) (vs := .ref a :: vs) (dvs := []) (E := WE W) FO hr hb .nil (passAt tk σ) I2 (.cons rfl r) (by rw [List.append_nil]; exact q2)
theorem me_meth0 {ms : List (Str × FM)} {mn : Str} {k : Nat} {o : Expr} {apos : Pos} {pl : Sem Bool} (hM : ∀ q ∈ ms, Mtd X.prog X.w X.K X.mg X.base cl k q.1 mn 0 q.2) (hr : Room k X.A) (tk : Takes X W) (ho : ME X cl W o ff)
    (ht : eval (.Call (.Attribute o mn apos) [] [] pos) X.env = (do
      let ov ← eval o X.env
      standAt apos.atName
      let (f, first) ← holding [ov] (getMethod ov mn pl)
      callWith pos f first (backTo pos (starEach [] X.env)) (backToKw pos (keywordEach [] X.env))) := by rfl) : ME X cl W (.Call (.Attribute o mn apos) [] [] pos) (emMeth ms mn 0 ff an) := by
  refine ⟨⟨fun pins s σ H Q I h => ?_⟩⟩
  have h := meth_ok hM h
  refine PySem.W.methodCall_KW (pl := pl) (thn (ho.pe.run pins s σ H _ I h) fun u s1 ⟨x, H1, I1, rx, a, C, dx, q, fa, fd, ps, F, ex, ea, c, hm, l, FO, hb, q3⟩ => ?_) ht
  subst ex
  obtain rfl : u = Value.ref a := rx
  refine getmeth_ok I1 ea c hm l ?_
  obtain ⟨r, hp, m, re, rel, p⟩ := q3
  exact PySem.W.callWith_K0 (first := [.ref a]) I1.kIn hm.kp (run_fnSD (us := [.ref a]) (vs := [.ref a]) (dvs := []) (E := WE W) FO hr hb .nil (passAt tk σ) I1 (.cons rfl .nil) (by rw [List.append_nil]; exact p.ok_ rel [] Rs.nil))

/-! ### a new object -/
structure Mkr (P : Program) (w : World) (K : PySem.W.Frag) (mg : Str → Option Value) (base : Heap) (cl : Cln) (k : Nat) (c : Str) (n : Nat) (f : FM) : Prop where
  ex : ∃ (C a : Addr) (fd : FuncData) (ps : List Str), cl c = some C ∧ mg c = some (.ref C) ∧ Mk K C a ∧ FnOk P w K mg base (L2.CX P w) k a fd ps (spM ⟨P, w, K, cl⟩ (n + 1) f) ∧ Binds K fd ps []
/-- C(..), its attributes still to be written: a cell -/
def emMk (c : Str) (n : Nat) (f : FM) (g : AM) : EM := fun r h => (g r h).bind fun xs h1 => if xs.length = n then (f (.loc h1.length :: xs) (h1 ++ [.ins c []])).bind fun v h2 => match v with
  | .non => .ok (.loc h1.length) h2
  | _ => .bad else .bad
theorem run_mkS {ps : List Str} {sp : Sp} {a C : Addr} {fd : FuncData} {E : XK} {pins : List (Addr × Obj)} {σ : L2.St} {H : Hp} {s : Shared} {Q : VK} {us : List Value} {vs : List V} (M : Mk X.K C a) (F : FnOk X.prog X.w X.K X.mg X.base (L2.CX X.prog X.w) k a fd ps sp) (hr : Room (k + 1) X.A) (hb : Binds X.K fd ps [])
    (hx : PassesAt (L2.CX X.prog X.w) X σ E) (I : Inv X pins σ H s) (r : Vals vs us)
    (h : ∀ x dx, H x = none → H dx = none → dx ≠ x → sp (.ref x :: vs) (upd (upd H dx (.own x)) x (.ins C dx [])) (fun v H2 => v = .non ∧ Q (.ref x) H2) E) :
    wpAny (model X.prog X.w) X.A (call (.ref C) us) (EP X pins σ Q) X.xe s := by
  have hq := h (s.heap.objs.size + 1) s.heap.objs.size (I.hok.fresh (Nat.le_succ _)) (I.hok.fresh (Nat.le_refl _)) (Nat.ne_of_lt (Nat.lt_succ_self _))
  have J := Inv.made (C := C) I
  have rr : Vals (V.ref (s.heap.objs.size + 1) :: vs) (Value.ref (s.heap.objs.size + 1) :: us) := .cons rfl r
  have hl : ((Value.ref (s.heap.objs.size + 1) :: us) ++ []).length = ps.length := by
    rw [List.append_nil, ← rr.length, F.len _ _ _ _ hq]
  have bb := hb _ (Value.ref (s.heap.objs.size + 1) :: us) J.kIn hl
  rw [List.append_nil] at bb
  refine wpAny_call (make_map (f := a) I.kIn M.makes M.init (beq_iff_eq.mp M.fn) (codeAny_mono (F.run _ X.stack _ _ ⟨Value.ref (s.heap.objs.size + 1) :: us, []⟩ (Value.ref (s.heap.objs.size + 1) :: us) _ _ E (hr.make C us [])
    (J.env0.make C us []) bb rr hq) fun o s' hq' => ?_))
  cases o with
  | error ex => exact hx pins _ _ ex s' J hq'
  | ok fl =>
    cases fl with
    | ret u =>
      obtain ⟨v, H', I3, rv, ev, q3⟩ := J.after hq'
      subst ev
      exact ⟨rv, ⟨V.ref (s.heap.objs.size + 1), H', I3, rfl, q3⟩⟩
    | next => exact False.elim hq'
    | brk => exact False.elim hq'
    | cont => exact False.elim hq'
theorem me_make {c : Str} (O : Mkr X.prog X.w X.K X.mg X.base cl k c n f) (hr : Room (k + 1) X.A) (tk : Takes X W) (ha : MA X cl W (e :: es) g) (hg : Gl X c := by rfl) (hdb : (c == ("__debug__" : Str)) = false := by decide) (he : starEach (e :: es) X.env = (false, eval e X.env) :: starEach es X.env := by rfl) (hpl : (backTo pos (starEach es X.env)).any (·.1) = false := by rfl) :
    ME X cl W (.Call (.Name c p) (e :: es) [] pos) (emMk c n f g) := by
  obtain ⟨C, a, fd, ps, hC, hm, M, F, hb⟩ := O.ex
  refine ⟨⟨fun pins s σ H Q I h => ?_⟩⟩
  have h : tMA (gx X cl) W g σ H fun vs H1 => ∀ x dx, H1 x = none → H1 dx = none → dx ≠ x → spM (gx X cl) (n + 1) f (.ref x :: vs) (upd (upd H1 dx (.own x)) x (.ins C dx [])) (fun v H2 => v = .non ∧ Q (.ref x) H2) (WE W σ) := by
    obtain ⟨r, hp, m, re, rel, p⟩ := args_ok h
    refine ⟨r, hp, m, re, rel, p.mono (fun xs m1 h1 H1 s q vs rv x dx hx hdx hne => ?_) fun _ _ _ z => z⟩
    obtain ⟨m2, hp2, ys, rel2, rs, p2⟩ := q vs rv
    split at p2
    · rename_i hl
      have relA : Rel (gx X cl) m2 (upd H1 dx (.own x)) hp2 := rel2.new hdx
      have hx2 : upd H1 dx (.own x) x = none := by rw [upd_ne (Ne.symm hne)]; exact hx
      have sA : Stp m2 m2 H1 (upd H1 dx (.own x)) := Stp.new hdx
      have sB : Stp m2 (m2.add x) (upd H1 dx (.own x)) (upd (upd H1 dx (.own x)) x (.ins C dx [])) := Stp.newc hx2
      have relB : Rel (gx X cl) (m2.add x) (upd (upd H1 dx (.own x)) x (.ins C dx [])) (hp2 ++ [.ins c []]) := relA.newc hx2 ⟨C, dx, [], hC, upd_same, Rk.nil_iff.mpr rfl⟩
      have rx : R (gx X cl) (m2.add x) (upd (upd H1 dx (.own x)) x (.ins C dx [])) (.loc hp2.length) (.ref x) := by
        simp only [R]
        refine ⟨x, ?_, rfl⟩
        show (m2.c ++ [x])[_]? = _
        rw [← rel2.len, List.getElem?_append_right (Nat.le_refl _)]
        simp
      refine ⟨m2.add x, hp2 ++ [.ins c []], .loc hp2.length :: ys, relB, Rs.cons rx (Rs.step (sA.trans sB) _ _ rs), by simp [hl], (p2.step (sA.trans sB)).bind.mono (fun v m3 h3 H3 s3 q3 u ru => ?_) fun _ _ _ z => z⟩
      obtain ⟨rel3, p3⟩ := q3
      split at p3
      · simp only [R] at ru
        exact ⟨ru, p3.ok_ rel3 _ (R.step s3 _ _ rx)⟩
      · exact p3.elim
    · exact p2.elim
  refine wpAny_Call_Name_kw (ld_glob I hg hm ?_ hdb)
  refine PySem.W.callWith_K (h₀ := X.base) I.ok.mod.kin M.kp (thn (ha.pa.run pos pins s σ H _ I h) fun us s1 ⟨vs, H1, I1, r, q⟩ => ⟨I1.kIn, ?_⟩) he hpl
  exact run_mkS M F hr hb (passAt tk σ) I1 r q
/-- an expression whose new cells are forgotten -/
def regE (f : EM) : EM := fun r h => endR h (f r h)
theorem me_reg {a : Expr} (ha : ME X cl W a ff) : ME X cl W a (regE ff) := ⟨PE.imp ha.pe fun σ H Q h => by
  obtain ⟨r, hp, m, re, rel, p⟩ := h
  exact ⟨r, hp, m, re, rel, p.region rel⟩⟩
end
end TW
namespace TW
open PySem PySem.Spec L2

/-! ### built-in calls -/
def NoXF (g : FM) : Prop := ∀ xs h c fs h', g xs h ≠ .exc c fs h'
section
variable {X : Cx} {cl : Cln} {W : WX} {x : Str} {p pos : Pos} {e : Expr} {es : List Expr} {fa : AM} {g : FM}
theorem cb_ok {σ : L2.St} {H : Hp} {Q : VK} (hn : NoXF g) (h : tM (gx X cl) W (emCall g fa) σ H Q) : tMA (gx X cl) W fa σ H fun vs H1 => rMC (gx X cl) g vs H1 Q := by
  obtain ⟨r, hp, m, re, rel, p⟩ := args_ok h
  refine ⟨r, hp, m, re, rel, p.mono (fun xs m1 h1 H1 s q vs rv => ?_) fun _ _ _ z => z⟩
  obtain ⟨m2, hp2, ys, rel2, rs, p2⟩ := q vs rv
  exact ⟨m2, hp2, ys, rel2, rs, p2.nox (hn _ _)⟩
theorem me_cB {id : String} (hc : CallR X (.builtin id) (rMC (gx X cl) g)) (hn : NoXF g) (hv : bootBuiltins x = some (.builtin id)) (ha : MA X cl W (e :: es) fa) (hm : X.mg x = none) (hg : Gl X x := by rfl) (hn2 : x ≠ "__name__" := by decide) (hdb : (x == ("__debug__" : Str)) = false := by decide)
    (he : starEach (e :: es) X.env = (false, eval e X.env) :: starEach es X.env := by rfl) (hpl : (backTo pos (starEach es X.env)).any (·.1) = false := by rfl) : ME X cl W (.Call (.Name x p) (e :: es) [] pos) (emCall g fa) :=
  ⟨PE.imp (pe_callB hc hg hm hv ha.pa hn2 hdb he hpl) fun σ H Q h => cb_ok hn h⟩
theorem me_cT {id : String} (hc : CallR X (.type id) (rMC (gx X cl) g)) (hn : NoXF g) (hv : bootBuiltins x = some (.type id)) (ha : MA X cl W (e :: es) fa) (hm : X.mg x = none) (hg : Gl X x := by rfl) (hn2 : x ≠ "__name__" := by decide) (hdb : (x == ("__debug__" : Str)) = false := by decide)
    (he : starEach (e :: es) X.env = (false, eval e X.env) :: starEach es X.env := by rfl) (hpl : (backTo pos (starEach es X.env)).any (·.1) = false := by rfl) : ME X cl W (.Call (.Name x p) (e :: es) [] pos) (emCall g fa) :=
  ⟨PE.imp (pe_callTy hc hg hm hv ha.pa hn2 hdb he hpl) fun σ H Q h => cb_ok hn h⟩
end
/-- one argument -/
def on1 (f : T → MH → Res T) : FM := fun xs h => match xs with
  | [x] => f x h
  | _ => .bad
section
variable {G : Gx} {m : Ml} {H : Hp} {hp : MH}
theorem on1_ok {f : T → MH → Res T} {xs : List T} {vs : List V} {Q : T → Ml → MH → Hp → Prop} {W : XK} (rs : Rs G m H xs vs) (p : Pst G m H (on1 f xs hp) Q W) : ∃ x v, vs = [v] ∧ R G m H x v ∧ Pst G m H (f x hp) Q W := by
  unfold on1 at p
  split at p
  · obtain ⟨v, t, rfl, h2, h3⟩ := Rs.cons_iff.mp rs
    obtain rfl := Rs.nil_iff.mp h3
    exact ⟨_, v, rfl, h2, p⟩
  · exact p.elim
theorem on1_nox {f : T → MH → Res T} (h : ∀ x hp c fs h', f x hp ≠ .exc c fs h') : NoXF (on1 f) := fun xs hp c fs h' e => by
  unfold on1 at e
  split at e
  · exact h _ _ _ _ _ e
  · cases e
/-- ints, bools -/
def inOf : T → Option Int
  | .int i => some i
  | _ => none
def blOf : T → Option Bool
  | .bl b => some b
  | _ => none
theorem ints_ok : ∀ {xs : List T} {vs : List V} {ns : List Int}, Rs G m H xs vs → mapO inOf xs = some ns → vs = ns.map V.int
  | [], vs, ns, rs, e => by cases e; rw [Rs.nil_iff.mp rs]; rfl
  | x :: xs, vs, ns, rs, e => by
    obtain ⟨v, r, rfl, h1, h2⟩ := Rs.cons_iff.mp rs
    obtain ⟨y, ys, e1, e2, rfl⟩ := mapO_some e
    cases x with
    | int i =>
      cases e1
      simp only [R] at h1
      rw [h1, ints_ok h2 e2]
      rfl
    | _ => cases e1
theorem bls_ok : ∀ {xs : List T} {vs : List V} {ns : List Bool}, Rs G m H xs vs → mapO blOf xs = some ns → vs = ns.map V.bl
  | [], vs, ns, rs, e => by cases e; rw [Rs.nil_iff.mp rs]; rfl
  | x :: xs, vs, ns, rs, e => by
    obtain ⟨v, r, rfl, h1, h2⟩ := Rs.cons_iff.mp rs
    obtain ⟨y, ys, e1, e2, rfl⟩ := mapO_some e
    cases x with
    | bl i =>
      cases e1
      simp only [R] at h1
      rw [h1, bls_ok h2 e2]
      rfl
    | _ => cases e1
theorem rs_ints : ∀ (ns : List Int), Rs G m H (ns.map T.int) (ns.map V.int)
  | [] => Rs.nil
  | n :: ns => Rs.cons (by simp only [R]) (rs_ints ns)
end
/-! len -/
def lnOf (h : MH) (x : T) : Option Nat := match lsOf h x with
  | some xs => some xs.length
  | none => (match tpOf x with
    | some xs => some xs.length
    | none => (match x with
      | .str s => if s.length ≤ sizeLine then some s.length else none
      | _ => (match dkOf h x with
        | some kvs => some kvs.length
        | none => none)))
def lenF : FM := on1 fun x h => match lnOf h x with
  | some n => .ok (.int n) h
  | none => .bad
theorem n_len : NoXF lenF := on1_nox fun x h c fs h' e => by
  split at e <;> cases e
section
variable {X : Cx} {cl : Cln}
theorem CallR.or {f : Value} {r r' : List V → Hp → VK → Prop} (h : CallR X f r) (h' : CallR X f r') : CallR X f (fun xs H Q => r xs H Q ∨ r' xs H Q) := fun pins s σ H xs us Q I rx q => by
  rcases q with q | q
  · exact h pins s σ H xs us Q I rx q
  · exact h' pins s σ H xs us Q I rx q
theorem c_len : CallR X (.builtin "len") (rMC (gx X cl) lenF) := by
  intro pins s σ H vs us Q I rv q
  obtain ⟨m, hp, xs, rel, rs, p⟩ := q
  obtain ⟨x, v, rfl, rx, p⟩ := on1_ok rs p
  split at p
  · rename_i n en
    have fin : Q (.int n) H := p.ok_ rel _ (by simp only [R])
    unfold lnOf at en
    split at en
    · rename_i xs e1
      cases en
      obtain ⟨a, vs, rfl, sq, rs⟩ := lsOf_ok rel rx e1
      exact call_len pins s σ H _ us Q I rv ⟨_, _, rfl, .inl ⟨vs, sq, Rs.len rs⟩, fin⟩
    · split at en
      · rename_i xs e1
        cases en
        obtain ⟨a, vs, rfl, sq, rs⟩ := tpOf_ok rx e1
        exact call_len pins s σ H _ us Q I rv ⟨_, _, rfl, .inr ⟨vs, sq, Rs.len rs⟩, fin⟩
      · split at en
        · split at en
          · rename_i hl
            cases en
            simp only [R] at rx
            subst rx
            exact call_len pins s σ H _ us Q I rv ⟨_, _, rfl, ⟨hl, rfl⟩, fin⟩
          · cases en
        · split at en
          · rename_i kvs ek
            cases en
            obtain ⟨a, q, rfl, rd, rk⟩ := dkOf_ok rel rx ek
            obtain ⟨u, rfl, ru⟩ := vals1 rv
            cases ru
            refine d_len I rd fun t s' I' => ⟨.int (q.length : Int), H, I', ⟨t, rfl⟩, ?_⟩
            rw [← rk.len]
            exact fin
          · cases en
  · exact p.elim
/-! int, bool, str of ints -/
def intF : FM := on1 fun x h => match x with
  | .int i => .ok (.int i) h
  | .bl b => .ok (.int (if b = true then 1 else 0)) h
  | _ => .bad
theorem n_int : NoXF intF := on1_nox fun x h c fs h' e => by
  split at e <;> cases e
theorem c_int : CallR X (.type "int") (rMC (gx X cl) intF) := CallR.imp call_int1 fun vs H Q q => by
  obtain ⟨m, hp, xs, rel, rs, p⟩ := q
  obtain ⟨x, v, rfl, rx, p⟩ := on1_ok rs p
  split at p
  · simp only [R] at rx
    exact .inl ⟨_, by rw [rx], p.ok_ rel _ (by simp only [R])⟩
  · simp only [R] at rx
    exact .inr ⟨_, by rw [rx], p.ok_ rel _ (by simp only [R])⟩
  · exact p.elim
def strF : FM := on1 fun x h => match x with
  | .int i => if i.natAbs.log2 < 1920 then .ok (.str (toString i)) h else .bad
  | _ => .bad
theorem n_str : NoXF strF := on1_nox fun x h c fs h' e => by
  split at e
  · split at e <;> cases e
  · cases e
theorem c_str : CallR X (.type "str") (rMC (gx X cl) strF) := CallR.imp call_str_int fun vs H Q q => by
  obtain ⟨m, hp, xs, rel, rs, p⟩ := q
  obtain ⟨x, v, rfl, rx, p⟩ := on1_ok rs p
  split at p
  · simp only [R] at rx
    split at p
    · rename_i hl
      exact ⟨_, by rw [rx], hl, p.ok_ rel _ (by simp only [R])⟩
    · exact p.elim
  · exact p.elim
/-! list, tuple of a list or a tuple -/
def listF (k : List T → MH → Res T) : FM := on1 fun x h => match lsOf h x with
  | some xs => k xs h
  | none => (match tpOf x with
    | some xs => k xs h
    | none => .bad)
theorem n_list {k : List T → MH → Res T} (hk : k = lstK ∨ k = lstL) : NoXF (listF k) := on1_nox fun x h c fs h' e => by
  split at e
  · exact lst_two_nox hk _ _ _ _ _ e
  · split at e
    · exact lst_two_nox hk _ _ _ _ _ e
    · cases e
theorem c_list {k : List T → MH → Res T} (hk : k = lstK ∨ k = lstL) : CallR X (.type "list") (rMC (gx X cl) (listF k)) := CallR.imp call_list_of fun vs H Q q => by
  obtain ⟨m, hp, xs, rel, rs, p⟩ := q
  obtain ⟨x, v, rfl, rx, p⟩ := on1_ok rs p
  split at p
  · rename_i xs e1
    obtain ⟨a, vs, rfl, sq, rs⟩ := lsOf_ok rel rx e1
    exact ⟨a, vs, rfl, .inl sq, (lst_two hk rel rs p).2⟩
  · split at p
    · rename_i xs e1
      obtain ⟨a, vs, rfl, sq, rs⟩ := tpOf_ok rx e1
      exact ⟨a, vs, rfl, .inr sq, (lst_two hk rel rs p).2⟩
    · exact p.elim
def tupF : FM := on1 fun x h => match lsOf h x with
  | some xs => .ok (.tup xs) h
  | none => (match tpOf x with
    | some _ => .ok x h
    | none => .bad)
theorem n_tup : NoXF tupF := on1_nox fun x h c fs h' e => by
  split at e
  · cases e
  · split at e <;> cases e
theorem c_tup : CallR X (.type "tuple") (rMC (gx X cl) tupF) := CallR.imp call_tuple_of fun vs H Q q => by
  obtain ⟨m, hp, xs, rel, rs, p⟩ := q
  obtain ⟨x, v, rfl, rx, p⟩ := on1_ok rs p
  split at p
  · rename_i xs e1
    obtain ⟨a, vs, rfl, sq, rs⟩ := lsOf_ok rel rx e1
    exact ⟨a, vs, rfl, .inl ⟨sq, fun l hl => p m _ (Stp.new hl) (rel.new hl) _ (tup_new rel rs hl)⟩⟩
  · split at p
    · rename_i xs e1
      obtain ⟨a, vs, rfl, sq, rs⟩ := tpOf_ok rx e1
      exact ⟨a, vs, rfl, .inr ⟨sq, p.ok_ rel _ rx⟩⟩
    · exact p.elim
/-! sorted -/
def insI (n : Int) : List Int → List Int
  | [] => [n]
  | k :: ks => if n ≤ k then n :: k :: ks else k :: insI n ks
def sortI : List Int → List Int
  | [] => []
  | n :: ns => insI n (sortI ns)
theorem insI_perm (n : Int) : ∀ ks, (insI n ks).Perm (n :: ks)
  | [] => .refl _
  | k :: ks => by
    unfold insI
    split
    · exact .refl _
    · exact ((insI_perm n ks).cons k).trans (.swap n k ks)
theorem sortI_perm : ∀ ns, (sortI ns).Perm ns
  | [] => .refl _
  | n :: ns => (insI_perm n _).trans ((sortI_perm ns).cons n)
theorem insI_le (n : Int) : ∀ ks, ks.Pairwise (· ≤ ·) → (insI n ks).Pairwise (· ≤ ·)
  | [], _ => by simp [insI]
  | k :: ks, h => by
    unfold insI
    obtain ⟨h1, h2⟩ := List.pairwise_cons.mp h
    split
    · rename_i hk
      refine List.pairwise_cons.mpr ⟨fun y hy => ?_, h⟩
      rcases List.mem_cons.mp hy with rfl | hy
      · exact hk
      · exact Int.le_trans hk (h1 y hy)
    · rename_i hk
      refine List.pairwise_cons.mpr ⟨fun y hy => ?_, insI_le n ks h2⟩
      rcases List.mem_cons.mp ((insI_perm n ks).mem_iff.mp hy) with rfl | hy
      · omega
      · exact h1 y hy
theorem sortI_le : ∀ ns, (sortI ns).Pairwise (· ≤ ·)
  | [] => .nil
  | n :: ns => insI_le n _ (sortI_le ns)
theorem sorted_one : ∀ {a b : List Int}, a.Perm b → a.Pairwise (· ≤ ·) → b.Pairwise (· ≤ ·) → a = b
  | [], b, p, _, _ => (p.symm.eq_nil).symm
  | x :: a, [], p, _, _ => absurd p.eq_nil (by simp)
  | x :: a, y :: b, p, h1, h2 => by
    obtain ⟨l1, t1⟩ := List.pairwise_cons.mp h1
    obtain ⟨l2, t2⟩ := List.pairwise_cons.mp h2
    have e : x = y := by
      have m1 : x ∈ y :: b := p.mem_iff.mp List.mem_cons_self
      have m2 : y ∈ x :: a := p.mem_iff.mpr List.mem_cons_self
      rcases List.mem_cons.mp m1 with e | m1
      · exact e
      · rcases List.mem_cons.mp m2 with e | m2
        · exact e.symm
        · exact Int.le_antisymm (l1 y m2) (l2 x m1)
    subst e
    rw [sorted_one (List.Perm.cons_inv p) t1 t2]
theorem sortI_eq {ns ns' : List Int} (p : ns'.Perm ns) (h : ns'.Pairwise (· ≤ ·)) : ns' = sortI ns := sorted_one (p.trans (sortI_perm ns).symm) h (sortI_le ns)
/-- each once -/
def onceI : List Int → List Int
  | [] => []
  | n :: ns => if n ∈ ns then onceI ns else n :: onceI ns
theorem mem_onceI {k : Int} : ∀ {ns : List Int}, k ∈ onceI ns ↔ k ∈ ns
  | [] => by simp [onceI]
  | n :: ns => by
    unfold onceI
    split
    · rename_i hn
      rw [mem_onceI, List.mem_cons]
      constructor
      · exact .inr
      · rintro (rfl | h)
        · exact hn
        · exact h
    · rw [List.mem_cons, List.mem_cons, mem_onceI]
theorem nodup_onceI : ∀ ns : List Int, (onceI ns).Nodup
  | [] => by simp [onceI]
  | n :: ns => by
    unfold onceI
    split
    · exact nodup_onceI ns
    · rename_i hn
      rw [List.nodup_cons]
      exact ⟨fun h => hn (mem_onceI.mp h), nodup_onceI ns⟩
theorem sorted_lt_eq {ns : List Int} {xs : List Int} (h : ns.Pairwise (· < ·)) (hm : ∀ k, k ∈ ns ↔ k ∈ xs) : ns = sortI (onceI xs) := by
  refine sortI_eq ?_ (h.imp fun h => Int.le_of_lt h)
  refine (List.perm_ext_iff_of_nodup (h.imp fun h => Int.ne_of_lt h) (nodup_onceI xs)).mpr fun k => ?_
  rw [hm k, mem_onceI]
/-- collect of a tuple -/
theorem coll_tup {prog : Program} {w : World} {A : Around} {E : Value → Shared → Prop} {s : Shared} {l : Addr} {vs : List Value} {Q : List Value → Shared → Prop} (hl : s.heap.IsTuple l vs.toArray)
    (h : Q vs { s with heap := (s.heap.push (PyProof.Rows.seqObj "list" #[] 0)).update s.heap.objs.size (Obj.mapSeq (· ++ vs.toArray)) }) (hsz : vs.length ≤ sizeLine) :
    wpAny (model prog w) A (collect (.ref l)) Q E s := by
  obtain ⟨o, ho, hc, n, hd⟩ := id hl
  unfold collect
  refine wpAny_bind (wpAny_runValue (codeAny_builtin PyProof.Rows.entry_proto_collect' ?_))
  show wpAny _ _ (do again (.builtin "list.__iadd__" ⟨[← newList [], .ref l], []⟩)) _ _ s
  refine wpAny_bind (wpAny_newList (wpAny_pure ⟨Code.quiet_builtin _ (by decide +kernel), codeAny_builtin PyProof.Rows.entry_list_iadd' ?_⟩))
  show wpAny _ _ (Builtin.List.listExtendWith (.ref s.heap.objs.size) (.ref l) (.ref s.heap.objs.size)) _ _ { s with heap := s.heap.push (PyProof.Rows.seqObj "list" #[] 0) }
  unfold Builtin.List.listExtendWith
  have ho' : (s.heap.push (PyProof.Rows.seqObj "list" #[] 0)).get? l = some o := Heap.get?_push_of_some _ ho
  refine wpAny_bind (wpAny_typeOf (T := "tuple") ⟨o, ho', hc⟩ ?_)
  have ht : (Value.type "tuple" == Value.type "tuple") = true := by rfl
  rw [if_pos (by rw [ht]; simp)]
  refine wpAny_bind (PyProof.Rows.listItems_at ho' hd ?_)
  refine wpAny_bind (PyProof.Rows.listItems_at (xs := #[]) (n := 0) (Heap.get?_push_size _ rfl) rfl ?_)
  rw [if_neg (by simp)]
  refine wpAny_bind (PyProof.Rows.listUpdate_at (xs := #[]) (n := 0) (Heap.get?_push_size _ rfl) rfl ?_ (Nat.zero_le _) (by show (#[] ++ vs.toArray).size ≤ sizeLine + 1; simp only [Array.size_append, List.size_toArray, List.length_nil]; omega))
  refine wpAny_pure ?_
  show wpAny (model prog w) A (do
      let o ← load s.heap.objs.size
      match o.data with
      | .seq xs _ => pure xs.toList
      | _ => unsupported "internal:collect") Q E { s with heap := (s.heap.push (PyProof.Rows.seqObj "list" #[] 0)).update s.heap.objs.size (Obj.mapSeq (· ++ vs.toArray)) }
  refine wpAny_bind (wpAny_load (PyProof.Rows.get?_update_seq (Heap.get?_push_size _ rfl) _) ?_)
  show wpAny _ _ (pure ((#[] : Array Value) ++ vs.toArray).toList) Q E _
  rw [show ((#[] : Array Value) ++ vs.toArray).toList = vs by simp]
  exact wpAny_pure h
theorem kept_upd {h : Heap} {f : Obj → Obj} {o : Obj} : ∀ b u, h.get? b = some u → ((h.push o).update h.objs.size f).get? b = some u := fun b u e => by
  rw [Heap.get?_update_other _ _ (Nat.ne_of_gt (Heap.lt_size e))]
  exact Heap.get?_push_of_some _ e
/-- sorted of what is collected as ints -/
theorem sorted_of {pins : List (Addr × Obj)} {s : Shared} {σ : L2.St} {H : Hp} {Q : VK} {l : Addr} {ns : List Int} (I : Inv X pins σ H s) (hl : ns.length ≤ sizeLine)
    (hcol : ∀ (Q' : List Value → Shared → Prop), (∀ (h' : Heap) (tk : Nat) (us : List Value), (∀ b u, s.heap.get? b = some u → h'.get? b = some u) → Vals (ns.map V.int) us → Q' us { s with heap := h', toks := tk }) → wpAny (model X.prog X.w) X.A.in1 (collect (.ref l)) Q' X.xe s)
    (q : ∀ p, H p = none → Q (.ref p) (upd H p (.lst ((sortI ns).map V.int)))) : wpAny (model X.prog X.w) X.A (call (.builtin "sorted") [.ref l]) (EP X pins σ Q) X.xe s := by
  refine Calls.call_function_entry PyProof.Rows.kind_sorted PyProof.Rows.plain_sorted PyProof.Rows.entry_sorted (PyProof.Rows.args_sorted1 _) ?_
  unfold Builtin.«sorted»
  refine wpAny_bind (m := checkCount "sorted" 1 1 _) (wpAny_pure ?_)
  refine wpAny_bind (hcol _ fun h' tk us kp rv => ?_)
  have hI := rv.ints
  have hz : us.length ≤ sizeLine := by rw [hI.length]; exact hl
  refine wpAny_bind (wpAny_newList ?_ hz)
  have hoL : (h'.push (PyProof.Rows.seqObj "list" us.toArray 0)).get? h'.objs.size = some (PyProof.Rows.seqObj "list" us.toArray 0) := Heap.get?_push_size _ rfl
  refine wpAny_bind (wpAny_holding (PySem.wpAny_call_entry PyProof.Rows.slot_list_sort ⟨_, hoL, rfl⟩ PyProof.Rows.entry_list_sort (PyProof.Rows.list_sort_treeAny hoL hI hz fun out ns' a1 a2 a3 => ⟨_, rfl, ?_⟩) (PyProof.Rows.args_list_sort _)))
  refine wpAny_pure ⟨_, rfl, ?_⟩
  obtain ⟨c, hc⟩ := PyProof.Rows.sortedHeap_at (vs := us) (out := out) hoL
  have e : ns' = sortI ns := sortI_eq a2 a3
  subst e
  have I1 : Inv X pins σ H { s with heap := h', toks := tk } := I.kept kp
  have J : Inv X pins σ (upd H h'.objs.size (.lst ((sortI ns).map V.int))) { s with heap := PyProof.Rows.sortedHeap (h'.push (PyProof.Rows.seqObj "list" us.toArray 0)) h'.objs.size us out, toks := tk } := by
    refine I1.laid (t' := tk) (fun b u g => ?_) (Nat.le_refl _) ⟨by rw [List.length_map, a2.length_eq]; exact hl, out.toList, c, vals_of_ints a1, hc⟩
    have hb := Heap.lt_size g
    rw [PyProof.Rows.sortedHeap_old (Nat.ne_of_lt hb) (by rw [PyProof.Rows.size_push']; exact Nat.lt_succ_of_lt hb)]
    exact Heap.get?_push_of_some _ g
  exact ⟨.ref _, _, J, rfl, q _ (I1.hok.fresh (Nat.le_refl _))⟩
/-- what sorted takes: a list, a tuple, a dict by its keys, a set: all of ints -/
def soOf (h : MH) (x : T) : Option (List Int) := match lsOf h x with
  | some xs => mapO inOf xs
  | none => (match tpOf x with
    | some xs => mapO inOf xs
    | none => (match x with
      | .set ns => if ns.length < 64 then some (onceI ns) else none
      | .loc n => (match h[n]? with
        | some (.set ns) => if ns.length < 64 then some (onceI ns) else none
        | some (.dK kvs) => mapO (fun q : Key × T => match q.1 with
          | .inl i => some i
          | .inr _ => none) kvs
        | _ => none)
      | _ => none))
def sortF (k : List T → MH → Res T) : FM := on1 fun x h => match soOf h x with
  | some ns => k ((sortI ns).map T.int) h
  | none => .bad
theorem n_sort {k : List T → MH → Res T} (hk : k = lstK ∨ k = lstL) : NoXF (sortF k) := on1_nox fun x h c fs h' e => by
  split at e
  · exact lst_two_nox hk _ _ _ _ _ e
  · cases e
theorem sorted_set_ok (hc : X.calm = true) {pins : List (Addr × Obj)} {s : Shared} {σ : L2.St} {H : Hp} {Q : VK} {us : List Value} {a : Addr} {G : Gx} {xs : List Int} (hG : G.w = X.w) (I : Inv X pins σ H s) (rv : Vals [V.ref a] us) (f : FzS G H a xs) (hl : xs.length < 64)
    (q : ∀ p, H p = none → Q (.ref p) (upd H p (.lst ((sortI (onceI xs)).map V.int)))) : wpAny (model X.prog X.w) X.A (call (.builtin "sorted") us) (EP X pins σ Q) X.xe s := by
  obtain ⟨S, n, h1, h2, h3⟩ := f
  rw [hG] at h1
  refine cr_sortedSet hc pins s σ H _ us Q I rv ⟨a, S, n, rfl, h1, by omega, fun ns p l1 l2 l3 hp => ?_⟩
  have e : ns = sortI (onceI xs) := sorted_lt_eq l1 fun k => by rw [l2 k, h2 k, decide_eq_true_eq]
  rw [e]
  exact q p hp
theorem c_sort {k : List T → MH → Res T} (hk : k = lstK ∨ k = lstL) (hc : X.calm = true) : CallR X (.builtin "sorted") (rMC (gx X cl) (sortF k)) := by
  intro pins s σ H vs us Q I rv q
  obtain ⟨m, hp, xs, rel, rs, p⟩ := q
  obtain ⟨x, v, rfl, rx, p⟩ := on1_ok rs p
  split at p
  · rename_i ns en
    obtain ⟨hl, fin⟩ := lst_two hk rel (rs_ints (sortI ns)) p
    rw [List.length_map, (sortI_perm ns).length_eq] at hl
    unfold soOf at en
    split at en
    · rename_i xs e1
      obtain ⟨a, ws, rfl, sq, rs⟩ := lsOf_ok rel rx e1
      obtain ⟨its, r1, pl, hz⟩ := I.list sq
      rw [ints_ok rs en] at r1
      rw [Vals.ref1 rv]
      refine sorted_of I hl (fun Q' hq => ?_) fin
      have hlen := r1.length
      rw [List.length_map] at hlen
      refine PyProof.Rows.collect_list pl.isList (hq _ s.toks its kept_upd r1) (by omega)
    · split at en
      · rename_i xs e1
        obtain ⟨a, ws, rfl, sq, rs⟩ := tpOf_ok rx e1
        obtain ⟨its, r1, pl, hz⟩ := I.tuple sq
        rw [ints_ok rs en] at r1
        rw [Vals.ref1 rv]
        refine sorted_of I hl (fun Q' hq => ?_) fin
        have hlen := r1.length
        rw [List.length_map] at hlen
        refine coll_tup pl (hq _ s.toks its kept_upd r1) (by omega)
      · split at en
        · split at en
          · rename_i l _ _ hl2
            cases en
            simp only [R] at rx
            obtain ⟨a, rfl, f, _⟩ := rx
            exact sorted_set_ok hc rfl I rv f hl2 fin
          · cases en
        · rename_i n _ _
          split at en
          · split at en
            · rename_i l eo hl2
              cases en
              obtain ⟨a, _, rfl, f⟩ := rel.cell rx eo
              exact sorted_set_ok hc rfl I rv f hl2 fin
            · cases en
          · rename_i kvs eo
            obtain ⟨a, _, rfl, q, hq, rk⟩ := rel.cell rx eo
            rw [Vals.ref1 rv]
            have key : ∀ {kvs : List (Key × T)} {q : List (Key × V)} {ns : List Int}, kvs.map (·.1) = q.map (·.1) → mapO (fun q : Key × T => match q.1 with
                | .inl i => some i
                | .inr _ => none) kvs = some ns → q.map (fun kv => kV kv.1) = ns.map V.int := by
              intro kvs
              induction kvs with
              | nil =>
                intro q ns h1 h2
                cases h2
                have : q = [] := by simpa using h1.symm
                rw [this]
                rfl
              | cons z zs ih =>
                intro q ns h1 h2
                obtain ⟨y, ys, e1, e2, rfl⟩ := mapO_some h2
                cases q with
                | nil => simp at h1
                | cons w ws =>
                  simp only [List.map_cons, List.cons.injEq] at h1
                  obtain ⟨h3, h4⟩ := h1
                  split at e1
                  · rename_i i ei
                    cases e1
                    rw [List.map_cons, List.map_cons, ih h4 e2, ← h3, ei]
                    rfl
                  · cases e1
            have kk := key rk.1 en
            obtain ⟨z, lo, ws, rkv, hd⟩ := (show ObjOk X.prog X.w H s.heap a (.dK q) from I.hok a _ hq)
            obtain ⟨ep, hat⟩ := hd.dictAt
            have hlen : q.length = ws.length := Paired.length rkv
            refine sorted_of I hl (fun Q' hq' => ?_) fin
            refine PySem.W.kdu_collect (PySem.W.kdl_dict (knd := mixKind X.prog X.w) (kvs := ws) (ep := ep) lo) (I.ok.hd hc) hat (by rw [← hlen]; exact z) fun h' tk acc hkeep hacc => hq' h' tk acc.toList hkeep ?_
            rw [← kk]
            have el : acc.toList.length = acc.size := by simp
            refine vals_of_at (by rw [List.length_map, el, hacc.1, hlen]) fun j x w h1 h2 => ?_
            obtain ⟨k, y, hky, hi⟩ := hacc.2 j w (by rw [← Array.getElem?_toList]; exact h2)
            have e1 : (q.map (·.1))[j]? = some k := by
              rw [KV.keys rkv, List.getElem?_map, hky] <;> rfl
            have e2 : (q.map fun kv => kV kv.1)[j]? = some (kV k) := by
              have e3 : (q.map fun kv => kV kv.1) = (q.map (·.1)).map kV := by rw [List.map_map] <;> rfl
              rw [e3, List.getElem?_map, e1] <;> rfl
            rw [e2] at h1
            cases h1
            exact keyIs_rel hi
          · cases en
        · cases en
  · exact p.elim
end
end TW
namespace TW
open PySem PySem.Spec L2 PyProof.Rows

/-! ### enumerate of a tuple: the library's walk (GoesN.enumFrom over Draws.tuple), seen as a turn -/
def IteT (K : PySem.W.Frag) (a : Addr) : It where
  go := fun i H => ∃ xs : List V, SqT K H a xs ∧ i < xs.length
  yld := fun i H v H' => ∃ P x, v = .ref P ∧ H P = none ∧ H' = upd H P (.tup [.int (i : Nat), x]) ∧ ∀ xs, SqT K H a xs → xs[i]? = some x
  stop := fun i H => ∃ xs : List V, SqT K H a xs ∧ xs.length = i
section
variable {P : Program} {w : World} {A : Around} {tg : Expr} {elts : List Expr} {kk : Nat} {tpos : Pos} {a e it : Addr}
/-- the walk of one tuple -/
theorem goes_enT (nh : A.handled = none) (d1 : e ≠ it) (d2 : a ≠ it) (d3 : a ≠ e) (its : Array Value) :
    GoesN P w A (.Tuple elts kk tpos) e [e, it, a] [e, it] its.size (fun i h0 v h => ∃ T t x, v = .ref T ∧ h0.objs.size ≤ T ∧ its[i]? = some x ∧ h.IsTuple T #[.int (0 + (i : Int)) t, x])
      (fun i h => (∃ old, IsEnum h e it (0 + (i : Int)) old) ∧ h.IsTupleIter it a i ∧ h.IsTuple a its) :=
  .enumFrom 0 (.tuple (A := A.in1) nh it a d2 its) e d1 (by simp [d1, Ne.symm d3]) (by simp)
/-- where it stands, the tuple aside -/
def enAt (a e it : Addr) (i : Nat) (h : Heap) : Prop := (∃ old, IsEnum h e it (0 + (i : Int)) old) ∧ h.IsTupleIter it a i ∧ e ≠ it ∧ a ≠ it ∧ a ≠ e
theorem enAt.cells {i : Nat} {h : Heap} (t : enAt a e it i h) : (∃ o, h.get? e = some o ∧ ∀ v, o.data ≠ .cell v) ∧ ∃ o, h.get? it = some o ∧ ∀ v, o.data ≠ .cell v := by
  obtain ⟨⟨old, q⟩, ⟨o, ho, hc, hd⟩, _⟩ := t
  exact ⟨⟨_, q, by intro v z; cases z⟩, o, ho, by intro v z; rw [hd] at z; cases z⟩
theorem turn_enumT {K : PySem.W.Frag} : Turn P w K (.Tuple elts kk tpos) (IteT K a) [e, it] e (enAt a e it) where
  mem := List.mem_cons_self
  obj := fun i h t => by
    obtain ⟨c1, c2⟩ := t.cells
    simp only [List.mem_cons, List.not_mem_nil, or_false, forall_eq_or_imp, forall_eq]
    exact ⟨c1, c2⟩
  keep := fun i h h' t k => ⟨t.1.imp fun _ q => k e (by simp) _ q, t.2.1.at fun o q => k it (by simp) o q, t.2.2⟩
  item := by
    rintro X rfl rfl rfl calm i pins s σ H E I free t ⟨xs, sq, hi⟩
    obtain ⟨old, nx, d1, d2, d3⟩ := t
    obtain ⟨its, rv, tup, hz⟩ := I.tuple sq
    have hi' : i < its.toArray.size := by rw [List.size_toArray, ← rv.length]; exact hi
    have small : ∀ b ∈ [e, it], b < s.heap.objs.size := by
      obtain ⟨⟨_, c1, _⟩, ⟨_, c2, _⟩⟩ := enAt.cells ⟨old, nx, d1, d2, d3⟩
      simp only [List.mem_cons, List.not_mem_nil, or_false, forall_eq_or_imp, forall_eq]
      exact ⟨Heap.lt_size c1, Heap.lt_size c2⟩
    refine (goes_enT (I.ok.hd calm) d1 d2 d3 its.toArray).goes i s _ E hi' ⟨old, nx, tup⟩ fun v h1 tk y t1 k _ => ?_
    obtain ⟨P, t, u, rfl, new, hu, hP⟩ := y
    have at_i : xs[i]? = some xs[i] := List.getElem?_eq_getElem hi
    obtain ⟨u2, hu2, ru⟩ := rv.get at_i
    rw [List.getElem?_toArray, hu2] at hu
    obtain rfl : u2 = u := Option.some.inj hu
    rw [Int.zero_add] at hP
    have two : L2.Vals [.int (i : Nat), xs[i]] [.int (i : Nat) t, u2] := .cons ⟨t, rfl⟩ (.cons ru .nil)
    refine ⟨.ref P, _, I.turnedNew (t' := tk) (ob := .tup [.int (i : Nat), xs[i]]) k free new ⟨by show 2 ≤ sizeLine; decide, _, two, hP⟩, rfl, ⟨P, xs[i], rfl, I.hok.fresh new, rfl, fun ys hy => ?_⟩, ⟨t1.1, t1.2.1, d1, d2, d3⟩, fun b hb => ?_⟩
    · rw [I.tuple_inj hy sq]
      exact at_i
    · rw [upd_ne (Nat.ne_of_lt (Nat.lt_of_lt_of_le (small b hb) new))]
      exact (free b hb).1
  done := by
    rintro X rfl rfl rfl calm i pins s σ H E I free t ⟨xs, sq, rfl⟩
    obtain ⟨old, nx, d1, d2, d3⟩ := t
    obtain ⟨its, rv, tup, hz⟩ := I.tuple sq
    have all : its.toArray.size = xs.length := by rw [List.size_toArray, ← rv.length]
    refine (goes_enT (elts := elts) (kk := kk) (tpos := tpos) (I.ok.hd calm) d1 d2 d3 its.toArray).stops s _ E (by rw [all]; exact ⟨old, nx, tup⟩) fun h1 tk k _ => ?_
    exact I.turnedL (t' := tk) k free
  self := fun B i s Q E t q => t.1.elim fun _ z => wpAny_pyIter_enum z q
/-- enumerate(v) of whatever an iterator begins with -/
theorem enum_new1 {v : Value} {o : Obj} {G : Heap → Prop} (B : Begins v o G) : Meets (Builtin.«enumerate.__new__» ⟨[.type "enumerate", v], []⟩) (fun _ Z s => G s.heap ∧
    Z (.ok (.ret (.ref (s.heap.push o).objs.size))) { s with heap := (s.heap.push o).push { cls := .type "enumerate", data := .fields #[.none, .bool false, .ref s.heap.objs.size, rawInt 0, .none, .none] } }) := by
  refine .of_wp fun prog w A Z s q => ?_
  obtain ⟨g, q⟩ := q
  obtain ⟨hp, gs, dr, tk, os⟩ := s
  have begin_ : ∀ {A1 : Around} {E1 Q1 : Value → Shared → Prop}, Q1 (.ref hp.objs.size) ⟨hp.push o, gs, dr, tk, os⟩ → wpAny (model prog w) A1 (pyIter v) Q1 E1 ⟨hp, gs, dr, tk, os⟩ := B.iter prog w _ _ ⟨hp, gs, dr, tk, os⟩ _ g
  have own := sub_enumerate
  wp_walk
  refine wpAny_stack_any fun st => wpAny_pure ?_
  split
  · rename_i c _ _ _ _ _
    rcases hb : c == Value.type "enumerate"
    all_goals (wp_walk using begin_; exact ⟨_, rfl, q⟩)
  · wp_walk using begin_
    exact ⟨_, rfl, q⟩
theorem call_enumT {s : Shared} {E : Value → Shared → Prop} {l : Addr} {items : Array Value} {Q : Value → Shared → Prop} (tup : s.heap.IsTuple l items)
    (q : ∀ h', enAt l (s.heap.objs.size + 1) s.heap.objs.size 0 h' → (∀ b o, s.heap.get? b = some o → h'.get? b = some o) → Q (.ref (s.heap.objs.size + 1)) { s with heap := h' }) :
    wpAny (model P w) A (call (.type "enumerate") [.ref l]) Q E s := by
  have low : l < s.heap.objs.size := tup.elim fun _ z => Heap.lt_size z.1
  refine callType_new F.called_enumerate (by decide) (F.typeCall_enumerate_1 _) (F.newCall_enumerate_1 _) (fun ob => F.args_object_init_2 ob _) F.entry_enumerate_new (enum_new1 (begins_tuple l items)) ⟨tup, ?_⟩
  generalize hi : ({ cls := .type "tuple_iterator", data := .fields #[.ref l, .int 0 0] } : Obj) = itr
  have fr : itr.isFreed = false := by rw [← hi]; rfl
  have big : (s.heap.push itr).objs.size = s.heap.objs.size + 1 := Heap.size_push ..
  have top := Heap.get?_push_size (s.heap.push itr) (o := { cls := .type "enumerate", data := .fields #[.none, .bool false, .ref s.heap.objs.size, rawInt 0, .none, .none] }) rfl
  show _ ∧ _
  rw [big] at top ⊢
  refine ⟨⟨_, top, rfl⟩, q _ ⟨⟨.none, top⟩, ⟨itr, Heap.get?_push_of_some _ (Heap.get?_push_size _ fr), by rw [← hi], by rw [← hi]; rfl⟩, Nat.succ_ne_self _, Nat.ne_of_lt low, Nat.ne_of_lt (Nat.lt_succ_of_lt low)⟩ fun b o z => ?_⟩
  exact Heap.get?_push_of_some _ (Heap.get?_push_of_some _ z)
end
def iEnumT (K : PySem.W.Frag) (ta : TA) : TI := fun σ H Z => ta σ H fun vs H1 => ∃ a xs, vs = [.ref a] ∧ SqT K H1 a xs ∧ Z (IteT K a) H1
theorem pi_enumT {X : Cx} {e : Expr} {ta : TA} {p pos tpos : Pos} {elts : List Expr} {kk : Nat} (hg : Gl X "enumerate") (hm : X.mg "enumerate" = none) (ha : PA X [e] ta) (hs : starEach [e] X.env = [(false, eval e X.env)] := by rfl) :
    PI X (.Tuple elts kk tpos) (.Call (.Name "enumerate" p) [e] [] pos) (iEnumT X.K ta) where
  run := fun pins s σ H Z I h => by
    refine Call_ (ld_blt I hg hm boot_enumerate (PyProof.Rows.callWith_type1 (thn (ha.run pos pins s σ H _ I h) ?_) hs rfl))
    rintro us s1 ⟨_, H1, I1, r1, a, xs, rfl, sq, q⟩
    obtain ⟨u, rfl, rfl⟩ := vals1 r1
    obtain ⟨its, rv, tup, _⟩ := I1.tuple sq
    refine call_enumT tup fun h1 t k => t.1.elim fun _ z => wpAny_pyIter_enum z ?_
    refine ⟨_, [s1.heap.objs.size + 1, s1.heap.objs.size], _, _, H1, rfl, I1.kept (t' := s1.toks) k, turn_enumT, t, ?_, q⟩
    have fp : ∀ b, s1.heap.objs.size ≤ b → FpOk X pins H1 b := fun b hb => I1.fpOk hb (I1.hok.fresh hb)
    simp only [List.mem_cons, List.not_mem_nil, or_false, forall_eq_or_imp, forall_eq]
    exact ⟨fp _ (Nat.le_succ _), fp _ (Nat.le_refl _)⟩
/-! its mirror -/
def enL : Nat → List T → List T
  | _, [] => []
  | i, x :: xs => .tup [.int (i : Nat), x] :: enL (i + 1) xs
theorem enL_len : ∀ (i : Nat) (xs : List T), (enL i xs).length = xs.length
  | _, [] => rfl
  | i, x :: xs => by simp [enL, enL_len]
theorem enL_get : ∀ (j i : Nat) (xs : List T) (z : T), (enL j xs)[i]? = some z → ∃ x, xs[i]? = some x ∧ z = .tup [.int ((j + i : Nat) : Int), x]
  | _, _, [], _, e => by simp [enL] at e
  | j, 0, x :: xs, z, e => by
    simp [enL] at e
    exact ⟨x, rfl, by rw [← e]; simp⟩
  | j, i + 1, x :: xs, z, e => by
    obtain ⟨y, e1, e2⟩ := enL_get (j + 1) i xs z (by simpa [enL] using e)
    exact ⟨y, by simpa using e1, by rw [e2]; congr 4; omega⟩
def itEn (f : AM) : IM := fun r h => (f r h).bind fun xs h1 => match xs with
  | [x] => (match lsOf h1 x with
    | some ys => .ok (enL 0 ys, srcOf x ys) h1
    | none => (match tpOf x with
      | some ys => .ok (enL 0 ys, none) h1
      | none => .bad))
  | _ => .bad
theorem pair_new {G : Gx} {m : Ml} {H : Hp} {h : MH} {P : Addr} {i : Int} {x : T} {v : V} (rel : Rel G m H h) (hP : H P = none) (rx : R G m H x v) : Stp m m H (upd H P (.tup [.int i, v])) ∧ Rel G m (upd H P (.tup [.int i, v])) h ∧ R G m (upd H P (.tup [.int i, v])) (.tup [.int i, x]) (.ref P) :=
  ⟨Stp.new hP, rel.new hP, tup_new rel (Rs.cons (by simp only [R]) (Rs.cons rx Rs.nil)) hP⟩
section
variable {X : Cx} {cl : Cln} {W : WX} {e : Expr} {fa : AM} {pos tpos p : Pos} {elts : List Expr} {kk : Nat}
theorem walk_enL {G : Gx} {m : Ml} {H : Hp} {a : Addr} {xs : List T} {src : Src} (h : ∀ m' H' h', Wk m m' H H' → Rel G m' H' h' → chk src h' = true → ∃ vs, SqL G.K H' a vs ∧ Rs G m' H' xs vs) : WalkM G (Ite G.K a) (enL 0 xs) src m H := by
  intro m' H' h' s rel c
  obtain ⟨vs, sq, rs⟩ := h m' H' h' s rel c
  have hl := Rs.len rs
  rw [enL_len]
  refine ⟨fun i hi => ⟨vs, vs[i]'(by omega), sq, by simp [← hl, hi]⟩, ⟨vs, sq, by omega⟩, fun i y H'' z yl ez => ?_⟩
  obtain ⟨P, x, rfl, hP, rfl, yl⟩ := yl
  obtain ⟨t, e1, rfl⟩ := enL_get 0 i xs z ez
  obtain ⟨u, e2, r1⟩ := Rs.get rs e1
  have := yl vs sq
  rw [e2] at this
  cases this
  rw [Nat.zero_add]
  exact pair_new rel hP r1
theorem walk_enT {G : Gx} {m : Ml} {H : Hp} {a : Addr} {xs : List T} (h : ∀ m' H', Wk m m' H H' → ∃ vs, SqT G.K H' a vs ∧ Rs G m' H' xs vs) : WalkM G (IteT G.K a) (enL 0 xs) none m H := by
  intro m' H' h' s rel c
  obtain ⟨vs, sq, rs⟩ := h m' H' s
  have hl := Rs.len rs
  rw [enL_len]
  refine ⟨fun i hi => ⟨vs, sq, by omega⟩, ⟨vs, sq, hl.symm⟩, fun i y H'' z yl ez => ?_⟩
  obtain ⟨P, x, rfl, hP, rfl, yl⟩ := yl
  obtain ⟨t, e1, rfl⟩ := enL_get 0 i xs z ez
  obtain ⟨u, e2, r1⟩ := Rs.get rs e1
  have := yl vs sq
  rw [e2] at this
  cases this
  rw [Nat.zero_add]
  exact pair_new rel hP r1
theorem mi_en (hg : Gl X "enumerate") (hm : X.mg "enumerate" = none) (ha : MA X cl W [e] fa) (hs : starEach [e] X.env = [(false, eval e X.env)] := by rfl) : MI X cl W (.Tuple elts kk tpos) (.Call (.Name "enumerate" p) [e] [] pos) (itEn fa) := by
  refine ⟨PI.imp (PI.or (pi_enum hg hm ha.pa hs) (pi_enumT hg hm ha.pa hs)) fun σ H Q h => ?_⟩
  obtain ⟨r, hp, m, re, rel, p⟩ := h
  unfold itEn at p
  cases ex : fa r hp with
  | exc c fs h' =>
    rw [ex] at p
    refine .inl ⟨r, hp, m, re, rel, ?_⟩
    rw [ex]
    exact p
  | bad => rw [ex] at p; exact p.elim
  | ok xs h1 =>
    rw [ex] at p
    simp only [Res.bind] at p
    split at p
    · rename_i x
      split at p
      · rename_i ys e1
        refine .inl ⟨r, hp, m, re, rel, ?_⟩
        rw [ex]
        intro m' H' s rel' vs rvs
        obtain ⟨v, t, rfl, rv, rt⟩ := Rs.cons_iff.mp rvs
        obtain rfl := Rs.nil_iff.mp rt
        obtain ⟨a, ws, rfl, sq, rs⟩ := lsOf_ok rel' rv e1
        exact ⟨a, ws, rfl, sq, p m' H' s rel' (Ite X.K a) (walk_enL (ls_later rel' rv e1))⟩
      · split at p
        · rename_i ys e1
          refine .inr ⟨r, hp, m, re, rel, ?_⟩
          rw [ex]
          intro m' H' s rel' vs rvs
          obtain ⟨v, t, rfl, rv, rt⟩ := Rs.cons_iff.mp rvs
          obtain rfl := Rs.nil_iff.mp rt
          obtain ⟨a, ws, rfl, sq, rs⟩ := tpOf_ok rv e1
          exact ⟨a, ws, rfl, sq, p m' H' s rel' (IteT X.K a) (walk_enT (tp_later rv e1))⟩
        · exact p.elim
    · exact p.elim
end
end TW
namespace TW
open PySem PySem.Spec L2

/-! ### a < b < c; -x -/
def emCh (k k' : T → T → MH → Res T) (f g h : EM) : EM := fun r hp => (f r hp).bind fun x h1 => (g r h1).bind fun y h2 => (k x y h2).bind fun z h3 => match z with
  | .bl true => (h r h3).bind fun w h4 => k' y w h4
  | .bl false => .ok (.bl false) h3
  | _ => .bad
section
variable {X : Cx} {cl : Cln} {W : WX} {a b c e : Expr} {es : List Expr} {f g h : EM} {fa : AM} {pos : Pos} {k k' : T → T → MH → Res T}
theorem ch_ok (hn : NoX k) (hn' : NoX k') {σ : L2.St} {H : Hp} {Q : VK} (q : tM (gx X cl) W (emCh k k' f g h) σ H Q) : tChain (rM (gx X cl) k) (rM (gx X cl) k') (tM (gx X cl) W f) (tM (gx X cl) W g) (tM (gx X cl) W h) σ H Q := by
  obtain ⟨r, hp, m, re, rel, p⟩ := q
  refine ⟨r, hp, m, re, rel, p.bind.mono (fun x m1 h1 H1 s1 q1 v rv => ?_) fun _ _ _ z => z⟩
  refine ⟨r, h1, m1, re.step s1, q1.1, q1.2.bind.mono (fun y m2 h2 H2 s2 q2 w rw' => ?_) fun _ _ _ z => z⟩
  refine ⟨m2, h2, x, y, q2.1, R.step s2 x v rv, rw', (q2.2.bind.nox (hn x y h2)).mono (fun z m3 h3 H3 s3 q3 u ru => ?_) fun _ _ _ z => z⟩
  obtain ⟨rel3, p3⟩ := q3
  split at p3
  · simp only [R] at ru
    refine ⟨true, ru, r, h3, m3, ((re.step s1).step s2).step s3, rel3, p3.bind.mono (fun t m4 h4 H4 s4 q4 u4 ru4 => ?_) fun _ _ _ z => z⟩
    exact ⟨m4, h4, y, t, q4.1, R.step s4 _ _ (R.step s3 _ _ rw'), ru4, q4.2.nox (hn' _ _ _)⟩
  · simp only [R] at ru
    exact ⟨false, ru, p3.ok_ rel3 _ (by simp only [R])⟩
  · exact p3.elim
theorem me_chain {op op' : CmpOp} (ho : OpR X (compareOp op) (rM (gx X cl) k)) (hn : NoX k) (ho' : OpR X (compareOp op') (rM (gx X cl) k')) (hn' : NoX k') (ha : ME X cl W a f) (hb : ME X cl W b g) (hc : ME X cl W c h) (hm : lastMarks [op, op'] [b, c] = false := by with_unfolding_all rfl) :
    ME X cl W (.Compare a [op, op'] [b, c] pos) (emCh k k' f g h) := ⟨PE.imp (pe_chain ho ho' ha.pe hb.pe hc.pe hm) fun σ H Q q => ch_ok hn hn' q⟩
theorem mt_chain {op op' : CmpOp} (ho : OpR X (compareOp op) (rM (gx X cl) k)) (hn : NoX k) (ho' : OpR X (compareOp op') (rM (gx X cl) k')) (hn' : NoX k') (ha : ME X cl W a f) (hb : ME X cl W b g) (hc : ME X cl W c h) (hm : lastMarks [op, op'] [b, c] = false := by with_unfolding_all rfl) :
    MT X cl W (.Compare a [op, op'] [b, c] pos) (tmOf (emCh k k' f g h)) := ⟨PT.imp (pt_chain ho ho' ha.pe hb.pe hc.pe hm) fun σ H Q q => by
  refine ch_ok hn hn' ?_
  obtain ⟨r, hp, m, re, rel, p⟩ := q
  refine ⟨r, hp, m, re, rel, p.bind.mono (fun x m' h' H' s q v rv => ?_) fun _ _ _ z => z⟩
  obtain ⟨b, e, q⟩ := isBl_ok rv q.1 q.2
  exact ⟨b, e, q⟩⟩
def ngT (x : T) (hp : MH) : Res T := match x with
  | .int i => .ok (.int (-i)) hp
  | _ => .bad
theorem me_neg (ha : ME X cl W a f) : ME X cl W (.UnaryOp .USub a pos) (em1 ngT f) := ⟨PE.imp (pe_un un_neg ha.pe) fun σ H Q q => by
  obtain ⟨r, hp, m, re, rel, p⟩ := one_ok q
  refine ⟨r, hp, m, re, rel, p.mono (fun x m1 h1 H1 s q v rv => ?_) fun _ _ _ z => z⟩
  obtain ⟨m2, hp2, y, rel2, ry, p2⟩ := q v rv
  unfold ngT at p2
  split at p2
  · simp only [R] at ry
    exact ⟨_, ry, p2.ok_ rel2 _ (by simp only [R])⟩
  · exact p2.elim⟩

/-! ### a, b = x, y -/
def sPar2 (i j : Nat) (g : AM) : SM := fun r hp => lift (g r hp) r fun xs h1 => match xs with
  | [x, y] => .nx ((r.set i (some x)).set j (some y)) h1
  | _ => .bad
def sPar3 (i j l : Nat) (g : AM) : SM := fun r hp => lift (g r hp) r fun xs h1 => match xs with
  | [x, y, z] => .nx (((r.set i (some x)).set j (some y)).set l (some z)) h1
  | _ => .bad
theorem ms_par2 (i j : Nat) {x y : Str} {px py pt : Pos} {kt k2 pt2} (hc : X.calm = true) (hN : X.N.Nodup) (ha : MA X cl W [a, b] fa) (hi : X.N[i]? = some x := by rfl) (hj : X.N[j]? = some y := by rfl) (hij : i ≠ j := by decide)
    (hx : X.env.scope.names.lookup x = some .local := by rfl) (hy : X.env.scope.names.lookup y = some .local := by rfl)
    (hw : swappedStores [.Tuple [.Name x px, .Name y py] kt pt] (.Tuple [a, b] k2 pt2) X.env = pure (some [x, y]) := by rfl)
    (hs : swapsWithSole [.Tuple [.Name x px, .Name y py] kt pt] (.Tuple [a, b] k2 pt2) pos.line X.env = pure false := by rfl) : MS X cl W (.Assign [.Tuple [.Name x px, .Name y py] kt pt] (.Tuple [a, b] k2 pt2) pos) (sPar2 i j fa) := by
  refine ⟨PS.imp (ps_par hc hN hi hj hij hx hy ha.pa hw hs) fun D σ H h => ?_⟩
  obtain ⟨r, hp, m, re, rel, p⟩ := h
  refine ⟨r, hp, m, re, rel, (p.lift re).mono (fun xs m1 h1 H1 s q vs rv => ?_) fun _ _ _ z => z⟩
  obtain ⟨rel1, re1, fl⟩ := q
  split at fl
  · obtain ⟨v, t, rfl, h2, h3⟩ := Rs.cons_iff.mp rv
    obtain ⟨w, t, rfl, h4, h5⟩ := Rs.cons_iff.mp h3
    obtain rfl := Rs.nil_iff.mp h5
    exact ⟨v, w, rfl, fl m1 H1 _ .refl rel1 ((re1.set h2).set h4)⟩
  · exact fl.elim
theorem ms_par3 (i j l : Nat) {x y z : Str} {px py pz pt : Pos} {kt k2 pt2} (hc : X.calm = true) (hN : X.N.Nodup) (ha : MA X cl W [a, b, c] fa) (hi : X.N[i]? = some x := by rfl) (hj : X.N[j]? = some y := by rfl) (hl : X.N[l]? = some z := by rfl) (hij : i ≠ j := by decide) (hil : i ≠ l := by decide) (hjl : j ≠ l := by decide)
    (hx : X.env.scope.names.lookup x = some .local := by rfl) (hy : X.env.scope.names.lookup y = some .local := by rfl) (hz : X.env.scope.names.lookup z = some .local := by rfl)
    (hw : swappedStores [.Tuple [.Name x px, .Name y py, .Name z pz] kt pt] (.Tuple [a, b, c] k2 pt2) X.env = pure (some [x, y, z]) := by rfl)
    (hs : swapsWithSole [.Tuple [.Name x px, .Name y py, .Name z pz] kt pt] (.Tuple [a, b, c] k2 pt2) pos.line X.env = pure false := by rfl) : MS X cl W (.Assign [.Tuple [.Name x px, .Name y py, .Name z pz] kt pt] (.Tuple [a, b, c] k2 pt2) pos) (sPar3 i j l fa) := by
  refine ⟨PS.imp (ps_par3 hc hN hi hj hl hij hil hjl hx hy hz ha.pa hw hs) fun D σ H h => ?_⟩
  obtain ⟨r, hp, m, re, rel, p⟩ := h
  refine ⟨r, hp, m, re, rel, (p.lift re).mono (fun xs m1 h1 H1 s q vs rv => ?_) fun _ _ _ z => z⟩
  obtain ⟨rel1, re1, fl⟩ := q
  split at fl
  · obtain ⟨v, t, rfl, h2, h3⟩ := Rs.cons_iff.mp rv
    obtain ⟨w, t, rfl, h4, h5⟩ := Rs.cons_iff.mp h3
    obtain ⟨u, t, rfl, h6, h7⟩ := Rs.cons_iff.mp h5
    obtain rfl := Rs.nil_iff.mp h7
    exact ⟨v, w, u, rfl, fl m1 H1 _ .refl rel1 (((re1.set h2).set h4).set h6)⟩
  · exact fl.elim
end

/-! ### o[i] = v -/
def stT (o i v : T) (h : MH) : Option MH := match o with
  | .loc n => (match h[n]? with
    | some (.lst xs) => (match i with
      | .int k => (match ixN xs.length k with
        | some j => some (h.set n (.lst (xs.set j v)))
        | none => none)
      | _ => none)
    | some (.dK kvs) => (match kyOf i with
      | some k => if kvs.length < sizeLine then some (h.set n (.dK (putT kvs k v))) else none
      | none => none)
    | some (.dT kvs) => (match kysOf i with
      | some k => if kvs.length < sizeLine then some (h.set n (.dT (putT kvs k v))) else none
      | none => none)
    | _ => none)
  | _ => none
def rSet (G : Gx) : TSet := fun o i v H Q => ∃ m hp x y z, Rel G m H hp ∧ R G m H x o ∧ R G m H y i ∧ R G m H z v ∧ ∃ h', stT x y z hp = some h' ∧ ∀ m' H', Stp m m' H H' → Rel G m' H' h' → Q H'
theorem PSet.imp {X : Cx} {r r' : TSet} (h : PSet X r) (i : ∀ o x v H Q, r' o x v H Q → r o x v H Q) : PSet X r' := fun pins s σ H o x v ov iv u Q I ro ri rv q => h pins s σ H o x v ov iv u Q I ro ri rv (i _ _ _ _ _ q)
theorem PSet.or {X : Cx} {r r' : TSet} (h : PSet X r) (h' : PSet X r') : PSet X (fun o x v H Q => r o x v H Q ∨ r' o x v H Q) := fun pins s σ H o x v ov iv u Q I ro ri rv q => by
  rcases q with q | q
  · exact h pins s σ H o x v ov iv u Q I ro ri rv q
  · exact h' pins s σ H o x v ov iv u Q I ro ri rv q
section
variable {X : Cx} {cl : Cln} {W : WX} {o i e : Expr} {f g v : EM} {fa : AM} {pos pos' : Pos}
theorem set_dict (hu : X.A.units + 1 < cLine) : PSet X (fun x y z H Q => ∃ a H', x = .ref a ∧ DPut H a y z H' ∧ Q H') := by
  intro pins s σ H o x v ov iv u Q I ro ri rv q
  obtain ⟨a, H', rfl, g, q⟩ := q
  cases ro
  exact d_setItem hu I g ri rv fun s' I' => ⟨H', I', q⟩
theorem set_any (hu : X.A.units + 66 < cLine) : PSet X (rSet (gx X cl)) := by
  refine PSet.imp (PSet.or set_list (set_dict (by omega))) fun o x v H Q q => ?_
  obtain ⟨m, hp, to, tx, tv, rel, ro, rx, rv, h', es, q⟩ := q
  cases to with
  | loc n =>
    simp only [stT] at es
    split at es
    · rename_i xs ec
      obtain ⟨a, e1, rfl, vs, e2, rs⟩ := rel.cell ro ec
      split at es
      · rename_i k
        split at es
        · rename_i j ej
          cases es
          simp only [R] at rx
          have ha : a ∈ m.c := List.mem_of_getElem? e1
          exact .inl ⟨a, vs, k, j, rfl, rx, e2, by rw [← Rs.len rs]; exact ej, q m _ (Stp.wr ha) (rel.wr e1 ⟨_, upd_same, Rs.step (Stp.wr ha) _ _ (Rs.set j rs rv)⟩)⟩
        · cases es
      · cases es
    · rename_i kvs ec
      obtain ⟨a, e1, rfl, qv, e2, rk⟩ := rel.cell ro ec
      split at es
      · rename_i k ek
        split at es
        · rename_i hl
          cases es
          have ha : a ∈ m.c := List.mem_of_getElem? e1
          exact .inr ⟨a, _, rfl, .inl ⟨qv, k, e2, kyOf_ok rx ek, by rw [← rk.len]; exact hl, rfl⟩, q m _ (Stp.wr ha) (rel.wr e1 ⟨_, upd_same, (Rk.put k rv rk).step (Stp.wr ha)⟩)⟩
        · cases es
      · cases es
    · rename_i kvs ec
      obtain ⟨a, e1, rfl, qv, e2, rk⟩ := rel.cell ro ec
      split at es
      · rename_i k ek
        split at es
        · rename_i hl
          cases es
          have ha : a ∈ m.c := List.mem_of_getElem? e1
          obtain ⟨b, rfl, hb⟩ := kysOf_ok rx ek
          exact .inr ⟨a, _, rfl, .inr ⟨qv, k, b, e2, rfl, hb, by rw [← rk.len]; exact hl, rfl⟩, q m _ (Stp.wr ha) (rel.wr e1 ⟨_, upd_same, (Rk.put k rv rk).step (Stp.wr ha)⟩)⟩
        · cases es
      · cases es
    · cases es
  | _ => cases es
def sSub (f g v : EM) : SM := fun r h => lift (v r h) r fun z h1 => lift (f r h1) r fun x h2 => lift (g r h2) r fun y h3 => match stT x y z h3 with
  | some h4 => .nx r h4
  | none => .bad
theorem ms_sub (hu : X.A.units + 66 < cLine) (hv : ME X cl W e v) (ho : ME X cl W o f) (hi : ME X cl W i g)
    (ha : ∀ v, assign (.Subscript o i pos') X.env v = (do
      let ov ← holding [v] (eval o X.env)
      let iv ← holding [v, ov] (eval i X.env)
      standAt pos'
      holding [v, ov, iv] (setItem ov iv v)
      release [v, ov, iv] []) := by intro _; rfl) (hs : swapsWithSole [.Subscript o i pos'] e pos.line X.env = pure false := by rfl) (hw : swappedStores [.Subscript o i pos'] e X.env = pure none := by rfl) (h1 : (assignEach [.Subscript o i pos'] X.env).map (·.2) = [assign (.Subscript o i pos') X.env] := by rfl) :
    MS X cl W (.Assign [.Subscript o i pos'] e pos) (sSub f g v) := by
  refine ⟨PS.imp (ps_asg hv.pe (pg_sub ho.pe hi.pe (set_any (cl := cl) hu) ha) hs hw h1) fun D σ H h => ?_⟩
  obtain ⟨r, hp, m, re, rel, p⟩ := h
  refine ⟨r, hp, m, re, rel, (p.lift re).mono (fun z m1 h1 H1 s1 q1 zv rz => ?_) fun _ _ _ z => z⟩
  obtain ⟨rel1, re1, fl1⟩ := q1
  refine ⟨r, h1, m1, re1, rel1, (fl1.lift re1).mono (fun x m2 h2 H2 s2 q2 xv rx => ?_) fun _ _ _ z => z⟩
  obtain ⟨rel2, re2, fl2⟩ := q2
  refine ⟨r, h2, m2, re2, rel2, (fl2.lift re2).mono (fun y m3 h3 H3 s3 q3 yv ry => ?_) fun _ _ _ z => z⟩
  obtain ⟨rel3, re3, fl3⟩ := q3
  split at fl3
  · rename_i h4 e4
    exact ⟨m3, h3, x, y, z, rel3, R.step s3 _ _ rx, ry, R.step s3 _ _ (R.step s2 _ _ rz), h4, e4, fun m' H' s' rel' => fl3 m' H' σ s' rel' (re3.step s')⟩
  · exact fl3.elim

/-! ### o.f = v -/
def putA (f : Str) (v : T) : List (Str × T) → List (Str × T)
  | [] => [(f, v)]
  | (g, x) :: r => if g = f then (g, v) :: r else (g, x) :: putA f v r
theorem Rk.putA {G : Gx} {m : Ml} {H : Hp} {nm : Str} {x : T} {v : V} (rv : R G m H x v) : ∀ {kvs : List (Str × T)} {q : List (Str × V)}, Rk G m H kvs q → Rk G m H (TW.putA nm x kvs) (putF nm v q)
  | [], q, h => by
    rw [Rk.nil_iff.mp h]
    exact Rk.cons_iff.mpr ⟨v, [], rfl, rv, Rk.nil_iff.mpr rfl⟩
  | (k, y) :: r, q, h => by
    obtain ⟨w, t, rfl, h1, h2⟩ := Rk.cons_iff.mp h
    unfold TW.putA putF
    by_cases e : k = nm
    · rw [if_pos e, if_pos e]
      exact Rk.cons_iff.mpr ⟨v, t, rfl, rv, h2⟩
    · rw [if_neg e, if_neg e]
      exact Rk.cons_iff.mpr ⟨w, _, rfl, h1, Rk.putA rv h2⟩
def sAtt (oc : List Str) (nm : Str) (f v : EM) : SM := fun r h => lift (v r h) r fun z h1 => lift (f r h1) r fun x h2 => match x with
  | .loc n => (match h2[n]? with
    | some (.ins c fs) => if c ∈ oc ∧ fs.length < 1000 then .nx r (h2.set n (.ins c (putA nm z fs))) else .bad
    | _ => .bad)
  | _ => .bad
theorem ms_att {oc : List Str} {nm : Str} (hc : AtOk X.K cl oc nm) (hv : ME X cl W e v) (ho : ME X cl W o f) (hs : swapsWith e (some (.Attribute o nm pos')) pos.line X.env = pure false := by rfl) : MS X cl W (.Assign [.Attribute o nm pos'] e pos) (sAtt oc nm f v) := by
  refine ⟨PS.imp (ps_fld ho.pe hv.pe hs) fun D σ H h => ?_⟩
  obtain ⟨r, hp, m, re, rel, p⟩ := h
  refine ⟨r, hp, m, re, rel, (p.lift re).mono (fun z m1 h1 H1 s1 q1 zv rz => ?_) fun _ _ _ z => z⟩
  obtain ⟨rel1, re1, fl1⟩ := q1
  refine ⟨r, h1, m1, re1, rel1, (fl1.lift re1).mono (fun x m2 h2 H2 s2 q2 xv rx => ?_) fun _ _ _ z => z⟩
  obtain ⟨rel2, re2, fl2⟩ := q2
  split at fl2
  · rename_i n
    split at fl2
    · rename_i c fs ec
      obtain ⟨a, e1, rfl, C, dx, qv, hC, hH, rk⟩ := rel2.cell rx ec
      split at fl2
      · rename_i hmem
        obtain ⟨k1, k2⟩ := hc c hmem.1 C hC
        have ha : a ∈ m2.c := List.mem_of_getElem? e1
        refine ⟨a, C, dx, qv, rfl, hH, k1, k2, by rw [← rk.len]; exact hmem.2, ?_⟩
        exact fl2 m2 _ σ (Stp.wr ha) (rel2.wr e1 ⟨C, dx, _, hC, upd_same, (Rk.putA (R.step s2 _ _ rz) rk).step (Stp.wr ha)⟩) (re2.step (Stp.wr ha))
      · exact fl2.elim
    · exact fl2.elim
  · exact fl2.elim
end
end TW
namespace TW
open PySem PySem.Spec L2

/-! ### built-in methods -/
abbrev GMt := T → List T → MH → Res T
def rMM (G : Gx) (g : GMt) : V → List V → Hp → VK → Prop := fun v vs H Q => ∃ m hp x xs, Rel G m H hp ∧ R G m H x v ∧ Rs G m H xs vs ∧ Pst G m H (g x xs hp) (fun z m' _ H' => ∀ u, R G m' H' z u → Q u H') W0
def NoXM (g : GMt) : Prop := ∀ x xs h c fs h', g x xs h ≠ .exc c fs h'
def isTy (t : String) (h : MH) (x : T) : Bool := match x with
  | .str _ => decide (t = "str")
  | .loc n => (match h[n]? with
    | some (.lst _) => decide (t = "list")
    | some (.dK _) => decide (t = "dict")
    | some (.dT _) => decide (t = "dict")
    | _ => false)
  | .lst _ => decide (t = "list")
  | .klst _ => decide (t = "list")
  | _ => false
def emBm (t : String) (g : GMt) (f : EM) (fa : AM) : EM := fun r h => (f r h).bind fun x h1 => if isTy t h1 x = true then (fa r h1).bind fun xs h2 => g x xs h2 else .bad
section
variable {X : Cx} {cl : Cln} {W : WX} {o e : Expr} {es : List Expr} {f : EM} {fa : AM} {g : GMt} {name : Str} {apos cpos : Pos} {t id : String}
theorem isTy_ok {G : Gx} {m : Ml} {H : Hp} {h : MH} {x : T} {v : V} (rel : Rel G m H h) (rx : R G m H x v) (e : isTy t h x = true) : tyV G.K t v H := by
  cases x with
  | str s =>
    simp only [R] at rx
    subst rx
    have q : t = "str" := of_decide_eq_true e
    exact q
  | lst xs =>
    obtain ⟨a, vs, rfl, sq, rs⟩ := lsOf_ok (xs := xs) rel rx rfl
    exact .inl ⟨of_decide_eq_true e, vs, sq⟩
  | klst xs =>
    obtain ⟨a, vs, rfl, sq, rs⟩ := lsOf_ok (xs := xs) rel rx rfl
    exact .inl ⟨of_decide_eq_true e, vs, sq⟩
  | loc n =>
    simp only [isTy] at e
    split at e
    · rename_i xs ec
      obtain ⟨a, e1, rfl, vs, e2, rs⟩ := rel.cell rx ec
      exact .inl ⟨of_decide_eq_true e, vs, SqL.of e2⟩
    · rename_i xs ec
      obtain ⟨a, e1, rfl, vs, e2, rs⟩ := rel.cell rx ec
      exact .inr (.inr (.inl ⟨of_decide_eq_true e, .inl ⟨vs, e2⟩⟩))
    · rename_i xs ec
      obtain ⟨a, e1, rfl, vs, e2, rs⟩ := rel.cell rx ec
      exact .inr (.inr (.inl ⟨of_decide_eq_true e, .inr ⟨vs, e2⟩⟩))
    · cases e
  | _ => cases e
theorem bm_ok (hn : NoXM g) {σ : L2.St} {H : Hp} {Q : VK} (q : tM (gx X cl) W (emBm t g f fa) σ H Q) : tM (gx X cl) W f σ H fun x H1 => tyV X.K t x H1 ∧ tMA (gx X cl) W fa σ H1 fun xs H2 => rMM (gx X cl) g x xs H2 Q := by
  obtain ⟨r, hp, m, re, rel, p⟩ := q
  refine ⟨r, hp, m, re, rel, p.bind.mono (fun x m1 h1 H1 s1 q1 v rv => ?_) fun _ _ _ z => z⟩
  obtain ⟨rel1, p1⟩ := q1
  split at p1
  · rename_i ht
    refine ⟨isTy_ok rel1 rv ht, r, h1, m1, re.step s1, rel1, p1.bind.mono (fun xs m2 h2 H2 s2 q2 vs rvs => ?_) fun _ _ _ z => z⟩
    exact ⟨m2, h2, x, xs, q2.1, R.step s2 _ _ rv, rvs, q2.2.nox (hn _ _ _)⟩
  · exact p1.elim
theorem me_bm (pa : PlainAttrs t) (slot : Slot t name id) (hty : typeOf (.builtin id) = pure (.type "method_descriptor")) (hm : MtR X id (rMM (gx X cl) g)) (hn : NoXM g) (ho : ME X cl W o f) (ha : MA X cl W (e :: es) fa)
    (hbase : attributeBase o name X.env (eval o X.env) = eval o X.env := by rfl)
    (hfew : ((backTo cpos (starEach (e :: es) X.env)).all (fun x => !x.1) && (backToKw cpos (keywordEach [] X.env)).all (fun x => x.1.isSome)
      && decide ((e :: es).length + ([] : List Keyword).length + (if ([] : List Keyword).isEmpty then 0 else 1) < 30)) = true := by rfl)
    (hline : (apos.endLine == cpos.line) = true := by rfl) (hs : starEach (e :: es) X.env = (false, eval e X.env) :: starEach es X.env := by rfl) (hplain : (backTo cpos (starEach es X.env)).any (·.1) = false := by rfl) :
    ME X cl W (.Call (.Attribute o name apos) (e :: es) [] cpos) (emBm t g f fa) := ⟨PE.imp (pe_bm pa slot hty hm ho.pe ha.pa hbase hfew hline hs hplain) fun σ H Q q => bm_ok hn q⟩
theorem me_bm0 (pa : PlainAttrs t) (slot : Slot t name id) (hty : typeOf (.builtin id) = pure (.type "method_descriptor")) (hm : MtR X id (rMM (gx X cl) g)) (hn : NoXM g) (ho : ME X cl W o f)
    (hbase : attributeBase o name X.env (eval o X.env) = eval o X.env := by rfl) (hline : (apos.endLine == cpos.line) = true := by rfl) : ME X cl W (.Call (.Attribute o name apos) [] [] cpos) (emBm t g f an) := ⟨PE.imp (pe_bm0 pa slot hty hm ho.pe hbase hline) fun σ H Q q => by
  have q := bm_ok hn q
  refine q.mono fun v H' h => ⟨h.1, ?_⟩
  obtain ⟨r, hp, m, re, rel, p⟩ := h.2
  exact p.ok_ rel [] Rs.nil⟩
theorem MtR.imp {r r' : V → List V → Hp → VK → Prop} (h : MtR X id r) (i : ∀ x xs H Q, r' x xs H Q → r x xs H Q) : MtR X id r' := fun pins s σ H x xs v us Q I rv rvs q => h pins s σ H x xs v us Q I rv rvs (i _ _ _ _ q)
def apT : GMt := fun x xs h => match x, xs with
  | .loc n, [y] => (match lstAt h n with
    | some l => if l.length < sizeLine then .ok .non (h.set n (.lst (l ++ [y]))) else .bad
    | none => .bad)
  | _, _ => .bad
theorem n_ap : NoXM apT := fun x xs h c fs h' e => by
  unfold apT at e
  split at e
  · split at e
    · split at e <;> cases e
    · cases e
  · cases e
theorem mm_ap : MtR X "list.append" (rMM (gx X cl) apT) := MtR.imp mt_append fun v vs H Q q => by
  obtain ⟨m, hp, x, xs, rel, rx, rs, p⟩ := q
  unfold apT at p
  split at p
  · rename_i n y
    obtain ⟨w, t, rfl, h2, h3⟩ := Rs.cons_iff.mp rs
    obtain rfl := Rs.nil_iff.mp h3
    split at p
    · rename_i l el
      obtain ⟨a, ws, e1, rfl, e3, rl⟩ := lstAt_ok rel rx el
      split at p
      · rename_i hl
        have ha : a ∈ m.c := List.mem_of_getElem? e1
        exact ⟨a, ws, w, rfl, rfl, e3, by rw [← Rs.len rl]; exact hl, p m _ (Stp.wr ha) (rel.wr e1 ⟨_, upd_same, Rs.step (Stp.wr ha) _ _ (Rs.app rl (Rs.cons h2 Rs.nil))⟩) _ (by simp only [R])⟩
      · exact p.elim
    · exact p.elim
  · exact p.elim
def exT : GMt := fun x xs h => match x, xs with
  | .loc n, [y] => (match lstAt h n, lsW h y with
    | some l, some l2 => if l.length + l2.length ≤ sizeLine then .ok .non (h.set n (.lst (l ++ l2))) else .bad
    | _, _ => .bad)
  | _, _ => .bad
theorem n_ex : NoXM exT := fun x xs h c fs h' e => by
  unfold exT at e
  split at e
  · split at e
    · split at e <;> cases e
    · cases e
  · cases e
theorem mm_ex : MtR X "list.extend" (rMM (gx X cl) exT) := MtR.imp mt_extend fun v vs H Q q => by
  obtain ⟨m, hp, x, xs, rel, rx, rs, p⟩ := q
  unfold exT at p
  split at p
  · rename_i n y
    obtain ⟨w, t, rfl, h2, h3⟩ := Rs.cons_iff.mp rs
    obtain rfl := Rs.nil_iff.mp h3
    split at p
    · rename_i l l2 el el2
      obtain ⟨a, ws, e1, rfl, e3, rl⟩ := lstAt_ok rel rx el
      obtain ⟨b, zs, rfl, e4, rl2⟩ := lsW_ok rel h2 el2
      split at p
      · rename_i hl
        have ha : a ∈ m.c := List.mem_of_getElem? e1
        exact ⟨a, b, ws, zs, rfl, rfl, e3, e4, by rw [← Rs.len rl, ← Rs.len rl2]; exact hl, p m _ (Stp.wr ha) (rel.wr e1 ⟨_, upd_same, Rs.step (Stp.wr ha) _ _ (Rs.app rl rl2)⟩) _ (by simp only [R])⟩
      · exact p.elim
    · exact p.elim
  · exact p.elim
def ppT : GMt := fun x xs h => match x, xs with
  | .loc n, [] => (match lstAt h n with
    | some l => (match l[l.length - 1]? with
      | some y => .ok y (h.set n (.lst l.dropLast))
      | none => .bad)
    | none => .bad)
  | _, _ => .bad
theorem n_pp : NoXM ppT := fun x xs h c fs h' e => by
  unfold ppT at e
  split at e
  · split at e
    · split at e <;> cases e
    · cases e
  · cases e
theorem mm_pp : MtR X "list.pop" (rMM (gx X cl) ppT) := MtR.imp mt_pop fun v vs H Q q => by
  obtain ⟨m, hp, x, xs, rel, rx, rs, p⟩ := q
  unfold ppT at p
  split at p
  · rename_i n
    obtain rfl := Rs.nil_iff.mp rs
    split at p
    · rename_i l el
      obtain ⟨a, ws, e1, rfl, e3, rl⟩ := lstAt_ok rel rx el
      split at p
      · rename_i y ey
        obtain ⟨w, ew, rw'⟩ := Rs.get rl ey
        have ha : a ∈ m.c := List.mem_of_getElem? e1
        exact ⟨a, ws, w, rfl, rfl, e3, by rw [← Rs.len rl]; exact ew, p m _ (Stp.wr ha) (rel.wr e1 ⟨_, upd_same, Rs.step (Stp.wr ha) _ _ rl.dropLast⟩) _ (R.step (Stp.wr ha) _ _ rw')⟩
      · exact p.elim
    · exact p.elim
  · exact p.elim
def paT : GMt := fun x xs h => match x, xs with
  | .loc n, [.int i] => (match lstAt h n with
    | some l => if -(2 ^ 63) ≤ i ∧ i < 2 ^ 63 then (match seqIndex? i l.length with
      | some k => (match l[k]? with
        | some y => .ok y (h.set n (.lst (l.eraseIdx k)))
        | none => .bad)
      | none => .bad) else .bad
    | none => .bad)
  | _, _ => .bad
theorem n_pa : NoXM paT := fun x xs h c fs h' e => by
  unfold paT at e
  split at e
  · split at e
    · split at e
      · split at e
        · split at e <;> cases e
        · cases e
      · cases e
    · cases e
  · cases e
theorem mm_pa : MtR X "list.pop" (rMM (gx X cl) paT) := MtR.imp mt_popAt fun v vs H Q q => by
  obtain ⟨m, hp, x, xs, rel, rx, rs, p⟩ := q
  unfold paT at p
  split at p
  · rename_i n i
    obtain ⟨w, t, rfl, h2, h3⟩ := Rs.cons_iff.mp rs
    obtain rfl := Rs.nil_iff.mp h3
    simp only [R] at h2
    subst h2
    split at p
    · rename_i l el
      obtain ⟨a, ws, e1, rfl, e3, rl⟩ := lstAt_ok rel rx el
      split at p
      · rename_i hb
        split at p
        · rename_i k ek
          split at p
          · rename_i y ey
            obtain ⟨w, ew, rw'⟩ := Rs.get rl ey
            have ha : a ∈ m.c := List.mem_of_getElem? e1
            exact ⟨a, ws, i, k, w, rfl, rfl, e3, hb.1, hb.2, by rw [← Rs.len rl]; exact ek, ew, p m _ (Stp.wr ha) (rel.wr e1 ⟨_, upd_same, Rs.step (Stp.wr ha) _ _ (rl.eraseIdx k)⟩) _ (R.step (Stp.wr ha) _ _ rw')⟩
          · exact p.elim
        · exact p.elim
      · exact p.elim
    · exact p.elim
  · exact p.elim

/-! ### all, any, sum -/
def allF : FM := on1 fun x h => match lsOf h x with
  | some xs => (match mapO blOf xs with
    | some bs => .ok (.bl (bs.all fun b => b)) h
    | none => .bad)
  | none => .bad
def anyF : FM := on1 fun x h => match lsOf h x with
  | some xs => (match mapO blOf xs with
    | some bs => .ok (.bl (bs.any fun b => b)) h
    | none => .bad)
  | none => .bad
def sumF : FM := on1 fun x h => match lsOf h x with
  | some xs => (match mapO inOf xs with
    | some ns => .ok (.int ns.sum) h
    | none => .bad)
  | none => .bad
theorem n_all : NoXF allF := on1_nox fun x h c fs h' e => by
  split at e
  · split at e <;> cases e
  · cases e
theorem n_any : NoXF anyF := on1_nox fun x h c fs h' e => by
  split at e
  · split at e <;> cases e
  · cases e
theorem n_sum : NoXF sumF := on1_nox fun x h c fs h' e => by
  split at e
  · split at e <;> cases e
  · cases e
theorem c_all (hc : X.calm = true) : CallR X (.builtin "all") (rMC (gx X cl) allF) := CallR.imp (cr_all hc) fun vs H Q q => by
  obtain ⟨m, hp, xs, rel, rs, p⟩ := q
  obtain ⟨x, v, rfl, rx, p⟩ := on1_ok rs p
  split at p
  · rename_i xs e1
    obtain ⟨a, ws, rfl, sq, rs⟩ := lsOf_ok rel rx e1
    split at p
    · rename_i bs eb
      rw [bls_ok rs eb] at sq
      exact ⟨a, bs, rfl, sq, p.ok_ rel _ (by simp only [R]; rfl)⟩
    · exact p.elim
  · exact p.elim
theorem c_any (hc : X.calm = true) : CallR X (.builtin "any") (rMC (gx X cl) anyF) := CallR.imp (cr_any hc) fun vs H Q q => by
  obtain ⟨m, hp, xs, rel, rs, p⟩ := q
  obtain ⟨x, v, rfl, rx, p⟩ := on1_ok rs p
  split at p
  · rename_i xs e1
    obtain ⟨a, ws, rfl, sq, rs⟩ := lsOf_ok rel rx e1
    split at p
    · rename_i bs eb
      rw [bls_ok rs eb] at sq
      exact ⟨a, bs, rfl, sq, p.ok_ rel _ (by simp only [R]; rfl)⟩
    · exact p.elim
  · exact p.elim
theorem c_sum (hc : X.calm = true) : CallR X (.builtin "sum") (rMC (gx X cl) sumF) := CallR.imp (cr_sum hc) fun vs H Q q => by
  obtain ⟨m, hp, xs, rel, rs, p⟩ := q
  obtain ⟨x, v, rfl, rx, p⟩ := on1_ok rs p
  split at p
  · rename_i xs e1
    obtain ⟨a, ws, rfl, sq, rs⟩ := lsOf_ok rel rx e1
    split at p
    · rename_i bs eb
      rw [ints_ok rs eb] at sq
      exact ⟨a, bs, rfl, sq, p.ok_ rel _ (by simp only [R])⟩
    · exact p.elim
  · exact p.elim

/-! ### set(a tuple of ints): a set that nobody writes -/
def setF : FM := on1 fun x h => match tpOf x with
  | some xs => (match mapO inOf xs with
    | some ns => if ns.length + 1 < scanBound then .ok (.set ns) h else .bad
    | none => .bad)
  | none => .bad
theorem n_set : NoXF setF := on1_nox fun x h c fs h' e => by
  split at e
  · split at e
    · split at e <;> cases e
    · cases e
  · cases e
theorem c_set (hc : X.calm = true) : CallR X (.type "set") (rMC (gx X cl) setF) := by
  intro pins s σ H vs us Q I rv q
  obtain ⟨m, hp, xs, rel, rs, p⟩ := q
  obtain ⟨x, v, rfl, rx, p⟩ := on1_ok rs p
  split at p
  · rename_i xs e1
    obtain ⟨a, ws, rfl, sq, rs⟩ := tpOf_ok rx e1
    split at p
    · rename_i ns en
      split at p
      · rename_i hl
        obtain ⟨its, r1, pl, hz⟩ := I.tuple sq
        rw [ints_ok rs en] at r1
        rw [Vals.ref1 rv]
        refine call_set_tupI ns (I.ok.hd hc) pl r1.ints hl fun h' tk c hR hcl hk => ?_
        have hn : H s.heap.objs.size = none := I.hok.fresh (Nat.le_refl _)
        refine ⟨.ref s.heap.objs.size, upd H s.heap.objs.size (SetO X.w s.heap.objs.size (fun j => decide (j ∈ ns)) c), I.laid (t' := tk) hk (Nat.le_refl _) (setO_new hR), rfl, ?_⟩
        refine p m _ (Stp.new hn) (rel.new hn) _ ?_
        simp only [R]
        exact ⟨_, rfl, ⟨_, c, upd_same, fun k => rfl, hcl⟩, rel.freeZ hn⟩
      · exact p.elim
    · exact p.elim
  · exact p.elim
end
/-! ### list(range(..)), tuple(range(..)) -/
abbrev RM := Rho → MH → Res (Int × Int)
def tMR (G : Gx) (W : WX) (f : RM) : L2.St → Hp → (Int → Int → Hp → Prop) → Prop := fun σ H Q => ∃ r hp m, RE G m H r σ ∧ Rel G m H hp ∧ Pst G m H (f r hp) (fun p _ _ H' => Q p.1 p.2 H') (fun c d H' => W c d σ H')
structure MR (X : Cx) (cl : Cln) (W : WX) (e : Expr) (f : RM) : Prop where
  pr : PRg X e (tMR (gx X cl) W f)
def rg1 (f : EM) : RM := fun r h => (f r h).bind fun x h1 => match x with
  | .int n => .ok (0, n) h1
  | _ => .bad
def rg2 (f g : EM) : RM := fun r h => (f r h).bind fun x h1 => (g r h1).bind fun y h2 => match x, y with
  | .int i, .int j => .ok (i, j) h2
  | _, _ => .bad
def rgB (i j : Int) : Bool := rgOk i && rgOk j && decide ((j - i).toNat ≤ 2 ^ 24)
def emRgL (k : List T → MH → Res T) (f : RM) : EM := fun r h => (f r h).bind fun p h1 => if rgB p.1 p.2 = true then k (rgL p.1 (p.2 - p.1).toNat) h1 else .bad
def emRgT (f : RM) : EM := fun r h => (f r h).bind fun p h1 => if rgB p.1 p.2 = true then .ok (.tup (rgL p.1 (p.2 - p.1).toNat)) h1 else .bad
section
variable {X : Cx} {cl : Cln} {W : WX} {a b e : Expr} {f g : EM} {fr : RM} {p pos : Pos} {k : List T → MH → Res T}
theorem mr_1 (hm : X.mg "range" = none) (ha : ME X cl W a f) (hg : Gl X "range" := by rfl) (na : starEach [a] X.env = (false, eval a X.env) :: starEach [] X.env := by rfl) : MR X cl W (.Call (.Name "range" p) [a] [] pos) (rg1 f) := ⟨fun pins s σ H Q I h => prg_1 hg hm ha.pe na pins s σ H Q I (by
  obtain ⟨r, hp, m, re, rel, p⟩ := h
  refine ⟨r, hp, m, re, rel, p.bind.mono (fun x m1 h1 H1 s q v rv => ?_) fun _ _ _ z => z⟩
  obtain ⟨rel1, p1⟩ := q
  split at p1
  · simp only [R] at rv
    exact ⟨_, rv, p1.ok_ rel1⟩
  · exact p1.elim)⟩
theorem mr_2 (hm : X.mg "range" = none) (ha : ME X cl W a f) (hb : ME X cl W b g) (hg : Gl X "range" := by rfl) (na : starEach [a, b] X.env = (false, eval a X.env) :: starEach [b] X.env := by rfl)
    (nb : starEach [b] X.env = (false, eval b X.env) :: starEach [] X.env := by rfl) (hp : (backTo pos (starEach [b] X.env)).any (·.1) = false := by rfl) : MR X cl W (.Call (.Name "range" p) [a, b] [] pos) (rg2 f g) := ⟨fun pins s σ H Q I h => prg_2 hg hm ha.pe hb.pe na nb hp pins s σ H Q I (by
  obtain ⟨r, hp, m, re, rel, p⟩ := h
  refine ⟨r, hp, m, re, rel, p.bind.mono (fun x m1 h1 H1 s1 q v rv => ?_) fun _ _ _ z => z⟩
  refine ⟨r, h1, m1, re.step s1, q.1, q.2.bind.mono (fun y m2 h2 H2 s2 q2 w rw' => ?_) fun _ _ _ z => z⟩
  obtain ⟨rel2, p2⟩ := q2
  split at p2
  · simp only [R] at rv rw'
    exact ⟨_, _, rv, rw', p2.ok_ rel2⟩
  · exact p2.elim)⟩
theorem rgB_ok {i j : Int} (h : rgB i j = true) : RgOk i j := by
  simp only [rgB, Bool.and_eq_true, decide_eq_true_eq] at h
  obtain ⟨⟨h1, h2⟩, h3⟩ := h
  obtain ⟨a1, a2⟩ := rgOk_ok h1
  obtain ⟨b1, b2⟩ := rgOk_ok h2
  exact ⟨a1, a2, b1, b2, h3⟩
theorem rs_rg {G : Gx} {m : Ml} {H : Hp} (i j : Int) : Rs G m H (rgL i (j - i).toNat) (rgV i j) := by
  unfold rgL rgV
  generalize List.range (j - i).toNat = l
  induction l with
  | nil => exact Rs.nil
  | cons n l ih => exact Rs.cons (by simp only [R]) ih
theorem me_rgL (hk : k = lstK ∨ k = lstL) (hc : X.calm = true) (hm : X.mg "list" = none) (he : MR X cl W e fr) (hg : Gl X "list" := by rfl) (na : starEach [e] X.env = (false, eval e X.env) :: starEach [] X.env := by rfl) : ME X cl W (.Call (.Name "list" p) [e] [] pos) (emRgL k fr) := ⟨PE.imp (pe_listRg hc hg hm he.pr na) fun σ H Q h => by
  obtain ⟨r, hp, m, re, rel, p⟩ := h
  refine ⟨r, hp, m, re, rel, p.bind.mono (fun x m1 h1 H1 s q => ?_) fun _ _ _ z => z⟩
  obtain ⟨rel1, p1⟩ := q
  split at p1
  · rename_i hb
    exact ⟨rgB_ok hb, (lst_two hk rel1 (rs_rg _ _) p1).2⟩
  · exact p1.elim⟩
theorem me_rgT (hc : X.calm = true) (hm : X.mg "tuple" = none) (he : MR X cl W e fr) (hg : Gl X "tuple" := by rfl) (na : starEach [e] X.env = (false, eval e X.env) :: starEach [] X.env := by rfl) : ME X cl W (.Call (.Name "tuple" p) [e] [] pos) (emRgT fr) := ⟨PE.imp (pe_tupRg hc hg hm he.pr na) fun σ H Q h => by
  obtain ⟨r, hp, m, re, rel, p⟩ := h
  refine ⟨r, hp, m, re, rel, p.bind.mono (fun x m1 h1 H1 s q => ?_) fun _ _ _ z => z⟩
  obtain ⟨rel1, p1⟩ := q
  split at p1
  · rename_i hb
    exact ⟨rgB_ok hb, fun q hq => p1 m1 _ (Stp.new hq) (rel1.new hq) _ (tup_new rel1 (rs_rg _ _) hq)⟩
  · exact p1.elim⟩
end
end TW
namespace TW
open PySem PySem.Spec L2

/-! ### types and classes as values; isinstance -/
section
variable {X : Cx} {cl : Cln} {W : WX} {x : Str} {pos p : Pos} {a e : Expr} {es : List Expr}
theorem me_ty {n : String} (hm : X.mg x = none) (hv : bootBuiltins x = some (.type n)) (hg : Gl X x := by rfl) (hn : x ≠ "__name__" := by decide) (hd : (x == ("__debug__" : Str)) = false := by decide) : ME X cl W (.Name x pos) (cst (.ty n)) :=
  me_c (v := .ty n) (pe_bltn hg hm hv rfl hn hd) fun m H => by simp only [R]
theorem me_cls {c : Str} {C : Addr} (hm : X.mg c = some (.ref C)) (hC : cl c = some C) (hg : Gl X c := by rfl) (hd : (c == ("__debug__" : Str)) = false := by decide) : ME X cl W (.Name c pos) (cst (.cls c)) :=
  me_c (v := .ref C) (pe_glob hg hm rfl hd) fun m H => by simp only [R]; exact ⟨C, hC, rfl⟩
end
def tyNm (h : MH) : T → Option String
  | .non => some "NoneType"
  | .bl _ => some "bool"
  | .int _ => some "int"
  | .str _ => some "str"
  | .tup _ => some "tuple"
  | .ktup _ => some "tuple"
  | .lst _ => some "list"
  | .klst _ => some "list"
  | .dK _ _ => some "dict"
  | .loc n => (match h[n]? with
    | some (.lst _) => some "list"
    | some (.dK _) => some "dict"
    | some (.dT _) => some "dict"
    | _ => none)
  | _ => none
def tyNs : List String := ["NoneType", "bool", "int", "str", "tuple", "list", "dict"]
def isiTab (t n : String) : Option Bool := if n ∈ tyNs then some (decide (t = n) || (decide (t = "bool") && decide (n = "int"))) else none
theorem tyNm_mem {h : MH} {x : T} {t : String} (e : tyNm h x = some t) : t ∈ tyNs := by
  cases x with
  | loc n =>
    simp only [tyNm] at e
    split at e <;> first | (cases e; done) | (cases e; decide)
  | _ => first | (cases e; done) | (cases e; decide)
theorem kit_tab {K : PySem.W.Frag} {t n : String} {b : Bool} (ht : t ∈ tyNs) (e : isiTab t n = some b) : PySem.W.kitOne K (.type t) (.type n) = some b := by
  unfold isiTab at e
  split at e
  · rename_i hn
    cases e
    simp only [tyNs, List.mem_cons, List.not_mem_nil, or_false] at ht hn
    rcases ht with rfl | rfl | rfl | rfl | rfl | rfl | rfl <;> rcases hn with rfl | rfl | rfl | rfl | rfl | rfl | rfl <;> rfl
  · cases e
theorem tyNm_ok {G : Gx} {m : Ml} {H : Hp} {h : MH} {x : T} {v : V} {t : String} (rel : Rel G m H h) (rx : R G m H x v) (e : tyNm h x = some t) : TyX G.K H v (.type t) := by
  cases x with
  | non => cases e; simp only [R] at rx; subst rx; exact .base .non
  | bl b => cases e; simp only [R] at rx; subst rx; exact .base (.bl b)
  | int b => cases e; simp only [R] at rx; subst rx; exact .base (.int b)
  | str b => cases e; simp only [R] at rx; subst rx; exact .base (.str b)
  | tup xs => cases e; simp only [R] at rx; obtain ⟨a, vs, rfl, f, _⟩ := rx; exact .base (.tup f.1)
  | ktup xs => cases e; simp only [R] at rx; obtain ⟨a, vs, rfl, f, _⟩ := rx; rcases f with ⟨o, _, _, h1, h2, _⟩ | ⟨o, h1, _⟩; exact .kTuple h1 h2; exact .fTuple h1
  | lst xs => cases e; simp only [R] at rx; obtain ⟨a, vs, rfl, f, _⟩ := rx; exact .base (.lst f.1)
  | klst xs =>
    cases e
    simp only [R] at rx
    obtain ⟨a, vs, rfl, f, _⟩ := rx
    rcases f with ⟨z | ⟨o, z⟩, _⟩ | ⟨o, _, _, h1, h2, _⟩
    · exact .base (.lst z)
    · exact .base (.frz z)
    · exact .kList h1 h2
  | dK ks xs =>
    cases e
    simp only [R] at rx
    obtain ⟨a, vs, rfl, ⟨z | ⟨o, z⟩, _⟩, _⟩ := rx
    · exact .base (.dK z)
    · exact .fDict z
  | loc n =>
    simp only [tyNm] at e
    split at e
    · rename_i xs ec
      cases e
      obtain ⟨a, _, rfl, vs, e2, _⟩ := rel.cell rx ec
      exact .base (.lst e2)
    · rename_i xs ec
      cases e
      obtain ⟨a, _, rfl, vs, e2, _⟩ := rel.cell rx ec
      exact .base (.dK e2)
    · rename_i xs ec
      cases e
      obtain ⟨a, _, rfl, vs, e2, _⟩ := rel.cell rx ec
      exact .base (.dT e2)
    · cases e
  | _ => cases e
/-- what isinstance must know of an own class -/
structure IsO (K : PySem.W.Frag) (C : Addr) : Prop where
  cls : Cls K C
  ha : PySem.W.findIn K (.ref C) "__class__" = some (some (.builtin "object.__class__"))
  hn : PySem.W.specialIn K (.builtin "object.__class__") "__get__" = some (some (.builtin "getset_descriptor.__get__"))
  htk : PySem.W.takesIn K (.builtin "object.__class__") = some true
  hm : PySem.W.mroIn K C (.type "object") = some true
def isiB (h : MH) (x c : T) : Option Bool := match c with
  | .ty n => (match tyNm h x with
    | some t => isiTab t n
    | none => none)
  | .cls c => (match obOf h x with
    | some (d, _) => if d = c then some true else none
    | none => none)
  | _ => none
def isiF : FM := fun xs h => match xs with
  | [x, c] => (match isiB h x c with
    | some b => .ok (.bl b) h
    | none => .bad)
  | _ => .bad
theorem n_isi : NoXF isiF := fun xs h c fs h' e => by
  unfold isiF at e
  split at e
  · split at e <;> cases e
  · cases e
section
variable {X : Cx} {cl : Cln} {W : WX}
theorem c_isi (hO : ∀ c C, cl c = some C → IsO X.K C) : CallR X (.builtin "isinstance") (rMC (gx X cl) isiF) := CallR.imp call_isi fun vs H Q q => by
  obtain ⟨m, hp, xs, rel, rs, p⟩ := q
  unfold isiF at p
  split at p
  · rename_i x c
    obtain ⟨v, t, rfl, h2, h3⟩ := Rs.cons_iff.mp rs
    obtain ⟨w, t, rfl, h4, h5⟩ := Rs.cons_iff.mp h3
    obtain rfl := Rs.nil_iff.mp h5
    split at p
    · rename_i b eb
      have fin : Q (.bl b) H := p.ok_ rel _ (by simp only [R])
      unfold isiB at eb
      split at eb
      · simp only [R] at h4
        subst h4
        split at eb
        · rename_i t et
          exact ⟨v, _, _, _, b, rfl, .ty _, tyNm_ok rel h2 et, kit_tab (tyNm_mem et) eb, fin⟩
        · cases eb
      · simp only [R] at h4
        obtain ⟨C, hC, rfl⟩ := h4
        split at eb
        · rename_i d fs eo
          split at eb
          · rename_i hd
            cases eb
            subst hd
            obtain ⟨a, C', dx, qv, rfl, hC', hH, rk⟩ := obOf_ok rel h2 eo
            have ec : C' = C := by
              have := hC'.symm.trans hC
              exact Option.some.inj this
            subst ec
            have io := hO _ _ hC
            refine ⟨.ref a, _, _, _, true, rfl, .own C', .base (.ins hH io.cls io.ha io.hn io.htk io.hm), ?_, fin⟩
            unfold PySem.W.kitOne
            rw [if_pos (by simp)]
          · cases eb
        · cases eb
      · cases eb
    · exact p.elim
  · exact p.elim
/-! without own classes: cl is not asked -/
def isiTF : FM := fun xs h => match xs with
  | [x, .ty n] => isiF [x, .ty n] h
  | _ => .bad
theorem n_isiT : NoXF isiTF := fun xs h c fs h' e => by
  unfold isiTF at e
  split at e
  · exact n_isi _ _ _ _ _ e
  · cases e
theorem c_isiT : CallR X (.builtin "isinstance") (rMC (gx X cl) isiTF) := CallR.imp call_isi fun vs H Q q => by
  obtain ⟨m, hp, xs, rel, rs, p⟩ := q
  unfold isiTF at p
  split at p
  · rename_i x n
    obtain ⟨v, t, rfl, h2, h3⟩ := Rs.cons_iff.mp rs
    obtain ⟨w, t, rfl, h4, h5⟩ := Rs.cons_iff.mp h3
    obtain rfl := Rs.nil_iff.mp h5
    simp only [isiF] at p
    split at p
    · rename_i b eb
      have fin : Q (.bl b) H := p.ok_ rel _ (by simp only [R])
      simp only [R] at h4
      subst h4
      simp only [isiB] at eb
      split at eb
      · rename_i t et
        exact ⟨v, _, _, _, b, rfl, .ty _, tyNm_ok rel h2 et, kit_tab (tyNm_mem et) eb, fin⟩
      · cases eb
    · exact p.elim
  · exact p.elim
end

/-! ### {k: v, ..} -/
def prR : List (EM × EM) → Rho → MH → Res (List (T × T))
  | [], _, h => .ok [] h
  | (f, g) :: q, r, h => (f r h).bind fun x h1 => (g r h1).bind fun y h2 => (prR q r h2).bind fun ps h3 => .ok ((x, y) :: ps) h3
def kyP (p : T × T) : Option (Key × T) := match kyOf p.1 with
  | some k => some (k, p.2)
  | none => none
def mrgT (more : List (Key × T)) : List (Key × T) := more.foldl (fun acc kv => putT acc kv.1 kv.2) []
def dicK (kvs : List (Key × T)) (h : MH) : Res T := .ok (.dK (kvs.map (·.1)) (kvs.map (·.2))) h
def dicL (kvs : List (Key × T)) (h : MH) : Res T := .ok (.loc h.length) (h ++ [.dK kvs])
def emD (k : List (Key × T) → MH → Res T) (q : List (EM × EM)) : EM := fun r h => (prR q r h).bind fun ps h1 => match mapO kyP ps with
  | some kvs => if kvs.length ≤ 15 then k (mrgT kvs) h1 else .bad
  | none => .bad
/-- {}: a dict with keys of ints and texts, of tuples -/
def dnK : EM := fun _ h => .ok (.loc h.length) (h ++ [.dK []])
def dnT : EM := fun _ h => .ok (.loc h.length) (h ++ [.dT []])
structure MPs (X : Cx) (cl : Cln) (W : WX) (pos : Pos) (keys : List (Option Expr)) (values : List Expr) (q : List (EM × EM)) : Prop where
  pps : PPs X pos keys values (q.map fun z => (tM (gx X cl) W z.1, tM (gx X cl) W z.2))
section
variable {X : Cx} {cl : Cln} {W : WX} {pos : Pos} {k v : Expr} {ks : List (Option Expr)} {vs : List Expr} {f g : EM} {q : List (EM × EM)}
theorem mps_n : MPs X cl W pos [] [] [] := ⟨pps_nil⟩
theorem mps_c (hk : ME X cl W k f) (hv : ME X cl W v g) (hr : MPs X cl W pos ks vs q) : MPs X cl W pos (some k :: ks) (v :: vs) ((f, g) :: q) := ⟨pps_cons hk.pe hv.pe hr.pps⟩
def RsP (G : Gx) (m : Ml) (H : Hp) (ps : List (T × T)) (qs : List (V × V)) : Prop := Rs G m H (ps.map (·.1)) (qs.map (·.1)) ∧ Rs G m H (ps.map (·.2)) (qs.map (·.2))
theorem prs_ok {σ : L2.St} : ∀ {q : List (EM × EM)} {H : Hp} {m : Ml} {h : MH} {r : Rho} {Q : List (V × V) → Hp → Prop}, RE (gx X cl) m H r σ → Rel (gx X cl) m H h →
    Pst (gx X cl) m H (prR q r h) (fun ps m' _ H' => ∀ qs, RsP (gx X cl) m' H' ps qs → Q qs H') (fun c d H' => W c d σ H') → tPairs (q.map fun z => (tM (gx X cl) W z.1, tM (gx X cl) W z.2)) σ H Q
  | [], H, m, h, r, Q, re, rel, p => p.ok_ rel [] ⟨Rs.nil, Rs.nil⟩
  | (f, g) :: q, H, m, h, r, Q, re, rel, p => by
    refine ⟨r, h, m, re, rel, p.bind.mono (fun x m1 h1 H1 s1 q1 v rv => ?_) fun _ _ _ z => z⟩
    refine ⟨r, h1, m1, re.step s1, q1.1, q1.2.bind.mono (fun y m2 h2 H2 s2 q2 w rw' => ?_) fun _ _ _ z => z⟩
    refine prs_ok ((re.step s1).step s2) q2.1 (q2.2.bind.mono (fun ps m3 h3 H3 s3 q3 qs rqs => ?_) fun _ _ _ z => z)
    exact q3.2.ok_ q3.1 _ ⟨Rs.cons (R.step s3 _ _ (R.step s2 _ _ rv)) rqs.1, Rs.cons (R.step s3 _ _ rw') rqs.2⟩
theorem kys_pairs {G : Gx} {m : Ml} {H : Hp} : ∀ {ps : List (T × T)} {qs : List (V × V)} {kvs : List (Key × T)}, RsP G m H ps qs → mapO kyP ps = some kvs → ∃ kv, qs = kv.map (fun z => (kV z.1, z.2)) ∧ Rk G m H kvs kv
  | [], qs, kvs, rs, e => by
    cases e
    have := Rs.nil_iff.mp rs.1
    have : qs = [] := by simpa using this
    subst this
    exact ⟨[], rfl, Rk.nil_iff.mpr rfl⟩
  | (x, y) :: ps, qs, kvs, rs, e => by
    obtain ⟨z, zs, e1, e2, rfl⟩ := mapO_some e
    cases qs with
    | nil =>
      obtain ⟨_, _, e, _⟩ := Rs.cons_iff.mp rs.1
      cases e
    | cons a qs =>
      obtain ⟨u, w⟩ := a
      obtain ⟨v1, t1, e3, h3, h4⟩ := Rs.cons_iff.mp rs.1
      obtain ⟨v2, t2, e5, h5, h6⟩ := Rs.cons_iff.mp rs.2
      cases e3
      cases e5
      obtain ⟨kv, e7, rk⟩ := kys_pairs (ps := ps) (qs := qs) ⟨h4, h6⟩ e2
      unfold kyP at e1
      split at e1
      · rename_i k ek
        cases e1
        have := kyOf_ok h3 ek
        subst this
        exact ⟨(k, w) :: kv, by rw [e7]; rfl, Rk.cons_iff.mpr ⟨w, kv, rfl, h5, rk⟩⟩
      · cases e1
theorem Rk.merge {G : Gx} {m : Ml} {H : Hp} : ∀ {more : List (Key × T)} {mv : List (Key × V)} {kvs : List (Key × T)} {kv : List (Key × V)}, Rk G m H more mv → Rk G m H kvs kv → Rk G m H (more.foldl (fun acc z => putT acc z.1 z.2) kvs) (mergeK kv mv)
  | [], mv, kvs, kv, h, h2 => by
    rw [Rk.nil_iff.mp h]
    exact h2
  | (k, x) :: more, mv, kvs, kv, h, h2 => by
    obtain ⟨w, t, rfl, h3, h4⟩ := Rk.cons_iff.mp h
    show Rk G m H (more.foldl (fun acc z => putT acc z.1 z.2) (putT kvs k x)) (mergeK (putK kv k w) t)
    exact Rk.merge (more := more) (mv := t) h4 (Rk.put k h3 h2)
theorem dic_end {m1 m : Ml} {H1 H : Hp} {D : Addr} {h h1' : MH} {G : Gx} {k : List (Key × T) → MH → Res T} (hk : k = dicK ∨ k = dicL) {kvs : List (Key × T)} {kv : List (Key × V)} {Q : VK} {W : XK} (w : Way m1 m H1 H D) (hD : H1 D = none) (rel1 : Rel G m1 H1 h1') (rel : Rel G m H h) (rk : Rk G m H kvs kv) (hl : H D = some (.dK kv))
    (p : Pst G m1 H1 (k kvs h) (fun z m' _ H' => ∀ u, R G m' H' z u → Q u H') W) : Q (.ref D) H := by
  have nd : D ∉ m1.z := fun z => by
    obtain ⟨o, _, e⟩ := rel1.zs D z
    rw [hD] at e; cases e
  rcases hk with rfl | rfl
  · have wk : Wk m ⟨m.c, m1.z⟩ H H := Wk.out w.z
    refine p ⟨m.c, m1.z⟩ H w.stp (rel.out w.z) _ ?_
    simp only [R]
    have rk2 := rk.wk wk
    refine ⟨D, kv.map (·.2), rfl, ⟨.inl ?_, rel.zd D (by rw [w.z]; exact List.mem_cons_self), nd⟩, by simpa using rk.len, rk2.2⟩
    rw [zip_unzip rk]
    exact hl
  · refine p _ H (w.stpc hD) (rel.outc w.z nd ⟨kv, hl, rk.wk (Wk.outc w.z nd)⟩) _ ?_
    simp only [R]
    refine ⟨D, ?_, rfl⟩
    show (m.c ++ [D])[_]? = _
    rw [← rel.len, List.getElem?_append_right (Nat.le_refl _)]
    simp
theorem me_dict {k : List (Key × T) → MH → Res T} (hk : k = dicK ∨ k = dicL) (hp : MPs X cl W pos ks vs q) (hall : ks.all (·.isSome) = true := by rfl) (hl : ks.length = vs.length := by rfl) (h0 : ks ≠ [] := by simp) (h15 : ks.length ≤ 15 := by decide) : ME X cl W (.Dict ks vs pos) (emD k q) := by
  refine ⟨PE.imp (pe_disp hp.pps hall hl h0 h15) fun σ H Q h p hpn => ?_⟩
  obtain ⟨r, hp', m, re, rel, pp⟩ := h
  refine prs_ok (re.wk (Wk.lay hpn)) (rel.lay hpn) ?_
  have way0 : Way m (m.lay p) H (upd H p (.dK [])) p := Way.lay hpn
  unfold emD at pp
  cases e : prR q r hp' with
  | exc c fs h' =>
    rw [e] at pp
    intro m' H' s rel' C d hC hd
    have w := way0.step s
    refine pp ⟨m'.c, m.z⟩ H' w.stp (rel'.out w.z) C d hC ?_
    rcases hd with hd | ⟨dx, q, rfl, fz, rk⟩
    · exact .inl hd
    · have wk : Wk m' ⟨m'.c, m.z⟩ H' H' := Wk.out w.z
      exact .inr ⟨dx, q, rfl, fz.wk wk, rk.wk wk⟩
  | bad => rw [e] at pp; exact pp.elim
  | ok ps h1 =>
    rw [e] at pp
    intro m' H' s rel' qs rqs
    have w := way0.step s
    simp only [Res.bind] at pp
    split at pp
    · rename_i kvs ek
      split at pp
      · rename_i hlen
        obtain ⟨kv, e1, rk⟩ := kys_pairs rqs ek
        have pin : p ∈ (m.lay p).z := List.mem_cons_self
        have np : p ∉ (m.lay p).c := fun z => rel.free hpn z
        have hd : H' p = some (.dK []) := s.zx p _ (by intro _ z; cases z) upd_same pin np
        refine ⟨hd, kv, e1, by rw [← rk.len]; exact hlen, ?_⟩
        have inz : p ∈ m'.z := by rw [w.z]; exact List.mem_cons_self
        have rk2 : Rk (gx X cl) m' (upd H' p (.dK (mergeK [] kv))) (mrgT kvs) (mergeK [] kv) := (Rk.merge rk (Rk.nil_iff.mpr rfl)).wk (Wk.pr inz)
        exact dic_end hk (w.put hpn) hpn rel (rel'.pr inz) rk2 upd_same pp
      · exact pp.elim
    · exact pp.elim
theorem me_dnK : ME X cl W (.Dict [] [] pos) dnK := ⟨PE.imp pe_dnewK fun σ H Q h p hp => by
  obtain ⟨r, hp', m, re, rel, pp⟩ := h
  refine pp (m.add p) _ (Stp.newc hp) (rel.newc hp ⟨[], upd_same, Rk.nil_iff.mpr rfl⟩) _ ?_
  simp only [R]
  refine ⟨p, ?_, rfl⟩
  show (m.c ++ [p])[_]? = _
  rw [← rel.len, List.getElem?_append_right (Nat.le_refl _)]
  simp⟩
/-- {} that nothing changes -/
def dnV : EM := fun _ h => .ok (.dK [] []) h
theorem me_dnV : ME X cl W (.Dict [] [] pos) dnV := ⟨PE.imp pe_dnewK fun σ H Q h p hp => by
  obtain ⟨r, hp', m, re, rel, pp⟩ := h
  refine pp m _ (Stp.new hp) (rel.new hp) _ ?_
  simp only [R]
  exact ⟨p, [], rfl, ⟨.inl upd_same, rel.freeZ hp⟩, rfl, Rs.nil⟩⟩
theorem me_dnT : ME X cl W (.Dict [] [] pos) dnT := ⟨PE.imp pe_dnewT fun σ H Q h p hp => by
  obtain ⟨r, hp', m, re, rel, pp⟩ := h
  refine pp (m.add p) _ (Stp.newc hp) (rel.newc hp ⟨[], upd_same, Rk.nil_iff.mpr rfl⟩) _ ?_
  simp only [R]
  refine ⟨p, ?_, rfl⟩
  show (m.c ++ [p])[_]? = _
  rw [← rel.len, List.getElem?_append_right (Nat.le_refl _)]
  simp⟩
end
end TW
namespace TW
open PySem PySem.Spec L2 PyProof.Rows

/-! ### sorted(xs, key=lambda a: (len(a), a)) -/
/-- the lambda's names: its parameter, len -/
structure KeyS (a : Str) (scope : Scope) : Prop where
  kind : scope.kind = .function
  co : scope.isCoroutine = false
  gen : scope.isGenerator = false
  nocell : ∀ y ∈ scope.names, y.2 ≠ .cell ∧ y.2 ≠ .free
  par : scope.names.lookup a = some .local
  len : scope.names.lookup ("len" : Str) = some NameKind.globalImplicit
theorem key_len {prog : Program} {w : World} {A : Around} {E : Value → Shared → Prop} {s : Shared} {mg mb : Str → Option Value} {f c' tp : Addr} {a qual : Str} {params : Arguments} {scope : Scope} {pm ctv : Value} {p1 p2 p3 p4 p5 : Pos} {x1 : Nat} {items : List Value} {d : PyData}
    (S : KeyS a scope) (hroom : A.depth < recursionLimit) (hf : s.heap.get? f = some (PySem.W.kla_obj "<lambda>" qual params (.Tuple [.Call (.Name "len" p1) [.Name a p2] [] p3, .Name a p4] x1 p5) scope [] pm c' ctv))
    (hcode : ∃ (oc : Obj) (vs : Array Value) (t : Tok), s.heap.get? c' = some oc ∧ oc.data = .fields vs ∧ vs[1]? = some (.str qual t))
    (hbind : ∀ u : Value, bindArgs (PySem.W.kla_fn "<lambda>" qual params (.Tuple [.Call (.Name "len" p1) [.Name a p2] [] p3, .Name a p4] x1 p5) scope [] pm (.ref c') ctv) ⟨[u], []⟩ = pure [(a, u)])
    (hg : s.heap.Ns mainGlobals mg) (hb : s.heap.Ns builtinsNs mb) (hm : mg "len" = none) (hbl : mb "len" = some (.builtin "len")) (lim : s.heap.NoLimit) (ht : s.heap.IsTuple tp items.toArray) (hz : items.length ≤ sizeLine) (hr : Reads s.heap (.ref tp) d [])
    (hd : (a == ("__debug__" : Str)) = false := by decide) (hcd : (a == ("__classdict__" : Str)) = false := by decide) :
    wpAny (model prog w) A (call (.ref f) [.ref tp]) (PySem.W.KeyPure (.tuple [.int items.length, d]) s) E s := by
  obtain ⟨oc, vs, t, h1, h2, h3⟩ := hcode
  refine wpAny_call (PySem.W.kla_callFunE hroom hf rfl S.co S.gen rfl ⟨c', oc, vs, t, rfl, h1, h2, h3⟩ ?_)
  rw [hbind]
  refine wpAny_pure (wpAny_newFunctionEnv (fun y hy => (S.nocell y hy).1) (fun y hy => ?_) (fun h' hns hsb => ⟨lim.fresh _ hsb, ?_⟩) S.kind)
  · have e : y = (a, .ref tp) := by simpa using hy
    rw [e]
    exact S.par
  · have kp : ∀ b o, s.heap.get? b = some o → h'.get? b = some o := fun b o e => hsb.extBut b o (Nat.ne_of_lt (Heap.lt_size e)) (Heap.get?_push_of_some _ e)
    show codeAny _ _ (.expr _ (PySem.W.envX qual scope s.heap.objs.size f (.ref c') [])) _ _
    refine PySem.W.kla_codeExpr ?_
    refine wpAny_Tuple_spliced ?_
    refine Calls.spliced_cons ?_
    refine wpAny_Call_Name_kw (Calls.Name_function_global S.kind S.len (Calls.loadGlobal_builtin (hg.keeps kp) hm (hb.keeps kp) hbl ?_) (by decide))
    have nm : ∀ (p : Pos) (s2 : Shared) (E' : Value → Shared → Prop) (Q : Value → Shared → Prop), s2.heap = h' → Q (.ref tp) s2 → wpAny (model prog w) (A.deeper (PySem.W.envX qual scope s.heap.objs.size f (.ref c') [])) (eval (.Name a p) (PySem.W.envX qual scope s.heap.objs.size f (.ref c') [])) Q E' s2 := fun p s2 E' Q e q =>
      wpAny_Name (wpAny_loadName_local S.kind S.par (m := fun x => [(a, Value.ref tp)].reverse.lookup x) (by rw [e]; exact hns) (by simp) q) hd
    refine PyProof.Rows.callWith_builtin1 (Calls.spliced_cons (nm p2 _ _ _ rfl (Calls.spliced_nil ?_))) rfl rfl
    obtain ⟨o, ho, hc, n, hdt⟩ := ht
    refine len_tuple (items := items.toArray) ⟨o, kp _ _ ho, hc, n, hdt⟩ (by rw [sizeLine_eq] at hz; simp only [List.size_toArray]; omega) ?_
    refine Calls.spliced_cons (nm p4 _ _ _ rfl (Calls.spliced_nil ⟨by show 2 ≤ sizeLine; decide, ?_⟩))
    refine ⟨_, _, rfl, fun b o e => Heap.get?_push_of_some _ (kp b o e), ?_⟩
    refine Reads.tuple (as := []) (Heap.get?_push_size _ rfl) rfl rfl ?_
    exact ReadsAll.cons (as := []) (bs := []) (Reads.int _ _) (ReadsAll.cons (as := []) (bs := []) (PyProof.Rows.Reads.keeps (fun b o e => Heap.get?_push_of_some _ (kp b o e)) hr) ReadsAll.nil)
section
variable {X : Cx} {cl : Cln} {m : Ml} {hp : MH} {pins : List (Addr × Obj)} {σ : L2.St} {H : Hp} {s : Shared}
/-- the abstract heap once the code object at c' is new and told in the table at P -/
def tabH (H : Hp) (P c' : Addr) (q : Str) (ps : Array Value) (pos : Pos) : Hp := upd (upd H P (.tbl (ps ++ #[rawInt pos.line, rawInt pos.col, .ref c']))) c' (LamX.CodeO c' q)
section
variable {P c' : Addr} {q : Str} {ps : Array Value} {pos : Pos}
theorem tabH_old (hP : H P = some (.tbl ps)) (n : H c' = none) {b : Addr} {o : HO} (nt : NT o) (e : H b = some o) : tabH H P c' q ps pos b = some o := by
  have d1 : b ≠ c' := ne_of_none e n
  have d2 : b ≠ P := by
    rintro rfl
    exact nt ps (Option.some.inj (e.symm.trans hP))
  exact ((upd_ne d1).trans (upd_ne d2)).trans e
theorem tabH_tab (hP : H P = some (.tbl ps)) (n : H c' = none) : tabH H P c' q ps pos P = some (.tbl (ps ++ #[rawInt pos.line, rawInt pos.col, .ref c'])) := (upd_ne (ne_of_none hP n)).trans upd_same
theorem tabH_new : tabH H P c' q ps pos c' = some (LamX.CodeO c' q) := upd_same
theorem tabH_free {b : Addr} (d1 : b ≠ c') (d2 : b ≠ P) : tabH H P c' q ps pos b = H b := (upd_ne d1).trans (upd_ne d2)
theorem Sm.on {H H' : Hp} {a : Addr} {o : HO} (e : Sm H a o) (nt : NT o) (f : ∀ u, NT u → H a = some u → H' a = some u) : Sm H' a o := e.imp (f _ nt) fun ⟨d, ob, h⟩ => ⟨d, ob, f _ (by intro _ z; cases z) h⟩
theorem tabH_stp (hP : H P = some (.tbl ps)) (n : H c' = none) : Stp m m H (tabH H P c' q ps pos) := ⟨rfl, ⟨[], by simp⟩, fun _ _ nt e k => ⟨e.on nt fun _ nt e => tabH_old hP n nt e, k⟩, fun _ _ nt e _ _ => tabH_old hP n nt e⟩
/-- what is told of the tables, told on -/
theorem rel_tab {G : Gx} (rel : Rel G m H hp) (hP : H P = some (.tbl ps)) (n : H c' = none) (out : m.no P) (three : TriplesOk ps.toList) (hu : ∀ p ∈ G.cl.tabs, p.1 = P → p.2 = q)
    (told : ∀ (p' : Pos) (cv : Value), codeAmong p' ps.toList = some cv → ∃ c, cv = .ref c ∧ H c = some (LamX.CodeO c q) ∧ m.no c) : Rel G m (tabH H P c' q ps pos) hp := by
  have old : ∀ {b : Addr} {o : HO}, NT o → H b = some o → tabH H P c' q ps pos b = some o := fun nt e => tabH_old hP n nt e
  have far : m.no c' := rel.freeZ n
  refine ⟨rel.len, rel.nd, fun k a mo e1 e2 => ?_, fun a hz => ?_, rel.zd, fun p hp => ?_, fun a o q => ?_⟩
  · have ha : a ∈ m.c := List.mem_of_getElem? e1
    refine (rel.ob k a mo e1 e2).wk ⟨⟨[], by simp⟩, fun _ _ nt e y => ⟨e.on nt fun _ nt e => old nt e, y⟩⟩ (tabH_free ?_ ?_)
    · rintro rfl
      exact far.1 ha
    · rintro rfl
      exact out.1 ha
  · obtain ⟨o, nt, e⟩ := rel.zs a hz
    exact ⟨o, nt, old nt.1 e⟩
  · by_cases hb : p.1 = P
    · rw [hu p hp hb, hb]
      have list : (ps ++ #[rawInt pos.line, rawInt pos.col, .ref c']).toList = ps.toList ++ [rawInt pos.line, rawInt pos.col, .ref c'] := by simp
      refine ⟨_, tabH_tab hP n, out, list ▸ PySem.TriplesOk_snoc _ _ _ _ three, fun p' cv z => ?_⟩
      obtain z | z := LamX.among_app _ three (list ▸ z)
      · obtain ⟨c0, e1, e2, e3⟩ := told p' cv z
        exact ⟨c0, e1, old LamX.codeO_ne e2, e3⟩
      · exact ⟨c', z, tabH_new, far⟩
    · obtain ⟨ps1, a1, a2, a3, a4⟩ := rel.tb.1 p hp
      refine ⟨ps1, (tabH_free (ne_of_none a1 n) hb).trans a1, a2, a3, fun p' cv z => ?_⟩
      obtain ⟨c0, e1, e2, e3⟩ := a4 p' cv z
      exact ⟨c0, e1, old LamX.codeO_ne e2, e3⟩
  · obtain ⟨nt, h1, n1⟩ := rel.tb.2 a o q
    exact ⟨nt, h1.on nt fun _ nt e => old nt e, n1⟩
end
/-- a lambda is made; the tables are told on -/
theorem lam_new {c P : Addr} {params : Arguments} {body : Expr} {scope : Scope} {pos : Pos} {E : Value → Shared → Prop} {Q : Value → Shared → Prop} (I : Inv X pins σ H s) (rel : Rel (gx X cl) m H hp) (TB : LamX.TabB X.base X.mg c P) (hcode : X.env.code = .ref c)
    (hm : (P, X.env.qual ++ "<lambda>") ∈ cl.tabs) (hu : ∀ p ∈ cl.tabs, p.1 = P → p.2 = X.env.qual ++ "<lambda>") (hdef : defaultsOf params X.env = ([], [])) (hfree : ∀ y ∈ scope.names, y.2 = .free → ∃ c, X.env.cells.lookup y.1 = some c)
    (h : ∀ (f c' : Addr) (pm ctv : Value) (H1 : Hp) (s' : Shared), Inv X pins σ H1 s' → Stp m m H H1 → Rel (gx X cl) m H1 hp →
      s'.heap.get? f = some (PySem.W.kla_obj "<lambda>" (X.env.qual ++ "<lambda>") params body scope (cloFrom X.env.cells scope.names []) pm c' ctv) → H1 f = none → H1 c' = some (LamX.CodeO c' (X.env.qual ++ "<lambda>")) → f ∉ L2.frs X.stack → m.no c' → Q (.ref f) s') :
    wpAny (model X.prog X.w) X.A (eval (.Lambda params body scope pos) X.env) Q E s := by
  obtain ⟨ps, hP, out, three, told⟩ := rel.tb.1 _ hm
  have tabO : s.heap.get? P = _ := I.hok P _ hP
  have code := TB.code.keeps I.bk
  have bins := TB.bm.keeps I.bk
  have globs := I.mod.glob.keeps I.bk
  have clos := closure_ok (env := X.env) hfree
  have off : ∀ {b : Addr}, s.heap.objs.size ≤ b → b ∉ L2.frs X.stack := fun big z => (List.mem_cons.mp (I.stkSub _ z)).elim (fun e => absurd (e ▸ I.lt) (Nat.not_lt.mpr big)) (I.nofs big)
  apply PySem.W.kla_eval hdef
  rcases e : codeAmong pos ps.toList with _ | cv
  · refine PySem.W.kla_makeFunction clos I.ok.glob globs hcode code tabO three e TB.gP bins ?_
    rintro c1 ctv h1 tk keep old young ⟨_, oc, vs, t, ⟨⟩, ho, hd, hv⟩ tab1
    have n : H c1 = none := I.hok.fresh old
    have big : s.heap.objs.size ≤ h1.objs.size := Nat.le_trans old (Nat.le_of_lt young)
    refine h h1.objs.size c1 ((X.mg "__name__").getD .none) ctv (tabH H P c1 _ ps pos) _ ?_ (tabH_stp hP n) (rel_tab rel hP n out three hu told) (Heap.get?_push_size _ rfl) ?_ tabH_new (off big) (rel.freeZ n)
    · exact LamX.inv_table (t' := tk) I hP (fun b o hb z => Heap.get?_push_of_some _ (keep b o hb z)) (Heap.get?_push_of_some _ tab1) old ⟨oc, vs, t, Heap.get?_push_of_some _ ho, hd, hv⟩
    · rw [tabH_free (Nat.ne_of_gt young) (Nat.ne_of_gt (Nat.lt_of_lt_of_le (Heap.lt_size tabO) big))]
      exact I.hok.fresh big
  · obtain ⟨c1, rfl, hco, hno⟩ := told pos cv e
    refine PySem.W.kla_makeFunctionHit clos I.ok.glob globs hcode code tabO three e bins fun ctv h1 tk keep big => ?_
    exact h h1.objs.size c1 ((X.mg "__name__").getD .none) ctv H _ (I.kept (t' := tk) fun b o z => Heap.get?_push_of_some _ (keep b o z)) .refl rel (Heap.get?_push_size _ rfl) (I.hok.fresh big) hco (off big) hno
end
/-! ### its mirror -/
mutual
/-- no list within -/
def noL : PyData → Bool
  | .tuple ds => noLs ds
  | .list _ => false
  | .none => true
  | .bool _ => true
  | .int _ => true
  | .str _ => true
  | _ => false
def noLs : List PyData → Bool
  | [] => true
  | d :: ds => noL d && noLs ds
end
mutual
theorem noL_reads {h : Heap} : ∀ (d : PyData) (v : Value) (as : List Addr), noL d = true → Reads h v d as → as = []
  | .tuple ds, v, as, e, r => by
    cases r with
    | tuple a b c q => exact noLs_reads ds _ _ (by simpa [noL] using e) q
  | .list _, _, _, e, _ => by simp [noL] at e
  | .none, _, _, _, r => by cases r; rfl
  | .bool _, _, _, _, r => by cases r; rfl
  | .int _, _, _, _, r => by cases r; rfl
  | .str _, _, _, _, r => by cases r; rfl
  | .dict _, _, _, e, _ => by simp [noL] at e
theorem noLs_reads {h : Heap} : ∀ (ds : List PyData) (vs : List Value) (as : List Addr), noLs ds = true → ReadsAll h vs ds as → as = []
  | [], _, _, _, r => by cases r; rfl
  | d :: ds, _, _, e, r => by
    simp only [noLs, Bool.and_eq_true] at e
    cases r with
    | cons r1 r2 => rw [noL_reads d _ _ e.1 r1, noLs_reads ds _ _ e.2 r2]; rfl
end
def tpLen (x : T) : Nat := match tpOf x with
  | some xs => xs.length
  | none => 0
def datD (h : MH) (x : T) : PyData := (toD h deep x).getD .none
def keyD (h : MH) (x : T) : PyData := .tuple [.int (tpLen x), datD h x]
def keyOk (h : MH) (x : T) : Bool := (tpOf x).isSome && ((toD h deep x).isSome && noL (datD h x))
def sortKF (k : List T → MH → Res T) : T → MH → Res T := fun x h => match lsOf h x with
  | some ts => if (ts.all (keyOk h) && ts.all fun a => ts.all fun b => PySem.W.alike (keyD h a) (keyD h b)) = true then k (ts.mergeSort (PySem.W.dataLe false (keyD h))) h else .bad
  | none => .bad
theorem each_of {G : Gx} {m : Ml} {H : Hp} : ∀ {ts : List T} {vs : List V} {us : List Value}, Rs G m H ts vs → Vals vs us → PySem.W.EachIs (fun (u : Value) (b : T × V) => RelV b.2 u ∧ R G m H b.1 b.2) us (ts.zip vs)
  | [], _, _, rs, rv => by
    rw [Rs.nil_iff.mp rs] at rv
    cases rv
    exact .nil
  | t :: ts, _, _, rs, rv => by
    obtain ⟨v, r, rfl, h1, h2⟩ := Rs.cons_iff.mp rs
    cases rv with
    | cons a b => exact .cons ⟨a, h1⟩ (each_of h2 b)
theorem of_each {G : Gx} {m : Ml} {H : Hp} : ∀ {us : List Value} {bs : List (T × V)}, PySem.W.EachIs (fun (u : Value) (b : T × V) => RelV b.2 u ∧ R G m H b.1 b.2) us bs → Vals (bs.map (·.2)) us ∧ Rs G m H (bs.map (·.1)) (bs.map (·.2))
  | _, _, .nil => ⟨.nil, Rs.nil⟩
  | _, _, .cons h t => ⟨.cons h.1 (of_each t).1, Rs.cons h.2 (of_each t).2⟩
section
variable {X : Cx} {cl : Cln} {W : WX} {e : Expr} {fe : EM}
theorem datD_ok {h : MH} {x : T} (hk : keyOk h x = true) : ∃ xs d, tpOf x = some xs ∧ toD h deep x = some d ∧ noL d = true ∧ datD h x = d ∧ tpLen x = xs.length := by
  unfold keyOk datD at hk
  simp only [Bool.and_eq_true] at hk
  obtain ⟨h1, h2, h3⟩ := hk
  obtain ⟨xs, e1⟩ := Option.isSome_iff_exists.mp h1
  obtain ⟨d, e2⟩ := Option.isSome_iff_exists.mp h2
  refine ⟨xs, d, e1, e2, by rw [e2] at h3; exact h3, by unfold datD; rw [e2]; rfl, by unfold tpLen; rw [e1]⟩
/-- sorted(e, key=lambda a: (len(a), a)) -/
theorem me_sortKey {k : List T → MH → Res T} {c P : Addr} {a : Str} {params : Arguments} {scope : Scope} {p p1 p2 p3 p4 p5 lpos kp pos : Pos} {x1 : Nat} (hk : k = lstK ∨ k = lstL) {kr : Nat} (hr : Room kr X.A) (hm : X.mg "sorted" = none) (hml : X.mg "len" = none) (TB : LamX.TabB X.base X.mg c P) (hcode : X.env.code = .ref c)
    (hT : (P, X.env.qual ++ "<lambda>") ∈ cl.tabs) (hu : ∀ p ∈ cl.tabs, p.1 = P → p.2 = X.env.qual ++ "<lambda>") (S : KeyS a scope) (he : ME X cl W e fe) (hdef : defaultsOf params X.env = ([], []) := by rfl)
    (hbind : ∀ (q : Str) (pm ctv u : Value) (c' : Addr), bindArgs (PySem.W.kla_fn "<lambda>" q params (.Tuple [.Call (.Name "len" p1) [.Name a p2] [] p3, .Name a p4] x1 p5) scope [] pm (.ref c') ctv) ⟨[u], []⟩ = pure [(a, u)] := by intros; rfl)
    (hg : Gl X "sorted" := by rfl) (hd : (a == ("__debug__" : Str)) = false := by decide) (hcd : (a == ("__classdict__" : Str)) = false := by decide)
    (hs0 : starEach [e] X.env = (false, eval e X.env) :: starEach [] X.env := by rfl) (hs : backTo pos (starEach [e] X.env) = (false, eval e X.env) :: backTo pos (starEach [] X.env) := by rfl) (hpl : (backTo pos (starEach [e] X.env)).any (·.1) = false := by rfl) (hclo : ∀ cells : List (Str × Addr), cloFrom cells scope.names [] = [] := by intro _; rfl)
    (hkw : keywordEach [⟨some "key", .Lambda params (.Tuple [.Call (.Name "len" p1) [.Name a p2] [] p3, .Name a p4] x1 p5) scope lpos, kp⟩] X.env = [(some ("key" : Str), eval (.Lambda params (.Tuple [.Call (.Name "len" p1) [.Name a p2] [] p3, .Name a p4] x1 p5) scope lpos) X.env)] := by rfl) :
    ME X cl W (.Call (.Name "sorted" p) [e] [⟨some "key", .Lambda params (.Tuple [.Call (.Name "len" p1) [.Name a p2] [] p3, .Name a p4] x1 p5) scope lpos, kp⟩] pos) (em1 (sortKF k) fe) := by
  refine ⟨⟨fun pins s σ H Q I h => ?_⟩⟩
  have h := one_ok h
  have hu2 := hr.units
  refine wpAny_Call_Name_kw (ld_blt I hg hm boot_sorted ?_ (by decide) (by decide))
  have ha := (pa_cons he.pe pa_nil hs0).run pos pins s σ H (fun vs H1 => ∃ v, vs = [v] ∧ ∃ m hp x, Rel (gx X cl) m H1 hp ∧ R (gx X cl) m H1 x v ∧ Pst (gx X cl) m H1 (sortKF k x hp) (fun z m' _ H' => ∀ u, R (gx X cl) m' H' z u → Q u H') (fun c d H' => W c d σ H')) I (h.mono fun v H' q => ⟨v, rfl, q⟩)
  refine PyProof.Rows.callWith_kw (thn ha fun us s1 ⟨vs, H1, I1, r1, q1⟩ => ?_) hs hpl (by rw [hkw]; rfl) (by rw [hkw]; rfl)
  obtain ⟨v, rfl, m, hp, x, rel, rx, pp⟩ := q1
  rw [hkw]
  show wpAny _ _ (evalAll [do let v ← eval (.Lambda params (.Tuple [.Call (.Name "len" p1) [.Name a p2] [] p3, .Name a p4] x1 p5) scope lpos) X.env; standAt pos; pure v]) _ _ s1
  refine wpAny_evalAll_cons (wpAny_bind (lam_new I1 rel TB hcode hT hu hdef (fun y hy ey => absurd ey (S.nocell y hy).2) fun f c' pm ctv H2 s2 I2 st rel2 hf hfn hco _ _ => wpAny_bind (wpAny_standAt (wpAny_pure (wpAny_evalAll_nil ?_)))))
  rw [hclo] at hf
  have rx2 := R.step st _ _ rx
  have pp2 := pp.step st
  unfold sortKF at pp2
  split at pp2
  · rename_i ts ets
    split at pp2
    · rename_i hall
      simp only [Bool.and_eq_true, List.all_eq_true] at hall
      obtain ⟨hok, hal⟩ := hall
      obtain ⟨l, ws, rfl, sq, rs⟩ := lsOf_ok rel2 rx2 ets
      obtain ⟨its, rv, pl, hz⟩ := I2.list sq
      rw [Vals.ref1 r1]
      have lz := Rs.len rs
      obtain ⟨mb, hb1, hb2⟩ := I2.mod.blt
      have hzip : (ts.zip ws).map (·.1) = ts := List.map_fst_zip (by omega)
      have mem1 : ∀ b ∈ ts.zip ws, b.1 ∈ ts := fun b hb => (List.of_mem_zip hb).1
      obtain ⟨⟨oc, cvs, ct, hoc, hdc, hvc⟩, _, _⟩ := I2.hok c' _ hco
      refine PySem.W.sorted_key_data (b := false) (fun b : T × V => keyD hp b.1) pl.isList (each_of rs rv) ?_ (PySem.W.Sortable.tuples fun b => ⟨_, _, rfl⟩) ?_ ?_ (ksk_s1 _ _) (fun _ => ksk_l1 _ _) (fun _ => ksk_t1 _ _) ?_ ?_
      · intro d hd' d' hd''
        obtain ⟨b, hb, rfl⟩ := List.mem_map.mp hd'
        obtain ⟨b', hb', rfl⟩ := List.mem_map.mp hd''
        exact hal b.1 (mem1 b hb) b'.1 (mem1 b' hb')
      · rw [List.length_zip]
        omega
      · intro b hb
        obtain ⟨xs, d, e1, e2, e3, e4, e5⟩ := datD_ok (hok b.1 (mem1 b hb))
        have dp := (toD_plain _ _ _ e2).2
        show X.A.units + 2 + (PyData.tuple [.int (tpLen b.1), datD hp b.1]).depth < cLine
        rw [e4]
        simp only [PyData.depth, PyData.depthAll]
        have : deep = 14 := rfl
        omega
      · rintro u b ⟨ru, rb⟩ hb h' tk hk'
        obtain ⟨xs, d, e1, e2, e3, e4, e5⟩ := datD_ok (hok b.1 (mem1 b hb))
        obtain ⟨t, zs, ev, sqt, rsx⟩ := tpOf_ok rb e1
        have Ih : Inv X pins σ H2 { s2 with heap := h', toks := tk } := I2.kept hk'
        obtain ⟨its2, rv2, pt, hz2⟩ := Ih.tuple sqt
        obtain ⟨as, rd⟩ := Dp.reads Ih d b.2 u (toD_ok rel2 _ _ _ _ rb e2) ru
        have has := noL_reads d u as e3 rd
        subst has
        rw [ev] at ru
        obtain rfl : u = Value.ref t := ru
        have l1 : its2.length = xs.length := by rw [← rv2.length, Rs.len rsx]
        have key := key_len (prog := X.prog) (w := X.w) (A := X.A.in1.in1) (E := fun _ _ => False) (s := { s2 with heap := h', toks := tk }) (mg := X.mg) (mb := mb) (items := its2) (d := d) (ctv := ctv) (pm := pm) S (by have := hr.depth; exact this) (hk' _ _ hf) ⟨oc, cvs, ct, hk' _ _ hoc, hdc, hvc⟩ (fun u => hbind _ _ _ _ _)
          (I2.mod.glob.keeps fun b o e => hk' b o (I2.bk b o e)) (hb1.keeps fun b o e => hk' b o (I2.bk b o e)) hml ((hb2 "len" (by decide)).trans boot_len) Ih.nolimit pt (by rw [l1, Rs.len rsx]; exact hz2) rd hd hcd
        show wpAny _ _ _ (PySem.W.KeyPure (.tuple [.int (tpLen b.1), datD hp b.1]) _) _ _
        rw [e4, e5, ← l1]
        exact key
      · intro out c2 h' tk hk' hn1 hg1 hlen each
        have hpm : ((ts.zip ws).mergeSort (PySem.W.dataLe false fun b : T × V => keyD hp b.1)).map (·.1) = ts.mergeSort (PySem.W.dataLe false (keyD hp)) := by
          have := List.map_mergeSort (f := Prod.fst) (r := PySem.W.dataLe false fun b : T × V => keyD hp b.1) (s := PySem.W.dataLe false (keyD hp)) (l := ts.zip ws) (fun _ _ _ _ => rfl)
          rw [hzip] at this
          exact this
        obtain ⟨rvo, rso⟩ := of_each each
        rw [hpm] at rso
        obtain ⟨hl2, fin⟩ := lst_two hk rel2 rso pp2
        have hn : H2 (s2.heap.objs.size + 1) = none := I2.hok.fresh (Nat.le_succ _)
        refine ⟨.ref (s2.heap.objs.size + 1), _, I2.laid (a := s2.heap.objs.size + 1) (o := .lst _) (h' := h') (t' := tk) hk' (Nat.le_succ _) ?_, rfl, fin _ hn⟩
        refine ⟨by rw [← Rs.len rso]; exact hl2, out, c2, rvo, hg1⟩
    · exact pp2.elim
  · exact pp2.elim
end
end TW
namespace TW
open PySem PySem.Spec L2

/-! ### [e for a in x if .. for b in y if ..] -/
def lcI (src : Src) (g : GM) (tt : TM) (te : EM) (r0 : Rho) : List T → MH → Res (List T) := lcS src [] g tt te r0
/-- the outer walk: each turn the inner one from its own source -/
def lc2S (src : Src) (g : GM) (tt : TM) (it1 : IM) (g1 : GM) (tt1 : TM) (te : EM) (vs1 : List Nat) (r0 : Rho) : List T → MH → Res (List T)
  | [], h => if chk src h = true then .ok [] h else .bad
  | x :: xs, h => if chk src h = true then (match g x r0 with
    | some r1 => (calm (tt r1 h)).bind fun b h1 => if b = true then (calm (it1 r1 h1)).bind fun p h2 => (lcS p.2 p.1 g1 tt1 te (wipeR r1 vs1) p.1 h2).bind fun zs h3 => (lc2S src g tt it1 g1 tt1 te vs1 r0 xs h3).bind fun ys h4 => .ok (zs ++ ys) h4 else lc2S src g tt it1 g1 tt1 te vs1 r0 xs h1
    | none => .bad) else .bad
def lc2M (k : List T → MH → Res T) (it : IM) (g : GM) (tt : TM) (it1 : IM) (g1 : GM) (tt1 : TM) (te : EM) (vs vs1 : List Nat) : EM := fun r h => (it r h).bind fun p h1 => (lc2S p.2 g tt it1 g1 tt1 te vs1 (wipeR r vs) p.1 h1).bind k
section
variable {X : Cx} {cl : Cln} {W : WX}
theorem lc2S_noexc {src : Src} {g : GM} {tt : TM} {it1 : IM} {g1 : GM} {tt1 : TM} {te : EM} {vs1 : List Nat} {r0 : Rho} : ∀ (xs : List T) (h : MH) (c : Str) (fs : List (Str × T)) (h' : MH), lc2S src g tt it1 g1 tt1 te vs1 r0 xs h ≠ .exc c fs h'
  | [], h, c, fs, h' => by unfold lc2S; split <;> (intro e; cases e)
  | x :: xs, h, c, fs, h' => by
    unfold lc2S
    split
    · split
      · rename_i r1 _
        cases tt r1 h with
        | ok b h1 =>
          simp only [calm, Res.bind]
          split
          · cases it1 r1 h1 with
            | ok p h2 =>
              simp only [calm, Res.bind]
              cases e1 : lcS p.2 p.1 g1 tt1 te (wipeR r1 vs1) p.1 h2 with
              | ok zs h3 =>
                simp only
                have := lc2S_noexc (src := src) (g := g) (tt := tt) (it1 := it1) (g1 := g1) (tt1 := tt1) (te := te) (vs1 := vs1) (r0 := r0) xs h3
                cases e : lc2S src g tt it1 g1 tt1 te vs1 r0 xs h3 with
                | ok ys h4 => intro q; cases q
                | exc c' fs' h4 => exact absurd e (this _ _ _)
                | bad => intro q; cases q
              | exc c' fs' h3 => exact absurd e1 (lcS_noexc _ _ _ _ _)
              | bad => intro q; cases q
            | exc c' fs' h2 => intro q; cases q
            | bad => intro q; cases q
          · exact lc2S_noexc xs h1 c fs h'
        | exc c' fs' h1 => intro q; cases q
        | bad => intro q; cases q
      · intro q; cases q
    · intro q; cases q
/-- the inner walk, from its mirror: what is wanted at its end (Nx) -/
theorem lc_inner {J : It} {its : List T} {src : Src} {g : GM} {sl : List Nat} {tt : TM} {te : EM} {vs1 : List Nat} {m0 : Ml} {H0 : Hp} {D : Addr} {m2 : Ml} {H2 : Hp} {h2 : MH} {σ : L2.St} {r : Rho} {Nx : Hp → Prop} {xs0 : List T} {acc0 : List V} {ys : List T} {hF : MH} {lenB : Nat} (hsl : ∀ i ∈ sl, i ∈ vs1)
    (hD : H0 D = none) (w0 : Way m0 m2 H0 H2 D) (re : RE (gx X cl) m2 H2 r σ) (rel : Rel (gx X cl) m2 H2 h2) (rs : Rs (gx X cl) m2 H2 xs0 acc0) (hd : H2 D = some (.lst acc0)) (wk : WalkM (gx X cl) J its src m2 H2) (el : lcS src its g tt te (wipeR r vs1) its h2 = .ok ys hF) (hlen : (xs0 ++ ys).length ≤ sizeLine)
    (fin : ∀ H m acc, Way m0 m H0 H D → Wk m2 m H2 H → Rel (gx X cl) m H hF → Rs (gx X cl) m H (xs0 ++ ys) acc → H D = some (.lst acc) → Nx H) :
    ∃ W1 : Nat → Nat → Hp → Prop, (∃ k, W1 0 k H2) ∧ ∀ j k H, W1 j k H →
      (J.stop j H ∧ Nx H) ∨ (J.go j H ∧ ∃ Nx1 : Hp → Prop, (∀ H', Nx1 H' → ∃ k', k' < k ∧ W1 (j + 1) k' H') ∧ ∀ x H', J.yld j H x H' → tMG (gx X cl) sl g x (wipe σ vs1) H' fun σ3 H5 => wipe σ3 vs1 = wipe σ vs1 ∧ tMT (gx X cl) WF tt σ3 H5 fun b H6 =>
        if b = true then tM (gx X cl) WF te σ3 H6 fun y H7 => ∃ acc, H7 D = some (.lst acc) ∧ acc.length < sizeLine ∧ Nx1 (upd H7 D (.lst (acc ++ [y]))) else Nx1 H6) := by
  let Inn : Nat → Hp → Prop := fun j H => ∃ m h xs acc zs, Way m0 m H0 H D ∧ Wk m2 m H2 H ∧ Rel (gx X cl) m H h ∧ Rs (gx X cl) m H (xs0 ++ xs) acc ∧ H D = some (.lst acc) ∧ lcS src its g tt te (wipeR r vs1) (its.drop j) h = .ok zs hF ∧ xs ++ zs = ys
  refine ⟨fun j k H => k = its.length - j ∧ j ≤ its.length ∧ Inn j H, ⟨its.length, by simp, Nat.zero_le _, m2, h2, [], acc0, ys, w0, ⟨⟨[], by simp⟩, fun _ _ _ h n => ⟨h, n⟩⟩, rel, by rw [List.append_nil]; exact rs, hd, el, rfl⟩, ?_⟩
  rintro j k H ⟨rfl, hj, m, h, xs, acc, zs, wy, wkm, rl, rsx, hdx, elx, ey⟩
  have hck : chk src h = true := by
    cases hdr : its.drop j with
    | nil =>
      rw [hdr] at elx
      unfold lcS at elx
      split at elx
      · assumption
      · cases elx
    | cons z zs =>
      rw [hdr] at elx
      unfold lcS at elx
      split at elx
      · assumption
      · cases elx
  obtain ⟨goes, stops, yk⟩ := wk m H h wkm rl hck
  by_cases hlt : j < its.length
  · refine .inr ⟨goes j hlt, Inn (j + 1), fun H' q => ⟨its.length - (j + 1), by omega, rfl, hlt, q⟩, fun x H' y => ?_⟩
    rw [drop_at hlt] at elx
    unfold lcS at elx
    rw [if_pos hck] at elx
    obtain ⟨s2, rel2, rx⟩ := yk j x H' its[j] y (List.getElem?_eq_getElem hlt)
    have wy2 := wy.step s2
    have wkm2 : Wk m2 m H2 H' := ⟨wkm.pre, fun a o t q n => by
      obtain ⟨q1, n1⟩ := wkm.fr a o t q n
      exact s2.wk.fr a o t q1 n1⟩
    have hd2 : H' D = some (.lst acc) := (s2.fr D _ (by intro _ z; cases z) (.inl hdx) (rl.zd D (by rw [wy.z]; exact List.mem_cons_self))).1.ex
    have rs2 := Rs.step s2 _ _ rsx
    split at elx
    · rename_i r1 e1
      refine ⟨wipeR r vs1, m, its[j], r1, (re.wk wkm2).wipe vs1, rx, e1, fun σ2 re2 so => ⟨wipe_same so hsl, r1, h, m, re2, rel2, ?_⟩⟩
      cases et : calm (tt r1 h) with
      | exc c fs h4 => rw [et] at elx; cases elx
      | bad => rw [et] at elx; cases elx
      | ok b h4 =>
        rw [et] at elx
        refine calm_ok et fun m3 H3 s3 rel3 => ?_
        have elx : (if b = true then (calm (te r1 h4)).bind fun y h2 => (lcS src its g tt te (wipeR r vs1) (its.drop (j + 1)) h2).bind fun ys h3 => .ok (y :: ys) h3 else lcS src its g tt te (wipeR r vs1) (its.drop (j + 1)) h4) = .ok zs hF := elx
        have wy3 := wy2.step s3
        have wk3 : Wk m2 m3 H2 H3 := ⟨by
          obtain ⟨n1, e1⟩ := wkm2.pre
          obtain ⟨n2, e2⟩ := s3.pre
          exact ⟨n1 ++ n2, by rw [e2, e1, List.append_assoc]⟩, fun a o t q n => by
          obtain ⟨q1, n1⟩ := wkm2.fr a o t q n
          exact s3.wk.fr a o t q1 n1⟩
        have hd3 : H3 D = some (.lst acc) := (s3.fr D _ (by intro _ z; cases z) (.inl hd2) (rel2.zd D (by rw [wy2.z]; exact List.mem_cons_self))).1.ex
        have rs3 := Rs.step s3 _ _ rs2
        cases b with
        | false => exact ⟨m3, h4, xs, acc, zs, wy3, wk3, rel3, rs3, hd3, elx, ey⟩
        | true =>
          have elx : ((calm (te r1 h4)).bind fun y h2 => (lcS src its g tt te (wipeR r vs1) (its.drop (j + 1)) h2).bind fun ys h3 => .ok (y :: ys) h3) = .ok zs hF := elx
          refine ⟨r1, h4, m3, re2.step s3, rel3, ?_⟩
          cases ee : calm (te r1 h4) with
          | exc c fs h3 => rw [ee] at elx; cases elx
          | bad => rw [ee] at elx; cases elx
          | ok yt h3 =>
            rw [ee] at elx
            have elx : ((lcS src its g tt te (wipeR r vs1) (its.drop (j + 1)) h3).bind fun ys h3 => .ok (yt :: ys) h3) = .ok zs hF := elx
            refine calm_ok ee fun m4 H4 s4 rel4 v rv => ?_
            have wy4 := wy3.step s4
            have hd4 : H4 D = some (.lst acc) := (s4.fr D _ (by intro _ z; cases z) (.inl hd3) (rel3.zd D (by rw [wy3.z]; exact List.mem_cons_self))).1.ex
            have rs4 := Rs.step s4 _ _ rs3
            cases en : lcS src its g tt te (wipeR r vs1) (its.drop (j + 1)) h3 with
            | exc c fs h5 => rw [en] at elx; cases elx
            | bad => rw [en] at elx; cases elx
            | ok qs h5 =>
              rw [en] at elx
              have elx : Res.ok (yt :: qs) h5 = Res.ok zs hF := elx
              cases elx
              have hl : acc.length < sizeLine := by
                have := Rs.len rs4
                rw [← ey] at hlen
                simp only [List.length_append, List.length_cons] at hlen this
                omega
              have inz : D ∈ m4.z := by rw [wy4.z]; exact List.mem_cons_self
              have wk4 : Wk m2 m4 H2 (upd H4 D (.lst (acc ++ [v]))) := ⟨by
                obtain ⟨n1, e1⟩ := wk3.pre
                obtain ⟨n2, e2⟩ := s4.pre
                exact ⟨n1 ++ n2, by rw [e2, e1, List.append_assoc]⟩, fun a o t q n => by
                obtain ⟨q1, n1⟩ := wk3.fr a o t q n
                obtain ⟨q2, n2⟩ := s4.wk.fr a o t q1 n1
                exact (Wk.pr inz).fr a o t q2 n2⟩
              refine ⟨acc, hd4, hl, m4, h3, xs ++ [yt], acc ++ [v], qs, wy4.put hD, wk4, rel4.pr inz, ?_, upd_same, en, by rw [← ey]; simp⟩
              rw [← List.append_assoc]
              exact Rs.wk (Wk.pr inz) _ _ (Rs.app rs4 (Rs.cons rv Rs.nil))
    · cases elx
  · have e : j = its.length := by omega
    subst e
    refine .inl ⟨stops, ?_⟩
    rw [List.drop_length] at elx
    unfold lcS at elx
    rw [if_pos hck] at elx
    cases elx
    rw [List.append_nil] at ey
    subst ey
    exact fin H m acc wy wkm rl rsx hdx
theorem lc2_ok {it it1 : IM} {g g1 : GM} {sl sl1 : List Nat} {tt tt1 : TM} {te : EM} {vs vs1 : List Nat} {k : List T → MH → Res T} (hk : k = lstK ∨ k = lstL) (hsl : ∀ i ∈ sl, i ∈ vs) (hsl1 : ∀ i ∈ sl1, i ∈ vs1) {σ : L2.St} {H : Hp} {Q : VK} (h : tM (gx X cl) W (lc2M k it g tt it1 g1 tt1 te vs vs1) σ H Q) :
    tLc2 (tMI (gx X cl) W it) (tMG (gx X cl) sl g) (tMT (gx X cl) WF tt) (tMI (gx X cl) WF it1) (tMG (gx X cl) sl1 g1) (tMT (gx X cl) WF tt1) (tM (gx X cl) WF te) vs vs1 σ H Q := by
  obtain ⟨r, hp, m, re, rel, p⟩ := h
  refine ⟨r, hp, m, re, rel, p.bind.mono (fun q m1 h1 H1 s z J wk D hD => ?_) fun _ _ _ z => z⟩
  obtain ⟨its, src⟩ := q
  obtain ⟨rel1, p1⟩ := z
  have re1 := re.step s
  obtain ⟨ysF, hF, eF, pF⟩ : ∃ ysF hF, lc2S src g tt it1 g1 tt1 te vs1 (wipeR r vs) its h1 = .ok ysF hF ∧ Pst (gx X cl) m1 H1 (k ysF hF) (fun z m' _ H' => ∀ u, R (gx X cl) m' H' z u → Q u H') (fun c d H' => W c d σ H') := by
    cases e : lc2S src g tt it1 g1 tt1 te vs1 (wipeR r vs) its h1 with
    | ok ys h2 => rw [e] at p1; exact ⟨ys, h2, rfl, p1⟩
    | exc c fs h2 => exact absurd e (lc2S_noexc _ _ _ _ _)
    | bad => rw [e] at p1; exact p1.elim
  have lenF := two_len hk pF
  let Gd : Hp → Prop := fun H' => ∃ m' h', Wk m1 m' H1 H' ∧ Rel (gx X cl) m' H' h' ∧ chk src h' = true
  let Pv : Nat → Hp → Prop := fun i H' => ∃ m' h' xs acc ys, Way m1 m' H1 H' D ∧ Rel (gx X cl) m' H' h' ∧ Rs (gx X cl) m' H' xs acc ∧ H' D = some (.lst acc) ∧ lc2S src g tt it1 g1 tt1 te vs1 (wipeR r vs) (its.drop i) h' = .ok ys hF ∧ xs ++ ys = ysF
  refine ⟨fun i k H => k = its.length - i ∧ i ≤ its.length ∧ Pv i H, ⟨its.length, by simp, Nat.zero_le _, m1.lay D, h1, [], [], ysF, Way.lay hD, rel1.lay hD, Rs.nil, upd_same, eF, rfl⟩, ?_⟩
  rintro i kk H' ⟨rfl, hi, m', h', xs, acc, ys, wy, rel', rs, hd, el, ey⟩
  have hck : chk src h' = true := by
    cases hdr : its.drop i with
    | nil =>
      rw [hdr] at el
      unfold lc2S at el
      split at el
      · assumption
      · cases el
    | cons z zs =>
      rw [hdr] at el
      unfold lc2S at el
      split at el
      · assumption
      · cases el
  obtain ⟨goes, stops, yk⟩ := wk m' H' h' (wy.wk hD) rel' hck
  by_cases hlt : i < its.length
  · refine .inr ⟨goes i hlt, Pv (i + 1), fun H'' q => ⟨its.length - (i + 1), by omega, rfl, hlt, q⟩, fun x H'' y => ?_⟩
    rw [drop_at hlt] at el
    unfold lc2S at el
    rw [if_pos hck] at el
    obtain ⟨s2, rel2, rx⟩ := yk i x H'' its[i] y (List.getElem?_eq_getElem hlt)
    have wy2 := wy.step s2
    have hd2 : H'' D = some (.lst acc) := (s2.fr D _ (by intro _ z; cases z) (.inl hd) (rel'.zd D (by rw [wy.z]; exact List.mem_cons_self))).1.ex
    have rs2 := Rs.step s2 _ _ rs
    split at el
    · rename_i r1 e1
      refine ⟨wipeR r vs, m', its[i], r1, (re1.wk (wy2.wk hD)).wipe vs, rx, e1, fun σ2 re2 so => ⟨wipe_same so hsl, r1, h', m', re2, rel2, ?_⟩⟩
      cases et : calm (tt r1 h') with
      | exc c fs h2 => rw [et] at el; cases el
      | bad => rw [et] at el; cases el
      | ok b h2 =>
        rw [et] at el
        refine calm_ok et fun m3 H3 s3 rel3 => ?_
        have el : (if b = true then (calm (it1 r1 h2)).bind fun p h2 => (lcS p.2 p.1 g1 tt1 te (wipeR r1 vs1) p.1 h2).bind fun zs h3 => (lc2S src g tt it1 g1 tt1 te vs1 (wipeR r vs) (its.drop (i + 1)) h3).bind fun ys h4 => .ok (zs ++ ys) h4 else lc2S src g tt it1 g1 tt1 te vs1 (wipeR r vs) (its.drop (i + 1)) h2) = .ok ys hF := el
        have wy3 := wy2.step s3
        have hd3 : H3 D = some (.lst acc) := (s3.fr D _ (by intro _ z; cases z) (.inl hd2) (rel2.zd D (by rw [wy2.z]; exact List.mem_cons_self))).1.ex
        have rs3 := Rs.step s3 _ _ rs2
        cases b with
        | false => exact ⟨m3, h2, xs, acc, ys, wy3, rel3, rs3, hd3, el, ey⟩
        | true =>
          have el : ((calm (it1 r1 h2)).bind fun p h2 => (lcS p.2 p.1 g1 tt1 te (wipeR r1 vs1) p.1 h2).bind fun zs h3 => (lc2S src g tt it1 g1 tt1 te vs1 (wipeR r vs) (its.drop (i + 1)) h3).bind fun ys h4 => .ok (zs ++ ys) h4) = .ok ys hF := el
          refine ⟨r1, h2, m3, re2.step s3, rel3, ?_⟩
          cases ei : calm (it1 r1 h2) with
          | exc c fs h3 => rw [ei] at el; cases el
          | bad => rw [ei] at el; cases el
          | ok pq h3 =>
            rw [ei] at el
            have el : ((lcS pq.2 pq.1 g1 tt1 te (wipeR r1 vs1) pq.1 h3).bind fun zs h3 => (lc2S src g tt it1 g1 tt1 te vs1 (wipeR r vs) (its.drop (i + 1)) h3).bind fun ys h4 => .ok (zs ++ ys) h4) = .ok ys hF := el
            refine calm_ok ei fun m4 H4 s4 rel4 J1 wk1 => ?_
            obtain ⟨its1, src1⟩ := pq
            have wy4 := wy3.step s4
            have hd4 : H4 D = some (.lst acc) := (s4.fr D _ (by intro _ z; cases z) (.inl hd3) (rel3.zd D (by rw [wy3.z]; exact List.mem_cons_self))).1.ex
            have rs4 := Rs.step s4 _ _ rs3
            cases e2 : lcS src1 its1 g1 tt1 te (wipeR r1 vs1) its1 h3 with
            | exc c fs h5 => exact absurd e2 (lcS_noexc _ _ _ _ _)
            | bad => rw [e2] at el; cases el
            | ok zs h5 =>
              rw [e2] at el
              have el : ((lc2S src g tt it1 g1 tt1 te vs1 (wipeR r vs) (its.drop (i + 1)) h5).bind fun ys h4 => .ok (zs ++ ys) h4) = .ok ys hF := el
              cases e3 : lc2S src g tt it1 g1 tt1 te vs1 (wipeR r vs) (its.drop (i + 1)) h5 with
              | exc c fs h6 => rw [e3] at el; cases el
              | bad => rw [e3] at el; cases el
              | ok qs h6 =>
                rw [e3] at el
                have el : Res.ok (zs ++ qs) h6 = Res.ok ys hF := el
                cases el
                refine lc_inner (lenB := 0) hsl1 hD wy4 ((re2.step s3).step s4) rel4 rs4 hd4 wk1 e2 ?_ fun H5 m5 acc5 wy5 _ rel5 rs5 hd5 => ⟨m5, h5, xs ++ zs, acc5, qs, wy5, rel5, rs5, hd5, e3, by rw [← ey]; simp⟩
                rw [← ey] at lenF
                simp only [List.length_append] at lenF ⊢
                omega
    · cases el
  · have e : i = its.length := by omega
    subst e
    refine .inl ⟨stops, ?_⟩
    rw [List.drop_length] at el
    unfold lc2S at el
    rw [if_pos hck] at el
    cases el
    rw [List.append_nil] at ey
    subst ey
    exact way_end hk wy hD rel1 rel' rs hd pF
variable {elt tg iter tg1 iter1 : Expr} {ifs ifs1 : List Expr} {scope : Scope} {own : List (Str × Nat)} {pos spos : Pos} {it it1 : IM} {g g1 : GM} {sl sl1 vs1 : List Nat} {tt tt1 : TM} {te : EM} {k : List T → MH → Res T}
theorem me_lc2 (hk : k = lstK ∨ k = lstL) (hc : X.calm = true) (hN : X.N.Nodup) (ok : BlkOk X.N X.env.scope scope own) (hv : ∀ i ∈ vs1, i ∈ own.map (·.2)) (hi : MI X cl W tg iter it) (hsl : ∀ i ∈ sl, i ∈ own.map (·.2)) (hsl1 : ∀ i ∈ sl1, i ∈ vs1) (hg : Blk X (fun Y => MG Y cl tg sl g) scope) (ht : Blk X (fun Y => MTs Y cl WF ifs tt) scope)
    (hi1 : Blk X (fun Y => MI Y cl WF tg1 iter1 it1) scope) (hg1 : Blk X (fun Y => MG Y cl tg1 sl1 g1) scope) (ht1 : Blk X (fun Y => MTs Y cl WF ifs1 tt1) scope) (he : Blk X (fun Y => ME Y cl WF elt te) scope)
    (hs : ∀ x, foldedSetIterable iter X.env x = pure x := by intro _; rfl) (hs1 : ∀ env x, foldedSetIterable iter1 env x = pure x := by intro _ _; rfl) : ME X cl W (.ListComp elt [⟨tg, iter, ifs, 0⟩, ⟨tg1, iter1, ifs1, 0⟩] scope pos) (lc2M k it g tt it1 g1 tt1 te (own.map (·.2)) vs1) :=
  ⟨PE.imp (pe_lc2 (g := tMG (gx X cl) sl g) (tt := tMT (gx X cl) WF tt) (wi1 := tMI (gx X cl) WF it1) (g1 := tMG (gx X cl) sl1 g1) (tt1 := tMT (gx X cl) WF tt1) (te := tM (gx X cl) WF te) hc hN hi.pi ok hv (fun s H C c fp => (hg s H C c fp).pg) (fun s H C c fp => (ht s H C c fp).pts) (fun s H C c fp => (hi1 s H C c fp).pi) (fun s H C c fp => (hg1 s H C c fp).pg) (fun s H C c fp => (ht1 s H C c fp).pts) (fun s H C c fp => (he s H C c fp).pe) hs hs1) fun σ H Q h => lc2_ok hk hsl hsl1 h⟩
theorem ms_setLc2 (i : Nat) {y : Str} {py : Pos} (hk : k = lstK ∨ k = lstL) (hc : X.calm = true) (hN : X.N.Nodup) (ok : BlkOk X.N X.env.scope scope own) (hv : ∀ i ∈ vs1, i ∈ own.map (·.2)) (hi : MI X cl W tg iter it) (hsl : ∀ i ∈ sl, i ∈ own.map (·.2)) (hsl1 : ∀ i ∈ sl1, i ∈ vs1) (hg : Blk X (fun Y => MG Y cl tg sl g) scope) (ht : Blk X (fun Y => MTs Y cl WF ifs tt) scope)
    (hi1 : Blk X (fun Y => MI Y cl WF tg1 iter1 it1) scope) (hg1 : Blk X (fun Y => MG Y cl tg1 sl1 g1) scope) (ht1 : Blk X (fun Y => MTs Y cl WF ifs1 tt1) scope) (he : Blk X (fun Y => ME Y cl WF elt te) scope)
    (hy : X.N[i]? = some y := by rfl) (hyl : X.env.scope.names.lookup y = some .local := by rfl) (hsw : swapsWith (.ListComp elt [⟨tg, iter, ifs, 0⟩, ⟨tg1, iter1, ifs1, 0⟩] scope pos) (some (.Name y py)) spos.line X.env = pure true := by exact sw_true rfl rfl rfl rfl)
    (hs : ∀ x, foldedSetIterable iter X.env x = pure x := by intro _; rfl) (hs1 : ∀ env x, foldedSetIterable iter1 env x = pure x := by intro _ _; rfl) : MS X cl W (.Assign [.Name y py] (.ListComp elt [⟨tg, iter, ifs, 0⟩, ⟨tg1, iter1, ifs1, 0⟩] scope pos) spos) (sSet i (lc2M k it g tt it1 g1 tt1 te (own.map (·.2)) vs1)) := by
  refine ⟨PS.imp (ps_setLc2 (g := tMG (gx X cl) sl g) (tt := tMT (gx X cl) WF tt) (wi1 := tMI (gx X cl) WF it1) (g1 := tMG (gx X cl) sl1 g1) (tt1 := tMT (gx X cl) WF tt1) (te := tM (gx X cl) WF te) hc hN hy hyl hsw hi.pi ok hv (fun s H C c fp => (hg s H C c fp).pg) (fun s H C c fp => (ht s H C c fp).pts) (fun s H C c fp => (hi1 s H C c fp).pi) (fun s H C c fp => (hg1 s H C c fp).pg) (fun s H C c fp => (ht1 s H C c fp).pts) (fun s H C c fp => (he s H C c fp).pe) hs hs1) fun D σ H h => ?_⟩
  refine lc2_ok (W := W) hk hsl hsl1 ?_
  obtain ⟨r, hp, m, re, rel, p⟩ := h
  exact ⟨r, hp, m, re, rel, (p.lift re).mono (fun y m1 h1 H1 s q v rv => q.2.2 m1 H1 _ .refl q.1 (q.2.1.set rv)) fun _ _ _ z => z⟩
end
end TW
namespace TW
open PySem PySem.Spec L2

/-! ### len of an own object -/
structure LnO (P : Program) (w : World) (K : PySem.W.Frag) (mg : Str → Option Value) (base : Heap) (cl : Cln) (k : Nat) (c : Str) (f : FM) : Prop where
  ex : ∀ C, cl c = some C → ∃ (a : Addr) (fd : FuncData) (ps : List Str), FnOk P w K mg base (L2.CX P w) k a fd ps (spM ⟨P, w, K, cl⟩ 1 f) ∧ Cls K C ∧ PySem.W.findIn K (.ref C) "__len__" = some (some (.ref a)) ∧ PySem.W.isFn K (.ref a) = true ∧ Binds K fd ps []
def lenOF (ms : List (Str × FM)) : FM := on1 fun x h => match obOf h x with
  | some (c, _) => (match TW.lk c ms with
    | some F => (calm (F [x] h)).bind fun v h2 => match v with
      | .int n => if 0 ≤ n ∧ n < 2 ^ 63 then .ok (.int n) h2 else .bad
      | _ => .bad
    | none => .bad)
  | none => lenF [x] h
theorem calm_nox {α : Type} {x : Res α} {c : Str} {fs : List (Str × T)} {h : MH} : calm x ≠ .exc c fs h := by
  cases x <;> (intro e; cases e)
theorem n_lenO {ms : List (Str × FM)} : NoXF (lenOF ms) := on1_nox fun x h c fs h' e => by
  split at e
  · split at e
    · rename_i F _
      cases eF : calm (F [x] h) with
      | ok v h2 =>
        rw [eF] at e
        simp only [Res.bind] at e
        split at e
        · split at e <;> cases e
        · cases e
      | exc c' fs' h2 => exact calm_nox eF
      | bad => rw [eF] at e; cases e
    · cases e
  · exact n_len _ _ _ _ _ e
section
variable {X : Cx} {cl : Cln} {W : WX}
/-- an own def run below: nothing is raised -/
theorem run_below {k n : Nat} {A : Around} {a : Addr} {fd : FuncData} {ps : List Str} {f : FM} {pins : List (Addr × Obj)} {σ : L2.St} {H : Hp} {s : Shared} {m : Ml} {hp h2 : MH} {xs : List T} {vs : List V} {us : List Value} {v : T} (F : FnOk X.prog X.w X.K X.mg X.base (L2.CX X.prog X.w) k a fd ps (spM (gx X cl) n f)) (hr : Room k A) (hA : A.frames = X.A.frames) (hb : Binds X.K fd ps [])
    (I : Inv X pins σ H s) (rel : Rel (gx X cl) m H hp) (rs : Rs (gx X cl) m H xs vs) (rv : Vals vs us) (hn : xs.length = n) (e : f xs hp = .ok v h2) {E : Value → Shared → Prop} {Q : Value → Shared → Prop}
    (q : ∀ u s' m' H', Inv X pins σ H' s' → Stp m m' H H' → Rel (gx X cl) m' H' h2 → ∀ y, RelV y u → R (gx X cl) m' H' v y → Q u s') : wpAny (model X.prog X.w) A (call (.ref a) us) Q E s := by
  have hsp : spM (gx X cl) n f vs H (fun y H' => ∃ m', Stp m m' H H' ∧ Rel (gx X cl) m' H' h2 ∧ R (gx X cl) m' H' v y) (fun _ _ _ => False) := ⟨m, hp, xs, rel, rs, hn, by
    rw [e]
    exact fun m' H' s rel' u ru => ⟨m', s, rel', ru⟩⟩
  have e0 : Env0 X.prog X.w X.K X.mg X.base A X.stack s H := by
    have z := I.env0
    exact ⟨by rw [hA]; exact z.frames, z.mod, z.bs, z.bsz, z.funs, z.frf, z.hok, z.bare⟩
  have hl : (us ++ []).length = ps.length := by rw [List.append_nil, ← rv.length, F.len _ _ _ _ hsp]
  have bb := hb s us I.kIn hl
  rw [List.append_nil] at bb
  refine wpAny_call (codeAny_mono (F.run A X.stack s H ⟨us, []⟩ us vs _ _ hr e0 bb rv hsp) fun r s' hq => ?_)
  cases r with
  | error ex =>
    exfalso
    obtain ⟨_, _, _, _, _, _, _, _, _, _, _, _, z⟩ := hq
    exact z.elim
  | ok fl =>
    cases fl with
    | ret u =>
      obtain ⟨y, H', I', ry, m', st, rel', ru⟩ := I.after hq
      exact q u s' m' H' I' st rel' y ry ru
    | next => exact False.elim hq
    | brk => exact False.elim hq
    | cont => exact False.elim hq
theorem c_lenO {ms : List (Str × FM)} {k : Nat} (hr : Room (k + 1) X.A) (hM : ∀ q ∈ ms, LnO X.prog X.w X.K X.mg X.base cl k q.1 q.2) : CallR X (.builtin "len") (rMC (gx X cl) (lenOF ms)) := by
  intro pins s σ H vs us Q I rv q
  obtain ⟨m, hp, xs, rel, rs, p⟩ := q
  obtain ⟨x, v, rfl, rx, p⟩ := on1_ok rs p
  split at p
  · rename_i c fs eo
    split at p
    · rename_i F eF
      obtain ⟨a, C, dx, qq, rfl, hC, hH, rk⟩ := obOf_ok rel rx eo
      obtain ⟨fa, fd, ps, FO, hcl, hfi, hfn, hb⟩ := (hM _ (lk_mem eF)).ex C hC
      rw [Vals.ref1 rv]
      obtain ⟨mA, J, _⟩ := ins_get I.hok hH
      obtain ⟨od, J, _⟩ := J.look
      obtain ⟨mm, hF⟩ := I.fr
      cases ec : calm (F [x] hp) with
      | exc c fs h2 => exact (calm_nox ec).elim
      | bad => rw [ec] at p; exact p.elim
      | ok z h2 =>
        rw [ec] at p
        have e2 : F [x] hp = .ok z h2 := by
          cases e3 : F [x] hp with
          | ok z' h3 => rw [e3] at ec; exact ec
          | exc c fs h3 => rw [e3] at ec; cases ec
          | bad => rw [e3] at ec; cases ec
        simp only [Res.bind] at p
        split at p
        · rename_i n
          split at p
          · rename_i hn
            refine PySem.W.len_K hF I.ok.mod.kin J hfi hfn (run_below FO hr.in1 rfl hb I rel (Rs.cons rx Rs.nil) (.cons rfl .nil) rfl e2 fun u s' m' H' I' st rel' y ry ru => ?_)
            simp only [R] at ru
            subst ru
            obtain ⟨t, rfl⟩ := ry
            exact ⟨hn, .int n, H', I'.tok _, ⟨_, rfl⟩, p m' H' st rel' _ (by simp only [R])⟩
          · exact p.elim
        · exact p.elim
    · exact p.elim
  · exact c_len pins s σ H _ us Q I rv ⟨m, hp, [x], rel, Rs.cons rx Rs.nil, p⟩

/-! ### lists of own objects, all equal by their own __eq__ -/
structure EqO (P : Program) (w : World) (K : PySem.W.Frag) (mg : Str → Option Value) (base : Heap) (cl : Cln) (k : Nat) (c : Str) (f : FM) : Prop where
  ex : ∀ C, cl c = some C → ∃ (a : Addr) (fd : FuncData) (ps : List Str), FnOk P w K mg base (L2.CX P w) k a fd ps (spM ⟨P, w, K, cl⟩ 2 f) ∧ PySem.W.findIn K (.ref C) "__eq__" = some (some (.ref a)) ∧ PySem.W.isFn K (.ref a) = true ∧ Binds K fd ps []
def eqO1 (c : Str) (F : FM) (hp : MH) (x y : T) : Bool := match obOf hp x, obOf hp y with
  | some (d, _), some (e, _) => decide (d = c) && (decide (e = c) && (match F [x, y] hp with
    | .ok (.bl b) h => b && beqH h hp
    | _ => false))
  | _, _ => false
def eqOs (c : Str) (F : FM) (hp : MH) : List T → List T → Bool
  | [], [] => true
  | x :: xs, y :: ys => eqO1 c F hp x y && eqOs c F hp xs ys
  | _, _ => false
def eqOT (c : Str) (F : FM) (x y : T) (hp : MH) : Res T := match x, y with
  | .lst xs, .lst ys => if eqOs c F hp xs ys = true then .ok (.bl true) hp else .bad
  | _, _ => .bad
theorem n_eqO {c : Str} {F : FM} : NoX (eqOT c F) := fun x y h c fs h' e => by
  unfold eqOT at e
  split at e
  · split at e <;> cases e
  · cases e
theorem eqOs_at {c : Str} {F : FM} {hp : MH} : ∀ {xs ys : List T}, eqOs c F hp xs ys = true → xs.length = ys.length ∧ ∀ (i : Nat) x y, xs[i]? = some x → ys[i]? = some y → eqO1 c F hp x y = true
  | [], [], _ => ⟨rfl, fun i x y h => by simp at h⟩
  | [], _ :: _, h => by simp [eqOs] at h
  | _ :: _, [], h => by simp [eqOs] at h
  | a :: xs, b :: ys, h => by
    simp only [eqOs, Bool.and_eq_true] at h
    obtain ⟨h1, h2⟩ := eqOs_at h.2
    refine ⟨by simp [h1], fun i x y e1 e2 => ?_⟩
    cases i with
    | zero => simp at e1 e2; rw [← e1, ← e2]; exact h.1
    | succ i => exact h2 i x y (by simpa using e1) (by simpa using e2)
theorem same_ml {G : Gx} {m m' : Ml} {H H' : Hp} {hp : MH} (rel : Rel G m H hp) (s : Stp m m' H H') (rel' : Rel G m' H' hp) : m' = m := by
  obtain ⟨c, z⟩ := m
  obtain ⟨c', z'⟩ := m'
  obtain ⟨n, e⟩ := s.pre
  have e : c' = c ++ n := e
  have l1 : c.length = hp.length := rel.len
  have l2 : c'.length = hp.length := rel'.len
  have hn : n = [] := List.eq_nil_of_length_eq_zero (by rw [e, List.length_append] at l2; omega)
  have ez : z' = z := s.pz
  rw [e, hn, ez, List.append_nil]
theorem o_eqO {c : Str} {F : FM} {k : Nat} (hr : Room (k + 2) X.A) (hE : EqO X.prog X.w X.K X.mg X.base cl k c F) : OpR X (compareOp .Eq) (rM (gx X cl) (eqOT c F)) := by
  intro pins s σ H v w u u' Q I rv rw' q
  obtain ⟨m, hp, x, y, rel, rx, ry, p⟩ := q
  unfold eqOT at p
  split at p
  · rename_i xs ys
    split at p
    · rename_i heq
      obtain ⟨hlen, hat⟩ := eqOs_at heq
      have lx := rx
      have ly := ry
      simp only [R] at lx ly
      obtain ⟨a, vs, rfl, fa, rsa⟩ := lx
      obtain ⟨b, ws, rfl, fb, rsb⟩ := ly
      cases rv
      cases rw'
      show wpAny (model X.prog X.w) X.A (richCompare .Eq (.ref a) (.ref b)) (EP X pins σ Q) X.xe s
      refine GQ.rc_listG (N := xs.length) hr.units0 (fun _ s' => ∃ H', Inv X pins σ H' s' ∧ Stp m m H H' ∧ Rel (gx X cl) m H' hp) (fun i s' q => ?_) (fun s' q => ?_) ⟨H, I, .refl, rel⟩
      · obtain ⟨H1, I1, st, rel1⟩ := id q
        have ha := (st.fr a _ (by intro _ z; cases z) (.inl fa.1) fa.2.1).1.ex
        have hb := (st.fr b _ (by intro _ z; cases z) (.inl fb.1) fb.2.1).1.ex
        obtain ⟨z, its, k1, r1, e1⟩ := I1.hok a _ ha
        obtain ⟨z2, its2, k2, r2, e2⟩ := I1.hok b _ hb
        have n1 : its.length = xs.length := by rw [← r1.length, Rs.len rsa]
        have n2 : its2.length = xs.length := by rw [← r2.length, ← Rs.len rsb, ← hlen]
        refine ⟨its.toArray, its2.toArray, k1, k2, e1, e2, by rw [List.size_toArray, n1], by rw [List.size_toArray, n2], fun h1 h2 => ?_⟩
        have hi : i < its.length := by simpa using h1
        have hi2 : i < its2.length := by simpa using h2
        have hx : xs[i]? = some (xs[i]'(by omega)) := List.getElem?_eq_getElem _
        have hy : ys[i]? = some (ys[i]'(by omega)) := List.getElem?_eq_getElem _
        obtain ⟨va, ea, ra⟩ := Rs.get (Rs.step st _ _ rsa) hx
        obtain ⟨vb, eb, rb⟩ := Rs.get (Rs.step st _ _ rsb) hy
        obtain ⟨ua, eua, rua⟩ := r1.get ea
        obtain ⟨ub, eub, rub⟩ := r2.get eb
        have g1 : its.toArray[i] = ua := by
          have : its[i]? = some its.toArray[i] := by rw [List.getElem?_eq_getElem hi] <;> simp
          rw [eua] at this
          exact (Option.some.inj this).symm
        have g2 : its2.toArray[i] = ub := by
          have : its2[i]? = some its2.toArray[i] := by rw [List.getElem?_eq_getElem hi2] <;> simp
          rw [eub] at this
          exact (Option.some.inj this).symm
        rw [g1, g2]
        have h1e := hat i _ _ hx hy
        unfold eqO1 at h1e
        split at h1e
        · rename_i d fs e fs' eo1 eo2
          simp only [Bool.and_eq_true, decide_eq_true_eq] at h1e
          obtain ⟨rfl, rfl, h1e⟩ := h1e
          split at h1e
          · rename_i bb h5 eF
            simp only [Bool.and_eq_true] at h1e
            obtain ⟨rfl, hbe⟩ := h1e
            have := beqH_ok _ _ hbe
            subst this
            obtain ⟨pa, C, dx, qa, rfl, hC, hHa, rka⟩ := obOf_ok rel1 ra eo1
            obtain ⟨pb, C', dx', qb, rfl, hC', hHb, rkb⟩ := obOf_ok rel1 rb eo2
            have ec : C' = C := Option.some.inj (hC'.symm.trans hC)
            subst ec
            cases rua
            cases rub
            by_cases hab : pa = pb
            · subst hab
              exact SeqAt.EqAt.same (A := X.A.in1) (s := s') (.ref pa) X.prog X.w X.xe _ ⟨rfl, H1, I1, st, rel1⟩
            · obtain ⟨fa', fd, ps, FO, hfi, hfn, hbd⟩ := hE.ex _ hC
              obtain ⟨mA, J, _⟩ := ins_get I1.hok hHa
              obtain ⟨mB, J', _⟩ := ins_get I1.hok hHb
              obtain ⟨od, J, _⟩ := J.look
              obtain ⟨od', J', _⟩ := J'.look
              obtain ⟨mm, hF⟩ := I1.fr
              have hr1 : Room (k + 1) X.A.in1 := hr.in1
              refine GQ.eqBool_refG hab (PySem.W.cmp_K (op := .Eq) (tb := .ref C') hr1.units0 hF I1.ok.mod.kin J J'.type (by simp [PySem.W.notFirst]) hfi hfn (run_below FO (hr1.mono (Nat.le_succ _)) rfl hbd I1 rel1 (Rs.cons ra (Rs.cons rb Rs.nil)) (.cons rfl (.cons rfl .nil)) rfl eF fun u s2 m' H' I' st' rel' y ry ru => ?_))
              have em := same_ml rel1 st' rel'
              subst em
              simp only [R] at ru
              subst ru
              cases ry
              exact ⟨true, rfl, rfl, H', I', st.trans st', rel'⟩
          · cases h1e
        · cases h1e
      · obtain ⟨H1, I1, st, rel1⟩ := q
        exact ⟨.bl true, H1, I1, rfl, p m H1 st rel1 _ (by simp only [R])⟩
    · exact p.elim
  · exact p.elim
/-! ### + of anything, == of lists of objects too -/
def adT (k : List T → MH → Res T) (x y : T) (hp : MH) : Res T := match lsW hp x, lsW hp y with
  | some xs, some ys => k (xs ++ ys) hp
  | _, _ => addT x y hp
theorem n_ad {k : List T → MH → Res T} (hk : k = lstK ∨ k = lstL) : NoX (adT k) := fun x y h c fs h' e => by
  unfold adT at e
  split at e
  · exact lst_two_nox hk _ _ _ _ _ e
  · exact n_add _ _ _ _ _ _ e
theorem o_ad {k : List T → MH → Res T} (hk : k = lstK ∨ k = lstL) : OpR X (binaryOp .Add) (rM (gx X cl) (adT k)) := by
  refine OpR.imp (OpR.or (o_cat (cl := cl) hk) (o_add (cl := cl))) fun v w H Q q => ?_
  obtain ⟨m, hp, x, y, rel, rx, ry, p⟩ := q
  unfold adT at p
  split at p
  · rename_i xs ys e1 e2
    refine .inl ⟨m, hp, x, y, rel, rx, ry, ?_⟩
    unfold catT
    rw [e1, e2]
    exact p
  · exact .inr ⟨m, hp, x, y, rel, rx, ry, p⟩
theorem o_fdv : OpR X (binaryOp .FloorDiv) (rM (gx X cl) fdvT) := op_iT op_fdiv (fun _ _ h => of_decide_eq_true h) fun _ _ _ _ => by simp only [R]
theorem o_pow : OpR X (binaryOp .Pow) (rM (gx X cl) powT) := op_iT op_pow (fun _ _ h => of_decide_eq_true h) fun _ _ _ _ => by simp only [R]
theorem o_shl : OpR X (binaryOp .LShift) (rM (gx X cl) shlT) := op_iT op_shl (fun _ _ h => of_decide_eq_true h) fun _ _ _ _ => by simp only [R]
theorem lK : lstK = lstK ∨ lstK = lstL := .inl rfl
theorem lL : lstL = lstK ∨ lstL = lstL := .inr rfl
theorem dKK : dicK = dicK ∨ dicK = dicL := .inl rfl
theorem dLL : dicL = dicK ∨ dicL = dicL := .inr rfl
end
end TW
namespace TW
open PySem PySem.Spec L2

/-! ### the law's own promise, by its mirror -/
def LawT (f : FM) (n : Nat) : Prop := ∀ ns : List Int, ns.length ≤ n → ∃ h, f [.klst (ns.map .int)] [] = .ok (.bl true) h
theorem law_sp {P : Program} {w : World} {K : PySem.W.Frag} {cl : Cln} {f : FM} {n : Nat} {H : Hp} {a : Addr} {ns : List Int} (h : LawT f n) (hn : ns.length ≤ n) (hT : ∀ p ∈ cl.tabs, H p.1 = some (.tbl #[])) (hs : SqL K H a (ns.map V.int)) (hp : ∀ a o, cl.pin a o → False := by exact fun _ _ z => z) :
    spM ⟨P, w, K, cl⟩ 1 f [.ref a] H (fun v _ => v = .bl true) fun _ _ _ => False := by
  obtain ⟨h', e⟩ := h ns hn
  have no : ∀ b : Addr, (⟨[], []⟩ : Ml).no b := fun b => ⟨fun z => (nomatch z), fun z => (nomatch z)⟩
  refine ⟨⟨[], []⟩, [], [.klst (ns.map .int)], ⟨rfl, .nil, fun i b o e => (by cases e), fun b hb => (nomatch hb), fun b hb => (nomatch hb), fun p hp => ⟨#[], hT p hp, no _, True.intro, fun pos cv hc => ?_⟩, fun a o z => (hp a o z).elim⟩, Rs.cons ?_ Rs.nil, rfl, ?_⟩
  · have z : codeAmong pos [] = some cv := hc
    simp [codeAmong] at z
  · simp only [R]
    refine ⟨a, ns.map V.int, rfl, ?_, rs_ints ns⟩
    rcases hs with hs | hs
    · exact .inl ⟨hs, no a⟩
    · exact .inr hs
  · rw [e]
    intro m' H' s rel v rv
    simpa only [R] using rv
end TW
namespace TW
open PySem PySem.Spec L2

/-! ### arguments that name no cell: the mirror may be asked on the empty heap -/
section
variable {G : Gx} {H H' : Hp} {m : Ml}
/-- no cells: all that was a cell, or under way, is set aside -/
def Ml.aside (m : Ml) : Ml := ⟨[], m.c ++ m.z⟩
theorem Ml.aside_no {a : Addr} : m.aside.no a ↔ m.no a := by
  unfold Ml.aside Ml.no
  simp only [List.not_mem_nil, not_false_eq_true, true_and, List.mem_append, not_or]
mutual
theorem R.aside : ∀ (x : T) (v : V), low 0 x = true → R G m H x v → R G m.aside H x v
  | .non, _, _, h => h
  | .bl _, _, _, h => h
  | .int _, _, _, h => h
  | .str _, _, _, h => h
  | .ty _, _, _, h => h
  | .cls _, _, _, h => by
    simp only [R] at h ⊢
    exact h
  | .tup xs, _, hl, h => by
    simp only [R] at h ⊢
    obtain ⟨a, vs, e, f, r⟩ := h
    exact ⟨a, vs, e, ⟨f.1, Ml.aside_no.mpr f.2⟩, Rs.aside xs vs hl r⟩
  | .ktup xs, _, hl, h => by
    simp only [R] at h ⊢
    obtain ⟨a, vs, e, f, r⟩ := h
    exact ⟨a, vs, e, f.imp id fun ⟨o, h1, h2, h3, h4⟩ => ⟨o, h1, h2, h3, Ml.aside_no.mpr h4⟩, Rs.aside xs vs hl r⟩
  | .lst xs, _, hl, h => by
    simp only [R] at h ⊢
    obtain ⟨a, vs, e, f, r⟩ := h
    exact ⟨a, vs, e, ⟨f.1, Ml.aside_no.mpr f.2⟩, Rs.aside xs vs hl r⟩
  | .klst xs, _, hl, h => by
    simp only [R] at h ⊢
    obtain ⟨a, vs, e, f, r⟩ := h
    exact ⟨a, vs, e, f.elim (fun f => .inl ⟨f.1, Ml.aside_no.mpr f.2⟩) .inr, Rs.aside xs vs hl r⟩
  | .set xs, _, hl, h => by
    simp only [R] at h ⊢
    obtain ⟨a, e, f, n⟩ := h
    exact ⟨a, e, f, Ml.aside_no.mpr n⟩
  | .dK ks xs, _, hl, h => by
    simp only [R] at h ⊢
    obtain ⟨a, vs, e, f, q, r⟩ := h
    exact ⟨a, vs, e, ⟨f.1, Ml.aside_no.mpr f.2⟩, q, Rs.aside xs vs hl r⟩
  | .dT ks xs, _, hl, h => by
    simp only [R] at h ⊢
    obtain ⟨a, vs, e, f, q, r⟩ := h
    exact ⟨a, vs, e, ⟨f.1, Ml.aside_no.mpr f.2⟩, q, Rs.aside xs vs hl r⟩
  | .dN ks xs, _, hl, h => by
    simp only [R] at h ⊢
    obtain ⟨a, q, e, f, l, kn, r⟩ := h
    exact ⟨a, q, e, ⟨f.1, Ml.aside_no.mpr f.2⟩, l, kn.to fun _ _ e n => ⟨e, Ml.aside_no.mpr n⟩, Rs.aside xs _ hl r⟩
  | .obj c ns xs, _, hl, h => by
    simp only [R] at h ⊢
    obtain ⟨a, C, dx, vs, e, hc, f, q, r⟩ := h
    exact ⟨a, C, dx, vs, e, hc, ⟨f.1, Ml.aside_no.mpr f.2⟩, q, Rs.aside xs vs hl r⟩
  | .loc n, _, hl, _ => by
    have : n < 0 := Nat.le_of_ble_eq_true hl
    exact absurd this (Nat.not_lt_zero n)
theorem Rs.aside : ∀ (xs : List T) (vs : List V), lows 0 xs = true → Rs G m H xs vs → Rs G m.aside H xs vs
  | [], _, _, h => h
  | x :: xs, _, hl, h => by
    simp only [lows, Bool.and_eq_true] at hl
    obtain ⟨v, r, e, h1, h2⟩ := Rs.cons_iff.mp h
    subst e
    exact Rs.cons (R.aside x v hl.1 h1) (Rs.aside xs r hl.2 h2)
end
mutual
theorem R.back : ∀ (x : T) (v : V), R G m.aside H x v → R G m H x v
  | .non, _, h => h
  | .bl _, _, h => h
  | .int _, _, h => h
  | .str _, _, h => h
  | .ty _, _, h => h
  | .cls _, _, h => by
    simp only [R] at h ⊢
    exact h
  | .tup xs, _, h => by
    simp only [R] at h ⊢
    obtain ⟨a, vs, e, f, r⟩ := h
    exact ⟨a, vs, e, ⟨f.1, Ml.aside_no.mp f.2⟩, Rs.back xs vs r⟩
  | .ktup xs, _, h => by
    simp only [R] at h ⊢
    obtain ⟨a, vs, e, f, r⟩ := h
    exact ⟨a, vs, e, f.imp id fun ⟨o, h1, h2, h3, h4⟩ => ⟨o, h1, h2, h3, Ml.aside_no.mp h4⟩, Rs.back xs vs r⟩
  | .lst xs, _, h => by
    simp only [R] at h ⊢
    obtain ⟨a, vs, e, f, r⟩ := h
    exact ⟨a, vs, e, ⟨f.1, Ml.aside_no.mp f.2⟩, Rs.back xs vs r⟩
  | .klst xs, _, h => by
    simp only [R] at h ⊢
    obtain ⟨a, vs, e, f, r⟩ := h
    exact ⟨a, vs, e, f.elim (fun f => .inl ⟨f.1, Ml.aside_no.mp f.2⟩) .inr, Rs.back xs vs r⟩
  | .set xs, _, h => by
    simp only [R] at h ⊢
    obtain ⟨a, e, f, n⟩ := h
    exact ⟨a, e, f, Ml.aside_no.mp n⟩
  | .dK ks xs, _, h => by
    simp only [R] at h ⊢
    obtain ⟨a, vs, e, f, q, r⟩ := h
    exact ⟨a, vs, e, ⟨f.1, Ml.aside_no.mp f.2⟩, q, Rs.back xs vs r⟩
  | .dT ks xs, _, h => by
    simp only [R] at h ⊢
    obtain ⟨a, vs, e, f, q, r⟩ := h
    exact ⟨a, vs, e, ⟨f.1, Ml.aside_no.mp f.2⟩, q, Rs.back xs vs r⟩
  | .dN ks xs, _, h => by
    simp only [R] at h ⊢
    obtain ⟨a, q, e, f, l, kn, r⟩ := h
    exact ⟨a, q, e, ⟨f.1, Ml.aside_no.mp f.2⟩, l, kn.to fun _ _ e n => ⟨e, Ml.aside_no.mp n⟩, Rs.back xs _ r⟩
  | .obj c ns xs, _, h => by
    simp only [R] at h ⊢
    obtain ⟨a, C, dx, vs, e, hc, f, q, r⟩ := h
    exact ⟨a, C, dx, vs, e, hc, ⟨f.1, Ml.aside_no.mp f.2⟩, q, Rs.back xs vs r⟩
  | .loc n, _, h => by
    simp only [R] at h
    obtain ⟨a, e, _⟩ := h
    exact absurd e (by simp [Ml.aside])
theorem Rs.back : ∀ (xs : List T) (vs : List V), Rs G m.aside H xs vs → Rs G m H xs vs
  | [], _, h => h
  | x :: xs, _, h => by
    obtain ⟨v, r, e, h1, h2⟩ := Rs.cons_iff.mp h
    subst e
    exact Rs.cons (R.back x v h1) (Rs.back xs r h2)
end
theorem RO.nt {a : Addr} {mo : MO} (h : RO G m H a mo) : ∃ o, NZ o ∧ H a = some o := by
  cases mo with
  | lst xs => obtain ⟨vs, e, _⟩ := h; exact ⟨_, by refine ⟨?_, ?_⟩ <;> (intro _ z; cases z), e⟩
  | set xs => obtain ⟨S, c, e, _⟩ := h; exact ⟨_, by refine ⟨?_, ?_⟩ <;> (intro _ z; unfold SetO at z; cases z), e⟩
  | dK xs => obtain ⟨vs, e, _⟩ := h; exact ⟨_, by refine ⟨?_, ?_⟩ <;> (intro _ z; cases z), e⟩
  | dT xs => obtain ⟨vs, e, _⟩ := h; exact ⟨_, by refine ⟨?_, ?_⟩ <;> (intro _ z; cases z), e⟩
  | dN kvs => obtain ⟨q, e, _⟩ := h; exact ⟨_, DicN.nz, e⟩
  | ins c fs => obtain ⟨_, _, vs, _, e, _⟩ := h; exact ⟨_, by refine ⟨?_, ?_⟩ <;> (intro _ z; cases z), e⟩
theorem Rel.aside {hp : MH} (rel : Rel G m H hp) : Rel G m.aside H [] := ⟨rfl, .nil, fun i b o e => (by cases e), fun b hb => by
  rcases List.mem_append.mp hb with hb | hb
  · obtain ⟨n, mo, _, _, ro⟩ := rel.at_mem hb
    exact ro.nt
  · exact rel.zs b hb, fun b hb z => (nomatch z), rel.tb.to fun b _ n => ⟨rfl, Ml.aside_no.mpr n⟩⟩
/-- behind the run on the empty heap: all stands -/
theorem Rel.unaside {hp : MH} {m2 : Ml} (rel : Rel G m H hp) (s : Stp m.aside m2 H H') (rel2 : Rel G m2 H' []) : m2 = m.aside ∧ Stp m m H H' ∧ Rel G m H' hp := by
  have e2 : m2 = m.aside := by
    obtain ⟨c2, z2⟩ := m2
    have h1 : c2.length = 0 := rel2.len
    have h2 : c2 = [] := List.eq_nil_of_length_eq_zero h1
    have h3 : z2 = m.c ++ m.z := s.pz
    rw [h2, h3]
    rfl
  subst e2
  have own : ∀ a o, NT o → H a = some o → a ∈ m.c ++ m.z → H' a = some o := fun a o t e z => s.zx a o t e z (fun z => nomatch z)
  have st : Stp m m H H' := ⟨rfl, ⟨[], by simp⟩, fun a o t e n => ⟨(s.fr a o t e (fun z => nomatch z)).1, n⟩, fun a o t e z _ => own a o t e (List.mem_append_right _ z)⟩
  refine ⟨rfl, st, rel.len, rel.nd, fun n a mo e1 e2 => ?_, fun b hb => ?_, rel.zd, rel2.tb.to fun b _ n => ⟨rfl, Ml.aside_no.mp n⟩⟩
  · have ro := rel.ob n a mo e1 e2
    obtain ⟨o, t, e⟩ := ro.nt
    exact ro.wk st.wk (by rw [own a o t.1 e (List.mem_append_left _ (List.mem_of_getElem? e1)), e])
  · obtain ⟨o, t, e⟩ := rel.zs b hb
    exact ⟨o, t, own b o t.1 e (List.mem_append_right _ hb)⟩
end
/-- where no argument names a cell: on the empty heap -/
def onH (r : Res T) (h : MH) : Res T := match r with
  | .ok v [] => .ok v h
  | .exc c fs [] => .exc c fs h
  | _ => .bad
def pur (f : FM) : FM := fun xs h => if lows 0 xs = true then onH (f xs []) h else f xs h
@[simp] theorem pur_nil (f : FM) (xs : List T) (h : MH) (hl : lows 0 xs = true) : pur f xs h = onH (f xs []) h := by
  unfold pur
  rw [if_pos hl]
section
variable {P : Program} {w : World} {K : PySem.W.Frag} {mg : Str → Option Value} {base : Heap} {cl : Cln}
theorem fn_pur {k n : Nat} {a : Addr} {fd : FuncData} {ps : List Str} {f : FM} (F : FnOk P w K mg base (L2.CX P w) k a fd ps (spM ⟨P, w, K, cl⟩ n f)) : FnOk P w K mg base (L2.CX P w) k a fd ps (spM ⟨P, w, K, cl⟩ n (pur f)) :=
  F.imp fun vs H Q E h => by
    obtain ⟨m, hp, xs, rel, rs, hl, p⟩ := h
    unfold pur at p
    split at p
    · rename_i hlow
      refine ⟨m.aside, [], xs, rel.aside, Rs.aside xs vs hlow rs, hl, ?_⟩
      cases e : f xs [] with
      | ok v h' =>
        rw [e] at p
        cases h' with
        | cons a t => exact p.elim
        | nil =>
          intro m2 H2 s rel2 u ru
          obtain ⟨e2, st, rel3⟩ := rel.unaside s rel2
          subst e2
          exact p m H2 st rel3 u (R.back _ _ ru)
      | exc c fs h' =>
        rw [e] at p
        cases h' with
        | cons a t => exact p.elim
        | nil =>
          intro m2 H2 s rel2 C d hC hd
          obtain ⟨e2, st, rel3⟩ := rel.unaside s rel2
          subst e2
          refine p m H2 st rel3 C d hC ?_
          rcases hd with hd | ⟨dx, q, rfl, fz, rk⟩
          · exact .inl hd
          · exact .inr ⟨dx, q, rfl, ⟨fz.1, Ml.aside_no.mp fz.2⟩, rk.1, Rs.back _ _ rk.2⟩
      | bad => rw [e] at p; exact p.elim
    · exact ⟨m, hp, xs, rel, rs, hl, p⟩
end
end TW
namespace TW
open PySem PySem.Spec L2
open PySem.W (Datum Tup)

/-! ### plain words for mirrors: rows of ints -/
/-- a tuple, a list of ints -/
def tp (s : List Int) : T := .tup (s.map .int)
def ls (s : List Int) : T := .lst (s.map .int)
/-- a list of tuples, of lists -/
def lts (ss : List (List Int)) : T := .lst (ss.map tp)
def lls (ss : List (List Int)) : T := .lst (ss.map ls)
def tts (ss : List (List Int)) : T := .tup (ss.map tp)
section
variable (h : MH)
theorem mapO_int (k : Nat) : ∀ s : List Int, mapO (toD h k) (s.map .int) = some (s.map Datum.toD)
  | [] => rfl
  | x :: s => by
    have e : toD h k (.int x) = some (.int x) := by cases k <;> rfl
    simp only [List.map_cons, mapO, e, mapO_int k s]
    rfl
theorem toD_tpk (k : Nat) (s : List Int) : toD h (k + 1) (tp s) = some (Datum.toD (Tup.mk s)) := by
  show (mapO (toD h k) (s.map T.int)).map PyData.tuple = _
  rw [mapO_int]
  rfl
theorem toD_tp (s : List Int) : toD h deep (tp s) = some (Datum.toD (Tup.mk s)) := toD_tpk h 13 s
theorem toD_ls (s : List Int) : toD h deep (ls s) = some (Datum.toD s) := by
  show (mapO (toD h 13) (s.map T.int)).map PyData.list = _
  rw [mapO_int]
  rfl
theorem toD_int (i : Int) : toD h deep (.int i) = some (Datum.toD i) := rfl
theorem mapO_tp (k : Nat) : ∀ ss : List (List Int), mapO (toD h (k + 1)) (ss.map tp) = some ((ss.map Tup.mk).map Datum.toD)
  | [] => rfl
  | s :: ss => by
    simp only [List.map_cons, mapO, toD_tpk h k s, mapO_tp k ss]
theorem toD_lts (ss : List (List Int)) : toD h deep (lts ss) = some (Datum.toD (ss.map Tup.mk)) := by
  show (mapO (toD h 13) (ss.map tp)).map PyData.list = _
  rw [mapO_tp]
  rfl
theorem toD_tts (ss : List (List Int)) : toD h deep (tts ss) = some (Datum.toD (Tup.mk (ss.map Tup.mk))) := by
  show (mapO (toD h 13) (ss.map tp)).map PyData.tuple = _
  rw [mapO_tp]
  rfl
theorem mk_inj (s t : List Int) : (Tup.mk s = Tup.mk t) = (s = t) := by simp
theorem map_mk_inj (ss tt : List (List Int)) : (ss.map Tup.mk = tt.map Tup.mk) = (ss = tt) := by
  apply propext
  constructor
  · intro e
    have q := congrArg (List.map Tup.items) e
    simpa [List.map_map, Function.comp_def] using q
  · rintro rfl; rfl
/-! == and != -/
theorem eq_int (i j : Int) : eqT (.int i) (.int j) h = .ok (.bl (decide (i = j))) h := by
  unfold eqT
  rw [toD_int, toD_int]
  simp only [Datum.eqv]
theorem ne_int (i j : Int) : neT (.int i) (.int j) h = .ok (.bl (!decide (i = j))) h := by
  unfold neT
  rw [toD_int, toD_int]
  simp only [Datum.eqv]
theorem eq_tp (s t : List Int) : eqT (tp s) (tp t) h = .ok (.bl (decide (s = t))) h := by
  unfold eqT
  rw [toD_tp, toD_tp]
  simp only [Datum.eqv, mk_inj]
theorem ne_tp (s t : List Int) : neT (tp s) (tp t) h = .ok (.bl (!decide (s = t))) h := by
  unfold neT
  rw [toD_tp, toD_tp]
  simp only [Datum.eqv, mk_inj]
theorem eq_ls (s t : List Int) : eqT (ls s) (ls t) h = .ok (.bl (decide (s = t))) h := by
  unfold eqT
  rw [toD_ls, toD_ls]
  simp only [Datum.eqv]
theorem ne_ls (s t : List Int) : neT (ls s) (ls t) h = .ok (.bl (!decide (s = t))) h := by
  unfold neT
  rw [toD_ls, toD_ls]
  simp only [Datum.eqv]
theorem eq_lts (s t : List (List Int)) : eqT (lts s) (lts t) h = .ok (.bl (decide (s = t))) h := by
  unfold eqT
  rw [toD_lts, toD_lts]
  simp only [Datum.eqv, map_mk_inj]
theorem ne_lts (s t : List (List Int)) : neT (lts s) (lts t) h = .ok (.bl (!decide (s = t))) h := by
  unfold neT
  rw [toD_lts, toD_lts]
  simp only [Datum.eqv, map_mk_inj]
theorem eq_tts (s t : List (List Int)) : eqT (tts s) (tts t) h = .ok (.bl (decide (s = t))) h := by
  unfold eqT
  rw [toD_tts, toD_tts]
  simp only [Datum.eqv, mk_inj, Tup.mk.injEq, map_mk_inj]
theorem ne_tts (s t : List (List Int)) : neT (tts s) (tts t) h = .ok (.bl (!decide (s = t))) h := by
  unfold neT
  rw [toD_tts, toD_tts]
  simp only [Datum.eqv, mk_inj, Tup.mk.injEq, map_mk_inj]
/-! in -/
theorem dGet_tup (xs : List T) (k : T) : dGet h (.tup xs) k = none := by cases k <;> rfl
theorem dGet_lst (xs : List T) (k : T) : dGet h (.lst xs) k = none := by cases k <;> rfl
theorem in_tp (i : Int) (s : List Int) : inB h (.int i) (tp s) = some (decide (i ∈ s)) := by
  unfold inB
  rw [show dGet h (tp s) (.int i) = none from dGet_tup h _ _, toD_tp, toD_int]
  show some ((s.map Datum.toD).any fun z => PyData.eqv z (Datum.toD i)) = _
  rw [PySem.W.any_datum]
theorem in_ls (i : Int) (s : List Int) : inB h (.int i) (ls s) = some (decide (i ∈ s)) := by
  unfold inB
  rw [show dGet h (ls s) (.int i) = none from dGet_lst h _ _, toD_ls, toD_int]
  show some ((s.map Datum.toD).any fun z => PyData.eqv z (Datum.toD i)) = _
  rw [PySem.W.any_datum]
theorem mem_mk (s : List Int) (ss : List (List Int)) : (Tup.mk s ∈ ss.map Tup.mk) = (s ∈ ss) := by
  apply propext
  rw [List.mem_map]
  constructor
  · rintro ⟨t, ht, e⟩
    cases e
    exact ht
  · intro hs
    exact ⟨s, hs, rfl⟩
theorem in_lts (s : List Int) (ss : List (List Int)) : inB h (tp s) (lts ss) = some (decide (s ∈ ss)) := by
  unfold inB
  rw [show dGet h (lts ss) (tp s) = none from dGet_lst h _ _, toD_lts, toD_tp]
  show some (((ss.map Tup.mk).map Datum.toD).any fun z => PyData.eqv z (Datum.toD (Tup.mk s))) = _
  rw [PySem.W.any_datum]
  simp only [mem_mk]
theorem in_tts (s : List Int) (ss : List (List Int)) : inB h (tp s) (tts ss) = some (decide (s ∈ ss)) := by
  unfold inB
  rw [show dGet h (tts ss) (tp s) = none from dGet_tup h _ _, toD_tts, toD_tp]
  show some (((ss.map Tup.mk).map Datum.toD).any fun z => PyData.eqv z (Datum.toD (Tup.mk s))) = _
  rw [PySem.W.any_datum]
  simp only [mem_mk]
theorem inT_of {neg b : Bool} {x y : T} (e : inB h x y = some b) : inT neg x y h = .ok (.bl (if neg = true then !b else b)) h := by
  unfold inT
  rw [e]
end
/-! ### walks over trees -/
theorem chk_none (h : MH) : chk none h = true := rfl
/-- a comprehension over a tree, pure turns -/
theorem lc_pure {xs' : List T} {i : Nat} {tt : TM} {te : EM} {r0 : Rho} {h : MH} {p : T → Bool} {f : T → T} : ∀ {xs : List T}, (∀ x ∈ xs, tt (r0.set i (some x)) h = .ok (p x) h) → (∀ x ∈ xs, p x = true → te (r0.set i (some x)) h = .ok (f x) h) → lcS none xs' (gmN i) tt te r0 xs h = .ok ((xs.filter p).map f) h
  | [], _, _ => by
    unfold lcS
    rfl
  | x :: xs, ht, he => by
    unfold lcS
    have ih := lc_pure (xs' := xs') (p := p) (f := f) (fun y hy => ht y (List.mem_cons_of_mem _ hy)) (fun y hy => he y (List.mem_cons_of_mem _ hy))
    rw [if_pos (chk_none h)]
    show (calm (tt (r0.set i (some x)) h)).bind _ = _
    rw [ht x List.mem_cons_self]
    show (if p x = true then _ else _) = _
    by_cases hp : p x = true
    · rw [if_pos hp, he x List.mem_cons_self hp]
      show (lcS none xs' (gmN i) tt te r0 xs h).bind _ = _
      rw [ih, List.filter_cons_of_pos hp]
      rfl
    · rw [if_neg hp, ih, List.filter_cons_of_neg hp]
/-! ### the mirrors' words, opened by simp -/
section
variable {r : Rho} {h : MH} {f g k2 : EM} {t u : TM} {a b : AM} {k : T → T → MH → Res T} {k1 : T → MH → Res T} {F G' : SM} {fm : FM} {x y : T} {xs ys : List T} {i n : Nat}
@[simp] theorem s_emOp : emOp k f g r h = (f r h).bind fun x h1 => (g r h1).bind fun y h2 => k x y h2 := rfl
@[simp] theorem s_emCh {k' : T → T → MH → Res T} : emCh k k' f g k2 r h = (f r h).bind fun x h1 => (g r h1).bind fun y h2 => (k x y h2).bind fun z h3 => match z with
  | .bl true => (k2 r h3).bind fun w h4 => k' y w h4
  | .bl false => .ok (.bl false) h3
  | _ => .bad := rfl
@[simp] theorem s_em1 : em1 k1 f r h = (f r h).bind k1 := rfl
@[simp] theorem s_emCall : emCall fm a r h = (a r h).bind fm := rfl
@[simp] theorem s_an : an r h = .ok [] h := rfl
@[simp] theorem s_ac : ac f a r h = (f r h).bind fun x h1 => (a r h1).bind fun xs h2 => .ok (x :: xs) h2 := rfl
@[simp] theorem s_cst : cst x r h = .ok x h := rfl
theorem s_vr (e : r[i]? = some (some x)) : vr i r h = .ok x h := by unfold vr; rw [e]
@[simp] theorem s_vr0 {l : Rho} : vr 0 (some x :: l) h = .ok x h := rfl
@[simp] theorem s_vrS {l : Rho} {o : Option T} : vr (i + 1) (o :: l) h = vr i l h := rfl
@[simp] theorem s_arg (e : xs.length = n) : arg n fm xs h = fm xs h := by unfold arg; rw [if_pos e]
@[simp] theorem s_emT : emT a r h = (a r h).bind tupK := rfl
@[simp] theorem s_emL {kk : List T → MH → Res T} : emL kk a r h = (a r h).bind kk := rfl
@[simp] theorem s_tmOf : tmOf f r h = (f r h).bind isBl := rfl
@[simp] theorem s_isBl {c : Bool} : isBl (.bl c) h = .ok c h := rfl
@[simp] theorem s_tAn : tAn t u r h = (t r h).bind fun c h1 => if c = true then u r h1 else .ok false h1 := rfl
@[simp] theorem s_tOrr : tOrr t u r h = (t r h).bind fun c h1 => if c = true then .ok true h1 else u r h1 := rfl
@[simp] theorem s_tNo : tNo t r h = (t r h).bind fun c h1 => .ok (!c) h1 := rfl
@[simp] theorem s_tYes : tYes r h = .ok true h := rfl
@[simp] theorem s_eAn : eAn f g r h = (f r h).bind fun x h1 => match x with
  | .bl true => g r h1
  | .bl false => .ok (.bl false) h1
  | _ => .bad := rfl
@[simp] theorem s_eOr : eOr f g r h = (f r h).bind fun x h1 => match x with
  | .bl false => g r h1
  | .bl true => .ok (.bl true) h1
  | _ => .bad := rfl
@[simp] theorem s_eNo : eNo f r h = (f r h).bind fun x h1 => match x with
  | .bl b => .ok (.bl (!b)) h1
  | _ => .bad := rfl
@[simp] theorem s_eIf : eIf t f g r h = (t r h).bind fun c h1 => if c = true then f r h1 else g r h1 := rfl
@[simp] theorem s_sSeq : sSeq F G' r h = match F r h with
  | .nx r' h' => G' r' h'
  | o => o := rfl
@[simp] theorem s_sNx : sNx r h = .nx r h := rfl
@[simp] theorem s_sRet : sRet f r h = lift (f r h) r fun x h1 => .ret x h1 := rfl
@[simp] theorem s_sDrop : sDrop f r h = lift (f r h) r fun _ h1 => .nx r h1 := rfl
@[simp] theorem s_sIf : sIf t F G' r h = lift (t r h) r fun b h1 => if b = true then F r h1 else G' r h1 := rfl
@[simp] theorem s_sSet : sSet i f r h = lift (f r h) r fun x h1 => .nx (r.set i (some x)) h1 := rfl
@[simp] theorem s_sFor {it : IM} {gm : GM} : sFor it gm F r h = lift (it r h) r fun p h1 => forS p.2 p.1 gm F p.1 r h1 := rfl
@[simp] theorem s_itE : itE f r h = (f r h).bind itOf := rfl
@[simp] theorem s_itOf_lst : itOf (.lst xs) h = .ok (xs, none) h := rfl
@[simp] theorem s_itOf_tup : itOf (.tup xs) h = .ok (xs, none) h := rfl
@[simp] theorem s_itOf_klst : itOf (.klst xs) h = .ok (xs, none) h := rfl
@[simp] theorem s_gmN : gmN i x r = some (r.set i (some x)) := rfl
@[simp] theorem s_lcM {it : IM} {gm : GM} {kk : List T → MH → Res T} {vs : List Nat} : lcM kk it gm t f vs r h = (it r h).bind fun p h1 => (lcS p.2 p.1 gm t f (wipeR r vs) p.1 h1).bind kk := rfl
@[simp] theorem s_forS0 {src : Src} {all : List T} {gm : GM} : forS src all gm F [] r h = if chk src h = true then .nx r h else .bad := rfl
@[simp] theorem s_forSn {all : List T} : forS none all (gmN i) F (x :: xs) r h = match F (r.set i (some x)) h with
  | .nx r' h' => forS none all (gmN i) F xs r' h'
  | .ct r' h' => forS none all (gmN i) F xs r' h'
  | .bk r' h' => .nx r' h'
  | o => o := rfl
@[simp] theorem s_chk : chk none h = true := rfl
@[simp] theorem s_bindok {α β : Type} {v : α} {q : α → MH → Res β} : (Res.ok v h).bind q = q v h := rfl
@[simp] theorem s_liftok {α : Type} {v : α} {q : α → MH → Fr} : lift (.ok v h) r q = q v h := rfl
@[simp] theorem s_onH {v : T} : onH (.ok v []) h = .ok v h := rfl
@[simp] theorem s_lt {c d : Int} : ltT (.int c) (.int d) h = .ok (.bl (decide (c < d))) h := rfl
@[simp] theorem s_le {c d : Int} : leT (.int c) (.int d) h = .ok (.bl (decide (c ≤ d))) h := rfl
@[simp] theorem s_gt {c d : Int} : gtT (.int c) (.int d) h = .ok (.bl (decide (d < c))) h := rfl
@[simp] theorem s_ge {c d : Int} : geT (.int c) (.int d) h = .ok (.bl (decide (d ≤ c))) h := rfl
@[simp] theorem s_ng {c : Int} : ngT (.int c) h = .ok (.int (-c)) h := rfl
@[simp] theorem s_sub {c d : Int} : subT (.int c) (.int d) h = .ok (.int (c - d)) h := rfl
end
/-- the cells kept, the value told: the end of a def that made none -/
theorem endR_same {h : MH} {x : T} (hx : frW (frL h h.length frD) x = some x) : endR h (.ok x h) = .ok x h := by
  unfold endR
  show (match frz h h.length x with
    | some y => if okH h h = true then Res.ok y (h.take h.length) else .bad
    | none => .bad) = _
  unfold frz
  rw [hx]
  show (if okH h h = true then Res.ok x (h.take h.length) else .bad) = _
  have e : okH h h = true := by
    unfold okH
    rw [List.take_length, beqH_self, Bool.true_or]
  rw [if_pos e, List.take_length]
mutual
/-- no cell at all -/
theorem frW_low : ∀ (g : Nat → Option T) (x : T), low 0 x = true → frW g x = some x
  | _, .non, _ => rfl
  | _, .bl _, _ => rfl
  | _, .int _, _ => rfl
  | _, .str _, _ => rfl
  | _, .ty _, _ => rfl
  | _, .cls _, _ => rfl
  | _, .set _, _ => rfl
  | g, .tup xs, h => by
    show (frWs g xs).map T.tup = _
    rw [frWs_low g xs h]
    rfl
  | g, .ktup xs, h => by
    show (frWs g xs).map T.ktup = _
    rw [frWs_low g xs h]
    rfl
  | g, .lst xs, h => by
    show (frWs g xs).map T.lst = _
    rw [frWs_low g xs h]
    rfl
  | g, .klst xs, h => by
    show (frWs g xs).map T.klst = _
    rw [frWs_low g xs h]
    rfl
  | g, .dK ks xs, h => by
    show (frWs g xs).map (T.dK ks) = _
    rw [frWs_low g xs h]
    rfl
  | g, .dT ks xs, h => by
    show (frWs g xs).map (T.dT ks) = _
    rw [frWs_low g xs h]
    rfl
  | g, .dN ks xs, h => by
    show (frWs g xs).map (T.dN ks) = _
    rw [frWs_low g xs h]
    rfl
  | g, .obj c ns xs, h => by
    show (frWs g xs).map (T.obj c ns) = _
    rw [frWs_low g xs h]
    rfl
  | _, .loc n, h => by
    have : n < 0 := Nat.le_of_ble_eq_true h
    exact absurd this (Nat.not_lt_zero n)
theorem frWs_low : ∀ (g : Nat → Option T) (xs : List T), lows 0 xs = true → frWs g xs = some xs
  | _, [], _ => rfl
  | g, x :: xs, h => by
    simp only [lows, Bool.and_eq_true] at h
    unfold frWs
    rw [frW_low g x h.1, frWs_low g xs h.2]
end
/-- a def's end on the empty heap, whatever cells it made: a value that names none -/
theorem endR_nil {x : T} {h' : MH} (hx : low 0 x = true) : endR [] (.ok x h') = .ok x [] := by
  unfold endR
  show (match frz h' 0 x with
    | some y => if okH [] h' = true then Res.ok y (h'.take 0) else .bad
    | none => .bad) = _
  unfold frz
  rw [frW_low _ x hx]
  show (if okH [] h' = true then Res.ok x (h'.take 0) else .bad) = _
  have e : okH [] h' = true := by
    unfold okH
    rw [show h'.take ([] : MH).length = [] from rfl]
    rfl
  rw [if_pos e]
  rfl
theorem low_int (s : List Int) : lows 0 (s.map .int) = true := by
  induction s with
  | nil => rfl
  | cons x s ih => simp only [List.map_cons, lows, low, ih, Bool.and_self]
theorem low_tp (s : List Int) : low 0 (tp s) = true := low_int s
theorem low_ls (s : List Int) : low 0 (ls s) = true := low_int s
theorem lows_tp : ∀ ss : List (List Int), lows 0 (ss.map tp) = true
  | [] => rfl
  | s :: ss => by simp only [List.map_cons, lows, low_tp, lows_tp ss, Bool.and_self]
theorem lows_ls : ∀ ss : List (List Int), lows 0 (ss.map ls) = true
  | [] => rfl
  | s :: ss => by simp only [List.map_cons, lows, low_ls, lows_ls ss, Bool.and_self]
/-- a pure def by its body -/
theorem pur_ret {n : Nat} {b : SM} {xs : List T} {x : T} {h h' : MH} (hl : lows 0 xs = true) (e : b (startR n xs) [] = .ret x h') (hx : low 0 x = true) : pur (reg (fnB n b)) xs h = .ok x h := by
  rw [pur_nil _ _ _ hl]
  unfold reg fnB
  rw [e]
  rw [endR_nil hx]
  rfl
end TW
namespace TW
open PySem PySem.Spec L2

/-! ### answers told by a test, and more words -/
def isOk (r : Res T) (x : T) : Bool := match r with
  | .ok y h => beqT y x && h.isEmpty
  | _ => false
theorem isOk_eq {r : Res T} {x : T} (e : isOk r x = true) : r = .ok x [] := by
  unfold isOk at e
  split at e
  · rename_i y h
    simp only [Bool.and_eq_true, List.isEmpty_iff] at e
    rw [beqT_ok _ _ e.1, e.2]
  · cases e
theorem pur_any {f : FM} {xs : List T} {x : T} {h : MH} (e : pur f xs [] = .ok x []) (hl : lows 0 xs = true) : pur f xs h = .ok x h := by
  rw [pur_nil _ _ _ hl] at e ⊢
  cases q : f xs [] with
  | ok v h1 =>
    rw [q] at e
    cases h1 with
    | nil => cases e; rfl
    | cons a t => cases e
  | exc c fs h1 =>
    rw [q] at e
    cases h1 <;> cases e
  | bad => rw [q] at e; cases e
theorem pur_is {f : FM} {xs : List T} {x : T} {h : MH} (e : isOk (pur f xs []) x = true) (hl : lows 0 xs = true) : pur f xs h = .ok x h := pur_any (isOk_eq e) hl
section
variable {h : MH} {s t : List Int} {xs ys : List T} {i j : Int}
@[simp] theorem w_tp_ls : lsOf h (tp s) = none := rfl
@[simp] theorem w_tp_tp : tpOf (tp s) = some (s.map .int) := rfl
@[simp] theorem w_ls_ls : lsOf h (ls s) = some (s.map .int) := rfl
@[simp] theorem w_tts_tp {ss : List (List Int)} : tpOf (tts ss) = some (ss.map tp) := rfl
@[simp] theorem w_tts_ls {ss : List (List Int)} : lsOf h (tts ss) = none := rfl
@[simp] theorem w_lts_ls {ss : List (List Int)} : lsOf h (lts ss) = some (ss.map tp) := rfl
@[simp] theorem w_lls_ls {ss : List (List Int)} : lsOf h (lls ss) = some (ss.map ls) := rfl
@[simp] theorem w_lst : lsOf h (.lst xs) = some xs := rfl
theorem w_tupK (hl : xs.length ≤ sizeLine) : tupK xs h = .ok (.tup xs) h := if_pos hl
theorem w_lstK (hl : xs.length ≤ sizeLine) : lstK xs h = .ok (.lst xs) h := if_pos hl
theorem w_lstL (hl : xs.length ≤ sizeLine) : lstL xs h = .ok (.loc h.length) (h ++ [.lst xs]) := if_pos hl
theorem w_tupF_lst : tupF [.lst xs] h = .ok (.tup xs) h := rfl
theorem mapO_inOf : ∀ s : List Int, mapO inOf (s.map T.int) = some s
  | [] => rfl
  | x :: s => by
    have e : inOf (T.int x) = some x := rfl
    simp only [List.map_cons, mapO, e, mapO_inOf s]
theorem sortI_len (s : List Int) : (sortI s).length = s.length := (sortI_perm s).length_eq
theorem mem_sortI {x : Int} {s : List Int} : x ∈ sortI s ↔ x ∈ s := (sortI_perm s).mem_iff
theorem w_sort_ls (hl : s.length ≤ sizeLine) : sortF lstK [ls s] h = .ok (ls (sortI s)) h := by
  show (match soOf h (ls s) with
    | some ns => lstK ((sortI ns).map T.int) h
    | none => .bad) = _
  rw [show soOf h (ls s) = some s from mapO_inOf s]
  exact w_lstK (by rw [List.length_map, sortI_len]; exact hl)
theorem w_sort_tp (hl : s.length ≤ sizeLine) : sortF lstK [tp s] h = .ok (ls (sortI s)) h := by
  show (match soOf h (tp s) with
    | some ns => lstK ((sortI ns).map T.int) h
    | none => .bad) = _
  rw [show soOf h (tp s) = some s from mapO_inOf s]
  exact w_lstK (by rw [List.length_map, sortI_len]; exact hl)
theorem w_ad_tp (hl : s.length + t.length ≤ sizeLine) : adT lstK (tp s) (tp t) h = .ok (tp (s ++ t)) h := by
  show (if (s.map T.int).length + (t.map T.int).length ≤ sizeLine then Res.ok (T.tup (s.map T.int ++ t.map T.int)) h else .bad) = _
  rw [if_pos (by simpa using hl), ← List.map_append]
  rfl
@[simp] theorem w_ad_int {k : List T → MH → Res T} : adT k (.int i) (.int j) h = .ok (.int (i + j)) h := rfl
theorem w_len_tp : lenF [tp s] h = .ok (.int s.length) h := by
  show (match lnOf h (tp s) with
    | some n => Res.ok (T.int n) h
    | none => .bad) = _
  rw [show lnOf h (tp s) = some (s.map T.int).length from rfl, List.length_map]
theorem w_len_lst : lenF [.lst xs] h = .ok (.int xs.length) h := rfl
theorem w_len_tup : lenF [.tup xs] h = .ok (.int xs.length) h := rfl
theorem atI_nat {α : Type} {xs : List α} {n : Nat} {z : α} (e : xs[n]? = some z) : atI xs (n : Int) = some z := by
  unfold atI
  have hn : n < xs.length := (List.getElem?_eq_some_iff.mp e).1
  have q : ixN xs.length (n : Int) = some n := by
    unfold ixN
    simp [hn]
  rw [q]
  exact e
theorem w_ix_lst {n : Nat} {z : T} (e : xs[n]? = some z) : ixT (.lst xs) (.int n) h = .ok z h := by
  show (match atI xs (n : Int) with
    | some z => Res.ok z h
    | none => .bad) = _
  rw [atI_nat e]
theorem w_ix_tup {n : Nat} {z : T} (e : xs[n]? = some z) : ixT (.tup xs) (.int n) h = .ok z h := by
  show (match atI xs (n : Int) with
    | some z => Res.ok z h
    | none => .bad) = _
  rw [atI_nat e]
theorem w_in_tp {neg : Bool} : inT neg (.int i) (tp s) h = .ok (.bl (if neg = true then !decide (i ∈ s) else decide (i ∈ s))) h := inT_of h (in_tp h i s)
theorem w_in_tts {neg : Bool} {ss : List (List Int)} : inT neg (tp s) (tts ss) h = .ok (.bl (if neg = true then !decide (s ∈ ss) else decide (s ∈ ss))) h := inT_of h (in_tts h s ss)
theorem w_in_lts {neg : Bool} {ss : List (List Int)} : inT neg (tp s) (lts ss) h = .ok (.bl (if neg = true then !decide (s ∈ ss) else decide (s ∈ ss))) h := inT_of h (in_lts h s ss)
/-- a row that is walked with a test, ints told by ints -/
theorem lc_ints {xs' : List T} {k : Nat} {tt : TM} {r0 : Rho} (p : Int → Bool) (hk : k < r0.length) (ht : ∀ x : Int, x ∈ s → tt (r0.set k (some (.int x))) h = .ok (p x) h) : lcS none xs' (gmN k) tt (vr k) r0 (s.map .int) h = .ok ((s.filter p).map .int) h := by
  rw [lc_pure (p := fun x => match x with | .int i => p i | _ => false) (f := id)]
  · rw [List.map_id, List.filter_map]
    rfl
  · intro x hx
    obtain ⟨i, hi, rfl⟩ := List.mem_map.mp hx
    exact ht i hi
  · intro x hx _
    refine s_vr ?_
    rw [List.getElem?_set_self hk]
    rfl
theorem lc_tups {ss : List (List Int)} {xs' : List T} {k : Nat} {tt : TM} {r0 : Rho} (p : List Int → Bool) (hk : k < r0.length) (ht : ∀ x : List Int, x ∈ ss → tt (r0.set k (some (tp x))) h = .ok (p x) h) : lcS none xs' (gmN k) tt (vr k) r0 (ss.map tp) h = .ok ((ss.filter p).map tp) h := by
  have inj : ∀ x y : List Int, tp x = tp y → x = y := fun x y e => by
    have q : x.map T.int = y.map T.int := by injection e
    exact (List.map_inj_right (fun a b e => by injection e)).mp q
  have : ∃ P : T → Bool, ∀ x : List Int, P (tp x) = p x := ⟨fun x => match x with
    | .tup xs => (match mapO inOf xs with
      | some s => p s
      | none => false)
    | _ => false, fun x => by
      show (match mapO inOf (x.map T.int) with
        | some s => p s
        | none => false) = _
      rw [mapO_inOf]⟩
  obtain ⟨P, hP⟩ := this
  rw [lc_pure (p := P) (f := id)]
  · rw [List.map_id, List.filter_map]
    congr 2
    refine congrFun (congrArg _ (funext fun x => ?_)) _
    exact hP x
  · intro x hx
    obtain ⟨i, hi, rfl⟩ := List.mem_map.mp hx
    rw [hP]
    exact ht i hi
  · intro x hx _
    refine s_vr ?_
    rw [List.getElem?_set_self hk]
    rfl
/-! dicts by tuples -/
def keyL (s : List Int) : List Key := s.map .inl
theorem keyL_inj {s t : List Int} (e : keyL s = keyL t) : s = t := (List.map_inj_right (fun a b e => by injection e)).mp e
theorem kys_tp (s : List Int) : kysOf (tp s) = some (keyL s) := by
  show mapO kyOf (s.map T.int) = _
  induction s with
  | nil => rfl
  | cons x s ih =>
    have e : kyOf (T.int x) = some (.inl x) := rfl
    simp only [List.map_cons, mapO, e, ih]
    rfl
theorem look_map {f : List Int → T} : ∀ {ss : List (List Int)} {s : List Int}, s ∈ ss → look ((ss.map keyL).zip (ss.map f)) (keyL s) = some (f s)
  | [], _, h => (nomatch h)
  | a :: ss, s, h => by
    simp only [List.map_cons, List.zip_cons_cons, look]
    by_cases e : keyL a = keyL s
    · rw [if_pos e, keyL_inj e]
    · rw [if_neg e]
      rcases List.mem_cons.mp h with rfl | h
      · exact absurd rfl e
      · exact look_map h
theorem w_ix_dT {f : List Int → T} {ss : List (List Int)} {s : List Int} (hs : s ∈ ss) : ixT (.dT (ss.map keyL) (ss.map f)) (tp s) h = .ok (f s) h := by
  show (match dGet h (.dT (ss.map keyL) (ss.map f)) (tp s) with
    | some (some z) => Res.ok z h
    | _ => .bad) = _
  have e : dGet h (.dT (ss.map keyL) (ss.map f)) (tp s) = some (some (f s)) := by
    unfold dGet
    rw [show dkOf h (.dT (ss.map keyL) (ss.map f)) = none from rfl]
    show (match dtOf h (.dT (ss.map keyL) (ss.map f)), kysOf (tp s) with
    | some kvs, some j => some (look kvs j)
    | _, _ => none) = _
    rw [kys_tp]
    show some (look _ _) = _
    rw [look_map hs]
  rw [e]
end
end TW
namespace TW
open PySem PySem.Spec L2

/-! ### statement by statement -/
def thn (f : Fr) (G : SM) : Fr := match f with
  | .nx r h => G r h
  | o => o
/-- what a flow is asked -/
def Wp (f : Fr) (D : Fr → Prop) : Prop := D f
section
variable {F G' : SM} {r r0 : Rho} {h h0 : MH} {D : Fr → Prop} {α : Type} {enc : α → T}
theorem Wp.seq (k : ∀ fr, F r h = fr → Wp (thn fr G') D) : Wp (sSeq F G' r h) D := k _ rfl
theorem Wp.run (k : ∀ fr, F r h = fr → D fr) : Wp (F r h) D := k _ rfl
@[simp] theorem thn_nx : thn (.nx r h) G' = G' r h := id rfl
@[simp] theorem thn_ret {x : T} : thn (.ret x h) G' = .ret x h := id rfl
theorem wp_iff {f : Fr} : Wp f D = D f := rfl
/-- slots S put otherwise -/
def setS (r : Rho) : List Nat → (Nat → Option T) → Rho
  | [], _ => r
  | i :: S, y => setS (r.set i (y i)) S y
theorem set_own : ∀ (r : Rho) (i : Nat), r.set i (r.getD i none) = r
  | [], _ => rfl
  | _ :: _, 0 => rfl
  | x :: r, i + 1 => by
    show x :: r.set i (r.getD i none) = _
    rw [set_own r i]
theorem setS_own (r : Rho) (S : List Nat) : setS r S (fun i => r.getD i none) = r := by
  suffices ∀ (S : List Nat) (q : Rho), q = r → setS q S (fun i => r.getD i none) = r from this S r rfl
  intro S
  induction S with
  | nil => intro q e; exact e
  | cons i S ih =>
    intro q e
    subst e
    show setS (q.set i (q.getD i none)) S _ = q
    rw [set_own]
    exact ih q rfl
/-- a for over values, told by an invariant over what is done, the slots S, the heap; a turn may end all by a return -/
theorem forS_inv {gm : GM} {all : List T} {B : SM} (S : List Nat) (I : List α → (Nat → Option T) → MH → Prop) (up : α → Rho → Rho) (D : Fr → Prop) (hgm : ∀ a r, gm (enc a) r = some (up a r)) :
    ∀ (post pre : List α) (y : Nat → Option T) (h : MH), I pre y h →
      (∀ pre' a post' y h, pre ++ post = pre' ++ a :: post' → I pre' y h → Wp (B (up a (setS r0 S y)) h) (fun fr => (∃ y' h', fr = .nx (setS r0 S y') h' ∧ I (pre' ++ [a]) y' h') ∨ ∃ x h', fr = .ret x h' ∧ D (.ret x h'))) →
      (∀ y h, I (pre ++ post) y h → D (.nx (setS r0 S y) h)) → D (forS none all gm B (post.map enc) (setS r0 S y) h)
  | [], pre, y, h, hI, _, hE => by
    have := hE y h (by rw [List.append_nil]; exact hI)
    exact this
  | a :: post, pre, y, h, hI, hB, hE => by
    have hb := hB pre a post y h rfl hI
    unfold Wp at hb
    show D (match gm (enc a) (setS r0 S y) with
      | some r1 => (match B r1 h with
        | .nx r' h' => forS none all gm B (post.map enc) r' h'
        | .ct r' h' => forS none all gm B (post.map enc) r' h'
        | .bk r' h' => .nx r' h'
        | o => o)
      | none => .bad)
    rw [hgm]
    simp only []
    rcases hb with ⟨y', h', e, hI'⟩ | ⟨x, h', e, hd⟩
    · rw [e]
      refine forS_inv S I up D hgm post (pre ++ [a]) y' h' hI' (fun pre' b post' y h e2 i2 => hB pre' b post' y h ?_ i2) (fun y h i2 => hE y h ?_)
      · rw [← e2, List.append_assoc]; rfl
      · have : (pre ++ [a]) ++ post = pre ++ a :: post := by rw [List.append_assoc]; rfl
        rw [← this]
        exact i2
    · rw [e]
      exact hd
theorem Wp.forG {it : IM} {gm : GM} {B : SM} (S : List Nat) (I : List α → (Nat → Option T) → MH → Prop) (up : α → Rho → Rho) {xs : List α} {h1 : MH} (e : it r h = .ok (xs.map enc, none) h1)
    (hgm : ∀ a r, gm (enc a) r = some (up a r)) (hI : I [] (fun i => r.getD i none) h1)
    (hB : ∀ pre a post y h, xs = pre ++ a :: post → I pre y h → Wp (B (up a (setS r S y)) h) (fun fr => (∃ y' h', fr = .nx (setS r S y') h' ∧ I (pre ++ [a]) y' h') ∨ ∃ x h', fr = .ret x h' ∧ D (.ret x h')))
    (hE : ∀ y h, I xs y h → Wp (G' (setS r S y) h) D) : Wp (sSeq (sFor it gm B) G' r h) D := by
  have q := forS_inv (r0 := r) (enc := enc) (gm := gm) (all := xs.map enc) (B := B) S I up (fun fr => D (thn fr G')) hgm xs [] (fun i => r.getD i none) h1 hI hB hE
  rw [setS_own] at q
  show D (match lift (it r h) r fun p h1 => forS p.2 p.1 gm B p.1 r h1 with
    | .nx r' h' => G' r' h'
    | o => o)
  rw [e]
  exact q
/-- for x in values -/
theorem Wp.for_ {it : IM} {k : Nat} {B : SM} (S : List Nat) (I : List α → (Nat → Option T) → MH → Prop) {xs : List α} {h1 : MH} (e : it r h = .ok (xs.map enc, none) h1) (hI : I [] (fun i => r.getD i none) h1)
    (hB : ∀ pre a post y h, xs = pre ++ a :: post → I pre y h → Wp (B ((setS r S y).set k (some (enc a))) h) (fun fr => (∃ y' h', fr = .nx (setS r S y') h' ∧ I (pre ++ [a]) y' h') ∨ ∃ x h', fr = .ret x h' ∧ D (.ret x h')))
    (hE : ∀ y h, I xs y h → Wp (G' (setS r S y) h) D) : Wp (sSeq (sFor it (gmN k) B) G' r h) D :=
  Wp.forG S I (fun a r => r.set k (some (enc a))) e (fun _ _ => rfl) hI hB hE
/-- one that only puts slots otherwise -/
theorem Wp.forK {it : IM} {k : Nat} {B : SM} (S : List Nat) {xs : List α} {h1 : MH} (e : it r h = .ok (xs.map enc, none) h1)
    (hB : ∀ a ∈ xs, ∀ y, Wp (B ((setS r S y).set k (some (enc a))) h1) (fun fr => ∃ y', fr = .nx (setS r S y') h1))
    (hE : ∀ y, Wp (G' (setS r S y) h1) D) : Wp (sSeq (sFor it (gmN k) B) G' r h) D :=
  Wp.for_ S (fun _ _ h => h = h1) e rfl (fun pre a post y h ex hh => by
    subst hh
    obtain ⟨y', e'⟩ := hB a (by rw [ex]; simp) y
    exact .inl ⟨y', _, e', rfl⟩) (fun y h hh => by subst hh; exact hE y)
theorem sFor_last {it : IM} {gm : GM} {B : SM} (k : Wp (sSeq (sFor it gm B) sNx r h) D) : Wp (sFor it gm B r h) D := by
  have : sSeq (sFor it gm B) sNx r h = sFor it gm B r h := by
    rw [s_sSeq]
    cases sFor it gm B r h <;> rfl
  rw [this] at k
  exact k
/-- the end of a turn -/
theorem turn {S : List Nat} {I : List α → (Nat → Option T) → MH → Prop} {pre : List α} {r' : Rho} (hr : r' = setS r0 S (fun i => r'.getD i none)) (hI : I pre (fun i => r'.getD i none) h) {Q : Prop} :
    (∃ y' h', Fr.nx r' h = .nx (setS r0 S y') h' ∧ I pre y' h') ∨ Q := .inl ⟨_, h, by rw [← hr], hI⟩
theorem turnK {S : List Nat} {r' : Rho} (hr : r' = setS r0 S (fun i => r'.getD i none)) : ∃ y', Fr.nx r' h = .nx (setS r0 S y') h := ⟨_, by rw [← hr]⟩
/-- while: a bound that falls -/
theorem whS_inv {t : TM} {B : SM} (S : List Nat) (I : Nat → (Nat → Option T) → MH → Prop) (D : Fr → Prop)
    (hB : ∀ k y h, I k y h → (∃ h1, t (setS r0 S y) h = .ok false h1 ∧ D (.nx (setS r0 S y) h1)) ∨ ∃ h1, t (setS r0 S y) h = .ok true h1 ∧ Wp (B (setS r0 S y) h1) (fun fr => (∃ y' h' j, fr = .nx (setS r0 S y') h' ∧ j < k ∧ I j y' h') ∨ ∃ x h', fr = .ret x h' ∧ D (.ret x h'))) :
    ∀ (fuel k : Nat) (y : Nat → Option T) (h : MH), k < fuel → I k y h → D (whS t B fuel (setS r0 S y) h)
  | 0, k, _, _, hk, _ => absurd hk (Nat.not_lt_zero k)
  | fuel + 1, k, y, h, hk, hI => by
    show D (lift (t (setS r0 S y) h) (setS r0 S y) fun b h1 => if b = true then (match B (setS r0 S y) h1 with
      | .nx r' h' => whS t B fuel r' h'
      | .ct r' h' => whS t B fuel r' h'
      | .bk r' h' => .nx r' h'
      | o => o) else .nx (setS r0 S y) h1)
    rcases hB k y h hI with ⟨h1, e, d⟩ | ⟨h1, e, w⟩
    · rw [e]
      exact d
    · rw [e]
      show D (match B (setS r0 S y) h1 with
        | .nx r' h' => whS t B fuel r' h'
        | .ct r' h' => whS t B fuel r' h'
        | .bk r' h' => .nx r' h'
        | o => o)
      rcases w with ⟨y', h', j, e2, hj, hI'⟩ | ⟨x, h', e2, d⟩
      · rw [e2]
        exact whS_inv S I D hB fuel j y' h' (by omega) hI'
      · rw [e2]
        exact d
theorem Wp.wh {t : TM} {B : SM} {fuel : Nat} (S : List Nat) (I : Nat → (Nat → Option T) → MH → Prop) (k : Nat) (hk : k < fuel) (hI : I k (fun i => r.getD i none) h)
    (hB : ∀ k y h, I k y h → (∃ h1, t (setS r S y) h = .ok false h1 ∧ Wp (G' (setS r S y) h1) D) ∨ ∃ h1, t (setS r S y) h = .ok true h1 ∧ Wp (B (setS r S y) h1) (fun fr => (∃ y' h' j, fr = .nx (setS r S y') h' ∧ j < k ∧ I j y' h') ∨ ∃ x h', fr = .ret x h' ∧ D (.ret x h'))) :
    Wp (sSeq (whS t B fuel) G' r h) D := by
  have q := whS_inv (r0 := r) (t := t) (B := B) S I (fun fr => D (thn fr G')) hB fuel k (fun i => r.getD i none) h hk hI
  rw [setS_own] at q
  exact q
/-- a comprehension over values -/
theorem lcE {it : IM} {k : Nat} {tt : TM} {te : EM} {vs : List Nat} {xs : List α} (p : α → Bool) (f : α → T) (e : it r h = .ok (xs.map enc, none) h) (hl : xs.length ≤ 10000)
    (ht : ∀ x ∈ xs, tt ((wipeR r vs).set k (some (enc x))) h = .ok (p x) h) (he : ∀ x ∈ xs, p x = true → te ((wipeR r vs).set k (some (enc x))) h = .ok (f x) h) :
    lcM lstK it (gmN k) tt te vs r h = .ok (.lst ((xs.filter p).map f)) h := by
  rw [s_lcM, e]
  show (lcS none (xs.map enc) (gmN k) tt te (wipeR r vs) (xs.map enc) h).bind lstK = _
  have : ∀ zs : List α, (∀ x ∈ zs, x ∈ xs) → lcS none (xs.map enc) (gmN k) tt te (wipeR r vs) (zs.map enc) h = .ok ((zs.filter p).map f) h := by
    intro zs
    induction zs with
    | nil => intro _; unfold lcS; rfl
    | cons z zs ih =>
      intro hz
      have ih := ih fun x hx => hz x (List.mem_cons_of_mem _ hx)
      have h1 := ht z (hz z List.mem_cons_self)
      have h2 := he z (hz z List.mem_cons_self)
      rw [List.map_cons]
      unfold lcS
      rw [if_pos (chk_none h)]
      show (calm (tt ((wipeR r vs).set k (some (enc z))) h)).bind _ = _
      rw [h1]
      show (if p z = true then _ else _) = _
      by_cases hp : p z = true
      · rw [if_pos hp, h2 hp]
        show (lcS none (xs.map enc) (gmN k) tt te (wipeR r vs) (zs.map enc) h).bind _ = _
        rw [ih, List.filter_cons_of_pos hp]
        rfl
      · rw [if_neg hp, ih, List.filter_cons_of_neg hp]
  rw [this xs fun _ h => h]
  refine w_lstK ?_
  rw [List.length_map]
  exact Nat.le_trans (List.length_filter_le _ _) (Nat.le_trans hl (by decide))
/-- a def by its body, on the empty heap -/
theorem pur_wp {n : Nat} {b : SM} {xs : List T} {x : T} {h : MH} (hl : lows 0 xs = true) (hx : low 0 x = true) (e : Wp (b (startR n xs) []) (fun fr => ∃ h', fr = .ret x h')) : pur (reg (fnB n b)) xs h = .ok x h := by
  obtain ⟨h', e⟩ := e
  exact pur_ret hl e hx
theorem pur_wpN {n : Nat} {b : SM} {xs : List T} {h : MH} (hl : lows 0 xs = true) (e : Wp (b (startR n xs) []) (fun fr => ∃ r h', fr = .nx r h')) : pur (reg (fnB n b)) xs h = .ok .non h := by
  obtain ⟨r, h', e⟩ := e
  rw [pur_nil _ _ _ hl]
  unfold reg fnB
  rw [e]
  rw [endR_nil rfl]
  rfl
end
section
variable {h : MH} {s t : List Int} {ss : List (List Int)} {i j : Int}
@[simp] theorem W_in_tp {neg : Bool} : inT neg (.int i) (tp s) h = .ok (.bl (if neg = true then !decide (i ∈ s) else decide (i ∈ s))) h := w_in_tp
@[simp] theorem W_in_ls {neg : Bool} : inT neg (.int i) (ls s) h = .ok (.bl (if neg = true then !decide (i ∈ s) else decide (i ∈ s))) h := inT_of h (in_ls h i s)
@[simp] theorem W_in_tts {neg : Bool} : inT neg (tp s) (tts ss) h = .ok (.bl (if neg = true then !decide (s ∈ ss) else decide (s ∈ ss))) h := w_in_tts
@[simp] theorem W_in_lts {neg : Bool} : inT neg (tp s) (lts ss) h = .ok (.bl (if neg = true then !decide (s ∈ ss) else decide (s ∈ ss))) h := w_in_lts
@[simp] theorem W_eq_int : eqT (.int i) (.int j) h = .ok (.bl (decide (i = j))) h := eq_int h i j
@[simp] theorem W_ne_int : neT (.int i) (.int j) h = .ok (.bl (!decide (i = j))) h := ne_int h i j
@[simp] theorem W_eq_tp : eqT (tp s) (tp t) h = .ok (.bl (decide (s = t))) h := eq_tp h s t
@[simp] theorem W_ne_tp : neT (tp s) (tp t) h = .ok (.bl (!decide (s = t))) h := ne_tp h s t
@[simp] theorem W_eq_tts {us : List (List Int)} : eqT (tts ss) (tts us) h = .ok (.bl (decide (ss = us))) h := eq_tts h ss us
@[simp] theorem W_ne_tts {us : List (List Int)} : neT (tts ss) (tts us) h = .ok (.bl (!decide (ss = us))) h := ne_tts h ss us
@[simp] theorem W_eq_lts {us : List (List Int)} : eqT (lts ss) (lts us) h = .ok (.bl (decide (ss = us))) h := eq_lts h ss us
@[simp] theorem W_ne_lts {us : List (List Int)} : neT (lts ss) (lts us) h = .ok (.bl (!decide (ss = us))) h := ne_lts h ss us
@[simp] theorem W_eq_ls0 : eqT (ls s) (.lst []) h = .ok (.bl (decide (s = []))) h := eq_ls h s []
@[simp] theorem W_ne_ls0 : neT (ls s) (.lst []) h = .ok (.bl (!decide (s = []))) h := ne_ls h s []
@[simp] theorem W_eq_lts0 : eqT (lts ss) (.lst []) h = .ok (.bl (decide (ss = []))) h := eq_lts h ss []
@[simp] theorem W_ne_lts0 : neT (lts ss) (.lst []) h = .ok (.bl (!decide (ss = []))) h := ne_lts h ss []
@[simp] theorem W_eq_tp0 : eqT (tp s) (.tup []) h = .ok (.bl (decide (s = []))) h := eq_tp h s []
@[simp] theorem W_ne_tp0 : neT (tp s) (.tup []) h = .ok (.bl (!decide (s = []))) h := ne_tp h s []
@[simp] theorem W_eq_tts0 : eqT (tts ss) (.tup []) h = .ok (.bl (decide (ss = []))) h := eq_tts h ss []
@[simp] theorem W_ne_tts0 : neT (tts ss) (.tup []) h = .ok (.bl (!decide (ss = []))) h := ne_tts h ss []
theorem ne_bool {a b : Bool} : neT (.bl a) (.bl b) h = .ok (.bl (!decide (a = b))) h := by
  cases a <;> cases b <;> rfl
@[simp] theorem W_ne_bl {a b : Bool} : neT (.bl a) (.bl b) h = .ok (.bl (!decide (a = b))) h := ne_bool
theorem eq_bool {a b : Bool} : eqT (.bl a) (.bl b) h = .ok (.bl (decide (a = b))) h := by
  cases a <;> cases b <;> rfl
@[simp] theorem W_eq_bl {a b : Bool} : eqT (.bl a) (.bl b) h = .ok (.bl (decide (a = b))) h := eq_bool
@[simp] theorem W_lst0 : lstK [] h = .ok (.lst []) h := rfl
@[simp] theorem W_tup0 : tupK [] h = .ok (.tup []) h := rfl
@[simp] theorem W_lst1 {a : T} : lstK [a] h = .ok (.lst [a]) h := rfl
@[simp] theorem W_lst2 {a b : T} : lstK [a, b] h = .ok (.lst [a, b]) h := rfl
@[simp] theorem W_lst3 {a b c : T} : lstK [a, b, c] h = .ok (.lst [a, b, c]) h := rfl
@[simp] theorem W_tup1 {a : T} : tupK [a] h = .ok (.tup [a]) h := rfl
@[simp] theorem W_tup2 {a b : T} : tupK [a, b] h = .ok (.tup [a, b]) h := rfl
@[simp] theorem W_tup3 {a b c : T} : tupK [a, b, c] h = .ok (.tup [a, b, c]) h := rfl
@[simp] theorem W_tup4 {a b c d : T} : tupK [a, b, c, d] h = .ok (.tup [a, b, c, d]) h := rfl
@[simp] theorem W_tupF_lst {xs : List T} : tupF [.lst xs] h = .ok (.tup xs) h := rfl
@[simp] theorem W_ix0 {a : T} {xs : List T} : ixT (.lst (a :: xs)) (.int 0) h = .ok a h := w_ix_lst (n := 0) rfl
@[simp] theorem W_ix1 {a b : T} {xs : List T} : ixT (.lst (a :: b :: xs)) (.int 1) h = .ok b h := w_ix_lst (n := 1) rfl
@[simp] theorem W_ix2 {a b c : T} {xs : List T} : ixT (.lst (a :: b :: c :: xs)) (.int 2) h = .ok c h := w_ix_lst (n := 2) rfl
@[simp] theorem W_jx0 {a : T} {xs : List T} : ixT (.tup (a :: xs)) (.int 0) h = .ok a h := w_ix_tup (n := 0) rfl
@[simp] theorem W_jx1 {a b : T} {xs : List T} : ixT (.tup (a :: b :: xs)) (.int 1) h = .ok b h := w_ix_tup (n := 1) rfl
@[simp] theorem W_jx2 {a b c : T} {xs : List T} : ixT (.tup (a :: b :: c :: xs)) (.int 2) h = .ok c h := w_ix_tup (n := 2) rfl
@[simp] theorem W_start {n : Nat} {xs : List T} : startR n xs = xs.map some ++ List.replicate (n - xs.length) none := rfl
@[simp] theorem W_par2 {i j : Nat} {a : AM} {r : Rho} : sPar2 i j a r h = lift (a r h) r fun xs h1 => match xs with
  | [x, y] => .nx ((r.set i (some x)).set j (some y)) h1
  | _ => .bad := rfl
@[simp] theorem W_wipe0 {r : Rho} : wipeR r [] = r := rfl
theorem iso_bl {x : T} {b c : Bool} : isNT b (.bl c) x h = isNT b (.bl c) x h := rfl
/-- a set of a tuple, sorted, as a tuple -/
def uni (s t : List Int) : List Int := sortI (onceI (s ++ t))
theorem mem_uni {s t : List Int} {x : Int} : x ∈ uni s t ↔ x ∈ s ∨ x ∈ t := by
  unfold uni
  rw [mem_sortI, mem_onceI, List.mem_append]
theorem onceI_len : ∀ s : List Int, (onceI s).length ≤ s.length
  | [] => Nat.le_refl _
  | x :: s => by
    unfold onceI
    have := onceI_len s
    split
    · exact Nat.le_succ_of_le this
    · simp only [List.length_cons]; omega
theorem w_set (hl : s.length < 63) : setF [tp s] h = .ok (.set s) h := by
  show (match mapO inOf (s.map T.int) with
    | some ns => if ns.length + 1 < scanBound then Res.ok (T.set ns) h else .bad
    | none => .bad) = _
  rw [mapO_inOf]
  exact if_pos (Nat.lt_of_lt_of_le (show s.length + 1 < 64 by omega) (by decide))
theorem w_sort_set (hl : s.length < 63) : sortF lstK [.set s] h = .ok (ls (sortI (onceI s))) h := by
  show (match (if s.length < 64 then some (onceI s) else none) with
    | some ns => lstK ((sortI ns).map T.int) h
    | none => .bad) = _
  rw [if_pos (by omega)]
  refine w_lstK ?_
  rw [List.length_map, sortI_len]
  exact Nat.le_trans (onceI_len s) (Nat.le_trans (Nat.le_of_lt hl) (by decide))
@[simp] theorem W_tupF_ls : tupF [ls s] h = .ok (tp s) h := rfl
@[simp] theorem W_tupF_lts : tupF [lts ss] h = .ok (tts ss) h := rfl
@[simp] theorem W_itOf_ls : itOf (ls s) h = .ok (s.map .int, none) h := rfl
@[simp] theorem W_itOf_tp : itOf (tp s) h = .ok (s.map .int, none) h := rfl
@[simp] theorem W_itOf_lts : itOf (lts ss) h = .ok (ss.map tp, none) h := rfl
@[simp] theorem W_itOf_tts : itOf (tts ss) h = .ok (ss.map tp, none) h := rfl
@[simp] theorem W_itOf_lls : itOf (lls ss) h = .ok (ss.map ls, none) h := rfl
/-- together, of two short rows -/
theorem w_uni (hl : s.length + t.length < 63) : (((adT lstK (tp s) (tp t) h).bind fun x h1 => .ok [x] h1).bind setF) = .ok (T.set (s ++ t)) h := by
  rw [w_ad_tp (Nat.le_trans (Nat.le_of_lt hl) (by decide))]
  show setF [tp (s ++ t)] h = _
  exact w_set (by rw [List.length_append]; omega)
/-! targets, methods, more walks -/
section
variable {r : Rho} {g : GM} {gs : GMs} {x y : T} {xs l t : List T} {f : EM} {a : AM} {n k : Nat} {kk : List T → MH → Res T}
@[simp] theorem s_sAsg : sAsg g f r h = lift (f r h) r fun x h1 => match g x r with
  | some r' => .nx r' h1
  | none => .bad := rfl
@[simp] theorem s_gmT : gmT n gs (.tup xs) r = if xs.length = n then gs xs r else none := rfl
@[simp] theorem s_gmCons : gmCons g gs (x :: xs) r = match g x r with
  | some r' => gs xs r'
  | none => none := rfl
@[simp] theorem s_emCallK {n j : Nat} {o : List T → List T → List T} {fm : FM} {b : AM} : emCallK n j o fm a b r h = (a r h).bind fun xs h1 => (b r h1).bind fun zs h2 => if xs.length = n ∧ zs.length = j then fm (o xs zs) h2 else .bad := rfl
@[simp] theorem s_isbl {neg b c : Bool} : isNT neg (.bl b) (.bl c) h = .ok (.bl (if neg = true then !decide (b = c) else decide (b = c))) h := rfl
@[simp] theorem s_isnon {neg : Bool} : isNT neg .non .non h = .ok (.bl (!neg)) h := rfl
@[simp] theorem s_istup {neg : Bool} : isNT neg (.tup xs) .non h = .ok (.bl neg) h := rfl
@[simp] theorem s_par3 {i j l : Nat} : sPar3 i j l a r h = lift (a r h) r fun xs h1 => match xs with
  | [x, y, z] => .nx (((r.set i (some x)).set j (some y)).set l (some z)) h1
  | _ => .bad := rfl
@[simp] theorem s_emSl {lo hi : PM} : emSl kk f lo hi r h = (f r h).bind fun x h1 => (lo r h1).bind fun l h2 => (hi r h2).bind fun u h3 => slT kk x l u h3 := rfl
@[simp] theorem s_pNo : pNo r h = .ok none h := rfl
@[simp] theorem s_pSo {i : Int} : pSo (cst (.int i)) r h = .ok (some i) h := rfl
@[simp] theorem s_gmNil : gmNil [] r = some r := rfl
@[simp] theorem s_emBm {ty : String} {m : GMt} : emBm ty m f a r h = (f r h).bind fun x h1 => if isTy ty h1 x = true then (a r h1).bind fun xs h2 => m x xs h2 else .bad := rfl
@[simp] theorem t_ls0 {o : MH} : isTy "list" (.lst l :: o) (.loc 0) = true := rfl
@[simp] theorem t_ls1 {o1 : MO} {o : MH} : isTy "list" (o1 :: .lst l :: o) (.loc 1) = true := rfl
@[simp] theorem t_ls2 {o1 o2 : MO} {o : MH} : isTy "list" (o1 :: o2 :: .lst l :: o) (.loc 2) = true := rfl
@[simp] theorem t_ls3 {o1 o2 o3 : MO} {o : MH} : isTy "list" (o1 :: o2 :: o3 :: .lst l :: o) (.loc 3) = true := rfl
@[simp] theorem t_ls4 {o1 o2 o3 o4 : MO} {o : MH} : isTy "list" (o1 :: o2 :: o3 :: o4 :: .lst l :: o) (.loc 4) = true := rfl
theorem ap0 {o : MH} (hl : l.length ≤ 100000) : apT (.loc 0) [y] (.lst l :: o) = .ok .non (.lst (l ++ [y]) :: o) := if_pos (Nat.lt_of_le_of_lt hl (by decide))
theorem ap1 {o1 : MO} {o : MH} (hl : l.length ≤ 100000) : apT (.loc 1) [y] (o1 :: .lst l :: o) = .ok .non (o1 :: .lst (l ++ [y]) :: o) := if_pos (Nat.lt_of_le_of_lt hl (by decide))
theorem ap2 {o1 o2 : MO} {o : MH} (hl : l.length ≤ 100000) : apT (.loc 2) [y] (o1 :: o2 :: .lst l :: o) = .ok .non (o1 :: o2 :: .lst (l ++ [y]) :: o) := if_pos (Nat.lt_of_le_of_lt hl (by decide))
theorem apn {n : Nat} (e : h[n]? = some (.lst l)) (hl : l.length ≤ 100000) : apT (.loc n) [y] h = .ok .non (h.set n (.lst (l ++ [y]))) := by
  unfold apT
  simp only [lstAt, e]
  exact if_pos (Nat.lt_of_le_of_lt hl (by decide))
theorem t_lsn {n : Nat} (e : h[n]? = some (.lst l)) : isTy "list" h (.loc n) = true := by
  simp only [isTy, e]
  rfl
@[simp] theorem it_loc0 {o : MH} : itOf (.loc 0) (.lst l :: o) = .ok (l, some (0, l)) (.lst l :: o) := rfl
@[simp] theorem tupF_loc0 {o : MH} : tupF [.loc 0] (.lst l :: o) = .ok (.tup l) (.lst l :: o) := rfl
@[simp] theorem s_emL2 : lstL [] h = .ok (.loc h.length) (h ++ [.lst []]) := rfl
@[simp] theorem W_len_tp : lenF [tp s] h = .ok (.int s.length) h := w_len_tp
@[simp] theorem W_len_ls : lenF [ls s] h = .ok (.int s.length) h := by
  rw [show ls s = .lst (s.map .int) from rfl, w_len_lst, List.length_map]
@[simp] theorem W_len_lst : lenF [.lst xs] h = .ok (.int xs.length) h := rfl
@[simp] theorem W_len_tup : lenF [.tup xs] h = .ok (.int xs.length) h := rfl
/-- a walk over ints, to the list of some of them -/
theorem lcInt {it : IM} {tt : TM} {vs : List Nat} (p : Int → Bool) (e : it r h = .ok (s.map .int, none) h) (hl : s.length ≤ 10000) (hk : k < (wipeR r vs).length)
    (ht : ∀ x ∈ s, tt ((wipeR r vs).set k (some (.int x))) h = .ok (p x) h) : lcM lstK it (gmN k) tt (vr k) vs r h = .ok (ls (s.filter p)) h := by
  refine lcE p T.int e hl ht fun x _ _ => s_vr ?_
  rw [List.getElem?_set_self hk]
theorem lcTup {it : IM} {tt : TM} {vs : List Nat} (p : List Int → Bool) (e : it r h = .ok (ss.map tp, none) h) (hl : ss.length ≤ 10000) (hk : k < (wipeR r vs).length)
    (ht : ∀ x ∈ ss, tt ((wipeR r vs).set k (some (tp x))) h = .ok (p x) h) : lcM lstK it (gmN k) tt (vr k) vs r h = .ok (lts (ss.filter p)) h := by
  refine lcE p tp e hl ht fun x _ _ => s_vr ?_
  rw [List.getElem?_set_self hk]
end
end
end TW
namespace TW
open PySem PySem.Spec L2

/-! ### zip of two lists, of two tuples -/
def fzL : T → Option (List T)
  | .lst xs => some xs
  | .klst xs => some xs
  | _ => none
theorem fzL_ok {x : T} {xs : List T} (h : MH) (e : fzL x = some xs) : lsOf h x = some xs ∧ srcOf x xs = none := by
  cases x <;> cases e <;> exact ⟨rfl, rfl⟩
def zipL (xs ys : List T) : List T := (xs.zip ys).map fun p => .tup [p.1, p.2]
def itZip (f : AM) : IM := fun r h => (f r h).bind fun zs h1 => match zs with
  | [x, y] => (match fzL x, fzL y with
    | some xs, some ys => .ok (zipL xs ys, none) h1
    | _, _ => (match tpOf x, tpOf y with
      | some xs, some ys => .ok (zipL xs ys, none) h1
      | _, _ => .bad))
  | _ => .bad
theorem pair2_new {G : Gx} {m : Ml} {H : Hp} {h : MH} {P : Addr} {x y : T} {v u : V} (rel : Rel G m H h) (hP : H P = none) (rx : R G m H x v) (ry : R G m H y u) : Stp m m H (upd H P (.tup [v, u])) ∧ Rel G m (upd H P (.tup [v, u])) h ∧ R G m (upd H P (.tup [v, u])) (.tup [x, y]) (.ref P) :=
  ⟨Stp.new hP, rel.new hP, tup_new rel (Rs.cons rx (Rs.cons ry Rs.nil)) hP⟩
theorem zipL_get {xs ys : List T} {i : Nat} {z : T} (e : (zipL xs ys)[i]? = some z) : ∃ x y, xs[i]? = some x ∧ ys[i]? = some y ∧ z = .tup [x, y] := by
  unfold zipL at e
  rw [List.getElem?_map] at e
  cases q : (xs.zip ys)[i]? with
  | none => rw [q] at e; cases e
  | some p =>
    rw [q] at e
    cases e
    rw [List.getElem?_zip_eq_some] at q
    exact ⟨p.1, p.2, q.1, q.2, rfl⟩
theorem zipL_len (xs ys : List T) : (zipL xs ys).length = min xs.length ys.length := by
  unfold zipL
  rw [List.length_map, List.length_zip]
section
variable {X : Cx} {cl : Cln} {W : WX} {e e2 : Expr} {fa : AM} {pos tpos p : Pos} {elts : List Expr} {kk : Nat}
theorem walk_zipL {G : Gx} {m : Ml} {H : Hp} {a b : Addr} {xs ys : List T} (h1 : ∀ m' H' h', Wk m m' H H' → Rel G m' H' h' → ∃ vs, SqL G.K H' a vs ∧ Rs G m' H' xs vs) (h2 : ∀ m' H' h', Wk m m' H H' → Rel G m' H' h' → ∃ vs, SqL G.K H' b vs ∧ Rs G m' H' ys vs) : WalkM G (Itz G.K a b) (zipL xs ys) none m H := by
  intro m' H' h' s rel c
  obtain ⟨vs, sq, rs⟩ := h1 m' H' h' s rel
  obtain ⟨ws, sq2, rs2⟩ := h2 m' H' h' s rel
  have hl := Rs.len rs
  have hl2 := Rs.len rs2
  rw [zipL_len]
  refine ⟨fun i hi => ⟨vs, ws, vs[i]'(by omega), ws[i]'(by omega), sq, sq2, by simp, by simp⟩, ⟨vs, ws, sq, sq2, by omega⟩, fun i y H'' z yl ez => ?_⟩
  obtain ⟨P, x, y2, rfl, hP, rfl, yl, yl2⟩ := yl
  obtain ⟨t, t2, e1, e2, rfl⟩ := zipL_get ez
  obtain ⟨u, e3, r1⟩ := Rs.get rs e1
  obtain ⟨u2, e4, r2⟩ := Rs.get rs2 e2
  have q := yl vs sq
  have q2 := yl2 ws sq2
  rw [e3] at q
  rw [e4] at q2
  cases q
  cases q2
  exact pair2_new rel hP r1 r2
theorem walk_zipT {G : Gx} {m : Ml} {H : Hp} {a b : Addr} {xs ys : List T} (h1 : ∀ m' H', Wk m m' H H' → ∃ vs, SqT G.K H' a vs ∧ Rs G m' H' xs vs) (h2 : ∀ m' H', Wk m m' H H' → ∃ vs, SqT G.K H' b vs ∧ Rs G m' H' ys vs) : WalkM G (RZ.ItzT G.K a b) (zipL xs ys) none m H := by
  intro m' H' h' s rel c
  obtain ⟨vs, sq, rs⟩ := h1 m' H' s
  obtain ⟨ws, sq2, rs2⟩ := h2 m' H' s
  have hl := Rs.len rs
  have hl2 := Rs.len rs2
  rw [zipL_len]
  refine ⟨fun i hi => ⟨vs, ws, vs[i]'(by omega), ws[i]'(by omega), sq, sq2, by simp, by simp⟩, ⟨vs, ws, sq, sq2, by omega⟩, fun i y H'' z yl ez => ?_⟩
  obtain ⟨P, x, y2, rfl, hP, rfl, yl, yl2⟩ := yl
  obtain ⟨t, t2, e1, e2, rfl⟩ := zipL_get ez
  obtain ⟨u, e3, r1⟩ := Rs.get rs e1
  obtain ⟨u2, e4, r2⟩ := Rs.get rs2 e2
  have q := yl vs sq
  have q2 := yl2 ws sq2
  rw [e3] at q
  rw [e4] at q2
  cases q
  cases q2
  exact pair2_new rel hP r1 r2
theorem mi_zip (hg : Gl X "zip") (hm : X.mg "zip" = none) (ha : MA X cl W [e, e2] fa) (hs : starEach [e, e2] X.env = (false, eval e X.env) :: starEach [e2] X.env := by rfl) (hpl : (backTo pos (starEach [e2] X.env)).any (·.1) = false := by rfl) : MI X cl W (.Tuple elts kk tpos) (.Call (.Name "zip" p) [e, e2] [] pos) (itZip fa) := by
  refine ⟨PI.imp (RZ.pi_zipA hg hm ha.pa hs hpl) fun σ H Q h => ?_⟩
  obtain ⟨r, hp, m, re, rel, p⟩ := h
  unfold itZip at p
  refine ⟨r, hp, m, re, rel, p.bind.mono (fun zs m' h' H' s q vs rv => ?_) fun _ _ _ z => z⟩
  obtain ⟨rel', p⟩ := q
  split at p
  · rename_i x y
    obtain ⟨v1, t, rfl, rv1, rt⟩ := Rs.cons_iff.mp rv
    obtain ⟨v2, t, rfl, rv2, rt⟩ := Rs.cons_iff.mp rt
    obtain rfl := Rs.nil_iff.mp rt
    split at p
    · rename_i xs ys e1 e3
      obtain ⟨q1, s1⟩ := fzL_ok h' e1
      obtain ⟨q2, s2⟩ := fzL_ok h' e3
      obtain ⟨a, ws, rfl, sq, rs⟩ := lsOf_ok rel' rv1 q1
      obtain ⟨b, us, rfl, sq2, rs2⟩ := lsOf_ok rel' rv2 q2
      have l1 := ls_later rel' rv1 q1
      have l2 := ls_later rel' rv2 q2
      rw [s1] at l1
      rw [s2] at l2
      exact ⟨a, b, ws, us, rfl, .inl ⟨sq, sq2, (p.ok_ rel') _ (walk_zipL (fun m1 H1 h1 w r => l1 m1 H1 h1 w r rfl) fun m1 H1 h1 w r => l2 m1 H1 h1 w r rfl)⟩⟩
    · split at p
      · rename_i xs ys e1 e3
        obtain ⟨a, ws, rfl, sq, rs⟩ := tpOf_ok rv1 e1
        obtain ⟨b, us, rfl, sq2, rs2⟩ := tpOf_ok rv2 e3
        exact ⟨a, b, ws, us, rfl, .inr ⟨sq, sq2, (p.ok_ rel') _ (walk_zipT (tp_later rv1 e1) (tp_later rv2 e3))⟩⟩
      · exact p.elim
  · exact p.elim
end
end TW
namespace TW
open PySem PySem.Spec L2

/-! ### plain data: == tells what is the same tree -/
def plT : Nat → T → Bool
  | _, .non => true
  | _, .int _ => true
  | _, .str _ => true
  | k + 1, .tup xs => xs.all (plT k)
  | k + 1, .lst xs => xs.all (plT k)
  | _, _ => false
theorem mapO_all {f : T → Option PyData} : ∀ {xs : List T}, (∀ x ∈ xs, ∃ d, f x = some d) → ∃ ds, mapO f xs = some ds
  | [], _ => ⟨[], rfl⟩
  | x :: xs, h => by
    obtain ⟨d, e⟩ := h x List.mem_cons_self
    obtain ⟨ds, e2⟩ := mapO_all (xs := xs) fun y hy => h y (List.mem_cons_of_mem _ hy)
    exact ⟨d :: ds, by simp only [mapO, e, e2]⟩
theorem pl_some (h : MH) : ∀ (k : Nat) (x : T), plT k x = true → ∃ d, toD h k x = some d
  | 0, x, e => by cases x <;> first | exact ⟨_, rfl⟩ | cases e
  | k + 1, x, e => by
    cases x with
    | tup xs =>
      have e : xs.all (plT k) = true := e
      obtain ⟨ds, q⟩ := mapO_all (f := toD h k) (xs := xs) fun y hy => pl_some h k y (List.all_eq_true.mp e y hy)
      exact ⟨.tuple ds, by show (mapO (toD h k) xs).map PyData.tuple = _; rw [q]; rfl⟩
    | lst xs =>
      have e : xs.all (plT k) = true := e
      obtain ⟨ds, q⟩ := mapO_all (f := toD h k) (xs := xs) fun y hy => pl_some h k y (List.all_eq_true.mp e y hy)
      exact ⟨.list ds, by show (mapO (toD h k) xs).map PyData.list = _; rw [q]; rfl⟩
    | non => exact ⟨_, rfl⟩
    | int i => exact ⟨_, rfl⟩
    | str s => exact ⟨_, rfl⟩
    | _ => cases e
theorem pl_eqvs {f : T → Option PyData} : ∀ (xs ys : List T) (ds es : List PyData), mapO f xs = some ds → mapO f ys = some es → (∀ x ∈ xs, ∀ y ∈ ys, ∀ d e, f x = some d → f y = some e → PyData.eqv d e = beqT x y) → PyData.eqvAll ds es = beqTs xs ys
  | [], [], _, _, e1, e2, _ => by cases e1; cases e2; simp [PyData.eqvAll, beqTs]
  | [], y :: ys, _, _, e1, e2, _ => by
    obtain ⟨z, zs, _, _, rfl⟩ := mapO_some e2
    cases e1
    simp [PyData.eqvAll, beqTs]
  | x :: xs, [], _, _, e1, e2, _ => by
    obtain ⟨z, zs, _, _, rfl⟩ := mapO_some e1
    cases e2
    simp [PyData.eqvAll, beqTs]
  | x :: xs, y :: ys, _, _, e1, e2, h => by
    obtain ⟨z, zs, f1, f2, rfl⟩ := mapO_some e1
    obtain ⟨w, ws, g1, g2, rfl⟩ := mapO_some e2
    simp only [PyData.eqvAll, beqTs]
    rw [h x List.mem_cons_self y List.mem_cons_self z w f1 g1, pl_eqvs xs ys zs ws f2 g2 fun a ha b hb => h a (List.mem_cons_of_mem _ ha) b (List.mem_cons_of_mem _ hb)]
theorem beq_dec {α : Type} [DecidableEq α] (a b : α) : (a == b) = decide (a = b) := by
  by_cases h : a = b
  · simp [h]
  · simp [h]
theorem pl_eqv (h : MH) : ∀ (k : Nat) (x y : T) (d e : PyData), plT k x = true → plT k y = true → toD h k x = some d → toD h k y = some e → PyData.eqv d e = beqT x y := by
  intro k
  induction k with
  | zero =>
    intro x y d e hx hy ex ey
    cases x <;> first | (cases hx; done) | (cases y <;> first | (cases hy; done) | (cases ex; cases ey; simp [PyData.eqv, beqT, beq_dec]))
  | succ k ih =>
    intro x y d e hx hy ex ey
    have tupE : ∀ {xs : List T} {d : PyData}, toD h (k + 1) (.tup xs) = some d → ∃ ds, mapO (toD h k) xs = some ds ∧ d = .tuple ds := fun {xs d} ex => by
      have ex : (mapO (toD h k) xs).map PyData.tuple = some d := ex
      obtain ⟨ds, q, rfl⟩ := Option.map_eq_some_iff.mp ex
      exact ⟨ds, q, rfl⟩
    have lstE : ∀ {xs : List T} {d : PyData}, toD h (k + 1) (.lst xs) = some d → ∃ ds, mapO (toD h k) xs = some ds ∧ d = .list ds := fun {xs d} ex => by
      have ex : (mapO (toD h k) xs).map PyData.list = some d := ex
      obtain ⟨ds, q, rfl⟩ := Option.map_eq_some_iff.mp ex
      exact ⟨ds, q, rfl⟩
    have all : ∀ {xs ys : List T}, xs.all (plT k) = true → ys.all (plT k) = true → ∀ x ∈ xs, ∀ y ∈ ys, ∀ d e, toD h k x = some d → toD h k y = some e → PyData.eqv d e = beqT x y := fun hx hy x hx' y hy' d e ex ey =>
      ih x y d e (List.all_eq_true.mp hx x hx') (List.all_eq_true.mp hy y hy') ex ey
    cases x with
    | tup xs =>
      obtain ⟨ds, q, rfl⟩ := tupE ex
      cases y with
      | tup ys =>
        obtain ⟨es, q2, rfl⟩ := tupE ey
        simp only [PyData.eqv, beqT]
        exact pl_eqvs xs ys ds es q q2 (all hx hy)
      | lst ys =>
        obtain ⟨es, q2, rfl⟩ := lstE ey
        simp [PyData.eqv, beqT]
      | _ => first | (cases hy; done) | (cases ey; simp [PyData.eqv, beqT])
    | lst xs =>
      obtain ⟨ds, q, rfl⟩ := lstE ex
      cases y with
      | lst ys =>
        obtain ⟨es, q2, rfl⟩ := lstE ey
        simp only [PyData.eqv, beqT]
        exact pl_eqvs xs ys ds es q q2 (all hx hy)
      | tup ys =>
        obtain ⟨es, q2, rfl⟩ := tupE ey
        simp [PyData.eqv, beqT]
      | _ => first | (cases hy; done) | (cases ey; simp [PyData.eqv, beqT])
    | non => cases y with
      | tup ys => obtain ⟨es, q2, rfl⟩ := tupE ey; cases ex; simp [PyData.eqv, beqT]
      | lst ys => obtain ⟨es, q2, rfl⟩ := lstE ey; cases ex; simp [PyData.eqv, beqT]
      | _ => first | (cases hy; done) | (cases ex; cases ey; simp [PyData.eqv, beqT])
    | int i => cases y with
      | tup ys => obtain ⟨es, q2, rfl⟩ := tupE ey; cases ex; simp [PyData.eqv, beqT]
      | lst ys => obtain ⟨es, q2, rfl⟩ := lstE ey; cases ex; simp [PyData.eqv, beqT]
      | _ => first | (cases hy; done) | (cases ex; cases ey; simp [PyData.eqv, beqT, beq_dec])
    | str s => cases y with
      | tup ys => obtain ⟨es, q2, rfl⟩ := tupE ey; cases ex; simp [PyData.eqv, beqT]
      | lst ys => obtain ⟨es, q2, rfl⟩ := lstE ey; cases ex; simp [PyData.eqv, beqT]
      | _ => first | (cases hy; done) | (cases ex; cases ey; simp [PyData.eqv, beqT, beq_dec])
    | _ => cases hx
section
variable {h : MH} {x y : T} {xs : List T} {k : Nat}
theorem pl_eq (hx : plT deep x = true) (hy : plT deep y = true) : eqT x y h = .ok (.bl (beqT x y)) h := by
  obtain ⟨d, e1⟩ := pl_some h deep x hx
  obtain ⟨e, e2⟩ := pl_some h deep y hy
  unfold eqT
  rw [e1, e2]
  simp only [pl_eqv h deep x y d e hx hy e1 e2]
theorem pl_ne (hx : plT deep x = true) (hy : plT deep y = true) : neT x y h = .ok (.bl (!beqT x y)) h := by
  obtain ⟨d, e1⟩ := pl_some h deep x hx
  obtain ⟨e, e2⟩ := pl_some h deep y hy
  unfold neT
  rw [e1, e2]
  simp only [pl_eqv h deep x y d e hx hy e1 e2]
theorem pl_any (hx : plT 13 x = true) : ∀ (xs : List T) (ds : List PyData) (d : PyData), xs.all (plT 13) = true → mapO (toD h 13) xs = some ds → toD h 13 x = some d → (ds.any fun z => PyData.eqv z d) = xs.any fun y => beqT y x
  | [], _, _, _, e, _ => by cases e; rfl
  | y :: xs, _, d, ha, e, ed => by
    obtain ⟨z, zs, e1, e2, rfl⟩ := mapO_some e
    simp only [List.all_cons, Bool.and_eq_true] at ha
    simp only [List.any_cons]
    rw [pl_any hx xs zs d ha.2 e2 ed, pl_eqv h 13 y x z d ha.1 hx e1 ed]
theorem toD_up (h : MH) : ∀ (k : Nat) (x : T) (d : PyData), plT k x = true → toD h k x = some d → toD h (k + 1) x = some d := by
  intro k
  induction k with
  | zero => intro x d hx e; cases x <;> first | exact e | cases hx
  | succ k ih =>
    intro x d hx e
    have go : ∀ (xs : List T) (ds : List PyData), xs.all (plT k) = true → mapO (toD h k) xs = some ds → mapO (toD h (k + 1)) xs = some ds := by
      intro xs
      induction xs with
      | nil => intro ds _ e; exact e
      | cons y ys ihs =>
        intro ds ha e
        obtain ⟨z, zs, e1, e2, rfl⟩ := mapO_some e
        simp only [List.all_cons, Bool.and_eq_true] at ha
        simp only [mapO, ih y z ha.1 e1, ihs zs ha.2 e2]
    cases x with
    | tup xs =>
      have e : (mapO (toD h k) xs).map PyData.tuple = some d := e
      obtain ⟨ds, q, rfl⟩ := Option.map_eq_some_iff.mp e
      show (mapO (toD h (k + 1)) xs).map PyData.tuple = _
      rw [go xs ds hx q]
      rfl
    | lst xs =>
      have e : (mapO (toD h k) xs).map PyData.list = some d := e
      obtain ⟨ds, q, rfl⟩ := Option.map_eq_some_iff.mp e
      show (mapO (toD h (k + 1)) xs).map PyData.list = _
      rw [go xs ds hx q]
      rfl
    | non => exact e
    | int i => exact e
    | str s => exact e
    | _ => cases hx
theorem pl_up : ∀ (k : Nat) (x : T), plT k x = true → plT (k + 1) x = true := by
  intro k
  induction k with
  | zero => intro x hx; cases x <;> first | rfl | cases hx
  | succ k ih =>
    intro x hx
    cases x with
    | tup xs => exact List.all_eq_true.mpr fun y hy => ih y (List.all_eq_true.mp hx y hy)
    | lst xs => exact List.all_eq_true.mpr fun y hy => ih y (List.all_eq_true.mp hx y hy)
    | non => rfl
    | int i => rfl
    | str s => rfl
    | _ => cases hx
theorem pl_inL {neg : Bool} (hx : plT 13 x = true) (ha : xs.all (plT 13) = true) : inT neg x (.lst xs) h = .ok (.bl (if neg = true then !(xs.any fun y => beqT y x) else xs.any fun y => beqT y x)) h := by
  refine inT_of h ?_
  obtain ⟨d, e1⟩ := pl_some h 13 x hx
  obtain ⟨ds, e2⟩ := mapO_all (f := toD h 13) (xs := xs) fun y hy => pl_some h 13 y (List.all_eq_true.mp ha y hy)
  unfold inB
  rw [dGet_lst, toD_up h 13 x d hx e1, show toD h deep (.lst xs) = some (.list ds) from by show (mapO (toD h 13) xs).map PyData.list = _; rw [e2]; rfl]
  show some (ds.any fun z => PyData.eqv z d) = _
  rw [pl_any hx xs ds d ha e2 e1]
theorem pl_inT {neg : Bool} (hx : plT 13 x = true) (ha : xs.all (plT 13) = true) : inT neg x (.tup xs) h = .ok (.bl (if neg = true then !(xs.any fun y => beqT y x) else xs.any fun y => beqT y x)) h := by
  refine inT_of h ?_
  obtain ⟨d, e1⟩ := pl_some h 13 x hx
  obtain ⟨ds, e2⟩ := mapO_all (f := toD h 13) (xs := xs) fun y hy => pl_some h 13 y (List.all_eq_true.mp ha y hy)
  unfold inB
  rw [dGet_tup, toD_up h 13 x d hx e1, show toD h deep (.tup xs) = some (.tuple ds) from by show (mapO (toD h 13) xs).map PyData.tuple = _; rw [e2]; rfl]
  show some (ds.any fun z => PyData.eqv z d) = _
  rw [pl_any hx xs ds d ha e2 e1]
theorem beqT_iff : beqT x y = true ↔ x = y := ⟨beqT_ok x y, fun e => e ▸ beqT_self x⟩
theorem any_beq : (xs.any fun y => beqT y x) = true ↔ x ∈ xs := by
  rw [List.any_eq_true]
  constructor
  · rintro ⟨y, hy, e⟩
    rw [← beqT_ok _ _ e]
    exact hy
  · exact fun hx => ⟨x, hx, beqT_self x⟩
theorem pl_tp (s : List Int) : plT (k + 1) (tp s) = true := List.all_eq_true.mpr fun y hy => by
  obtain ⟨i, _, rfl⟩ := List.mem_map.mp hy
  cases k <;> rfl
end
theorem cutX_one {α : Type} (xs : List α) : cutX xs (some 1) none = xs.drop 1 := by
  unfold cutX
  have h1 : HT.sIx xs.length 0 (some 1) = min 1 xs.length := by
    cases xs with
    | nil => rfl
    | cons a t => simp [HT.sIx]
  have h2 : HT.sIx xs.length xs.length none = xs.length := by simp [HT.sIx]
  rw [h1, h2]
  cases xs with
  | nil => rfl
  | cons a t =>
    rw [show min 1 (a :: t).length = 1 from by simp]
    simp
end TW
namespace TW
open PySem PySem.Spec L2
/-! ### a module's constant tuple -/
def ndB (K : PySem.W.Frag) (a : Addr) : Bool := match K.lookup a with
  | some o => o.dict.isNone
  | none => false
def GTup (K : PySem.W.Frag) (mg : Str → Option Value) (x : Str) (xs : List T) : Prop := ∃ a vs, mg x = some (.ref a) ∧ KTup K a vs ∧ ∀ (G : Gx) (m : Ml) (H : Hp), G.K = K → Rs G m H xs vs
theorem gtup_of {K : PySem.W.Frag} {mg : Str → Option Value} {x : Str} {xs : List T} (dvs : List He.Dv) (hm : mg x = some (.ref (He.ga K x))) (hb : He.tupB K x dvs = true) (hn : ndB K (He.ga K x) = true) (hr : ∀ (G : Gx) (m : Ml) (H : Hp), Rs G m H xs (dvs.map (He.Dv.v K))) : GTup K mg x xs := by
  refine ⟨He.ga K x, _, hm, ?_, fun G m H _ => hr G m H⟩
  rcases He.tupB_ok hb (fun _ => none) with h | h
  · rcases h with h | ⟨_, h⟩ <;> cases h
  · obtain ⟨o, its, n, h1, h2, h3⟩ := h
    unfold ndB at hn
    rw [h1] at hn
    exact ⟨o, its, n, h1, h2, Option.isNone_iff_eq_none.mp hn, h3⟩
section
variable {X : Cx} {cl : Cln} {W : WX} {pos : Pos}
theorem me_gtup {x : Str} {xs : List T} (hg : Gl X x) (hm : GTup X.K X.mg x xs) (hd : (x == ("__debug__" : Str)) = false := by decide) : ME X cl W (.Name x pos) (cst (.ktup xs)) := by
  obtain ⟨a, vs, h1, h2, h3⟩ := hm
  refine me_c (v := .ref a) (pe_glob hg h1 rfl hd) fun m H => ?_
  simp only [R]
  exact ⟨a, vs, rfl, .inl h2, h3 _ _ _ rfl⟩
end
end TW
namespace TW
open PySem PySem.Spec L2
/-! ### more words -/
section
variable {h t : MH} {xs ys : List T} {n : Nat} {b : SM} {x : T}
theorem toD_cell (e : lstAt h n = some xs) (hx : xs.all (plT 13) = true) : ∃ ds, toD h deep (.loc n) = some (.list ds) ∧ toD h deep (.lst xs) = some (.list ds) := by
  obtain ⟨ds, q⟩ := mapO_all (f := toD h 13) (xs := xs) fun y hy => pl_some h 13 y (List.all_eq_true.mp hx y hy)
  refine ⟨ds, ?_, ?_⟩
  · show (match lstAt h n with
      | some xs => (mapO (toD h 13) xs).map PyData.list
      | none => none) = _
    rw [e]
    show (mapO (toD h 13) xs).map PyData.list = _
    rw [q]
    rfl
  · show (mapO (toD h 13) xs).map PyData.list = _
    rw [q]
    rfl
theorem eq_cell (e : lstAt h n = some xs) (hx : xs.all (plT 13) = true) (hy : ys.all (plT 13) = true) : eqT (.loc n) (.lst ys) h = .ok (.bl (beqT (.lst xs) (.lst ys))) h := by
  obtain ⟨ds, e1, e2⟩ := toD_cell e hx
  have q := pl_eq (h := h) (x := .lst xs) (y := .lst ys) hx hy
  unfold eqT at q ⊢
  rw [e2] at q
  rw [e1]
  exact q
theorem ne_cell (e : lstAt h n = some xs) (hx : xs.all (plT 13) = true) (hy : ys.all (plT 13) = true) : neT (.loc n) (.lst ys) h = .ok (.bl (!beqT (.lst xs) (.lst ys))) h := by
  obtain ⟨ds, e1, e2⟩ := toD_cell e hx
  have q := pl_ne (h := h) (x := .lst xs) (y := .lst ys) hx hy
  unfold neT at q ⊢
  rw [e2] at q
  rw [e1]
  exact q
theorem in_cell {neg : Bool} (e : lstAt h n = some xs) (hx : plT 13 x = true) (ha : xs.all (plT 13) = true) : inT neg x (.loc n) h = .ok (.bl (if neg = true then !(xs.any fun y => beqT y x) else xs.any fun y => beqT y x)) h := by
  refine inT_of h ?_
  obtain ⟨d, e1⟩ := pl_some h 13 x hx
  obtain ⟨ds, e2⟩ := mapO_all (f := toD h 13) (xs := xs) fun y hy => pl_some h 13 y (List.all_eq_true.mp ha y hy)
  have e3 : toD h deep (.loc n) = some (.list ds) := by
    show (match lstAt h n with
      | some xs => (mapO (toD h 13) xs).map PyData.list
      | none => none) = _
    rw [e]
    show (mapO (toD h 13) xs).map PyData.list = _
    rw [e2]
    rfl
  have e4 : dGet h (.loc n) x = none := by
    have ho : h[n]? = some (.lst xs) := by
      unfold lstAt at e
      split at e
      · rename_i ys q
        cases e
        exact q
      · cases e
    have d1 : dkOf h (.loc n) = none := by
      simp only [dkOf, ho]
    have d2 : dtOf h (.loc n) = none := by
      simp only [dtOf, ho]
    unfold dGet
    rw [d1, d2]
  unfold inB
  rw [e4, toD_up h 13 x d hx e1, e3]
  show some (ds.any fun z => PyData.eqv z d) = _
  rw [pl_any hx xs ds d ha e2 e1]
theorem beq_nil : beqT (.lst xs) (.lst []) = xs.isEmpty := by
  cases xs <;> simp [beqT, beqTs]
/-- a def that hands out its list -/
theorem pur_wpL {k : Nat} {zs : List T} (hl : lows 0 zs = true) (hx : lows 0 xs = true) (e : Wp (b (startR k zs) []) (fun fr => ∃ h', fr = .ret (.loc 0) (.lst xs :: h'))) : pur (reg (fnB k b)) zs h = .ok (.lst xs) h := by
  obtain ⟨h', e⟩ := e
  rw [pur_nil _ _ _ hl]
  unfold reg fnB
  rw [e]
  have ee : endR [] (.ok (.loc 0) (.lst xs :: h')) = .ok (.lst xs) [] := by
    unfold endR
    show (match (frWs _ xs).map T.lst with
      | some y => if okH [] _ = true then Res.ok y _ else .bad
      | none => .bad) = _
    rw [frWs_low _ _ hx]
    rfl
  show onH (endR [] (.ok (.loc 0) (.lst xs :: h'))) h = _
  rw [ee]
  rfl
end
section
variable {r : Rho} {h : MH} {D : Fr → Prop} {F G' : SM} {α : Type} {enc : α → T}
theorem seqNx (k : Wp (sSeq F sNx r h) D) : Wp (F r h) D := by
  have : sSeq F sNx r h = F r h := by
    rw [s_sSeq]
    cases F r h <;> rfl
  rw [this] at k
  exact k
theorem Wp.imp {f : Fr} {D' : Fr → Prop} (w : Wp f D') (i : D' f → D f) : Wp f D := i w
/-- if, known -/
theorem Wp.if_ {t : TM} {A B : SM} {c : Bool} {h1 : MH} (e : t r h = .ok c h1) (k : Wp (sSeq (if c = true then A else B) G' r h1) D) : Wp (sSeq (sIf t A B) G' r h) D := by
  have : sSeq (sIf t A B) G' r h = sSeq (if c = true then A else B) G' r h1 := by
    rw [s_sSeq, s_sIf, e, s_liftok]
    cases c <;> rfl
  rw [this]
  exact k
theorem Wp.assoc {A B C : SM} (k : Wp (sSeq A (sSeq B C) r h) D) : Wp (sSeq (sSeq A B) C r h) D := by
  have : sSeq (sSeq A B) C r h = sSeq A (sSeq B C) r h := by
    simp only [s_sSeq]
    cases A r h <;> rfl
  rw [this]
  exact k
end
end TW
namespace TW
open PySem PySem.Spec L2
/-! ### dict(a list of pairs), keys ints or texts -/
def pairO (x : T) : Option (Key × T) := match tpOf x with
  | some [a, b] => (match kyOf a with
    | some k => some (k, b)
    | none => none)
  | _ => none
def dictF (k : List (Key × T) → MH → Res T) : FM := on1 fun x h => match lsOf h x with
  | some xs => (match mapO pairO xs with
    | some kvs => k (mrgT kvs) h
    | none => .bad)
  | none => .bad
theorem n_dict {k : List (Key × T) → MH → Res T} (hk : k = dicK ∨ k = dicL) : NoXF (dictF k) := on1_nox fun x h c fs h' e => by
  split at e
  · split at e
    · rcases hk with rfl | rfl <;> cases e
    · cases e
  · cases e
section
variable {G : Gx} {m : Ml} {H : Hp}
theorem pairs_ok : ∀ {xs : List T} {vs : List V} {kvs : List (Key × T)}, Rs G m H xs vs → mapO pairO xs = some kvs →
    ∃ (ps : List Addr) (kv : List (Key × V)), vs = ps.map V.ref ∧ Paired (fun p kv => SqT G.K H p [kV kv.1, kv.2]) ps kv ∧ Rk G m H kvs kv
  | [], vs, kvs, rs, e => by
    cases e
    rw [Rs.nil_iff.mp rs]
    exact ⟨[], [], rfl, .nil, Rk.nil_iff.mpr rfl⟩
  | x :: xs, vs, kvs, rs, e => by
    obtain ⟨z, zs, e1, e2, rfl⟩ := mapO_some e
    obtain ⟨v, r, rfl, h1, h2⟩ := Rs.cons_iff.mp rs
    obtain ⟨ps, kv, rfl, pp, rk⟩ := pairs_ok h2 e2
    unfold pairO at e1
    split at e1
    · rename_i a b et
      obtain ⟨p, ws, rfl, sq, rw'⟩ := tpOf_ok h1 et
      obtain ⟨va, ta, rfl, ha, hb0⟩ := Rs.cons_iff.mp rw'
      obtain ⟨vb, tb, rfl, hb, hc⟩ := Rs.cons_iff.mp hb0
      obtain rfl := Rs.nil_iff.mp hc
      split at e1
      · rename_i k ek
        cases e1
        have := kyOf_ok ha ek
        subst this
        exact ⟨p :: ps, (k, vb) :: kv, rfl, .cons sq pp, Rk.cons_iff.mpr ⟨vb, kv, rfl, hb, rk⟩⟩
      · cases e1
    · cases e1
theorem dic_new {k : List (Key × T) → MH → Res T} (hk : k = dicK ∨ k = dicL) {h : MH} {kvs : List (Key × T)} {kv : List (Key × V)} {Q : VK} {W : XK} (rel : Rel G m H h) (rk : Rk G m H kvs kv)
    (p : Pst G m H (k kvs h) (fun z m' _ H' => ∀ u, R G m' H' z u → Q u H') W) : ∀ a, H a = none → Q (.ref a) (upd H a (.dK kv)) := by
  intro a ha
  rcases hk with rfl | rfl
  · have s : Stp m m H (upd H a (.dK kv)) := Stp.new ha
    refine p m _ s (rel.new ha) _ ?_
    simp only [R]
    have rk2 := rk.step s
    refine ⟨a, kv.map (·.2), rfl, ⟨.inl ?_, rel.freeZ ha⟩, by simpa using rk.len, rk2.2⟩
    rw [zip_unzip rk]
    exact upd_same
  · have s : Stp m (m.add a) H (upd H a (.dK kv)) := Stp.newc ha
    refine p (m.add a) _ s (rel.newc ha ⟨kv, upd_same, rk.step s⟩) _ ?_
    simp only [R]
    refine ⟨a, ?_, rfl⟩
    show (m.c ++ [a])[_]? = _
    rw [← rel.len, List.getElem?_append_right (Nat.le_refl _)]
    simp
end
section
variable {X : Cx} {cl : Cln}
theorem c_dict {k : List (Key × T) → MH → Res T} (hk : k = dicK ∨ k = dicL) (hc : X.calm = true) : CallR X (.type "dict") (rMC (gx X cl) (dictF k)) := CallR.imp (call_dictP hc) fun vs H Q q => by
  obtain ⟨m, hp, xs, rel, rs, p⟩ := q
  obtain ⟨x, v, rfl, rx, p⟩ := on1_ok rs p
  split at p
  · rename_i ys e1
    obtain ⟨a, ws, rfl, sq, rs2⟩ := lsOf_ok rel rx e1
    split at p
    · rename_i kvs ek
      obtain ⟨ps, kv, rfl, pp, rk⟩ := pairs_ok rs2 ek
      exact ⟨a, ps, kv, rfl, sq, pp, dic_new hk rel (Rk.merge rk (Rk.nil_iff.mpr rfl)) p⟩
    · exact p.elim
  · exact p.elim
end
end TW
namespace TW
open PySem PySem.Spec L2 PyProof.Rows
/-! ### t[lo:hi:step] of a tuple, step not 1 -/
def pkX {α : Type} (xs : List α) (lo hi : Option Int) (c : Int) : List α :=
  (List.range (Builtin.Slice.slicePlaces (Builtin.Slice.sliceAdjust lo hi c xs.length).1 (Builtin.Slice.sliceAdjust lo hi c xs.length).2 c)).filterMap fun (m : Nat) => xs[((Builtin.Slice.sliceAdjust lo hi c xs.length).1 + (m : Int) * c).toNat]?
theorem vals_at : ∀ {xs : List V} {us : List Value} (i : Nat), Vals xs us → (xs[i]? = none ∧ us[i]? = none) ∨ ∃ x u, xs[i]? = some x ∧ us[i]? = some u ∧ RelV x u
  | _, _, _, .nil => .inl ⟨rfl, rfl⟩
  | _, _, 0, .cons r _ => .inr ⟨_, _, rfl, rfl, r⟩
  | _, _, i + 1, .cons _ t => vals_at i t
theorem vals_fm {xs : List V} {us : List Value} (r : Vals xs us) (g : Nat → Nat) : ∀ ks : List Nat, Vals (ks.filterMap fun m => xs[g m]?) (ks.filterMap fun m => us[g m]?)
  | [] => .nil
  | k :: ks => by
    rcases vals_at (g k) r with ⟨h1, h2⟩ | ⟨x, u, h1, h2, h3⟩
    · simp only [List.filterMap_cons, h1, h2]
      exact vals_fm r g ks
    · simp only [List.filterMap_cons, h1, h2]
      exact .cons h3 (vals_fm r g ks)
theorem vals_pk {xs : List V} {us : List Value} (r : Vals xs us) (lo hi : Option Int) (c : Int) : Vals (pkX xs lo hi c) (pkX us lo hi c) := by
  unfold pkX
  rw [r.length]
  exact vals_fm r _ _
section
variable {G : Gx} {m : Ml} {H : Hp}
theorem rs_fm {xs : List T} {vs : List V} (r : Rs G m H xs vs) (g : Nat → Nat) : ∀ ks : List Nat, Rs G m H (ks.filterMap fun m => xs[g m]?) (ks.filterMap fun m => vs[g m]?)
  | [] => Rs.nil
  | k :: ks => by
    cases e : xs[g k]? with
    | none =>
      have : vs[g k]? = none := by
        rw [List.getElem?_eq_none_iff] at e ⊢
        rw [← Rs.len r]
        exact e
      simp only [List.filterMap_cons, e, this]
      exact rs_fm r g ks
    | some x =>
      obtain ⟨v, e2, h⟩ := Rs.get r e
      simp only [List.filterMap_cons, e, e2]
      exact Rs.cons h (rs_fm r g ks)
theorem rs_pk {xs : List T} {vs : List V} (r : Rs G m H xs vs) (lo hi : Option Int) (c : Int) : Rs G m H (pkX xs lo hi c) (pkX vs lo hi c) := by
  unfold pkX
  rw [Rs.len r]
  exact rs_fm r _ _
end
section
variable {prog : Program} {w : World} {A : Around} {E : Value → Shared → Prop} {s : Shared}
theorem partIx {v : Value} {o : Option Int} {Q : Option Int → Shared → Prop} (p : IsPart v o) (h : Q o s) : wpAny (model prog w) A (Builtin.Slice.slicePartIndex v) Q E s := HT.slicePart_ p h
theorem applied3 {sl : Addr} {v1 v2 v3 : Value} {l u c : Option Int} {k : Nat} {Q : Int × Int × Nat → Shared → Prop} (hs : s.heap.IsSliceOf sl v1 v2 v3) (p1 : IsPart v1 l) (p2 : IsPart v2 u) (p3 : IsPart v3 c) (c0 : c.getD 1 ≠ 0)
    (h : Q ((Builtin.Slice.sliceAdjust l u (c.getD 1) k).1, c.getD 1, Builtin.Slice.slicePlaces (Builtin.Slice.sliceAdjust l u (c.getD 1) k).1 (Builtin.Slice.sliceAdjust l u (c.getD 1) k).2 (c.getD 1)) s) :
    wpAny (model prog w) A (Builtin.Slice.sliceApplied (.ref sl) (pure (k : Int))) Q E s := by
  obtain ⟨o1, q1, q2, q3⟩ := id hs
  unfold Builtin.Slice.sliceApplied Builtin.Slice.sliceFields
  refine wpAny_bind (wpAny_bind (wpAny_field q1 q3 (x := v1) rfl (wpAny_bind (wpAny_field q1 q3 (x := v2) rfl (wpAny_bind (wpAny_field q1 q3 (x := v3) rfl (wpAny_pure ?_)))))))
  refine wpAny_bind (partIx p3 ?_)
  have cn : ¬ ((c.getD 1 == 0) = true) := fun z => c0 (eq_of_beq z)
  rw [if_neg cn]
  refine wpAny_bind (partIx p1 (wpAny_bind (partIx p2 (wpAny_bind (wpAny_pure ?_)))))
  exact wpAny_pure h
theorem getTupStep {t sl : Addr} {its : Array Value} {v1 v2 v3 : Value} {l u c : Option Int} {Q : Value → Shared → Prop} (tp : IsTup s.heap t its) (hs : s.heap.IsSliceOf sl v1 v2 v3) (p1 : IsPart v1 l) (p2 : IsPart v2 u) (p3 : IsPart v3 c) (c0 : c.getD 1 ≠ 0) (c1 : c.getD 1 ≠ 1)
    (zl : (pkX its.toList l u (c.getD 1)).length ≤ sizeLine)
    (h : Q (.ref s.heap.objs.size) { s with heap := s.heap.push { cls := .type "tuple", data := .seq (pkX its.toList l u (c.getD 1)).toArray } }) : wpAny (model prog w) A (getItem (.ref t) (.ref sl)) Q E s := by
  have z2 : sizeOk (.seq (pkX its.toList l u (c.getD 1)).toArray) := by
    show (pkX its.toList l u (c.getD 1)).toArray.size ≤ sizeLine
    rw [List.size_toArray]
    exact zl
  obtain ⟨o1, q1, q2, q3⟩ := id hs
  have tS : s.TypeIs (.ref sl) "slice" := ⟨o1, q1, q2⟩
  have eP : pkX its.toList l u (c.getD 1) = (List.range (Builtin.Slice.slicePlaces (Builtin.Slice.sliceAdjust l u (c.getD 1) its.size).1 (Builtin.Slice.sliceAdjust l u (c.getD 1) its.size).2 (c.getD 1))).filterMap fun (m : Nat) => its[((Builtin.Slice.sliceAdjust l u (c.getD 1) its.size).1 + (m : Int) * c.getD 1).toNat]? := by
    unfold pkX
    rw [Array.length_toList]
    simp only [Array.getElem?_toList]
  unfold getItem
  try with_reducible refine wpAny_holding ?_
  first | refine wpAny_bind (wpAny_pure ?_) | skip
  refine wpAny_bind (wpAny_sequenceKey tp.typeIs (by decide) ?_)
  refine wpAny_bind (wpAny_callSpecial?_slot (name := Str.ofString "__getitem__") tp.typeIs PyProof.Rows.slot_tuple_getitem
    (wpAny_call_entry PyProof.Rows.slot_tuple_getitem tp.typeIs entry_tuple_getitem ?_ (args_tuple_getitem _ _)))
  show wpAny _ _ (Builtin.Tuple.tupleItemsOf (.ref t) >>= _) _ _ s
  refine wpAny_bind (tupleItemsOf_ tp ?_)
  refine wpAny_bind (wpAny_typeOf tS ?_)
  rw [if_pos (by decide)]
  refine wpAny_bind (applied3 hs p1 p2 p3 c0 ?_)
  rw [eP] at h z2
  have no1 : (c.getD 1 == 1) = false := by
    cases z : (c.getD 1 == 1) with
    | false => rfl
    | true => exact absurd (eq_of_beq z) c1
  show wpAny _ _ (if ((Builtin.Slice.sliceAdjust l u (c.getD 1) its.size).1 == 0 && c.getD 1 == 1 && Builtin.Slice.slicePlaces (Builtin.Slice.sliceAdjust l u (c.getD 1) its.size).1 (Builtin.Slice.sliceAdjust l u (c.getD 1) its.size).2 (c.getD 1) == its.size) = true then _ else _) _ _ s
  rw [if_neg (by rw [no1, Bool.and_false, Bool.false_and]; exact Bool.false_ne_true)]
  first
    | exact wpAny_bind (m := Builtin.Tuple.tupleExact _) (wpAny_newObj_type (wpAny_pure ⟨_, rfl, wpAny_pure h⟩) z2)
    | exact wpAny_bind (m := Builtin.Tuple.tupleExact _) (wpAny_newObj_type (wpAny_bind (wpAny_pure (wpAny_pure ⟨_, rfl, wpAny_pure h⟩))) z2)
    | exact wpAny_bind (wpAny_bind (m := Builtin.Tuple.tupleExact _) (wpAny_newObj_type (wpAny_pure (wpAny_pure ⟨_, rfl, wpAny_pure h⟩)) z2))
    | exact wpAny_bind (wpAny_bind (m := Builtin.Tuple.tupleExact _) (wpAny_newObj_type (wpAny_pure ⟨_, rfl, wpAny_pure h⟩) z2))
end
section
variable {X : Cx} {cl : Cln} {W : WX} {a : Expr} {f : EM} {pos : Pos}
def rTSt (K : PySem.W.Frag) (x : V) (l u c : Option Int) (H : Hp) (Q : VK) : Prop := ∃ a xs, x = .ref a ∧ SqT K H a xs ∧ c.getD 1 ≠ 0 ∧ c.getD 1 ≠ 1 ∧ (pkX xs l u (c.getD 1)).length ≤ sizeLine ∧ ∀ p, H p = none → Q (.ref p) (upd H p (.tup (pkX xs l u (c.getD 1))))
theorem pe_tst {e : Expr} {te : TE} {lo hi : Option Expr} {st : Expr} {tl th ts : TO} {p2 : Pos} (he : PE X e te) (hl : PO X lo tl) (hu : PO X hi th) (hc : PO X (some st) ts) :
    PE X (.Subscript e (.Slice lo hi (some st) p2) pos) (fun σ H Q => te σ H fun x H1 => tl σ H1 fun l H2 => th σ H2 fun u H3 => ts σ H3 fun c H4 => rTSt X.K x l u c H4 Q) := by
  refine ⟨fun pins s σ H Q I h => ?_⟩
  refine Subscript_ (L2.thn (he.run pins s σ H _ I h) fun v s1 ⟨x, H1, I1, r1, g1⟩ => ?_)
  refine wpAny_Slice (L2.thn (hl.run pins s1 σ H1 _ I1 g1) fun vl s2 ⟨l, H2, I2, pl, g2⟩ => L2.thn (hu.run pins s2 σ H2 _ I2 g2) fun vu s3 ⟨u, H3, I3, pu, g3⟩ => L2.thn (hc.run pins s3 σ H3 _ I3 g3) fun vs s4 ⟨c, H4, I4, ps, g4⟩ => ?_)
  obtain ⟨a, xs, rfl, hx, c0, c1, zl, q⟩ := g4
  cases r1
  have I5 : Inv X pins σ H4 { s4 with heap := s4.heap.push { cls := .type "slice", data := .fields #[vl, vu, vs] } } := I4.kept (t' := s4.toks) fun b ob q => Heap.get?_push_of_some _ q
  obtain ⟨its, r, ht, hz⟩ := I5.tuple hx
  have rp := vals_pk r l u (c.getD 1)
  show wpAny (model X.prog X.w) X.A (subscriptTail e (.Slice lo hi (some st) p2) (.ref a) (.ref s4.heap.objs.size)) (EP X pins σ Q) X.xe { s4 with heap := s4.heap.push { cls := .type "slice", data := .fields #[vl, vu, vs] } }
  refine tail_any (ops := [.ref a, .ref s4.heap.objs.size]) ht.typeIs (PyProof.Rows.slot_tuple_getitem.lookup) ?_ (by with_unfolding_all rfl)
  refine getTupStep ht (Heap.IsSliceOf.new _ vl vu vs) pl pu ps c0 c1 (by
    show (pkX its l u (c.getD 1)).length ≤ sizeLine
    rw [← rp.length]
    exact zl) ?_
  refine ⟨.ref _, _, I5.laid (t' := s4.toks) (o := .tup (pkX xs l u (c.getD 1))) (fun b ob q => Heap.get?_push_of_some _ q) (Nat.le_refl _) ?_, rfl, q _ (I5.hok.fresh (Nat.le_refl _))⟩
  exact ⟨zl, _, rp, IsTup.new _ _⟩
/-- t[lo:hi:step] -/
def tsT (x : T) (l u c : Option Int) (hp : MH) : Res T := match x with
  | .tup xs => if c.getD 1 ≠ 0 ∧ c.getD 1 ≠ 1 ∧ (pkX xs l u (c.getD 1)).length ≤ sizeLine then .ok (.tup (pkX xs l u (c.getD 1))) hp else .bad
  | _ => .bad
def emSt (f : EM) (lo hi st : PM) : EM := fun r hp => (f r hp).bind fun x h1 => (lo r h1).bind fun l h2 => (hi r h2).bind fun u h3 => (st r h3).bind fun c h4 => tsT x l u c h4
theorem me_st {lo hi : Option Expr} {st : Expr} {pl ph pc : PM} {p2 : Pos} (ha : ME X cl W a f) (hl : MP X cl W lo pl) (hh : MP X cl W hi ph) (hc : MP X cl W (some st) pc) : ME X cl W (.Subscript a (.Slice lo hi (some st) p2) pos) (emSt f pl ph pc) := by
  refine ⟨PE.imp (pe_tst ha.pe hl.po hh.po hc.po) fun σ H Q h => ?_⟩
  obtain ⟨r, hp, m, re, rel, p⟩ := h
  refine ⟨r, hp, m, re, rel, p.bind.mono (fun x m1 h1 H1 s1 q v rv => ?_) fun _ _ _ z => z⟩
  refine ⟨r, h1, m1, re.step s1, q.1, q.2.bind.mono (fun l m2 h2 H2 s2 q2 => ?_) fun _ _ _ z => z⟩
  refine ⟨r, h2, m2, (re.step s1).step s2, q2.1, q2.2.bind.mono (fun u m3 h3 H3 s3 q3 => ?_) fun _ _ _ z => z⟩
  refine ⟨r, h3, m3, ((re.step s1).step s2).step s3, q3.1, q3.2.bind.mono (fun c m4 h4 H4 s4 q4 => ?_) fun _ _ _ z => z⟩
  obtain ⟨rel4, p4⟩ := q4
  have rx := R.step s4 _ _ (R.step s3 _ _ (R.step s2 _ _ rv))
  unfold tsT at p4
  split at p4
  · rename_i xs
    split at p4
    · rename_i z
      simp only [R] at rx
      obtain ⟨a, vs, rfl, f, rs⟩ := rx
      have rp := rs_pk rs l u (c.getD 1)
      refine ⟨a, vs, rfl, SqT.of f.1, z.1, z.2.1, by rw [← Rs.len rp]; exact z.2.2, fun p hp => ?_⟩
      exact p4 m4 _ (Stp.new hp) (rel4.new hp) _ (tup_new rel4 rp hp)
    · exact p4.elim
  · exact p4.elim
end
end TW
namespace TW
open PySem PySem.Spec L2 PyProof.Rows
/-! ### t[::step] of a tuple, step 1 too -/
section
variable {prog : Program} {w : World} {A : Around} {E : Value → Shared → Prop} {s : Shared}
theorem getTupSame {t sl : Addr} {its : Array Value} {v1 v2 v3 : Value} {Q : Value → Shared → Prop} (tp : IsTup s.heap t its) (hs : s.heap.IsSliceOf sl v1 v2 v3) (p1 : IsPart v1 none) (p2 : IsPart v2 none) (p3 : IsPart v3 (some 1)) (h : Q (.ref t) s) : wpAny (model prog w) A (getItem (.ref t) (.ref sl)) Q E s := by
  obtain ⟨o1, q1, q2, q3⟩ := id hs
  have tS : s.TypeIs (.ref sl) "slice" := ⟨o1, q1, q2⟩
  unfold getItem
  try with_reducible refine wpAny_holding ?_
  first | refine wpAny_bind (wpAny_pure ?_) | skip
  refine wpAny_bind (wpAny_sequenceKey tp.typeIs (by decide) ?_)
  refine wpAny_bind (wpAny_callSpecial?_slot (name := Str.ofString "__getitem__") tp.typeIs PyProof.Rows.slot_tuple_getitem
    (wpAny_call_entry PyProof.Rows.slot_tuple_getitem tp.typeIs entry_tuple_getitem ?_ (args_tuple_getitem _ _)))
  show wpAny _ _ (Builtin.Tuple.tupleItemsOf (.ref t) >>= _) _ _ s
  refine wpAny_bind (tupleItemsOf_ tp ?_)
  refine wpAny_bind (wpAny_typeOf tS ?_)
  rw [if_pos (by decide)]
  refine wpAny_bind (applied3 hs p1 p2 p3 (by decide) ?_)
  have e1 : (Builtin.Slice.sliceAdjust none none ((some 1 : Option Int).getD 1) its.size).1 = 0 := rfl
  have e2 : (Builtin.Slice.sliceAdjust none none ((some 1 : Option Int).getD 1) its.size).2 = its.size := rfl
  rw [e1, e2]
  have e3 : Builtin.Slice.slicePlaces 0 (its.size : Int) ((some 1 : Option Int).getD 1) = its.size := by
    have := HT.places_gen 0 its.size
    exact this
  rw [e3]
  show wpAny _ _ (if ((0 : Int) == 0 && (1 : Int) == 1 && its.size == its.size) = true then _ else _) _ _ s
  rw [if_pos (by simp)]
  refine wpAny_bind ?_
  show wpAny _ _ (typeOf (.ref t) >>= fun T => pure (T == .type "tuple")) _ _ s
  refine wpAny_bind (wpAny_typeOf tp.typeIs (wpAny_pure ?_))
  first
    | rw [if_pos (by decide)]
    | simp only [beq_self_eq_true, if_true]
  first
    | exact wpAny_bind (wpAny_rule (wpAny_pure ⟨_, rfl, wpAny_pure h⟩))
    | exact wpAny_bind (wpAny_rule (wpAny_bind (wpAny_pure (wpAny_pure ⟨_, rfl, wpAny_pure h⟩))))
end
section
variable {X : Cx} {cl : Cln} {W : WX} {a : Expr} {f : EM} {pos : Pos}
/-- t[::step], a step of 1 gives t itself -/
def rTSu (K : PySem.W.Frag) (x : V) (l u c : Option Int) (H : Hp) (Q : VK) : Prop := rTSt K x l u c H Q ∨ ∃ a xs, x = .ref a ∧ SqT K H a xs ∧ l = none ∧ u = none ∧ c = some 1 ∧ Q (.ref a) H
theorem pe_tsu {e : Expr} {te : TE} {lo hi : Option Expr} {st : Expr} {tl th ts : TO} {p2 : Pos} (he : PE X e te) (hl : PO X lo tl) (hu : PO X hi th) (hc : PO X (some st) ts) :
    PE X (.Subscript e (.Slice lo hi (some st) p2) pos) (fun σ H Q => te σ H fun x H1 => tl σ H1 fun l H2 => th σ H2 fun u H3 => ts σ H3 fun c H4 => rTSu X.K x l u c H4 Q) := by
  refine ⟨fun pins s σ H Q I h => ?_⟩
  refine Subscript_ (L2.thn (he.run pins s σ H _ I h) fun v s1 ⟨x, H1, I1, r1, g1⟩ => ?_)
  refine wpAny_Slice (L2.thn (hl.run pins s1 σ H1 _ I1 g1) fun vl s2 ⟨l, H2, I2, pl, g2⟩ => L2.thn (hu.run pins s2 σ H2 _ I2 g2) fun vu s3 ⟨u, H3, I3, pu, g3⟩ => L2.thn (hc.run pins s3 σ H3 _ I3 g3) fun vs s4 ⟨c, H4, I4, ps, g4⟩ => ?_)
  have I5 : Inv X pins σ H4 { s4 with heap := s4.heap.push { cls := .type "slice", data := .fields #[vl, vu, vs] } } := I4.kept (t' := s4.toks) fun b ob q => Heap.get?_push_of_some _ q
  rcases g4 with g4 | g4
  · obtain ⟨a, xs, rfl, hx, c0, c1, zl, q⟩ := g4
    cases r1
    obtain ⟨its, r, ht, hz⟩ := I5.tuple hx
    have rp := vals_pk r l u (c.getD 1)
    show wpAny (model X.prog X.w) X.A (subscriptTail e (.Slice lo hi (some st) p2) (.ref a) (.ref s4.heap.objs.size)) (EP X pins σ Q) X.xe { s4 with heap := s4.heap.push { cls := .type "slice", data := .fields #[vl, vu, vs] } }
    refine tail_any (ops := [.ref a, .ref s4.heap.objs.size]) ht.typeIs (PyProof.Rows.slot_tuple_getitem.lookup) ?_ (by with_unfolding_all rfl)
    refine getTupStep ht (Heap.IsSliceOf.new _ vl vu vs) pl pu ps c0 c1 (by
      show (pkX its l u (c.getD 1)).length ≤ sizeLine
      rw [← rp.length]
      exact zl) ?_
    refine ⟨.ref _, _, I5.laid (t' := s4.toks) (o := .tup (pkX xs l u (c.getD 1))) (fun b ob q => Heap.get?_push_of_some _ q) (Nat.le_refl _) ?_, rfl, q _ (I5.hok.fresh (Nat.le_refl _))⟩
    exact ⟨zl, _, rp, IsTup.new _ _⟩
  · obtain ⟨a, xs, rfl, hx, rfl, rfl, rfl, q⟩ := g4
    cases r1
    obtain ⟨its, r, ht, hz⟩ := I5.tuple hx
    show wpAny (model X.prog X.w) X.A (subscriptTail e (.Slice lo hi (some st) p2) (.ref a) (.ref s4.heap.objs.size)) (EP X pins σ Q) X.xe { s4 with heap := s4.heap.push { cls := .type "slice", data := .fields #[vl, vu, vs] } }
    refine tail_any (ops := [.ref a, .ref s4.heap.objs.size]) ht.typeIs (PyProof.Rows.slot_tuple_getitem.lookup) ?_ (by with_unfolding_all rfl)
    refine getTupSame ht (Heap.IsSliceOf.new _ vl vu vs) pl pu ps ?_
    exact ⟨.ref a, H4, I5, rfl, q⟩
def tsU (x : T) (l u c : Option Int) (hp : MH) : Res T := if l = none ∧ u = none ∧ c = some 1 then (match x with
  | .tup xs => .ok (.tup xs) hp
  | _ => .bad) else tsT x l u c hp
def emSu (f : EM) (lo hi st : PM) : EM := fun r hp => (f r hp).bind fun x h1 => (lo r h1).bind fun l h2 => (hi r h2).bind fun u h3 => (st r h3).bind fun c h4 => tsU x l u c h4
theorem me_su {lo hi : Option Expr} {st : Expr} {pl ph pc : PM} {p2 : Pos} (ha : ME X cl W a f) (hl : MP X cl W lo pl) (hh : MP X cl W hi ph) (hc : MP X cl W (some st) pc) : ME X cl W (.Subscript a (.Slice lo hi (some st) p2) pos) (emSu f pl ph pc) := by
  refine ⟨PE.imp (pe_tsu ha.pe hl.po hh.po hc.po) fun σ H Q h => ?_⟩
  obtain ⟨r, hp, m, re, rel, p⟩ := h
  refine ⟨r, hp, m, re, rel, p.bind.mono (fun x m1 h1 H1 s1 q v rv => ?_) fun _ _ _ z => z⟩
  refine ⟨r, h1, m1, re.step s1, q.1, q.2.bind.mono (fun l m2 h2 H2 s2 q2 => ?_) fun _ _ _ z => z⟩
  refine ⟨r, h2, m2, (re.step s1).step s2, q2.1, q2.2.bind.mono (fun u m3 h3 H3 s3 q3 => ?_) fun _ _ _ z => z⟩
  refine ⟨r, h3, m3, ((re.step s1).step s2).step s3, q3.1, q3.2.bind.mono (fun c m4 h4 H4 s4 q4 => ?_) fun _ _ _ z => z⟩
  obtain ⟨rel4, p4⟩ := q4
  have rx := R.step s4 _ _ (R.step s3 _ _ (R.step s2 _ _ rv))
  unfold tsU at p4
  split at p4
  · rename_i z
    split at p4
    · rename_i xs
      have rx0 := rx
      simp only [R] at rx
      obtain ⟨a, vs, rfl, f, rs⟩ := rx
      exact .inr ⟨a, vs, rfl, SqT.of f.1, z.1, z.2.1, z.2.2, p4.ok_ rel4 _ rx0⟩
    · exact p4.elim
  · left
    unfold tsT at p4
    split at p4
    · rename_i xs
      split at p4
      · rename_i z
        simp only [R] at rx
        obtain ⟨a, vs, rfl, f, rs⟩ := rx
        have rp := rs_pk rs l u (c.getD 1)
        refine ⟨a, vs, rfl, SqT.of f.1, z.1, z.2.1, by rw [← Rs.len rp]; exact z.2.2, fun p hp => ?_⟩
        exact p4 m4 _ (Stp.new hp) (rel4.new hp) _ (tup_new rel4 rp hp)
      · exact p4.elim
    · exact p4.elim
end
end TW
namespace TW
open PySem PySem.Spec L2
/-! ### a for over a cell that stays; a for that looks for the first -/
section
variable {F G' : SM} {r r0 : Rho} {h h0 : MH} {D : Fr → Prop} {α β : Type} {enc : α → T}
theorem chk_self {l : Nat} {xs : List T} (e : h[l]? = some (.lst xs)) : chk (some (l, xs)) h = true := by
  unfold chk
  simp only [e]
  exact beqTs_self xs
theorem forS_invC {gm : GM} {all : List T} {l : Nat} {B : SM} (S : List Nat) (I : List α → (Nat → Option T) → MH → Prop) (up : α → Rho → Rho) (D : Fr → Prop) (hgm : ∀ a r, gm (enc a) r = some (up a r)) (hc : ∀ p y h, I p y h → h[l]? = some (.lst all)) :
    ∀ (post pre : List α) (y : Nat → Option T) (h : MH), I pre y h →
      (∀ pre' a post' y h, pre ++ post = pre' ++ a :: post' → I pre' y h → Wp (B (up a (setS r0 S y)) h) (fun fr => (∃ y' h', fr = .nx (setS r0 S y') h' ∧ I (pre' ++ [a]) y' h') ∨ ∃ x h', fr = .ret x h' ∧ D (.ret x h'))) →
      (∀ y h, I (pre ++ post) y h → D (.nx (setS r0 S y) h)) → D (forS (some (l, all)) all gm B (post.map enc) (setS r0 S y) h)
  | [], pre, y, h, hI, _, hE => by
    have := hE y h (by rw [List.append_nil]; exact hI)
    show D (if chk (some (l, all)) h = true then .nx (setS r0 S y) h else .bad)
    rw [if_pos (chk_self (hc _ _ _ hI))]
    exact this
  | a :: post, pre, y, h, hI, hB, hE => by
    have hb := hB pre a post y h rfl hI
    unfold Wp at hb
    show D (if chk (some (l, all)) h = true then (match gm (enc a) (setS r0 S y) with
      | some r1 => (match B r1 h with
        | .nx r' h' => forS (some (l, all)) all gm B (post.map enc) r' h'
        | .ct r' h' => forS (some (l, all)) all gm B (post.map enc) r' h'
        | .bk r' h' => .nx r' h'
        | o => o)
      | none => .bad) else .bad)
    rw [if_pos (chk_self (hc _ _ _ hI)), hgm]
    simp only []
    rcases hb with ⟨y', h', e, hI'⟩ | ⟨x, h', e, hd⟩
    · rw [e]
      refine forS_invC S I up D hgm hc post (pre ++ [a]) y' h' hI' (fun pre' b post' y h e2 i2 => hB pre' b post' y h ?_ i2) (fun y h i2 => hE y h ?_)
      · rw [← e2, List.append_assoc]; rfl
      · have : (pre ++ [a]) ++ post = pre ++ a :: post := by rw [List.append_assoc]; rfl
        rw [← this]
        exact i2
    · rw [e]
      exact hd
/-- a for over a list that stands in the heap and stays -/
theorem Wp.forC {it : IM} {gm : GM} {B : SM} (S : List Nat) (I : List α → (Nat → Option T) → MH → Prop) (up : α → Rho → Rho) {xs : List α} {l : Nat} {h1 : MH} (e : it r h = .ok (xs.map enc, some (l, xs.map enc)) h1)
    (hgm : ∀ a r, gm (enc a) r = some (up a r)) (hc : ∀ p y h, I p y h → h[l]? = some (.lst (xs.map enc))) (hI : I [] (fun i => r.getD i none) h1)
    (hB : ∀ pre a post y h, xs = pre ++ a :: post → I pre y h → Wp (B (up a (setS r S y)) h) (fun fr => (∃ y' h', fr = .nx (setS r S y') h' ∧ I (pre ++ [a]) y' h') ∨ ∃ x h', fr = .ret x h' ∧ D (.ret x h')))
    (hE : ∀ y h, I xs y h → Wp (G' (setS r S y) h) D) : Wp (sSeq (sFor it gm B) G' r h) D := by
  have q := forS_invC (r0 := r) (enc := enc) (gm := gm) (all := xs.map enc) (l := l) (B := B) S I up (fun fr => D (thn fr G')) hgm hc xs [] (fun i => r.getD i none) h1 hI hB hE
  rw [setS_own] at q
  show D (match lift (it r h) r fun p h1 => forS p.2 p.1 gm B p.1 r h1 with
    | .nx r' h' => G' r' h'
    | o => o)
  rw [e]
  exact q
theorem forF {it : IM} {k : Nat} {B : SM} {h1 : MH} (S : List Nat) {xs : List α} (g : α → Option β) (ret : β → T) (e : it r h = .ok (xs.map enc, none) h1)
    (hB : ∀ a ∈ xs, ∀ y, Wp (B ((setS r S y).set k (some (enc a))) h1) (fun fr => (g a = none ∧ ∃ y', fr = .nx (setS r S y') h1) ∨ ∃ b, g a = some b ∧ fr = .ret (ret b) h1))
    (hE : xs.findSome? g = none → ∀ y, Wp (G' (setS r S y) h1) D) (hR : ∀ b, xs.findSome? g = some b → D (.ret (ret b) h1)) : Wp (sSeq (sFor it (gmN k) B) G' r h) D := by
  refine Wp.for_ S (fun p _ h => h = h1 ∧ p.findSome? g = none) e ⟨rfl, rfl⟩ ?_ ?_
  · rintro pre a post y h ex ⟨rfl, hp⟩
    have hb := hB a (by rw [ex]; simp) y
    unfold Wp at hb
    rcases hb with ⟨e1, y', e2⟩ | ⟨b, e1, e2⟩
    · exact .inl ⟨y', _, e2, rfl, by rw [List.findSome?_append, hp]; simp [e1]⟩
    · refine .inr ⟨_, _, e2, hR b ?_⟩
      rw [ex, List.findSome?_append, hp]
      simp [e1]
  · rintro y h ⟨rfl, hp⟩
    exact hE hp y
end
mutual
theorem low_up {N : Nat} : ∀ x : T, low 0 x = true → low N x = true
  | .tup xs, h | .ktup xs, h | .lst xs, h | .klst xs, h => by
    simp only [low] at h ⊢
    exact lows_up xs h
  | .dK _ xs, h | .dT _ xs, h | .dN _ xs, h | .obj _ _ xs, h => by
    simp only [low] at h ⊢
    exact lows_up xs h
  | .loc k, h => by
    simp only [low] at h
    cases k <;> cases h
  | .non, _ | .int _, _ | .bl _, _ | .str _, _ | .ty _, _ | .cls _, _ | .set _, _ => rfl
theorem lows_up {N : Nat} : ∀ xs : List T, lows 0 xs = true → lows N xs = true
  | [], _ => rfl
  | x :: xs, h => by
    simp only [lows, Bool.and_eq_true] at h ⊢
    exact ⟨low_up x h.1, lows_up xs h.2⟩
end
end TW
namespace TW
open PySem PySem.Spec L2
/-! ### max and min of two ints, of a list of ints (the library's call_max2, call_min2, cr_max, cr_min, by import) -/
def gtI : Int → List Int → Int
  | a, [] => a
  | a, b :: l => gtI (if a < b then b else a) l
def ltI : Int → List Int → Int
  | a, [] => a
  | a, b :: l => ltI (if b < a then b else a) l
theorem gtI_ge : ∀ (l : List Int) (a : Int), a ≤ gtI a l ∧ (∀ y ∈ l, y ≤ gtI a l) ∧ gtI a l ∈ a :: l
  | [], a => ⟨Int.le_refl a, fun _ h => (nomatch h), List.mem_cons_self⟩
  | b :: l, a => by
    obtain ⟨h1, h2, h3⟩ := gtI_ge l (if a < b then b else a)
    show a ≤ gtI (if a < b then b else a) l ∧ (∀ y ∈ b :: l, y ≤ gtI (if a < b then b else a) l) ∧ gtI (if a < b then b else a) l ∈ a :: b :: l
    generalize gtI (if a < b then b else a) l = g at *
    refine ⟨by split at h1 <;> omega, fun y hy => ?_, ?_⟩
    · rcases List.mem_cons.mp hy with rfl | hy
      · split at h1 <;> omega
      · exact h2 y hy
    · rcases List.mem_cons.mp h3 with e | e
      · rw [e]
        split <;> simp
      · exact List.mem_cons_of_mem _ (List.mem_cons_of_mem _ e)
theorem ltI_le : ∀ (l : List Int) (a : Int), ltI a l ≤ a ∧ (∀ y ∈ l, ltI a l ≤ y) ∧ ltI a l ∈ a :: l
  | [], a => ⟨Int.le_refl a, fun _ h => (nomatch h), List.mem_cons_self⟩
  | b :: l, a => by
    obtain ⟨h1, h2, h3⟩ := ltI_le l (if b < a then b else a)
    show ltI (if b < a then b else a) l ≤ a ∧ (∀ y ∈ b :: l, ltI (if b < a then b else a) l ≤ y) ∧ ltI (if b < a then b else a) l ∈ a :: b :: l
    generalize ltI (if b < a then b else a) l = g at *
    refine ⟨by split at h1 <;> omega, fun y hy => ?_, ?_⟩
    · rcases List.mem_cons.mp hy with rfl | hy
      · split at h1 <;> omega
      · exact h2 y hy
    · rcases List.mem_cons.mp h3 with e | e
      · rw [e]
        split <;> simp
      · exact List.mem_cons_of_mem _ (List.mem_cons_of_mem _ e)
/-- two ints, or a list of ints that is not empty; f folds -/
def extF (two : Int → Int → Int) (f : Int → List Int → Int) : FM := fun xs h => match xs with
  | [.int i, .int j] => .ok (.int (two i j)) h
  | [x] => (match lsOf h x with
    | some ys => (match mapO inOf ys with
      | some (n :: ns) => .ok (.int (f n ns)) h
      | _ => .bad)
    | none => .bad)
  | _ => .bad
abbrev maxF : FM := extF (fun i j => if j > i then j else i) gtI
abbrev minF : FM := extF (fun i j => if j < i then j else i) ltI
theorem n_ext {two : Int → Int → Int} {f : Int → List Int → Int} : NoXF (extF two f) := fun xs h c fs h' e => by
  unfold extF at e
  split at e
  · cases e
  · split at e
    · split at e <;> cases e
    · cases e
  · cases e
section
variable {X : Cx} {cl : Cln}
theorem ext_of {id : String} {two : Int → Int → Int} {f : Int → List Int → Int} {r : List V → Hp → VK → Prop} (h2 : CallR X (.builtin id) (fun xs H Q => ∃ i j, xs = [.int i, .int j] ∧ Q (.int (two i j)) H)) (hl : CallR X (.builtin id) r)
    (hr : ∀ (a : Addr) (n : Int) (ns : List Int) (H : Hp) (Q : VK), SqL X.K H a ((n :: ns).map V.int) → Q (.int (f n ns)) H → r [V.ref a] H Q) : CallR X (.builtin id) (rMC (gx X cl) (extF two f)) := by
  intro pins s σ H vs us Q I rv q
  obtain ⟨m, hp, xs, rel, rs, p⟩ := q
  unfold extF at p
  split at p
  · rename_i i j
    obtain ⟨v, t, rfl, k1, k2⟩ := Rs.cons_iff.mp rs
    obtain ⟨w, t, rfl, k3, k4⟩ := Rs.cons_iff.mp k2
    obtain rfl := Rs.nil_iff.mp k4
    simp only [R] at k1 k3
    subst k1 k3
    exact h2 pins s σ H _ us Q I rv ⟨i, j, rfl, p.ok_ rel _ (by simp only [R])⟩
  · rename_i x _
    obtain ⟨v, t, rfl, k1, k2⟩ := Rs.cons_iff.mp rs
    obtain rfl := Rs.nil_iff.mp k2
    split at p
    · rename_i ys e1
      split at p
      · rename_i n ns e2
        obtain ⟨a, ws, rfl, sq, rws⟩ := lsOf_ok rel k1 e1
        rw [ints_ok rws e2] at sq
        exact hl pins s σ H _ us Q I rv (hr a n ns H Q sq (p.ok_ rel _ (by simp only [R])))
      · exact p.elim
    · exact p.elim
  · exact p.elim
theorem c_max (hc : X.calm = true) : CallR X (.builtin "max") (rMC (gx X cl) maxF) := ext_of (call_max2 hc) (cr_max hc) fun a n ns H Q sq q => by
  refine ⟨a, n :: ns, rfl, sq, Nat.succ_pos _, fun m hm hy => ?_⟩
  obtain ⟨g1, g2, g3⟩ := gtI_ge ns n
  have e1 := hy _ g3
  have e2 : m ≤ gtI n ns := by
    rcases List.mem_cons.mp hm with rfl | hm
    · exact g1
    · exact g2 m hm
  rw [show m = gtI n ns from by omega]
  exact q
theorem c_min (hc : X.calm = true) : CallR X (.builtin "min") (rMC (gx X cl) minF) := ext_of (call_min2 hc) (cr_min hc) fun a n ns H Q sq q => by
  refine ⟨a, n :: ns, rfl, sq, Nat.succ_pos _, fun m hm hy => ?_⟩
  obtain ⟨g1, g2, g3⟩ := ltI_le ns n
  have e1 := hy _ g3
  have e2 : ltI n ns ≤ m := by
    rcases List.mem_cons.mp hm with rfl | hm
    · exact g1
    · exact g2 m hm
  rw [show m = ltI n ns from by omega]
  exact q
end
end TW
namespace TW
open PySem PySem.Spec L2
/-! ### one name more for the time of one call, and what is said to stand meanwhile -/
mutual
/-- the name k is not told by x -/
def noC (k : Str) : T → Bool
  | .tup xs => noCs k xs
  | .ktup xs => noCs k xs
  | .lst xs => noCs k xs
  | .klst xs => noCs k xs
  | .dK _ xs => noCs k xs
  | .dT _ xs => noCs k xs
  | .dN _ xs => noCs k xs
  | .obj c _ xs => !decide (c = k) && noCs k xs
  | .cls c => !decide (c = k)
  | _ => true
def noCs (k : Str) : List T → Bool
  | [] => true
  | x :: xs => noC k x && noCs k xs
end
def Cln.on (cl : Cln) (k : Str) (f : Addr) (pn : Addr → HO → Prop) : Cln where
  of := fun c => if c = k then some f else cl c
  tabs := cl.tabs
  pin := fun a o => cl.pin a o ∨ pn a o
theorem Cln.on_ne {cl : Cln} {k c : Str} {f : Addr} {pn : Addr → HO → Prop} (h : c ≠ k) : (cl.on k f pn) c = cl c := if_neg h
theorem Cln.on_at {cl : Cln} {k : Str} {f : Addr} {pn : Addr → HO → Prop} : (cl.on k f pn) k = some f := if_pos rfl
section
variable {P : Program} {w : World} {K : PySem.W.Frag} {cl : Cln} {k : Str} {f : Addr} {pn : Addr → HO → Prop} {m m0 : Ml} {H H0 : Hp}
mutual
theorem R.on : ∀ (x : T) (v : V), noC k x = true → (R ⟨P, w, K, cl⟩ m H x v ↔ R ⟨P, w, K, cl.on k f pn⟩ m H x v)
  | .non, _, _ => Iff.rfl
  | .bl _, _, _ => Iff.rfl
  | .int _, _, _ => Iff.rfl
  | .str _, _, _ => Iff.rfl
  | .ty _, _, _ => Iff.rfl
  | .loc _, _, _ => Iff.rfl
  | .set _, _, _ => Iff.rfl
  | .cls c, _, h => by
    simp only [noC, Bool.not_eq_true', decide_eq_false_iff_not] at h
    simp only [R, Cln.on_ne h]
  | .tup xs, _, h => by
    simp only [R]
    exact exists_congr fun a => exists_congr fun vs => and_congr_right fun _ => and_congr_right fun _ => Rs.on xs vs h
  | .ktup xs, _, h => by
    simp only [R]
    exact exists_congr fun a => exists_congr fun vs => and_congr_right fun _ => and_congr_right fun _ => Rs.on xs vs h
  | .lst xs, _, h => by
    simp only [R]
    exact exists_congr fun a => exists_congr fun vs => and_congr_right fun _ => and_congr_right fun _ => Rs.on xs vs h
  | .klst xs, _, h => by
    simp only [R]
    exact exists_congr fun a => exists_congr fun vs => and_congr_right fun _ => and_congr_right fun _ => Rs.on xs vs h
  | .dK ks xs, _, h => by
    simp only [R]
    exact exists_congr fun a => exists_congr fun vs => and_congr_right fun _ => and_congr_right fun _ => and_congr_right fun _ => Rs.on xs vs h
  | .dT ks xs, _, h => by
    simp only [R]
    exact exists_congr fun a => exists_congr fun vs => and_congr_right fun _ => and_congr_right fun _ => and_congr_right fun _ => Rs.on xs vs h
  | .dN ks xs, _, h => by
    simp only [R]
    exact exists_congr fun a => exists_congr fun q => and_congr_right fun _ => and_congr_right fun _ => and_congr_right fun _ => and_congr_right fun _ => Rs.on xs _ h
  | .obj c ns xs, _, h => by
    simp only [noC, Bool.and_eq_true, Bool.not_eq_true', decide_eq_false_iff_not] at h
    simp only [R, Cln.on_ne h.1]
    exact exists_congr fun a => exists_congr fun C => exists_congr fun dx => exists_congr fun vs => and_congr_right fun _ => and_congr_right fun _ => and_congr_right fun _ => and_congr_right fun _ => Rs.on xs vs h.2
theorem Rs.on : ∀ (xs : List T) (vs : List V), noCs k xs = true → (Rs ⟨P, w, K, cl⟩ m H xs vs ↔ Rs ⟨P, w, K, cl.on k f pn⟩ m H xs vs)
  | [], _, _ => Iff.rfl
  | x :: xs, _, h => by
    simp only [noCs, Bool.and_eq_true] at h
    simp only [Rs]
    exact exists_congr fun v => exists_congr fun r => and_congr_right fun _ => and_congr (R.on x v h.1) (Rs.on xs r h.2)
end
theorem Rel.on (rel : Rel ⟨P, w, K, cl⟩ m H []) (hp : ∀ a o, pn a o → NT o ∧ Sm H a o ∧ m.no a) : Rel ⟨P, w, K, cl.on k f pn⟩ m H [] :=
  ⟨rel.len, rel.nd, fun _ _ _ _ e => (nomatch e), rel.zs, rel.zd, rel.tb.1, fun a o q => q.elim (rel.tb.2 a o) (hp a o)⟩
theorem Rel.off (rel : Rel ⟨P, w, K, cl.on k f pn⟩ m H []) : Rel ⟨P, w, K, cl⟩ m H [] :=
  ⟨rel.len, rel.nd, fun _ _ _ _ e => (nomatch e), rel.zs, rel.zd, rel.tb.1, fun a o q => rel.tb.2 a o (.inl q)⟩
theorem Rel.pins (rel : Rel ⟨P, w, K, cl.on k f pn⟩ m H []) {a : Addr} {o : HO} (q : pn a o) : NT o ∧ Sm H a o ∧ m.no a := rel.tb.2 a o (.inr q)
/-- the names' values that name no cell -/
def lowR (r : Rho) : Rho := r.map fun o => match o with
  | some x => if low 0 x = true then some x else none
  | none => none
theorem lowR_at {r : Rho} {i : Nat} {x : T} (e : (lowR r)[i]? = some (some x)) : r[i]? = some (some x) ∧ low 0 x = true := by
  unfold lowR at e
  rw [List.getElem?_map] at e
  cases h : r[i]? with
  | none => rw [h] at e; cases e
  | some o =>
    rw [h] at e
    cases o with
    | none => cases e
    | some y =>
      simp only [Option.map_some] at e
      split at e
      · rename_i hl
        cases e
        exact ⟨rfl, hl⟩
      · cases e
/-- they stay where all that was tracked and no cell stays -/
theorem RE.low {G : Gx} {r : Rho} {σ : L2.St} (re : RE G m0 H0 r σ) (st : ∀ a o, NT o → Sm H0 a o → m0.no a → Sm H a o ∧ m.no a) : RE G m H (lowR r) σ := by
  refine ⟨by simp [lowR, re.len], fun i x e => ?_⟩
  obtain ⟨e1, hl⟩ := lowR_at e
  obtain ⟨v, e2, q⟩ := re.at_ i x e1
  refine ⟨v, e2, R.back x v (R.wk (m := m0.aside) (m' := m.aside) ⟨⟨[], rfl⟩, fun a o t h n => ?_⟩ x v (R.aside x v hl q))⟩
  obtain ⟨h1, n1⟩ := st a o t h (Ml.aside_no.mp n)
  exact ⟨h1, Ml.aside_no.mpr n1⟩
end
end TW
namespace TW
open PySem PySem.Spec L2
/-! ### sorted() of a list of pairs of ints -/
def pr2 : T → Option (Int × Int)
  | .tup [.int i, .int j] => some (i, j)
  | _ => none
def pT (p : Int × Int) : T := .tup [.int p.1, .int p.2]
theorem pr2_eq {x : T} {p : Int × Int} (e : pr2 x = some p) : x = pT p := by
  unfold pr2 at e
  split at e
  · cases e
    rfl
  · cases e
theorem pr2_all : ∀ {xs : List T} {ps : List (Int × Int)}, mapO pr2 xs = some ps → xs = ps.map pT
  | [], ps, e => by
    simp only [mapO] at e
    cases e
    rfl
  | x :: xs, ps, e => by
    obtain ⟨y, ys, e1, e2, rfl⟩ := mapO_some e
    rw [pr2_eq e1, pr2_all e2]
    rfl
def leP (p q : Int × Int) : Bool := !SrtO.lexB q p
theorem leP_iff {p q : Int × Int} : leP p q = true ↔ p.1 < q.1 ∨ (p.1 = q.1 ∧ p.2 ≤ q.2) := by
  unfold leP
  rw [Bool.not_eq_true', SrtO.lexB_no]
  omega
def sortP (ps : List (Int × Int)) : List (Int × Int) := ps.mergeSort leP
theorem sortP_perm (ps : List (Int × Int)) : (sortP ps).Perm ps := List.mergeSort_perm _ _
theorem sortP_srt (ps : List (Int × Int)) : (sortP ps).Pairwise fun p q => leP p q = true := List.pairwise_mergeSort (fun a b c h1 h2 => by rw [leP_iff] at *; omega) (fun a b => by
  rw [Bool.or_eq_true, leP_iff, leP_iff]
  omega) ps
theorem sortP_one : ∀ {l m : List (Int × Int)}, l.Pairwise (fun p q => leP p q = true) → m.Pairwise (fun p q => leP p q = true) → l.Perm m → l = m
  | [], m, _, _, h => h.nil_eq
  | x :: l, [], _, _, h => absurd h.length_eq (by simp)
  | x :: l, y :: m, h1, h2, h => by
    obtain ⟨a1, b1⟩ := List.pairwise_cons.mp h1
    obtain ⟨a2, b2⟩ := List.pairwise_cons.mp h2
    have e : x = y := by
      have m1 : x ∈ y :: m := h.mem_iff.mp List.mem_cons_self
      have m2 : y ∈ x :: l := h.mem_iff.mpr List.mem_cons_self
      rcases List.mem_cons.mp m1 with e | m1
      · exact e
      · rcases List.mem_cons.mp m2 with e | m2
        · exact e.symm
        · have c1 := leP_iff.mp (a1 y m2)
          have c2 := leP_iff.mp (a2 x m1)
          exact Prod.ext (by omega) (by omega)
    subst e
    rw [sortP_one b1 b2 h.cons_inv]
def sortPF (k : List T → MH → Res T) : FM := on1 fun x h => match lsOf h x with
  | some xs => (match mapO pr2 xs with
    | some ps => k ((sortP ps).map pT) h
    | none => .bad)
  | none => .bad
theorem n_sortP {k : List T → MH → Res T} (hk : k = lstK ∨ k = lstL) : NoXF (sortPF k) := on1_nox fun x h c fs h' e => by
  split at e
  · split at e
    · exact lst_two_nox hk _ _ _ _ _ e
    · cases e
  · cases e
section
variable {X : Cx} {cl : Cln} {G : Gx} {m : Ml} {H : Hp}
def IsP (H : Hp) (w : V) (q : Int × Int) : Prop := ∃ t, w = V.ref t ∧ H t = some (.tup [.int q.1, .int q.2])
theorem IsP.of {w : V} {q : Int × Int} (r : R G m H (pT q) w) : IsP H w q := by
  unfold pT at r
  simp only [R] at r
  obtain ⟨a, vs, rfl, f, rs⟩ := r
  obtain ⟨v1, t1, rfl, r1, rs⟩ := Rs.cons_iff.mp rs
  obtain ⟨v2, t2, rfl, r2, rs⟩ := Rs.cons_iff.mp rs
  obtain rfl := Rs.nil_iff.mp rs
  simp only [R] at r1 r2
  subst r1 r2
  exact ⟨a, rfl, f.1⟩
theorem IsP.one {w : V} {p q : Int × Int} (h1 : IsP H w p) (h2 : IsP H w q) : p = q := by
  obtain ⟨t, rfl, e1⟩ := h1
  obtain ⟨u, e, e2⟩ := h2
  cases e
  rw [e1] at e2
  have e3 := Option.some.inj e2
  simp only [HO.tup.injEq, List.cons.injEq, V.int.injEq, and_true] at e3
  exact Prod.ext e3.1 e3.2
open Classical in
noncomputable def kyO (H : Hp) (w : V) : Int × Int := if h : ∃ q, IsP H w q then h.choose else (0, 0)
theorem kyO_of {w : V} {q : Int × Int} (h : IsP H w q) : kyO H w = q := by
  unfold kyO
  have hx : ∃ q, IsP H w q := ⟨q, h⟩
  rw [dif_pos hx]
  exact hx.choose_spec.one h
theorem rs_ky : ∀ {ps : List (Int × Int)} {ws : List V}, Rs G m H (ps.map pT) ws → ws.map (kyO H) = ps ∧ ∀ w ∈ ws, R G m H (pT (kyO H w)) w
  | [], ws, h => by
    rw [Rs.nil_iff.mp h]
    exact ⟨rfl, fun _ z => nomatch z⟩
  | p :: ps, ws, h => by
    obtain ⟨v, r, rfl, h1, h2⟩ := Rs.cons_iff.mp h
    obtain ⟨e, f⟩ := rs_ky h2
    have e1 := kyO_of (IsP.of h1)
    refine ⟨by rw [List.map_cons, e1, e], fun w hw => ?_⟩
    rcases List.mem_cons.mp hw with rfl | hw
    · rw [e1]
      exact h1
    · exact f w hw
theorem rs_of : ∀ {ys : List V}, (∀ w ∈ ys, R G m H (pT (kyO H w)) w) → Rs G m H ((ys.map (kyO H)).map pT) ys
  | [], _ => Rs.nil
  | y :: ys, h => Rs.cons (h y List.mem_cons_self) (rs_of fun w hw => h w (List.mem_cons_of_mem _ hw))
theorem c_sortP {k : List T → MH → Res T} (hk : k = lstK ∨ k = lstL) : CallR X (.builtin "sorted") (rMC (gx X cl) (sortPF k)) := CallR.imp cr_sortedPO fun vs H Q q => by
  obtain ⟨m, hp, xs, rel, rs, p⟩ := q
  obtain ⟨x, v, rfl, rx, p⟩ := on1_ok rs p
  split at p
  · rename_i ts e1
    split at p
    · rename_i ps e2
      obtain ⟨a, ws, rfl, sq, rws⟩ := lsOf_ok rel rx e1
      rw [pr2_all e2] at rws
      obtain ⟨ek, all⟩ := rs_ky rws
      refine ⟨a, ws, kyO H, rfl, sq, fun w hw => IsP.of (all w hw), fun ys pp srt stb hn => ?_⟩
      have es : ys.map (kyO H) = sortP ps := by
        refine sortP_one (List.pairwise_map.mpr (List.Pairwise.imp (fun {u w} h => ?_) srt)) (sortP_srt ps) (((stb.perm.map _).trans (by rw [ek])).trans (sortP_perm ps).symm)
        unfold leP
        rw [show SrtO.lexB (kyO H w) (kyO H u) = false from h]
        rfl
      have ry := rs_of (G := gx X cl) (m := m) (ys := ys) fun w hw => all w (stb.perm.mem_iff.mp hw)
      rw [es] at ry
      exact (lst_two hk rel ry p).2 pp hn
    · exact p.elim
  · exact p.elim
end
end TW
namespace TW
open PySem PySem.Spec L2
/-! ### for k in d, d a dict that nothing changes: it is locked from here on, which no value sees -/
section
variable {G : Gx} {m m' : Ml} {H H' : Hp} {hp : MH} {d : Addr} {u : HO} {od : Obj}
theorem lock_off {b : Addr} {o : HO} (hd : H d = some u) (e : H b = some o) (ne : o ≠ u) : upd H d (.frz od u) b = H b := upd_ne fun z => ne (by
  subst z
  exact Option.some.inj (e.symm.trans hd))
theorem lock_sm {b : Addr} {o : HO} (hd : H d = some u) (dk : isDk u = true) (h : Sm H b o) : Sm (upd H d (.frz od u)) b o := by
  by_cases e : b = d
  · subst e
    rcases h with h | ⟨_, ob, h⟩
    · obtain rfl := Option.some.inj (h.symm.trans hd)
      exact .inr ⟨dk, od, upd_same⟩
    · obtain rfl := Option.some.inj (h.symm.trans hd)
      cases dk
  · exact h.same (upd_ne e)
theorem Stp.lock (hd : H d = some u) (dk : isDk u = true) (no : m.no d) : Stp m m H (upd H d (.frz od u)) := ⟨rfl, ⟨[], by simp⟩, fun b o _ h n => ⟨lock_sm hd dk h, n⟩, fun b o _ e z _ => by
  rw [upd_ne (fun y : b = d => no.2 (by rw [← y]; exact z))]
  exact e⟩
theorem Rel.lock (rel : Rel G m H hp) (hd : H d = some u) (dk : isDk u = true) (no : m.no d) : Rel G m (upd H d (.frz od u)) hp := by
  have st : Stp m m H (upd H d (.frz od u)) := .lock hd dk no
  refine ⟨rel.len, rel.nd, fun n a mo e1 e2 => (rel.ob n a mo e1 e2).step st (upd_ne fun y : a = d => no.1 (by rw [← y]; exact List.mem_of_getElem? e1)), fun a ha => zs_ne (rel.zs a ha) (fun y : a = d => no.2 (by rw [← y]; exact ha)), rel.zd, fun q hq => ?_, fun a o q => ?_⟩
  · obtain ⟨ps, h1, n1, h2, h3⟩ := rel.tb.1 q hq
    refine ⟨ps, (lock_off hd h1 (by rintro rfl; cases dk)).trans h1, n1, h2, fun pos cv hc => ?_⟩
    obtain ⟨c, e2, h4, n3⟩ := h3 pos cv hc
    exact ⟨c, e2, (lock_off hd h4 (by rintro rfl; cases dk)).trans h4, n3⟩
  · obtain ⟨t, h1, n1⟩ := rel.tb.2 a o q
    exact ⟨t, lock_sm hd dk h1, n1⟩
/-- a tuple that stands is no cell, nor under way -/
theorem tup_no (rel : Rel G m H hp) {q : Addr} {vs : List V} (e : H q = some (.tup vs)) : m.no q := by
  refine ⟨fun z => ?_, fun z => ?_⟩
  · obtain ⟨_, _, _, _, ro⟩ := rel.at_mem z
    obtain ⟨o, nz, e2⟩ := ro.nt
    exact nz.2 _ (Option.some.inj (e2.symm.trans e))
  · obtain ⟨o, nz, e2⟩ := rel.zs q z
    exact nz.2 _ (Option.some.inj (e2.symm.trans e))
end
def kTr : Key → T
  | .inl i => .int i
  | .inr s => .str s
theorem r_kTr {G : Gx} {m : Ml} {H : Hp} (k : Key) : R G m H (kTr k) (kV k) := by
  cases k <;> simp only [kTr, R] <;> rfl
theorem rs_kTr {G : Gx} {m : Ml} {H : Hp} : ∀ ks : List Key, Rs G m H (ks.map kTr) (ks.map kV)
  | [] => Rs.nil
  | k :: ks => Rs.cons (r_kTr k) (rs_kTr ks)
def itK (f : EM) : IM := fun r h => (f r h).bind fun d h1 => match d with
  | .dT ks _ => .ok (ks.map fun k => .tup (k.map kTr), none) h1
  | .dK ks _ => .ok (ks.map kTr, none) h1
  | _ => .bad
/-- what is told is locked, if it is not yet -/
def tLk (td : TE) : TE := fun σ H Q => td σ H fun x H1 => ∃ d u, x = .ref d ∧ ((∃ o, H1 d = some (.frz o u) ∧ Q x H1) ∨ (H1 d = some u ∧ Mut (some u) ∧ ∀ od, Q x (upd H1 d (.frz od u))))
theorem pe_lk {X : Cx} {e : Expr} {td : TE} (h : PE X e td) : PE X e (tLk td) := ⟨fun pins s σ H Q I q => L2.thn (h.run pins s σ H _ I q) fun v s1 ⟨x, H1, I1, rx, d, u, ex, q⟩ => by
  rcases q with ⟨o, _, q⟩ | ⟨hd, mu, q⟩
  · exact ⟨x, H1, I1, rx, q⟩
  · obtain ⟨od, I2⟩ := I1.lock hd mu
    exact ⟨x, _, I2, rx, q od⟩⟩
section
variable {G : Gx} {m : Ml} {H : Hp} {d : Addr} {od : Obj}
theorem walk_T {ks : List (List Key)} {vs : List V} (hl : ks.length = vs.length) (hd : H d = some (.frz od (.dT (ks.zip vs)))) (no : m.no d) : WalkM G (Itkt d od (ks.zip vs)) (ks.map fun k => .tup (k.map kTr)) none m H := fun m' H' h' s rel _ => by
  have stay : H' d = some (.frz od (.dT (ks.zip vs))) := (s.fr d _ (by intro _ z; cases z) (.inl hd) no).1.ex
  have len : (ks.map fun k => T.tup (k.map kTr)).length = (ks.zip vs).length := by rw [List.length_map, List.length_zip, hl, Nat.min_self]
  refine ⟨fun i hi => ⟨stay, by rw [← len]; exact hi⟩, ⟨stay, by rw [len]; exact Nat.le_refl _⟩, ?_⟩
  rintro i x H'' z ⟨rfl, k, v, q, e1, rfl, hq⟩ e2
  obtain ⟨e3, _⟩ := List.getElem?_zip_eq_some.mp e1
  rw [List.getElem?_map, e3] at e2
  cases e2
  refine ⟨.refl, rel, ?_⟩
  simp only [R]
  exact ⟨q, _, rfl, ⟨hq, tup_no rel hq⟩, rs_kTr k⟩
theorem walk_K {ks : List Key} {vs : List V} (hl : ks.length = vs.length) (hd : H d = some (.frz od (.dK (ks.zip vs)))) (no : m.no d) : WalkM G (Itk d od (ks.zip vs)) (ks.map kTr) none m H := fun m' H' h' s rel _ => by
  have stay : H' d = some (.frz od (.dK (ks.zip vs))) := (s.fr d _ (by intro _ z; cases z) (.inl hd) no).1.ex
  have len : (ks.map kTr).length = (ks.zip vs).length := by rw [List.length_map, List.length_zip, hl, Nat.min_self]
  refine ⟨fun i hi => ⟨stay, by rw [← len]; exact hi⟩, ⟨stay, by rw [len]; exact Nat.le_refl _⟩, ?_⟩
  rintro i x H'' z ⟨rfl, k, v, e1, rfl⟩ e2
  obtain ⟨e3, _⟩ := List.getElem?_zip_eq_some.mp e1
  rw [List.getElem?_map, e3] at e2
  cases e2
  exact ⟨.refl, rel, r_kTr k⟩
end
theorem mi_k {X : Cx} {cl : Cln} {W : WX} {tg e : Expr} {f : EM} (he : ME X cl W e f) : MI X cl W tg e (itK f) := by
  refine ⟨PI.imp (pi_keys (pe_lk he.pe)) fun σ H Q z => ?_⟩
  obtain ⟨r, hp, m, re, rel, p⟩ := z
  refine ⟨r, hp, m, re, rel, p.bind.mono (fun t m1 h1 H1 s1 q v rv => ?_) fun _ _ _ z => z⟩
  obtain ⟨rel1, p1⟩ := q
  split at p1
  · rename_i ks xs
    simp only [R] at rv
    obtain ⟨a, vs, rfl, ⟨rd, no⟩, hl, _⟩ := rv
    refine ⟨a, .dT (ks.zip vs), rfl, ?_⟩
    rcases rd with plain | ⟨ob, frz⟩
    · exact .inr ⟨plain, trivial, fun od => ⟨a, od, rfl, .inr ⟨_, upd_same, p1 m1 _ (.lock plain rfl no) (rel1.lock plain rfl no) _ (walk_T hl upd_same no)⟩⟩⟩
    · exact .inl ⟨ob, frz, a, ob, rfl, .inr ⟨_, frz, p1 m1 _ .refl rel1 _ (walk_T hl frz no)⟩⟩
  · rename_i ks xs
    simp only [R] at rv
    obtain ⟨a, vs, rfl, ⟨rd, no⟩, hl, _⟩ := rv
    refine ⟨a, .dK (ks.zip vs), rfl, ?_⟩
    rcases rd with plain | ⟨ob, frz⟩
    · exact .inr ⟨plain, trivial, fun od => ⟨a, od, rfl, .inl ⟨_, upd_same, p1 m1 _ (.lock plain rfl no) (rel1.lock plain rfl no) _ (walk_K hl upd_same no)⟩⟩⟩
    · exact .inl ⟨ob, frz, a, ob, rfl, .inl ⟨_, frz, p1 m1 _ .refl rel1 _ (walk_K hl frz no)⟩⟩
  · exact p1.elim
end TW
namespace TW
open PySem PySem.Spec L2
/-! ### tuples that are known to their object: displays, sums, their .index -/
/-- a new object that is known -/
def tKt (t : TA) : TE := fun σ H Q => t σ H fun xs H1 => xs.length ≤ sizeLine ∧ ∀ (p : Addr) (o : Obj), H1 p = none → o.cls = .type "tuple" → o.dict = none → Q (.ref p) (upd H1 p (.frz o (.tup xs)))
section
variable {X : Cx} {pins : List (Addr × Obj)} {σ : L2.St} {H : Hp} {s : Shared} {xs : List V} {us : List Value} {Q : VK}
/-- the object that a tuple's making leaves -/
theorem kt_laid (I : Inv X pins σ H s) (r : Vals xs us) (hz : xs.length ≤ sizeLine) (q : ∀ (p : Addr) (o : Obj), H p = none → o.cls = .type "tuple" → o.dict = none → Q (.ref p) (upd H p (.frz o (.tup xs)))) :
    EP X pins σ Q (.ref s.heap.objs.size) { s with heap := s.heap.push { cls := .type "tuple", data := .seq us.toArray } } := by
  have new : (s.heap.push { cls := .type "tuple", data := .seq us.toArray }).get? s.heap.objs.size = some { cls := .type "tuple", data := .seq us.toArray } := Heap.get?_push_size _ rfl
  exact ⟨.ref s.heap.objs.size, _, I.laid (t' := s.toks) (o := .frz { cls := .type "tuple", data := .seq us.toArray } (.tup xs)) (fun _ _ e => Heap.get?_push_of_some _ e) (Nat.le_refl _) ⟨new, hz, us, r, _, new, rfl, _, rfl⟩, rfl, q _ _ (I.hok.fresh (Nat.le_refl _)) rfl rfl⟩
theorem pe_kt {es : List Expr} {t : TA} {x1 : Nat} {pos : Pos} (h : PA X es t) : PE X (.Tuple es x1 pos) (tKt t) := ⟨fun pins s σ H Q I hq =>
  wpAny_Tuple_spliced (L2.thn (h.run pos pins s σ H _ I hq) fun us s1 ⟨xs, H1, I1, r, z, q⟩ => ⟨by rw [← r.length]; exact z, kt_laid I1 r z q⟩)⟩
/-- a sum of which the right side is not empty: it is that side itself, or new -/
def rKs (K : PySem.W.Frag) : V → V → Hp → VK → Prop := fun x y H Q => ∃ (a b : Addr) (xs ys : List V), x = .ref a ∧ y = .ref b ∧ SqT K H a xs ∧ SqT K H b ys ∧ ys ≠ [] ∧ xs.length + ys.length ≤ sizeLine ∧ (xs = [] → Q (.ref b) H) ∧
  ∀ (p : Addr) (o : Obj), H p = none → o.cls = .type "tuple" → o.dict = none → Q (.ref p) (upd H p (.frz o (.tup (xs ++ ys))))
theorem op_ks : OpR X (binaryOp .Add) (rKs X.K) := by
  rintro pins s σ H x y v u Q I rx ry ⟨a, b, xs, ys, rfl, rfl, sa, sb, ne, hz, q0, q1⟩
  obtain rfl : v = Value.ref a := rx
  obtain rfl : u = Value.ref b := ry
  obtain ⟨its, r1, p1, _⟩ := I.tuple sa
  obtain ⟨its2, r2, p2, _⟩ := I.tuple sb
  cases xs with
  | nil =>
    cases r1
    exact L2.cat_tup0 p1 p2 ⟨.ref b, H, I, rfl, q0 rfl⟩
  | cons z zs =>
    refine HT.cat_tup p1 p2 (by rintro rfl; cases r1) (by rintro rfl; cases r2; exact absurd rfl ne) (fun _ => ?_) (by rw [← r1.length, ← r2.length]; exact hz)
    exact kt_laid I (r1.append r2) (by rw [List.length_append]; exact hz) q1
end
/-! ### in mirrors -/
section
variable {X : Cx} {cl : Cln} {W : WX} {pos : Pos}
def kupK (xs : List T) (hp : MH) : Res T := if xs.length ≤ sizeLine then .ok (.ktup xs) hp else .bad
def emKt (g : AM) : EM := fun r h => (g r h).bind kupK
theorem kt_new {G : Gx} {m : Ml} {H : Hp} {hp : MH} {xs : List T} {vs : List V} {p : Addr} {o : Obj} (rel : Rel G m H hp) (rs : Rs G m H xs vs) (h : H p = none) (c : o.cls = .type "tuple") (d : o.dict = none) : R G m (upd H p (.frz o (.tup vs))) (.ktup xs) (.ref p) := by
  simp only [R]
  exact ⟨p, vs, rfl, .inr ⟨o, upd_same, c, d, rel.freeZ h⟩, Rs.step (Stp.new h) _ _ rs⟩
theorem me_kt {es : List Expr} {g : AM} {x1 : Nat} (h : MA X cl W es g) : ME X cl W (.Tuple es x1 pos) (emKt g) := ⟨PE.imp (pe_kt h.pa) fun σ H Q z => by
  obtain ⟨r, hp, m, re, rel, p⟩ := args_ok z
  refine ⟨r, hp, m, re, rel, p.mono (fun xs m' h' H' s q vs rv => ?_) fun _ _ _ z => z⟩
  obtain ⟨m2, hp2, ys, rel2, rs, p2⟩ := q vs rv
  unfold kupK at p2
  split at p2
  · rename_i hl
    exact ⟨by rw [← Rs.len rs]; exact hl, fun a o ha c d => p2 m2 _ (Stp.new ha) (rel2.new ha) _ (kt_new rel2 rs ha c d)⟩
  · exact p2.elim⟩
def adK (x y : T) (hp : MH) : Res T := match tpOf x, y with
  | some xs, .ktup ys => if ys.isEmpty = false ∧ xs.length + ys.length ≤ sizeLine then .ok (.ktup (xs ++ ys)) hp else .bad
  | _, _ => .bad
theorem n_adK : NoX adK := fun x y h c fs h' e => by
  unfold adK at e
  split at e
  · split at e <;> cases e
  · cases e
theorem o_adK : OpR X (binaryOp .Add) (rM (gx X cl) adK) := OpR.imp op_ks fun v w H Q q => by
  obtain ⟨m, hp, x, y, rel, rx, ry, p⟩ := q
  unfold adK at p
  split at p
  · rename_i xs ys e1
    split at p
    · rename_i hs
      obtain ⟨a, vs, rfl, sa, ra⟩ := tpOf_ok rx e1
      obtain ⟨b, ws, rfl, sb, rb⟩ := tpOf_ok ry (xs := ys) rfl
      refine ⟨a, b, vs, ws, rfl, rfl, sa, sb, ?_, ?_, ?_, fun q o hq c d => p m _ (Stp.new hq) (rel.new hq) _ (kt_new rel (Rs.app ra rb) hq c d)⟩
      · rintro rfl
        have := Rs.len rb
        rw [List.eq_nil_of_length_eq_zero this] at hs
        cases hs.1
      · rw [← Rs.len ra, ← Rs.len rb]
        exact hs.2
      · rintro rfl
        have := List.eq_nil_of_length_eq_zero (Rs.len ra)
        subst this
        exact p.ok_ rel _ ry
    · exact p.elim
  · exact p.elim
end
/-! ### t.index(k), t of ints -/
section
variable {X : Cx} {cl : Cln} {W : WX} {o e : Expr} {es : List Expr} {name : Str} {apos cpos : Pos} {T id : String} {to : TE} {t : TA} {ty : V → Hp → Prop} {r : V → List V → Hp → VK → Prop}
/-- a builtin's method of a value that is known to be of the builtin and to have no __dict__ -/
theorem pe_bmW (pa : PlainAttrs T) (slot : Slot T name id) (hty : typeOf (.builtin id) = pure (.type "method_descriptor"))
    (known : ∀ {pins : List (Addr × Obj)} {s : Shared} {σ : L2.St} {H : Hp} {x : V} {v : Value}, Inv X pins σ H s → RelV x v → ty x H → s.TypeIs v T ∧ ∀ a, v = .ref a → ∃ ob, s.heap.get? a = some ob ∧ ob.dict = none)
    (hm : MtR X id r) (ho : PE X o to) (ha : PA X (e :: es) t)
    (hbase : attributeBase o name X.env (eval o X.env) = eval o X.env := by rfl)
    (hfew : ((backTo cpos (starEach (e :: es) X.env)).all (fun x => !x.1) && (backToKw cpos (keywordEach [] X.env)).all (fun x => x.1.isSome)
      && decide ((e :: es).length + ([] : List Keyword).length + (if ([] : List Keyword).isEmpty then 0 else 1) < 30)) = true := by rfl)
    (hline : (apos.endLine == cpos.line) = true := by rfl) (hs : starEach (e :: es) X.env = (false, eval e X.env) :: starEach es X.env := by rfl) (hplain : (backTo cpos (starEach es X.env)).any (·.1) = false := by rfl) :
    PE X (.Call (.Attribute o name apos) (e :: es) [] cpos) fun σ H Q => to σ H fun x H1 => ty x H1 ∧ t σ H1 fun xs H2 => r x xs H2 Q := ⟨fun pins s σ H Q I z => by
  refine wpAny_Call_method_late hbase hfew hline rfl (L2.thn (ho.run pins s σ H _ I z) fun v s1 w => ?_)
  obtain ⟨x, H1, I1, r1, k, q1⟩ := w
  obtain ⟨is, bare⟩ := known I1 r1 k
  have args := ha.run cpos pins s1 σ H1 _ I1 q1
  rw [hs] at args ⊢
  have plain : ((false, eval e X.env) :: backTo cpos (starEach es X.env)).any (·.1) = false := by
    show (false || _) = false
    rw [hplain]
    rfl
  exact ⟨T, id, pa, slot, hty, is, bare, Calls.callWith_builtin plain (Calls.evalArgs_plain (L2.thn args fun us s2 ⟨vs, H2, I2, r2, q2⟩ => hm pins s2 σ H2 x vs v us Q I2 r1 r2 q2))⟩⟩
end
section
variable {X : Cx} {cl : Cln} {W : WX}
def rTix (K : PySem.W.Frag) : V → List V → Hp → VK → Prop := fun x xs H Q => ∃ (a : Addr) (ns : List Int) (k : Int), x = .ref a ∧ xs = [.int k] ∧ SqT K H a (ns.map V.int) ∧ k ∈ ns ∧ Q (.int (ns.idxOf k : Nat)) H
theorem mt_tix (hu : X.A.units + 66 < cLine) : MtR X "tuple.index" (rTix X.K) := by
  rintro pins s σ H x xs v us Q I rx rv ⟨a, ns, k, rfl, rfl, sq, hk, q⟩
  obtain rfl : v = Value.ref a := rx
  obtain ⟨u, rfl, t, rfl⟩ := Vals.one rv
  obtain ⟨its, ri, tup, _⟩ := I.tuple sq
  refine PySem.W.index_tuple_datum (α := Int) (xs := ns) (x := k) tup (PySem.W.HoldAll.of_ints (RZ.intsAre_vals ri)) (PySem.W.holds_int k t) (by
    have : PySem.W.Datum.depth Int ≤ 10 := by decide
    omega) hk ?_
  exact ⟨.int _, H, I.tok _, ⟨_, rfl⟩, q⟩
/-- the value is a tuple that is known -/
def KtV (K : PySem.W.Frag) (x : V) (H : Hp) : Prop := ∃ (a : Addr) (o : Obj), x = .ref a ∧ o.cls = .type "tuple" ∧ o.dict = none ∧ (K.lookup a = some o ∨ ∃ xs, H a = some (.frz o (.tup xs)))
theorem ktV_is {pins : List (Addr × Obj)} {s : Shared} {σ : L2.St} {H : Hp} {x : V} {v : Value} (I : Inv X pins σ H s) (rx : RelV x v) (k : KtV X.K x H) : s.TypeIs v "tuple" ∧ ∀ a, v = .ref a → ∃ ob, s.heap.get? a = some ob ∧ ob.dict = none := by
  obtain ⟨a, o, rfl, c, d, w⟩ := k
  obtain rfl : v = Value.ref a := rx
  have there : s.heap.get? a = some o := by
    rcases w with w | ⟨xs, w⟩
    · exact I.kIn a o w
    · exact (I.hok a _ w).1
  exact ⟨⟨o, there, c⟩, fun b eb => by cases eb; exact ⟨o, there, d⟩⟩
def tixT : GMt := fun x xs h => match x, xs with
  | .ktup ys, [.int k] => (match mapO inOf ys with
    | some ns => if k ∈ ns then .ok (.int (ns.idxOf k : Nat)) h else .bad
    | none => .bad)
  | _, _ => .bad
theorem n_tix : NoXM tixT := fun x xs h c fs h' e => by
  unfold tixT at e
  split at e
  · split at e
    · split at e <;> cases e
    · cases e
  · cases e
def isKt : T → Bool
  | .ktup _ => true
  | _ => false
theorem isKt_ok {G : Gx} {m : Ml} {H : Hp} {x : T} {v : V} (rx : R G m H x v) (e : isKt x = true) : KtV G.K v H := by
  cases x with
  | ktup ys =>
    simp only [R] at rx
    obtain ⟨b, us, rfl, f, _⟩ := rx
    rcases f with ⟨o, _, _, h1, h2, h3, _⟩ | ⟨o, h1, h2, h3, _⟩
    · exact ⟨b, o, rfl, h2, h3, .inl h1⟩
    · exact ⟨b, o, rfl, h2, h3, .inr ⟨_, h1⟩⟩
  | _ => cases e
theorem tix_ok {G : Gx} {m : Ml} {H : Hp} {hp : MH} {x : T} {xs : List T} {v : V} {vs : List V} {Q : VK} (rel : Rel G m H hp) (rx : R G m H x v) (rs : Rs G m H xs vs) (p : Pst G m H (tixT x xs hp) (fun z m' _ H' => ∀ u, R G m' H' z u → Q u H') W0) : rTix G.K v vs H Q := by
  unfold tixT at p
  split at p
  · rename_i ys k
    obtain ⟨w, t, rfl, rk, rn⟩ := Rs.cons_iff.mp rs
    obtain rfl := Rs.nil_iff.mp rn
    simp only [R] at rk
    subst rk
    split at p
    · rename_i ns en
      split at p
      · rename_i hk
        obtain ⟨a, ws, e1, sq, ra⟩ := tpOf_ok rx (xs := ys) rfl
        subst e1
        have ew := ints_ok ra en
        subst ew
        exact ⟨a, ns, k, rfl, rfl, sq, hk, p.ok_ rel _ (by simp only [R])⟩
      · exact p.elim
    · exact p.elim
  · exact p.elim
/-- t.index(k) -/
def emTix (f : EM) (fa : AM) : EM := fun r h => (f r h).bind fun x h1 => if isKt x = true then (fa r h1).bind fun xs h2 => tixT x xs h2 else .bad
theorem me_tix {o e : Expr} {f : EM} {fa : AM} {apos cpos : Pos} (hu : X.A.units + 66 < cLine) (ho : ME X cl W o f) (ha : MA X cl W [e] fa)
    (hbase : attributeBase o "index" X.env (eval o X.env) = eval o X.env := by rfl)
    (hfew : ((backTo cpos (starEach [e] X.env)).all (fun x => !x.1) && (backToKw cpos (keywordEach [] X.env)).all (fun x => x.1.isSome)
      && decide (([e] : List Expr).length + ([] : List Keyword).length + (if ([] : List Keyword).isEmpty then 0 else 1) < 30)) = true := by rfl)
    (hline : (apos.endLine == cpos.line) = true := by rfl) (hs : starEach [e] X.env = (false, eval e X.env) :: starEach [] X.env := by rfl) (hplain : (backTo cpos (starEach [] X.env)).any (·.1) = false := by rfl) :
    ME X cl W (.Call (.Attribute o "index" apos) [e] [] cpos) (emTix f fa) := ⟨PE.imp (pe_bmW (ty := KtV X.K) PySem.F.plainAttrs_tuple PySem.F.slot_tuple_index PySem.F.type_tuple_index ktV_is (mt_tix hu) ho.pe ha.pa hbase hfew hline hs hplain) fun σ H Q q => by
  obtain ⟨r, hp, m, re, rel, p⟩ := q
  refine ⟨r, hp, m, re, rel, p.bind.mono (fun x m1 h1 H1 s1 q1 v rv => ?_) fun _ _ _ z => z⟩
  obtain ⟨rel1, p1⟩ := q1
  split at p1
  · rename_i hk
    refine ⟨isKt_ok rv hk, r, h1, m1, re.step s1, rel1, p1.bind.mono (fun xs m2 h2 H2 s2 q2 vs rvs => ?_) fun _ _ _ z => z⟩
    exact tix_ok q2.1 (R.step s2 _ _ rv) rvs (q2.2.nox (n_tix _ _ _))
  · exact p1.elim⟩
end
end TW
namespace TW
open PySem PySem.Spec L2 PyProof.Rows
/-! ### list(a dict with tuple keys that nothing changes) -/
def listDF (k : List T → MH → Res T) : FM := on1 fun x h => match x with
  | .dT ks _ => k (ks.map fun k => .tup (k.map kTr)) h
  | _ => .bad
theorem n_listD {k : List T → MH → Res T} (hk : k = lstK ∨ k = lstL) : NoXF (listDF k) := on1_nox fun x h c fs h' e => by
  split at e
  · exact lst_two_nox hk _ _ _ _ _ e
  · cases e
theorem rs_keys {G : Gx} {m : Ml} {H : Hp} {hp : MH} (rel : Rel G m H hp) : ∀ {ks : List (List Key)} {vs : List V} {bs : List Addr}, ks.length = vs.length → IsKeys H (ks.zip vs) bs → Rs G m H (ks.map fun k => .tup (k.map kTr)) (bs.map V.ref)
  | [], [], _, _, .nil => Rs.nil
  | k :: ks, v :: vs, _, hl, .cons (b := b) h t => Rs.cons (by
    simp only [R]
    exact ⟨b, _, rfl, ⟨h, tup_no rel h⟩, rs_kTr k⟩) (rs_keys rel (by simpa using hl) t)
theorem c_listD {X : Cx} {cl : Cln} {k : List T → MH → Res T} (hk : k = lstK ∨ k = lstL) (hc : X.calm = true) : CallR X (.type "list") (rMC (gx X cl) (listDF k)) := CallR.imp (call_list_dT hc) fun vs H Q q => by
  obtain ⟨m, hp, xs, rel, rs, p⟩ := q
  obtain ⟨x, v, rfl, rx, p⟩ := on1_ok rs p
  split at p
  · rename_i ks ys
    simp only [R] at rx
    obtain ⟨a, us, rfl, ⟨rd, no⟩, hl, _⟩ := rx
    exact ⟨a, _, rfl, rd, fun q bs hq ik => (lst_two hk rel (rs_keys rel hl ik) p).2 q hq⟩
  · exact p.elim
end TW
namespace TW
open PySem PySem.Spec L2 PyProof.Rows PySem.W PySem.SeqAt
/-! ### sorted() of data of any depth, tuples among which the empty one may stand -/
section
variable {prog : Program} {w : World} {A : Around} {E : Value → Shared → Prop} {s : Shared}
/-- mapM, item by item, the state as it is -/
theorem mapM_tells {α β : Type} {F : α → Sem β} {P : α → β → Prop} : ∀ (l : List α) {Q : List β → Shared → Prop}, (∀ v ∈ l, ∃ r, P v r ∧ ∀ Q' : β → Shared → Prop, Q' r s → wpAny (model prog w) A (F v) Q' E s) → (∀ rs, EachIs P l rs → Q rs s) → wpAny (model prog w) A (l.mapM F) Q E s
  | [], Q, _, q => by
    rw [List.mapM_nil]
    exact wpAny_pure (q [] .nil)
  | v :: l, Q, h, q => by
    obtain ⟨r, p, hr⟩ := h v List.mem_cons_self
    rw [List.mapM_cons]
    refine wpAny_bind (hr _ ?_)
    refine wpAny_bind (mapM_tells l (Q := fun rs s' => wpAny (model prog w) A (pure (r :: rs)) Q E s') (fun u hu => h u (List.mem_cons_of_mem _ hu)) fun rs e => ?_)
    exact wpAny_pure (q _ (.cons p e))
theorem each_mem_l {α β : Type} {R : α → β → Prop} : ∀ {as : List α} {bs : List β} {a : α}, EachIs R as bs → a ∈ as → ∃ b ∈ bs, R a b
  | _, _, _, .nil, h => nomatch h
  | _, _, _, .cons r t, h => by
    rcases List.mem_cons.mp h with rfl | h
    · exact ⟨_, List.mem_cons_self, r⟩
    · obtain ⟨b, hb, rb⟩ := each_mem_l t h
      exact ⟨b, List.mem_cons_of_mem _ hb, rb⟩
theorem each_mem_r {α β : Type} {R : α → β → Prop} : ∀ {as : List α} {bs : List β} {b : β}, EachIs R as bs → b ∈ bs → ∃ a ∈ as, R a b
  | _, _, _, .nil, h => nomatch h
  | _, _, _, .cons r t, h => by
    rcases List.mem_cons.mp h with rfl | h
    · exact ⟨_, List.mem_cons_self, r⟩
    · obtain ⟨b, hb, rb⟩ := each_mem_r t h
      exact ⟨b, List.mem_cons_of_mem _ hb, rb⟩
/-- the kind that is taken: by the first one -/
def kdOf : List PyData → SortKind
  | .tuple [] :: _ => oneType'
  | _ => general'
/-- tuples, the empty one among them: no kind for tuples -/
theorem kind_mixed {vs : List Value} {ds : List PyData} {Q : SortKind → Shared → Prop} (e : EachIs (fun v d => ∃ as, Reads s.heap v d as) vs ds) (ht : ∀ d, d ∈ ds → ∃ xs, d = .tuple xs) (hm : PyData.tuple [] ∈ ds)
    (q : Q (kdOf ds) s) : wpAny (model prog w) A (keyKind' vs.toArray) Q E s := by
  have tt : ∀ v ∈ vs, ∃ xs as, Reads s.heap v (.tuple xs) as := fun v hv => by
    obtain ⟨d, hd, as, r⟩ := each_mem_l e hv
    obtain ⟨xs, rfl⟩ := ht d hd
    exact ⟨xs, as, r⟩
  obtain ⟨v0, hv0, as0, r0⟩ := each_mem_r e hm
  rw [keyKind'_eq, List.mapM_toArray, map_eq_pure_bind]
  refine wpAny_bind (wpAny_bind (mapM_tells (P := fun v r => (∀ as, Reads s.heap v (.tuple []) as → r = none) ∧ ∀ x xs as, Reads s.heap v (.tuple (x :: xs)) as → r.isSome = true) vs (fun v hv => ?_) fun rs er => wpAny_pure ?_))
  · obtain ⟨xs, as, r⟩ := tt v hv
    have ty := looks_reads (M := model prog w) r
    cases r with
    | @tuple a o its n _ _ ho hc hd hr =>
      refine ⟨its[0]?, ⟨fun as' r' => ?_, fun x xs as' r' => ?_⟩, fun Q' hq => ?_⟩
      · cases r' with
        | tuple ho' hc' hd' hr' =>
          rw [ho] at ho'
          cases ho'
          rw [hd] at hd'
          cases hd'
          generalize el : its.toList = l at hr'
          cases hr'
          rw [← Array.getElem?_toList, el]
          rfl
      · cases r' with
        | tuple ho' hc' hd' hr' =>
          rw [ho] at ho'
          cases ho'
          rw [hd] at hd'
          cases hd'
          generalize el : its.toList = l at hr'
          cases hr'
          rw [← Array.getElem?_toList, el]
          rfl
      · show wpAny (model prog w) A (do
          if (← typeOf (Value.ref a)) != .type "tuple" then return none
          return (← Builtin.List.listItems (Value.ref a))[0]?) Q' E s
        refine wpAny_bind (ty.here ?_)
        rw [if_neg (by simp [dataType])]
        refine wpAny_bind (listItems_at ho hd ?_)
        exact wpAny_pure hq
  · have hall : (rs.toArray.all fun r => r.isSome) = false := by
      obtain ⟨r, hr, p⟩ := each_mem_l er hv0
      have hn := p.1 as0 r0
      subst hn
      rw [Bool.eq_false_iff]
      intro z
      rw [List.all_toArray, List.all_eq_true] at z
      exact absurd (z _ hr) (by decide)
    rw [if_neg (by rw [hall]; exact Bool.false_ne_true)]
    by_cases hf : (rs.toArray[0]?.bind id).isSome = true
    · rw [if_pos hf]
      have ek : kdOf ds = general' := by
        cases e with
        | nil => rfl
        | cons r t =>
          cases er with
          | cons p pt =>
            obtain ⟨as, r⟩ := r
            unfold kdOf
            split
            · rename_i h
              cases h
              have z := p.1 as r
              subst z
              exact absurd hf (by simp)
            · rfl
      rw [ek] at q
      exact wpAny_pure q
    · rw [if_neg hf, oneTypeOnly'_eq, List.mapM_toArray, map_eq_pure_bind]
      refine wpAny_bind (wpAny_bind (wpAny_bind (mapM_tells (P := fun _ t => t = Value.type "tuple") vs (fun v hv => ?_) fun ts et => wpAny_pure ?_)))
      · obtain ⟨xs, as, r⟩ := tt v hv
        exact ⟨_, rfl, fun Q' hq => (looks_reads (M := model prog w) r).here hq⟩
      · have ha : (ts.toArray.all fun x => x == Value.type "tuple") = true := by
          rw [List.all_toArray, List.all_eq_true]
          intro t h
          obtain ⟨_, _, rfl⟩ := each_mem_r et h
          exact beq_self_eq_true _
        cases ts with
        | nil =>
          cases et
          exact nomatch hv0
        | cons t ts =>
          obtain ⟨_, _, rfl⟩ := each_mem_r et List.mem_cons_self
          have h0 : (Value.type "tuple" :: ts).toArray[0]? = some (Value.type "tuple") := by simp
          rw [h0]
          dsimp only
          rw [if_pos ha]
          have ek : kdOf ds = oneType' := by
            cases e with
            | nil => exact nomatch hv0
            | @cons v d _ _ r t =>
              cases er with
              | cons p pt =>
                obtain ⟨as, r⟩ := r
                obtain ⟨xs, rfl⟩ := ht d List.mem_cons_self
                cases xs with
                | nil => rfl
                | cons x xs => exact absurd (show _ from by simpa using p.2 x xs as r) hf
          rw [ek] at q
          exact wpAny_pure (wpAny_pure q)
theorem tuple_ltD {xs ys : List PyData} {a b : Value} {as bs : List Addr} {Q : Bool → Shared → Prop} (ra : Reads s.heap a (.tuple xs) as) (rb : Reads s.heap b (.tuple ys) bs) (h : alike (.tuple xs) (.tuple ys) = true)
    (hu : A.units + min (PyData.tuple xs).depth (PyData.tuple ys).depth < cLine) (hq : Q (dataLt (.tuple xs) (.tuple ys)) s) : wpAny (model prog w) A (oneLt' true a b) Q E s := by
  have hal : alikeAll xs ys = true := by simpa [alike] using h
  cases ra with
  | @tuple l o vs n _ _ h1 h2 h3 h4 =>
    cases rb with
    | @tuple l' o' ws n' _ _ k1 k2 k3 k4 =>
      obtain ⟨cl1, dc1, da1, sl1⟩ := o
      obtain ⟨cl2, dc2, da2, sl2⟩ := o'
      dsimp only at h2 h3 k2 k3
      subst h2 h3 k2 k3
      have e1 : vs.size = xs.length := by simpa using SeqAt.ReadsAll.length _ _ _ h4
      have e2 : ws.size = ys.length := by simpa using SeqAt.ReadsAll.length _ _ _ k4
      rw [dataLt_tuple, ← firstLt_toks xs ys hal, ← e1, ← e2] at hq
      have ask : ∀ Q' : Value → Shared → Prop, Q' (.bool (firstLt (pairEq xs ys) (fun j => dataLt (xs.getD j .none) (ys.getD j .none)) (decide (vs.size < ws.size)) (List.range (min vs.size ws.size)))) s → wpAny (model prog w) A (call (.builtin "tuple.__lt__") [.ref l, .ref l']) Q' E s := fun Q' hq' =>
        call_meets F.slot_tuple_lt ⟨_, h1, rfl⟩ F.entry_tuple_lt (F.args_tuple_lt_2 _ _) (tuple_ltAt l l' vs ws n n' dc1 dc2 sl1 sl2 (pairEq xs ys) fun j => dataLt (xs.getD j .none) (ys.getD j .none))
          ⟨h1, k1, fun j j1 j2 => by
              have q := eqAt_alikeAll xs ys A.in1 s vs.toList ws.toList _ _ h4 k4 hal (room_in hu) j (by simpa using j1) (by simpa using j2)
              rw [Array.getElem_toList, Array.getElem_toList] at q
              exact q,
            fun j j1 j2 z => by
              have q := rcLt_alikeAll xs ys A.in1 s vs.toList ws.toList _ _ h4 k4 hal (room_in hu) j (by simpa using j1) (by simpa using j2) z
              rw [Array.getElem_toList, Array.getElem_toList] at q
              exact q, hq'⟩
      rw [oneLt'_eq, if_pos rfl]
      refine wpAny_bind (wpAny_cRoomFor (room_here hu) ?_)
      exact wpAny_bind (wpAny_callSpecialIfBound?_slot (T := "tuple") ⟨_, h1, rfl⟩ F.slot_tuple_lt (ask _ (wpAny_truthy_bool hq)))
/-- tuples are sorted, the empty one too -/
theorem sorts_tups {vs : List Value} {ds : List PyData} (e : EachIs (fun v d => ∃ as, Reads s.heap v d as) vs ds) (hal : AllAlike ds) (ht : ∀ d, d ∈ ds → ∃ xs, d = .tuple xs) (hu : ∀ d, d ∈ ds → A.units + d.depth < cLine) : SortsAt prog w A s (dataKind s.heap ds) vs := by
  by_cases hm : PyData.tuple [] ∈ ds
  · refine ⟨fun v hv => ?_, ?_⟩
    · obtain ⟨d, hd, as, r⟩ := each_mem_l e hv
      exact ⟨_, dataKind_some hal hd r⟩
    · have ask : ∀ kd, kd = general' ∨ kd = oneType' → H.LtAt prog w A s (dataKind s.heap ds) kd := by
        intro kd hk E x y a b Q ha hb hq
        obtain ⟨d, as, hd, ra, rfl⟩ := dataKind_inv ha
        obtain ⟨d', as', hd', rb, rfl⟩ := dataKind_inv hb
        have hr : A.units + min d.depth d'.depth < cLine := Nat.lt_of_le_of_lt (Nat.add_le_add_left (Nat.min_le_left _ _) _) (hu d hd)
        obtain ⟨xs, rfl⟩ := ht d hd
        obtain ⟨ys, rfl⟩ := ht d' hd'
        rcases hk with rfl | rfl
        · exact oneLt_alike (f := false) (fun z => Bool.noConfusion z) ra rb (hal _ hd _ hd') (fun z => nomatch z) hr hq
        · exact tuple_ltD ra rb (hal _ hd _ hd') hr hq
      refine ⟨kdOf ds, ask _ ?_, fun _ E Q hq => kind_mixed e ht hm hq⟩
      unfold kdOf
      split
      · exact .inr rfl
      · exact .inl rfl
  · refine SortsAt.data e hal (.inl fun d hd => ?_) hu
    obtain ⟨xs, rfl⟩ := ht d hd
    cases xs with
    | nil => exact absurd hd hm
    | cons x r => exact ⟨x, r, rfl⟩
end
/-- what can be sorted as data: alike; all tuples, or none a tuple or None -/
def srtB (ds : List PyData) : Bool := (ds.all fun d => ds.all fun e => alike d e) && ((ds.all fun d => match d with
    | .tuple _ => true
    | _ => false) || ds.all fun d => match d with
    | .tuple _ => false
    | .none => false
    | _ => true)
theorem srtB_alike {ds : List PyData} (h : srtB ds = true) : AllAlike ds := fun d hd e he => by
  unfold srtB at h
  rw [Bool.and_eq_true, List.all_eq_true] at h
  exact List.all_eq_true.mp (h.1 d hd) e he
section
variable {X : Cx} {cl : Cln} {G : Gx} {m : Ml} {H : Hp}
theorem srtB_sorts {A : Around} {s : Shared} {vs : List Value} {ds : List PyData} (h : srtB ds = true) (e : EachIs (fun v d => ∃ as, Reads s.heap v d as) vs ds) (hu : ∀ d, d ∈ ds → A.units + d.depth < cLine) : SortsAt X.prog X.w A s (dataKind s.heap ds) vs := by
  have hal := srtB_alike h
  unfold srtB at h
  rw [Bool.and_eq_true, Bool.or_eq_true] at h
  rcases h.2 with h | h
  · refine sorts_tups e hal (fun d hd => ?_) hu
    have q := List.all_eq_true.mp h d hd
    cases d with
    | tuple xs => exact ⟨xs, rfl⟩
    | _ => exact absurd q (by simp)
  · refine SortsAt.data e hal (.inr fun d hd => ?_) hu
    have q := List.all_eq_true.mp h d hd
    refine ⟨?_, fun xs => ?_⟩ <;> (rintro rfl; exact absurd q (by simp))
theorem each_dp {pins : List (Addr × Obj)} {s : Shared} {σ : L2.St} (I : Inv X pins σ H s) : ∀ {ws : List V} {ds : List PyData} {us : List Value}, DpAll X.K H ws ds → Vals ws us → EachIs (fun v d => ∃ as, Reads s.heap v d as) us ds
  | _, _, _, .nil, .nil => .nil
  | _, _, _, .cons d t, .cons r rt => .cons (Dp.reads I _ _ _ d r) (each_dp I t rt)
theorem each_val {β : Type} {fv : β → V} : ∀ {bs : List β} {us : List Value}, Vals (bs.map fv) us → EachIs (fun u b => RelV (fv b) u) us bs
  | [], us, h => by
    cases h
    exact .nil
  | b :: bs, us, h => by
    cases h with
    | cons r t => exact .cons r (each_val t)
theorem val_each {β : Type} {fv : β → V} : ∀ {bs : List β} {us : List Value}, EachIs (fun u b => RelV (fv b) u) us bs → Vals (bs.map fv) us
  | _, _, .nil => .nil
  | _, _, .cons r t => .cons r (val_each t)
/-- sorted() of whatever is collected -/
theorem sorted_ofD {β : Type} {fv : β → V} {fd : β → PyData} {bs : List β} {pins : List (Addr × Obj)} {s : Shared} {σ : L2.St} {Q : VK} {l : Addr} (I : Inv X pins σ H s) (hl : bs.length ≤ sizeLine) (hd : DpAll X.K H (bs.map fv) (bs.map fd)) (hb : srtB (bs.map fd) = true) (hu : X.A.units + 66 < cLine) (hdp : ∀ b ∈ bs, (fd b).depth ≤ deep)
    (hcol : ∀ (Q' : List Value → Shared → Prop), (∀ (h' : Heap) (tk : Nat) (us : List Value), (∀ b u, s.heap.get? b = some u → h'.get? b = some u) → Vals (bs.map fv) us → Q' us { s with heap := h', toks := tk }) → wpAny (model X.prog X.w) X.A.in1 (collect (.ref l)) Q' X.xe s)
    (q : ∀ p, H p = none → Q (.ref p) (upd H p (.lst ((bs.mergeSort (dataLe false fd)).map fv)))) : wpAny (model X.prog X.w) X.A (call (.builtin "sorted") [.ref l]) (EP X pins σ Q) X.xe s := by
  refine Calls.call_function_entry kind_sorted plain_sorted entry_sorted (args_sorted1 _) ?_
  unfold Builtin.«sorted»
  refine wpAny_bind (m := checkCount "sorted" 1 1 _) (wpAny_pure ?_)
  refine wpAny_bind (hcol _ fun h' tk us kp rv => ?_)
  have I1 : Inv X pins σ H { s with heap := h', toks := tk } := I.kept kp
  have hz : us.length ≤ sizeLine := by
    have := rv.length
    rw [List.length_map] at this
    omega
  have old : ∀ b u, h'.get? b = some u → (sortingHeap (h'.push (seqObj "list" us.toArray 0)) h'.objs.size us).get? b = some u := fun b u e =>
    sortingHeap_old (Nat.ne_of_lt (Heap.lt_size e)) (Heap.get?_push_of_some _ e)
  have er := each_dp I1 hd rv
  have er2 : EachIs (fun v d => ∃ as, Reads (sortingHeap (h'.push (seqObj "list" us.toArray 0)) h'.objs.size us) v d as) us (bs.map fd) := er.mono fun _ _ ⟨as, r⟩ => ⟨as, PyProof.Rows.Reads.keeps old r⟩
  have done := val_each (sortVals_data (h' := sortingHeap (h'.push (seqObj "list" us.toArray 0)) h'.objs.size us) false (each_val rv) (each_of_map fd er2) (srtB_alike hb))
  have hoL : (h'.push (seqObj "list" us.toArray 0)).get? h'.objs.size = some (seqObj "list" us.toArray 0) := Heap.get?_push_size _ rfl
  refine wpAny_bind (wpAny_newList ?_ hz)
  refine wpAny_bind (wpAny_holding (PySem.wpAny_call_entry slot_list_sort ⟨_, hoL, rfl⟩ entry_list_sort (list_sort_vals hoL (srtB_sorts (s := { s with heap := sortingHeap (h'.push (seqObj "list" us.toArray 0)) h'.objs.size us, toks := tk }) hb er2 fun d hd => ?_) hz ⟨_, rfl, ?_⟩) (args_list_sort _)))
  · obtain ⟨b, hm, rfl⟩ := List.mem_map.mp hd
    have := hdp b hm
    show X.A.units + 1 + 1 + (fd b).depth < cLine
    have : deep = 14 := rfl
    omega
  obtain ⟨c, hc⟩ := sortedHeap_at (vs := us) (out := (sortVals (dataKind (sortingHeap (h'.push (seqObj "list" us.toArray 0)) h'.objs.size us) (bs.map fd)) false us us).toArray) hoL
  refine wpAny_pure ⟨_, rfl, .ref _, _, ?_, rfl, q _ (I1.hok.fresh (Nat.le_refl _))⟩
  refine I1.laid (t' := tk) (fun b u g => ?_) (Nat.le_refl _) ⟨by rw [List.length_map, List.length_mergeSort]; exact hl, _, c, done, hc⟩
  have hb := Heap.lt_size g
  rw [sortedHeap_old (Nat.ne_of_lt hb) (by rw [size_push']; exact Nat.lt_succ_of_lt hb)]
  exact Heap.get?_push_of_some _ g
end
end TW
namespace TW
open PySem PySem.Spec L2 PyProof.Rows PySem.W PySem.SeqAt
/-- what is sorted as data: a list, a tuple, a dict with tuple keys by its keys -/
def sdOf (h : MH) (x : T) : Option (List T) := match lsOf h x with
  | some xs => some xs
  | none => (match tpOf x with
    | some xs => some xs
    | none => (match x with
      | .dT ks _ => some (ks.map fun k => .tup (k.map kTr))
      | .loc n => (match h[n]? with
        | some (.dT kvs) => some ((kvs.map (·.1)).map fun k => .tup (k.map kTr))
        | _ => none)
      | _ => none))
def sortDF (k : List T → MH → Res T) : FM := on1 fun x h => match sdOf h x with
  | some xs => if ((xs.all fun x => (toD h deep x).isSome) && srtB (xs.map (datD h))) = true then k (xs.mergeSort (dataLe false (datD h))) h else .bad
  | none => .bad
theorem n_sortD {k : List T → MH → Res T} (hk : k = lstK ∨ k = lstL) : NoXF (sortDF k) := on1_nox fun x h c fs h' e => by
  split at e
  · split at e
    · exact lst_two_nox hk _ _ _ _ _ e
    · cases e
  · cases e
section
variable {X : Cx} {cl : Cln} {G : Gx} {m : Ml} {H : Hp} {hp : MH}
theorem rs_zip : ∀ {xs : List T} {vs : List V}, Rs G m H xs vs → (xs.zip vs).map Prod.fst = xs ∧ (xs.zip vs).map Prod.snd = vs ∧ ∀ p ∈ xs.zip vs, R G m H p.1 p.2
  | [], vs, h => by
    rw [Rs.nil_iff.mp h]
    exact ⟨rfl, rfl, fun _ z => nomatch z⟩
  | x :: xs, vs, h => by
    obtain ⟨v, r, rfl, h1, h2⟩ := Rs.cons_iff.mp h
    obtain ⟨a, b, c⟩ := rs_zip h2
    refine ⟨by rw [List.zip_cons_cons, List.map_cons, a], by rw [List.zip_cons_cons, List.map_cons, b], fun p hp => ?_⟩
    rw [List.zip_cons_cons] at hp
    rcases List.mem_cons.mp hp with rfl | hp
    · exact h1
    · exact c p hp
theorem rs_unzip : ∀ {zs : List (T × V)}, (∀ p ∈ zs, R G m H p.1 p.2) → Rs G m H (zs.map Prod.fst) (zs.map Prod.snd)
  | [], _ => Rs.nil
  | z :: zs, h => Rs.cons (h z List.mem_cons_self) (rs_unzip fun p hp => h p (List.mem_cons_of_mem _ hp))
theorem dp_zip (rel : Rel G m H hp) : ∀ {zs : List (T × V)}, (∀ p ∈ zs, R G m H p.1 p.2) → (∀ p ∈ zs, (toD hp deep p.1).isSome = true) → DpAll G.K H (zs.map Prod.snd) (zs.map fun p => datD hp p.1)
  | [], _, _ => .nil
  | z :: zs, h, d => by
    refine .cons ?_ (dp_zip rel (fun p hp => h p (List.mem_cons_of_mem _ hp)) fun p hp => d p (List.mem_cons_of_mem _ hp))
    obtain ⟨e, he⟩ := Option.isSome_iff_exists.mp (d z List.mem_cons_self)
    show Dp G.K H z.2 (datD hp z.1)
    unfold datD
    rw [he]
    exact toD_ok rel deep z.1 z.2 e (h z List.mem_cons_self) he
/-- what is collected is sorted -/
theorem sortD_at {k : List T → MH → Res T} (hk : k = lstK ∨ k = lstL) {pins : List (Addr × Obj)} {s : Shared} {σ : L2.St} {Q : VK} {xs : List T} {ws : List V} {a : Addr} {m : Ml} (I : Inv X pins σ H s) (hu : X.A.units + 66 < cLine) (rel : Rel (gx X cl) m H hp) (rs : Rs (gx X cl) m H xs ws)
    (hd : ∀ x ∈ xs, (toD hp deep x).isSome = true) (hb : srtB (xs.map (datD hp)) = true)
    (hcol : ∀ (Q' : List Value → Shared → Prop), (∀ (h' : Heap) (tk : Nat) (us : List Value), (∀ b u, s.heap.get? b = some u → h'.get? b = some u) → Vals ws us → Q' us { s with heap := h', toks := tk }) → wpAny (model X.prog X.w) X.A.in1 (collect (.ref a)) Q' X.xe s)
    (p : Pst (gx X cl) m H (k (xs.mergeSort (dataLe false (datD hp))) hp) (fun z m' _ H' => ∀ u, R (gx X cl) m' H' z u → Q u H') W0) : wpAny (model X.prog X.w) X.A (call (.builtin "sorted") [.ref a]) (EP X pins σ Q) X.xe s := by
  obtain ⟨z1, z2, z3⟩ := rs_zip rs
  have srt : ((xs.zip ws).mergeSort (dataLe false fun b => datD hp b.1)).map Prod.fst = xs.mergeSort (dataLe false (datD hp)) := by
    have q := List.map_mergeSort (r := dataLe false fun b : T × V => datD hp b.1) (s := dataLe false (datD hp)) (f := Prod.fst) (l := xs.zip ws) fun _ _ _ _ => rfl
    rw [q, z1]
  have rys := rs_unzip (G := gx X cl) (m := m) (H := H) (zs := (xs.zip ws).mergeSort (dataLe false fun b => datD hp b.1)) fun p hp => z3 p ((List.mergeSort_perm _ _).mem_iff.mp hp)
  rw [srt] at rys
  obtain ⟨hl, fin⟩ := lst_two hk rel rys p
  rw [List.length_mergeSort] at hl
  have mem : ∀ p ∈ xs.zip ws, p.1 ∈ xs := fun p hp => z1 ▸ List.mem_map_of_mem hp
  have em : (xs.zip ws).map (fun b => datD hp b.1) = xs.map (datD hp) := by
    conv => rhs; rw [← z1, List.map_map]
    all_goals rfl
  refine sorted_ofD (fv := Prod.snd) (fd := fun b => datD hp b.1) (bs := xs.zip ws) I ?_ (dp_zip rel z3 fun p hp => hd _ (mem p hp)) (by rw [em]; exact hb) hu (fun b hb' => ?_) (fun Q' hq => hcol Q' fun h' tk us kp rv => hq h' tk us kp (by rw [z2]; exact rv)) fin
  · have : (xs.zip ws).length = xs.length := by
      conv => rhs; rw [← z1, List.length_map]
    omega
  · obtain ⟨d, he⟩ := Option.isSome_iff_exists.mp (hd _ (mem b hb'))
    show (datD hp b.1).depth ≤ deep
    unfold datD
    rw [he]
    exact (toD_plain deep b.1 d he).2
/-- collect of a dict with tuple keys: where its keys lie -/
theorem coll_dT (hc : X.calm = true) {pins : List (Addr × Obj)} {s : Shared} {σ : L2.St} {d : Addr} {kvs : List (List Key × V)} (I : Inv X pins σ H s) (rd : Rd H d (.dT kvs)) : ∃ bs, IsKeys H kvs bs ∧ ∀ (Q' : List Value → Shared → Prop), (∀ (h' : Heap) (tk : Nat) (us : List Value), (∀ b u, s.heap.get? b = some u → h'.get? b = some u) → Vals (bs.map V.ref) us → Q' us { s with heap := h', toks := tk }) → wpAny (model X.prog X.w) X.A.in1 (collect (.ref d)) Q' X.xe s := by
  obtain ⟨z, hs, ks, pr, o, es, ep, ho, hx, hdt, he, hn⟩ := (show ObjOk X.prog X.w H s.heap d (.dT kvs) from rd.ok I.hok)
  have l1 : es.size = ks.length := by rw [← Array.length_toList, he, List.length_map]
  have l2 := Paired.length pr
  refine ⟨ks.map fun x => x.2.1, isKeys_of pr, fun Q' hq => ?_⟩
  refine PySem.W.kdu_collect (L2.kdl_raw hs hx hdt) (I.ok.hd hc) ho (by omega) fun h' tk acc kp it => hq h' tk acc.toList kp (vals_of_at ?_ fun j x w h1 h2 => ?_)
  · rw [List.length_map, List.length_map, ← l1, ← it.1]
    exact Array.length_toList.symm
  · obtain ⟨en, q1, q2⟩ := it.2 j w (by rw [← Array.getElem?_toList]; exact h2)
    rw [← Array.getElem?_toList, he, List.getElem?_map] at q1
    obtain ⟨b, q3, q4⟩ := Option.map_eq_some_iff.mp q1
    rw [List.getElem?_map, List.getElem?_map, q3] at h1
    cases h1
    rw [q2, ← q4]
    exact rfl
theorem c_sortD {k : List T → MH → Res T} (hk : k = lstK ∨ k = lstL) (hc : X.calm = true) (hu : X.A.units + 66 < cLine) : CallR X (.builtin "sorted") (rMC (gx X cl) (sortDF k)) := by
  intro pins s σ H vs us Q I rv q
  obtain ⟨m, hp, xs, rel, rs, p⟩ := q
  obtain ⟨x, v, rfl, rx, p⟩ := on1_ok rs p
  split at p
  · rename_i xs en
    split at p
    · rename_i ok
      rw [Bool.and_eq_true, List.all_eq_true] at ok
      unfold sdOf at en
      split at en
      · rename_i ys e1
        cases en
        obtain ⟨a, ws, rfl, sq, rws⟩ := lsOf_ok rel rx e1
        obtain ⟨its, r1, pl, hz⟩ := I.list sq
        rw [Vals.ref1 rv]
        refine sortD_at hk I hu rel rws ok.1 ok.2 (fun Q' hq => ?_) p
        have hlen := r1.length
        refine PyProof.Rows.collect_list pl.isList (hq _ s.toks its kept_upd r1) (by omega)
      · split at en
        · rename_i ys e1
          cases en
          obtain ⟨a, ws, rfl, sq, rws⟩ := tpOf_ok rx e1
          obtain ⟨its, r1, pl, hz⟩ := I.tuple sq
          rw [Vals.ref1 rv]
          refine sortD_at hk I hu rel rws ok.1 ok.2 (fun Q' hq => ?_) p
          have hlen := r1.length
          refine coll_tup pl (hq _ s.toks its kept_upd r1) (by omega)
        · split at en
          · rename_i ks ys _ _
            cases en
            simp only [R] at rx
            obtain ⟨a, ws, rfl, ⟨rd, no⟩, hl, _⟩ := rx
            obtain ⟨bs, ik, hcol⟩ := coll_dT hc I rd
            rw [Vals.ref1 rv]
            exact sortD_at hk I hu rel (rs_keys rel hl ik) ok.1 ok.2 hcol p
          · split at en
            · rename_i n _ _ _ kvs eo
              cases en
              obtain ⟨a, _, rfl, q, hq, rk⟩ := rel.cell rx eo
              obtain ⟨bs, ik, hcol⟩ := coll_dT hc I (.inl hq)
              rw [Vals.ref1 rv]
              have e2 : q = (kvs.map (·.1)).zip (q.map (·.2)) := by
                rw [rk.1, List.zip_map']
                exact (List.map_id q).symm
              rw [e2] at ik
              exact sortD_at hk I hu rel (rs_keys rel (by rw [rk.1, List.length_map, List.length_map]) ik) ok.1 ok.2 hcol p
            · cases en
          · cases en
    · exact p.elim
  · exact p.elim
end
end TW
namespace TW
open PySem PySem.Spec L2 PyProof.Rows
/-! ### dicts whose keys are tuples of any depth -/
mutual
def nkOf : T → Option NestedKey
  | .non => some .none
  | .int i => some (.num i)
  | .str s => some (.text s)
  | .tup xs => (nksOf xs).map .tup
  | _ => none
def nksOf : List T → Option (List NestedKey)
  | [] => some []
  | x :: xs => match nkOf x with
    | some k => (match nksOf xs with
      | some ks => some (k :: ks)
      | none => none)
    | none => none
end
mutual
def keyT : NestedKey → T
  | .none => .non
  | .num i => .int i
  | .text s => .str s
  | .tup ks => .tup (keyTs ks)
def keyTs : List NestedKey → List T
  | [] => []
  | k :: ks => keyT k :: keyTs ks
end
section
variable {G : Gx} {m : Ml} {H : Hp}
mutual
theorem nk_ok : ∀ (x : T) (v : V) (k : NestedKey), R G m H x v → nkOf x = some k → KeyAt m H k v
  | .non, _, _, h, e => by
    cases e
    simp only [R] at h
    simp only [KeyAt]
    exact h
  | .int _, _, _, h, e => by
    cases e
    simp only [R] at h
    simp only [KeyAt]
    exact h
  | .str _, _, _, h, e => by
    cases e
    simp only [R] at h
    simp only [KeyAt]
    exact h
  | .tup xs, _, _, h, e => by
    obtain ⟨ks, e1, rfl⟩ := Option.map_eq_some_iff.mp (show (nksOf xs).map NestedKey.tup = some _ from e)
    simp only [R] at h
    simp only [KeyAt]
    obtain ⟨a, vs, rfl, f, rs⟩ := h
    exact ⟨a, vs, rfl, f, nks_ok xs vs ks rs e1⟩
  | .bl _, _, _, _, e => nomatch e
  | .ktup _, _, _, _, e => nomatch e
  | .lst _, _, _, _, e => nomatch e
  | .klst _, _, _, _, e => nomatch e
  | .set _, _, _, _, e => nomatch e
  | .dK _ _, _, _, _, e => nomatch e
  | .dT _ _, _, _, _, e => nomatch e
  | .dN _ _, _, _, _, e => nomatch e
  | .obj _ _ _, _, _, _, e => nomatch e
  | .loc _, _, _, _, e => nomatch e
  | .ty _, _, _, _, e => nomatch e
  | .cls _, _, _, _, e => nomatch e
theorem nks_ok : ∀ (xs : List T) (vs : List V) (ks : List NestedKey), Rs G m H xs vs → nksOf xs = some ks → KeyAll m H ks vs
  | [], _, _, h, e => by
    cases e
    simp only [KeyAll]
    exact Rs.nil_iff.mp h
  | x :: xs, _, _, h, e => by
    obtain ⟨v, r, rfl, h1, h2⟩ := Rs.cons_iff.mp h
    simp only [nksOf] at e
    split at e
    · rename_i k ek
      split at e
      · rename_i ks eks
        cases e
        simp only [KeyAll]
        exact ⟨v, r, rfl, nk_ok x v k h1 ek, nks_ok xs r ks h2 eks⟩
      · cases e
    · cases e
end
mutual
theorem key_r : ∀ (k : NestedKey) (v : V), KeyAt m H k v → R G m H (keyT k) v
  | .none, _, h => by
    simp only [KeyAt] at h
    simp only [keyT, R]
    exact h
  | .num _, _, h => by
    simp only [KeyAt] at h
    simp only [keyT, R]
    exact h
  | .text _, _, h => by
    simp only [KeyAt] at h
    simp only [keyT, R]
    exact h
  | .tup ks, _, h => by
    simp only [KeyAt] at h
    simp only [keyT, R]
    obtain ⟨a, vs, rfl, f, rs⟩ := h
    exact ⟨a, vs, rfl, f, keys_r ks vs rs⟩
theorem keys_r : ∀ (ks : List NestedKey) (vs : List V), KeyAll m H ks vs → Rs G m H (keyTs ks) vs
  | [], _, h => by
    simp only [KeyAll] at h
    exact Rs.nil_iff.mpr h
  | k :: ks, _, h => by
    simp only [KeyAll] at h
    obtain ⟨v, r, rfl, h1, h2⟩ := h
    exact Rs.cons (key_r k v h1) (keys_r ks r h2)
end
mutual
theorem key_is {P : Program} {w : World} {h : Heap} (ok : HOk P w H h) : ∀ (k : NestedKey) (v : V) (u : Value), KeyAt m H k v → RelV v u → NestedIs h k u
  | .none, _, _, ka, r => by
    simp only [KeyAt] at ka
    subst ka
    cases r
    exact .none
  | .num _, _, _, ka, r => by
    simp only [KeyAt] at ka
    subst ka
    obtain ⟨t, rfl⟩ := r
    exact .int _ _
  | .text _, _, _, ka, r => by
    simp only [KeyAt] at ka
    subst ka
    obtain ⟨t, rfl⟩ := r
    exact .text _ _
  | .tup ks, _, _, ka, r => by
    simp only [KeyAt] at ka
    obtain ⟨a, vs, rfl, f, kl⟩ := ka
    cases r
    obtain ⟨_, its, rv, o, e1, e2, n, e3⟩ := ok a _ f.1
    exact .tup e1 e2 e3 (keys_is ok ks vs its kl rv)
theorem keys_is {P : Program} {w : World} {h : Heap} (ok : HOk P w H h) : ∀ (ks : List NestedKey) (vs : List V) (us : List Value), KeyAll m H ks vs → Vals vs us → NestedAll h ks us
  | [], _, _, kl, r => by
    simp only [KeyAll] at kl
    subst kl
    cases r
    exact .nil
  | k :: ks, _, _, kl, r => by
    simp only [KeyAll] at kl
    obtain ⟨v, t, rfl, h1, h2⟩ := kl
    cases r with
    | cons r1 rt => exact .cons (key_is ok k v _ h1 r1) (keys_is ok ks t _ h2 rt)
end
/-- a tuple as a key -/
def nkT (x : T) : Option NestedKey := match x with
  | .tup xs => (match nkOf (.tup xs) with
    | some k => if k.depth ≤ 8 then some k else none
    | none => none)
  | _ => none
theorem nkT_ok {x : T} {v : V} {k : NestedKey} (h : R G m H x v) (e : nkT x = some k) : ∃ b, v = .ref b ∧ KeyAt m H k (.ref b) ∧ k.depth ≤ 8 := by
  unfold nkT at e
  split at e
  · rename_i xs
    split at e
    · rename_i k' ek
      split at e
      · rename_i hd
        cases e
        have ka := nk_ok _ _ _ h ek
        simp only [R] at h
        obtain ⟨a, vs, rfl, _⟩ := h
        exact ⟨a, rfl, ka, hd⟩
      · cases e
    · cases e
  · cases e
/-- what stands under a key -/
def lkN {α : Type} (k : NestedKey) : List (NestedKey × α) → Option α
  | [] => none
  | p :: r => if p.1 = k then some p.2 else lkN k r
def putN {α : Type} (q : List (NestedKey × α)) (k : NestedKey) (x : α) : List (NestedKey × α) := if (lkN k q).isSome = true then q.map (fun p => if p.1 = k then (p.1, x) else p) else q ++ [(k, x)]
def putQ (q : List (NestedKey × Addr × V)) (k : NestedKey) (b : Addr) (v : V) : List (NestedKey × Addr × V) := if (lkN k q).isSome = true then q.map (fun p => if p.1 = k then (p.1, p.2.1, v) else p) else q ++ [(k, b, v)]
abbrev PairN (q : List (NestedKey × Addr × V)) (ys : List (NestedKey × Addr × Value)) : Prop := Paired (fun (p : NestedKey × Addr × V) (y : NestedKey × Addr × Value) => p.1 = y.1 ∧ p.2.1 = y.2.1 ∧ RelV p.2.2 y.2.2) q ys
theorem PairN.at {k : NestedKey} : ∀ {q : List (NestedKey × Addr × V)} {ys : List (NestedKey × Addr × Value)}, PairN q ys → RelO ((lkN k q).map (·.2)) ((atKey ys k).map (·.2))
  | _, _, .nil => True.intro
  | _, _, .cons (a := p) (b := y) h t => by
    unfold lkN atKey
    by_cases e : p.1 = k
    · have e2 : y.1 = k := h.1 ▸ e
      simp only [e, e2, if_true, List.find?_cons, decide_true, Option.map_some]
      exact h.2.2
    · have e2 : ¬ y.1 = k := h.1 ▸ e
      have ih := PairN.at (k := k) t
      unfold atKey at ih
      simp only [e, e2, if_false, List.find?_cons, decide_false]
      exact ih
theorem dn_of {P : Program} {w : World} {h : Heap} {a : Addr} {q : List (NestedKey × Addr × V)} (ok : HOk P w H h) (e : H a = some (DicN P w a q)) (kn : KeysN m H q) : q.length ≤ sizeLine ∧ (a == sysModules) = false ∧ ∃ ys, PairN q ys ∧ h.DictOfH (nestedKind P w) a ys := by
  obtain ⟨⟨hl, hs, ys, pr, o, es, ep, ho, hx, hd, he, hn⟩, _, _⟩ := ok a _ e
  refine ⟨hl, hs, ys, pr, o, es, ep, ho, hx, hd, he, fun y hy => ?_, hn⟩
  have : ∀ {q : List (NestedKey × Addr × V)} {ys : List (NestedKey × Addr × Value)}, PairN q ys → ∀ y ∈ ys, ∃ p ∈ q, p.1 = y.1 ∧ p.2.1 = y.2.1 := by
    intro q ys pr
    induction pr with
    | nil => exact fun _ z => nomatch z
    | cons h t ih =>
      intro y hy
      rcases List.mem_cons.mp hy with rfl | hy
      · exact ⟨_, List.mem_cons_self, h.1, h.2.1⟩
      · obtain ⟨p, hp, e⟩ := ih y hy
        exact ⟨p, List.mem_cons_of_mem _ hp, e⟩
  obtain ⟨p, hp, e1, e2⟩ := this pr y hy
  obtain ⟨ka, hdp⟩ := kn p hp
  rw [e1] at ka hdp
  rw [e2] at ka
  exact ⟨key_is ok _ _ _ ka rfl, hdp⟩
/-- the mirror's entries beside the real ones -/
structure RkN (G : Gx) (m : Ml) (H : Hp) (kvs : List (NestedKey × T)) (q : List (NestedKey × Addr × V)) : Prop where
  ks : kvs.map (·.1) = q.map (·.1)
  kn : KeysN m H q
  vs : Rs G m H (kvs.map (·.2)) (q.map fun y => y.2.2)
theorem rn_at {k : NestedKey} : ∀ {kvs : List (NestedKey × T)} {q : List (NestedKey × Addr × V)}, kvs.map (·.1) = q.map (·.1) → Rs G m H (kvs.map (·.2)) (q.map fun y => y.2.2) → (lkN k kvs = none ∧ lkN k q = none) ∨ ∃ x b v, lkN k kvs = some x ∧ lkN k q = some (b, v) ∧ R G m H x v
  | [], [], _, _ => .inl ⟨rfl, rfl⟩
  | [], _ :: _, e, _ => nomatch e
  | _ :: _, [], e, _ => nomatch e
  | p :: kvs, y :: q, e, rs => by
    simp only [List.map_cons, List.cons.injEq] at e
    obtain ⟨v, r, ev, h1, h2⟩ := Rs.cons_iff.mp rs
    cases ev
    unfold lkN
    by_cases hk : p.1 = k
    · rw [if_pos hk, if_pos (e.1 ▸ hk)]
      exact .inr ⟨_, y.2.1, y.2.2, rfl, rfl, h1⟩
    · rw [if_neg hk, if_neg (e.1 ▸ hk)]
      exact rn_at e.2 h2
theorem rn_some {k : NestedKey} {kvs : List (NestedKey × T)} {q : List (NestedKey × Addr × V)} (r : RkN G m H kvs q) : (lkN k kvs).isSome = (lkN k q).isSome := by
  rcases rn_at (k := k) r.ks r.vs with ⟨e1, e2⟩ | ⟨x, b, v, e1, e2, _⟩ <;> rw [e1, e2] <;> rfl
theorem pr_some {k : NestedKey} {q : List (NestedKey × Addr × V)} {ys : List (NestedKey × Addr × Value)} (pr : PairN q ys) : (lkN k q).isSome = (atKey ys k).isSome := by
  have h := PairN.at (k := k) pr
  cases e1 : lkN k q <;> cases e2 : atKey ys k <;> rw [e1, e2] at h <;> first | rfl | exact h.elim
theorem rn_put {k : NestedKey} {b : Addr} {x : T} {v : V} {kvs : List (NestedKey × T)} {q : List (NestedKey × Addr × V)} (r : RkN G m H kvs q) (hx : R G m H x v) (hb : KeyAt m H k (.ref b)) (hd : k.depth ≤ 8) : RkN G m H (putN kvs k x) (putQ q k b v) := by
  unfold putN putQ
  rw [rn_some r]
  split
  · refine ⟨?_, fun y hy => ?_, ?_⟩
    · have z : ∀ {kvs : List (NestedKey × T)} {q : List (NestedKey × Addr × V)}, kvs.map (·.1) = q.map (·.1) → (kvs.map fun p => if p.1 = k then (p.1, x) else p).map (·.1) = (q.map fun p => if p.1 = k then (p.1, p.2.1, v) else p).map (·.1) := by
        intro kvs q e
        have e1 : (kvs.map fun p => if p.1 = k then (p.1, x) else p).map (·.1) = kvs.map (·.1) := by
          rw [List.map_map]
          refine List.map_congr_left fun p _ => ?_
          show (if p.1 = k then (p.1, x) else p).1 = p.1
          split <;> rfl
        have e2 : (q.map fun p => if p.1 = k then (p.1, p.2.1, v) else p).map (·.1) = q.map (·.1) := by
          rw [List.map_map]
          refine List.map_congr_left fun p _ => ?_
          show (if p.1 = k then (p.1, p.2.1, v) else p).1 = p.1
          split <;> rfl
        rw [e1, e2, e]
      exact z r.ks
    · obtain ⟨p, hp, rfl⟩ := List.mem_map.mp hy
      have := r.kn p hp
      by_cases e : p.1 = k
      · rw [if_pos e]
        exact this
      · rw [if_neg e]
        exact this
    · have z : ∀ {kvs : List (NestedKey × T)} {q : List (NestedKey × Addr × V)}, kvs.map (·.1) = q.map (·.1) → Rs G m H (kvs.map (·.2)) (q.map fun y => y.2.2) → Rs G m H ((kvs.map fun p => if p.1 = k then (p.1, x) else p).map (·.2)) ((q.map fun p => if p.1 = k then (p.1, p.2.1, v) else p).map fun y => y.2.2) := by
        intro kvs
        induction kvs with
        | nil =>
          intro q e rs
          cases q with
          | nil => exact rs
          | cons _ _ => exact nomatch e
        | cons p kvs ih =>
          intro q e rs
          cases q with
          | nil => exact nomatch e
          | cons y q =>
            simp only [List.map_cons, List.cons.injEq] at e
            obtain ⟨w, t, ew, h1, h2⟩ := Rs.cons_iff.mp rs
            cases ew
            refine Rs.cons ?_ (ih e.2 h2)
            dsimp only
            by_cases hk : p.1 = k
            · rw [if_pos hk, if_pos (e.1 ▸ hk)]
              exact hx
            · rw [if_neg hk, if_neg (e.1 ▸ hk)]
              exact h1
      exact z r.ks r.vs
  · refine ⟨by rw [List.map_append, List.map_append, r.ks]; rfl, fun y hy => ?_, by rw [List.map_append, List.map_append]; exact Rs.app r.vs (Rs.cons hx Rs.nil)⟩
    rcases List.mem_append.mp hy with hy | hy
    · exact r.kn y hy
    · rw [List.mem_singleton.mp hy]
      exact ⟨hb, hd⟩
theorem pr_put {k : NestedKey} {b : Addr} {v : V} {u : Value} {q : List (NestedKey × Addr × V)} {ys : List (NestedKey × Addr × Value)} (pr : PairN q ys) (rv : RelV v u) : PairN (putQ q k b v) (storedH ys k b u) := by
  unfold putQ storedH
  rw [pr_some pr]
  split
  · have z : ∀ {q : List (NestedKey × Addr × V)} {ys : List (NestedKey × Addr × Value)}, PairN q ys → PairN (q.map fun p => if p.1 = k then (p.1, p.2.1, v) else p) (ys.map (putAt k u)) := by
      intro q ys pr
      induction pr with
      | nil => exact .nil
      | @cons p y _ _ h t ih =>
        refine .cons ?_ ih
        unfold putAt
        dsimp only
        by_cases e : p.1 = k
        · rw [if_pos e, if_pos (h.1 ▸ e)]
          exact ⟨h.1, h.2.1, rv⟩
        · rw [if_neg e, if_neg (h.1 ▸ e)]
          exact h
    exact z pr
  · have z : ∀ {q : List (NestedKey × Addr × V)} {ys : List (NestedKey × Addr × Value)}, PairN q ys → PairN (q ++ [(k, b, v)]) (ys ++ [(k, b, u)]) := by
      intro q ys pr
      induction pr with
      | nil => exact .cons ⟨rfl, rfl, rv⟩ .nil
      | cons h t ih => exact .cons h ih
    exact z pr
theorem putQ_len (q : List (NestedKey × Addr × V)) (k : NestedKey) (b : Addr) (v : V) : (putQ q k b v).length ≤ q.length + 1 := by
  unfold putQ
  split
  · rw [List.length_map]
    omega
  · rw [List.length_append, List.length_singleton]
    omega
end
/-- a dict's entries -/
def dnOf (h : MH) : T → Option (List (NestedKey × T))
  | .dN ks vs => some (ks.zip vs)
  | .loc n => (match h[n]? with
    | some (.dN kvs) => some kvs
    | _ => none)
  | _ => none
section
variable {X : Cx} {cl : Cln} {W : WX} {G : Gx} {m : Ml} {H : Hp} {h : MH} {o i e : Expr} {f g v : EM} {pos pos' : Pos}
theorem dnOf_ok {x : T} {v : V} {kvs : List (NestedKey × T)} (rel : Rel G m H h) (rx : R G m H x v) (e : dnOf h x = some kvs) : ∃ a q, v = .ref a ∧ H a = some (DicN G.P G.w a q) ∧ RkN G m H kvs q := by
  unfold dnOf at e
  split at e
  · rename_i ks xs
    cases e
    simp only [R] at rx
    obtain ⟨a, q, rfl, f, rfl, kn, rs⟩ := rx
    have l := Rs.len rs
    rw [List.length_map] at l
    have l1 : (q.map (·.1)).length ≤ xs.length := by rw [List.length_map]; omega
    have l2 : xs.length ≤ (q.map (·.1)).length := by rw [List.length_map]; omega
    have e1 : ((q.map (·.1)).zip xs).map (·.1) = q.map (·.1) := List.map_fst_zip l1
    have e2 : ((q.map (·.1)).zip xs).map (·.2) = xs := List.map_snd_zip l2
    exact ⟨a, q, rfl, f.1, e1, kn, by rw [e2]; exact rs⟩
  · split at e
    · rename_i n kvs' eo
      cases e
      obtain ⟨a, _, rfl, q, hq, l, kn, rs⟩ := rel.cell rx eo
      exact ⟨a, q, rfl, hq, l, kn, rs⟩
    · cases e
  · cases e
theorem room8 (hu : X.A.units + 66 < cLine) : (nestedKind X.prog X.w).room X.A.in1 := by
  show X.A.units + 1 + 8 < cLine
  omega
/-! in, not in -/
def inNF (neg : Bool) (x d : T) (h : MH) : Res T := match dnOf h d, nkT x with
  | some kvs, some k => .ok (.bl (if neg = true then !(lkN k kvs).isSome else (lkN k kvs).isSome)) h
  | _, _ => .bad
theorem n_inN {neg : Bool} : NoX (inNF neg) := fun x y h c fs h' e => by
  unfold inNF at e
  split at e <;> cases e
theorem o_inNb {op : CmpOp} {neg : Bool} (hop : (op = .In ∧ neg = false) ∨ (op = .NotIn ∧ neg = true)) (hu : X.A.units + 66 < cLine) : OpR X (compareOp op) (rM (gx X cl) (inNF neg)) := by
  intro pins s σ H v w u u' Q I rv rw' q
  obtain ⟨m, hp, x, y, rel, rx, ry, p⟩ := q
  unfold inNF at p
  split at p
  · rename_i kvs k ed ek
    obtain ⟨a, q, rfl, eh, rk⟩ := dnOf_ok rel ry ed
    obtain ⟨b, rfl, ka, hd⟩ := nkT_ok rx ek
    obtain ⟨hl, hs, ys, pr, dd⟩ := dn_of I.hok eh rk.kn
    cases (show u = Value.ref b from rv)
    cases (show u' = Value.ref a from rw')
    have is : (nestedKind X.prog X.w).is s.heap k b := ⟨key_is I.hok k _ _ ka rfl, hd⟩
    have e : (lkN k kvs).isSome = (atKey ys k).isSome := (rn_some rk).trans (pr_some pr)
    rw [e] at p
    rcases hop with ⟨rfl, rfl⟩ | ⟨rfl, rfl⟩
    · exact wpAny_in_heap (room8 hu) is hs dd ⟨.bl _, H, I.tok _, rfl, p.ok_ rel _ (by simp only [R]; rfl)⟩
    · exact wpAny_notIn_heap (room8 hu) is hs dd ⟨.bl _, H, I.tok _, rfl, p.ok_ rel _ (by simp only [R]; rfl)⟩
  · exact p.elim
theorem o_inN (hu : X.A.units + 66 < cLine) : OpR X (compareOp .In) (rM (gx X cl) (inNF false)) := o_inNb (.inl ⟨rfl, rfl⟩) hu
theorem o_notinN (hu : X.A.units + 66 < cLine) : OpR X (compareOp .NotIn) (rM (gx X cl) (inNF true)) := o_inNb (.inr ⟨rfl, rfl⟩) hu
/-! d[k] -/
def ixNF (d x : T) (h : MH) : Res T := match dnOf h d, nkT x with
  | some kvs, some k => (match lkN k kvs with
    | some z => .ok z h
    | none => .bad)
  | _, _ => .bad
theorem me_ixN (hu : X.A.units + 66 < cLine) (ho : ME X cl W o f) (hi : ME X cl W i g) (hs : NoSl i := by exact fun _ _ => rfl) : ME X cl W (.Subscript o i pos) (emOp ixNF f g) := by
  refine ⟨⟨fun pins s σ H Q I h => ?_⟩⟩
  refine subD_of PySem.F.slot_dict_getitem.lookup hs (L2.thn (ho.pe.run pins s σ H _ I (two_ok h)) fun u s1 ⟨x, H1, I1, rx, q1⟩ => L2.thn (hi.pe.run pins s1 σ H1 _ I1 q1) fun iv s2 ⟨y, H2, I2, ry, m, hp, tx, ty, rel, rtx, rty, p⟩ => ?_)
  unfold ixNF at p
  split at p
  · rename_i kvs k ed ek
    split at p
    · rename_i z ez
      obtain ⟨a, q, rfl, eh, rk⟩ := dnOf_ok rel rtx ed
      obtain ⟨b, rfl, ka, hd⟩ := nkT_ok rty ek
      obtain ⟨hl, hsm, ys, pr, dd⟩ := dn_of I2.hok eh rk.kn
      cases (show iv = Value.ref b from ry)
      cases (show u = Value.ref a from rx)
      have is : (nestedKind X.prog X.w).is s2.heap k b := ⟨key_is I2.hok k _ _ ka rfl, hd⟩
      rcases rn_at (k := k) rk.ks rk.vs with ⟨e1, _⟩ | ⟨z', b', vz, e1, e2, rz⟩
      · rw [ez] at e1
        cases e1
      · rw [ez] at e1
        cases e1
        have rel2 := PairN.at (k := k) pr
        rw [e2] at rel2
        cases e3 : atKey ys k with
        | none =>
          rw [e3] at rel2
          exact rel2.elim
        | some pp =>
          rw [e3] at rel2
          exact ⟨dd.typeIs, wpAny_getItem_heap (room8 hu) is dd e3 ⟨vz, H2, I2.tok _, rel2, p.ok_ rel _ rz⟩⟩
    · exact p.elim
  · exact p.elim
/-! d[k] = v -/
def stN (d x z : T) (h : MH) : Option MH := match d with
  | .loc n => (match h[n]? with
    | some (.dN kvs) => (match nkT x with
      | some k => if kvs.length < sizeLine then some (h.set n (.dN (putN kvs k z))) else none
      | none => none)
    | _ => none)
  | _ => none
def rSetN (G : Gx) : TSet := fun o i v H Q => ∃ m hp x y z, Rel G m H hp ∧ R G m H x o ∧ R G m H y i ∧ R G m H z v ∧ ∃ h', stN x y z hp = some h' ∧ ∀ m' H', Stp m m' H H' → Rel G m' H' h' → Q H'
theorem set_N (hu : X.A.units + 66 < cLine) : PSet X (rSetN (gx X cl)) := by
  intro pins s σ H o x v ov iv u Q I ro ri rv q
  obtain ⟨m, hp, to, tx, tv, rel, rto, rtx, rtv, h', es, q⟩ := q
  unfold stN at es
  split at es
  · rename_i n
    split at es
    · rename_i kvs eo
      split at es
      · rename_i k ek
        split at es
        · rename_i hl
          cases es
          obtain ⟨a, e1, rfl, qv, eh, l, kn, rs⟩ := rel.cell rto eo
          obtain ⟨b, rfl, ka, hd⟩ := nkT_ok rtx ek
          have rk : RkN (gx X cl) m H kvs qv := ⟨l, kn, rs⟩
          obtain ⟨hlen, hs, ys, pr, dd⟩ := dn_of I.hok eh kn
          cases (show ov = Value.ref a from ro)
          cases (show iv = Value.ref b from ri)
          have is : (nestedKind X.prog X.w).is s.heap k b := ⟨key_is I.hok k _ _ ka rfl, hd⟩
          have lq : qv.length < sizeLine := by
            have := congrArg List.length l
            rw [List.length_map, List.length_map] at this
            omega
          have ha : a ∈ m.c := List.mem_of_getElem? e1
          have st : Stp m m H (upd H a (DicN X.prog X.w a (putQ qv k b v))) := Stp.wr ha
          have rk2 := rn_put rk rtv ka hd
          have ntup : ∀ c vs, H c = some (.tup vs) → m.no c → upd H a (DicN X.prog X.w a (putQ qv k b v)) c = some (.tup vs) ∧ m.no c := fun c vs ec nc => ⟨by
            rw [upd_ne (fun z : c = a => nc.1 (by rw [z]; exact ha))]
            exact ec, nc⟩
          refine wpAny_setItem_heap (hsz := by rw [← Paired.length pr]; exact hlen) (room8 hu) is dd fun h' dd' hsb => ⟨_, ?_, q m _ st (rel.wr e1 ⟨_, upd_same, rk2.ks, rk2.kn.to ntup, Rs.step st _ _ rk2.vs⟩)⟩
          obtain ⟨ob, oes, oep, g1, g2, g3, g4, g5, g6⟩ := dd'
          refine d_write I (by rw [eh]; exact True.intro) hsb ⟨ob, g1⟩ ⟨⟨?_, hs, _, pr_put pr rv, ob, oes, oep, g1, g2, g3, g4, g6⟩, ⟨ob, g1⟩, fun h1 h2 ph st => ?_⟩
          · have := putQ_len qv k b v
            omega
          · obtain ⟨p1, p2, zs, p3, o3, es3, ep3, p4, p5⟩ := ph
            exact ⟨p1, p2, zs, p3, o3, es3, ep3, st _ p4, p5⟩
        · cases es
      · cases es
    · cases es
  · cases es
end
end TW
namespace TW
open PySem PySem.Spec L2 PyProof.Rows
/-! ### dicts with nested keys: statements, displays, len, sorted -/
def sSubN (f g v : EM) : SM := fun r h => lift (v r h) r fun z h1 => lift (f r h1) r fun x h2 => lift (g r h2) r fun y h3 => match stN x y z h3 with
  | some h4 => .nx r h4
  | none => .bad
def dicNK (kvs : List (NestedKey × T)) (h : MH) : Res T := .ok (.dN (kvs.map (·.1)) (kvs.map (·.2))) h
def dicNL (kvs : List (NestedKey × T)) (h : MH) : Res T := .ok (.loc h.length) (h ++ [.dN kvs])
def dnN : EM := fun _ h => .ok (.loc h.length) (h ++ [.dN []])
/-- {k: v} -/
def emDN (kk : List (NestedKey × T) → MH → Res T) (f g : EM) : EM := fun r h => (prR [(f, g)] r h).bind fun ps h1 => match ps with
  | [(x, y)] => (match nkT x with
    | some k => kk [(k, y)] h1
    | none => .bad)
  | _ => .bad
theorem dn_empty {P : Program} {w : World} {H : Hp} (h : Heap) (hb : sysModules < h.objs.size) : ObjOk P w H (h.push { cls := .type "dict", data := .dict #[] }) h.objs.size (DicN P w h.objs.size []) := by
  have hg : (h.push { cls := .type "dict", data := .dict #[] }).get? h.objs.size = some { cls := .type "dict", data := .dict #[] } := Heap.get?_push_size _ rfl
  refine ⟨⟨Nat.zero_le _, beq_eq_false_iff_ne.mpr (Ne.symm (Nat.ne_of_lt hb)), [], .nil, _, #[], 0, hg, ⟨rfl, rfl, rfl⟩, rfl, rfl, List.nodup_nil⟩, ⟨_, hg⟩, fun h1 h2 ph st => ?_⟩
  obtain ⟨p1, p2, zs, p3, o3, es3, ep3, p4, p5⟩ := ph
  exact ⟨p1, p2, zs, p3, o3, es3, ep3, st _ p4, p5⟩
section
variable {X : Cx} {cl : Cln} {W : WX} {o i e : Expr} {f g v : EM} {pos pos' : Pos}
theorem ms_subN (hu : X.A.units + 66 < cLine) (hv : ME X cl W e v) (ho : ME X cl W o f) (hi : ME X cl W i g)
    (ha : ∀ v, assign (.Subscript o i pos') X.env v = (do
      let ov ← holding [v] (eval o X.env)
      let iv ← holding [v, ov] (eval i X.env)
      standAt pos'
      holding [v, ov, iv] (setItem ov iv v)
      release [v, ov, iv] []) := by intro _; rfl) (hs : swapsWithSole [.Subscript o i pos'] e pos.line X.env = pure false := by rfl) (hw : swappedStores [.Subscript o i pos'] e X.env = pure none := by rfl) (h1 : (assignEach [.Subscript o i pos'] X.env).map (·.2) = [assign (.Subscript o i pos') X.env] := by rfl) :
    MS X cl W (.Assign [.Subscript o i pos'] e pos) (sSubN f g v) := by
  refine ⟨PS.imp (ps_asg hv.pe (pg_sub ho.pe hi.pe (set_N (cl := cl) hu) ha) hs hw h1) fun D σ H h => ?_⟩
  obtain ⟨r, hp, m, re, rel, p⟩ := h
  refine ⟨r, hp, m, re, rel, (p.lift re).mono (fun z m1 h1 H1 s1 q1 zv rz => ?_) fun _ _ _ z => z⟩
  refine ⟨r, h1, m1, q1.2.1, q1.1, (q1.2.2.lift q1.2.1).mono (fun x m2 h2 H2 s2 q2 xv rx => ?_) fun _ _ _ z => z⟩
  refine ⟨r, h2, m2, q2.2.1, q2.1, (q2.2.2.lift q2.2.1).mono (fun y m3 h3 H3 s3 q3 yv ry => ?_) fun _ _ _ z => z⟩
  obtain ⟨rel3, re3, fl3⟩ := q3
  split at fl3
  · rename_i h4 e4
    exact ⟨m3, h3, x, y, z, rel3, R.step s3 _ _ rx, ry, R.step s3 _ _ (R.step s2 _ _ rz), h4, e4, fun m' H' s' rel' => fl3 m' H' σ s' rel' (re3.step s')⟩
  · exact fl3.elim
theorem me_dnN : ME X cl W (.Dict [] [] pos) dnN := by
  refine ⟨⟨fun pins s σ H Q I h => ?_⟩⟩
  obtain ⟨r, hp, m, re, rel, p⟩ := h
  have hn := I.hok.fresh (Nat.le_refl s.heap.objs.size)
  refine wpAny_Dict_empty ⟨.ref s.heap.objs.size, _, I.laid (a := s.heap.objs.size) (o := DicN X.prog X.w s.heap.objs.size []) (t' := s.toks) (fun _ _ q => Heap.get?_push_of_some _ q) (Nat.le_refl _) (dn_empty s.heap I.big), rfl, ?_⟩
  refine p (m.add s.heap.objs.size) _ (Stp.newc hn) (rel.newc hn ⟨[], upd_same, rfl, (fun _ z => nomatch z), Rs.nil⟩) _ ?_
  simp only [R]
  refine ⟨_, ?_, rfl⟩
  show (m.c ++ [_])[_]? = _
  rw [← rel.len, List.getElem?_append_right (Nat.le_refl _)]
  simp
theorem dicN_end {m1 m : Ml} {H1 H : Hp} {D : Addr} {h h1' : MH} {G : Gx} {kk : List (NestedKey × T) → MH → Res T} (hk : kk = dicNK ∨ kk = dicNL) {kvs : List (NestedKey × T)} {q : List (NestedKey × Addr × V)} {Q : VK} {W : XK} (w : Way m1 m H1 H D) (hD : H1 D = none) (rel1 : Rel G m1 H1 h1') (rel : Rel G m H h) (rk : RkN G m H kvs q) (hl : H D = some (DicN G.P G.w D q))
    (p : Pst G m1 H1 (kk kvs h) (fun z m' _ H' => ∀ u, R G m' H' z u → Q u H') W) : Q (.ref D) H := by
  have nd : D ∉ m1.z := fun z => by
    obtain ⟨o, _, e⟩ := rel1.zs D z
    rw [hD] at e
    cases e
  rcases hk with rfl | rfl
  · have wk : Wk m ⟨m.c, m1.z⟩ H H := Wk.out w.z
    refine p ⟨m.c, m1.z⟩ H w.stp (rel.out w.z) _ ?_
    simp only [R]
    exact ⟨D, q, rfl, ⟨hl, rel.zd D (by rw [w.z]; exact List.mem_cons_self), nd⟩, rk.ks, rk.kn.to wk.tups, Rs.wk wk _ _ rk.vs⟩
  · have wk := Wk.outc (H := H) w.z nd
    refine p _ H (w.stpc hD) (rel.outc w.z nd ⟨q, hl, rk.ks, rk.kn.to wk.tups, Rs.wk wk _ _ rk.vs⟩) _ ?_
    simp only [R]
    refine ⟨D, ?_, rfl⟩
    show (m.c ++ [D])[_]? = _
    rw [← rel.len, List.getElem?_append_right (Nat.le_refl _)]
    simp
def tDispN (P : Program) (w : World) (trs : List (TE × TE)) : TE := fun σ H Q => ∀ p, H p = none → tPairs trs σ (upd H p (.dT [])) fun ps H2 => ∃ (m2 : Ml) (nk : NestedKey) (b : Addr) (z : V), ps = [(V.ref b, z)] ∧ KeyAt m2 H2 nk (.ref b) ∧ nk.depth ≤ 8 ∧ H2 p = some (.dT []) ∧ Q (.ref p) (upd H2 p (DicN P w p [(nk, b, z)]))
theorem pe_dispN {k v : Expr} {trs : List (TE × TE)} (hu : X.A.units + 66 < cLine) (hps : PPs X pos [some k] [v] trs) : PE X (.Dict [some k] [v] pos) (tDispN X.prog X.w trs) := by
  refine ⟨fun pins s σ H Q I main => ?_⟩
  have hpn := I.hok.fresh (Nat.le_refl s.heap.objs.size)
  have I1 := I.laid (a := s.heap.objs.size) (o := .dT []) (h' := s.heap.push { cls := .type "dict", data := .dict #[] }) (t' := s.toks) (fun _ _ q => Heap.get?_push_of_some _ q) (Nat.le_refl _) (dt_empty s.heap I.big)
  have len : (pairTrees [some k] [v] X.env pos).length = 1 := pairTrees_length [some k] [v] X.env pos rfl rfl
  generalize epT : pairTrees [some k] [v] X.env pos = pT at len
  have run := hps.run pins _ σ _ _ I1 (main _ hpn)
  rw [epT] at run
  rw [arm_eval_Dict, zip_pairTrees [some k] [v] X.env pos rfl rfl, epT, dictDisplay_pairs pT (by
    intro z
    rw [z] at len
    cases len) (by omega)]
  refine wpAny_bind (wpAny_standAt (wpAny_bind (wpAny_subDictH (knd := nestedKind X.prog X.w) (by show X.A.units + 8 < cLine; omega) (by omega) (L2.thn run fun ws s2 ⟨ps, H2, I2, rv, m2, nk, b, z, ep, ka, hd, hdk, q⟩ => ?_))))
  subst ep
  cases rv with
  | @cons _ w1 _ _ h1 t =>
    cases t
    obtain ⟨u1, u2⟩ := w1
    obtain ⟨ru, rz⟩ := h1
    obtain rfl : u1 = Value.ref b := ru
    have is : (nestedKind X.prog X.w).is s2.heap nk b := ⟨key_is I2.hok nk _ _ ka rfl, hd⟩
    obtain ⟨z0, hs, ks0, r0, ob, es, ep2, g1, g2, g3, g4, g5⟩ := dt_of I2.hok hdk
    cases r0
    refine ⟨[(nk, b, u2)], ⟨rfl, rfl, is, True.intro⟩, ⟨ob, es, ep2, g1, g2, g3, g4, (fun _ z => nomatch z), List.nodup_nil⟩, fun h' tk dd' hsb => wpAny_pure ⟨.ref _, _, ?_, rfl, q⟩⟩
    obtain ⟨ob', oes, oep, k1, k2, k3, k4, k5, k6⟩ := dd'
    refine d_write I2 (by rw [hdk]; exact True.intro) hsb ⟨ob', k1⟩ ⟨⟨by show 1 ≤ sizeLine; rw [sizeLine_eq]; omega, hs, [(nk, b, u2)], .cons ⟨rfl, rfl, rz⟩ .nil, ob', oes, oep, k1, k2, k3, k4, k6⟩, ⟨ob', k1⟩, fun h1 h2 ph st => ?_⟩
    obtain ⟨p1, p2, zs, p3, o3, es3, ep3, p4, p5⟩ := ph
    exact ⟨p1, p2, zs, p3, o3, es3, ep3, st _ p4, p5⟩
theorem me_dN1 {kk : List (NestedKey × T) → MH → Res T} {k v : Expr} (hk : kk = dicNK ∨ kk = dicNL) (hu : X.A.units + 66 < cLine) (hkf : ME X cl W k f) (hvg : ME X cl W v g) : ME X cl W (.Dict [some k] [v] pos) (emDN kk f g) := by
  refine ⟨PE.imp (pe_dispN hu (mps_c hkf hvg mps_n).pps) fun σ H Q h p hpn => ?_⟩
  obtain ⟨r, hp, m, re, rel, pp⟩ := h
  refine prs_ok (re.wk (Wk.lay hpn)) (rel.lay hpn) ?_
  have way0 : Way m (m.lay p) H (upd H p (.dT [])) p := Way.lay hpn
  unfold emDN at pp
  cases e : prR [(f, g)] r hp with
  | bad =>
    rw [e] at pp
    exact pp.elim
  | exc c fs h' =>
    rw [e] at pp
    intro m' H' st rel' C d hC hd
    have w := way0.step st
    exact pp ⟨m'.c, m.z⟩ H' w.stp (rel'.out w.z) C d hC (hd.imp id fun ⟨dx, q, ed, fz, rk⟩ => ⟨dx, q, ed, fz.wk (Wk.out w.z), rk.wk (Wk.out w.z)⟩)
  | ok ps h1 =>
    rw [e] at pp
    intro m' H' st rel' qs rqs
    have w := way0.step st
    simp only [Res.bind] at pp
    split at pp
    · rename_i x y
      split at pp
      · rename_i nk ek
        obtain ⟨v1, t1, e1, r1, e2⟩ := Rs.cons_iff.mp rqs.1
        obtain ⟨v2, t2, e3, r2, e4⟩ := Rs.cons_iff.mp rqs.2
        have t10 := Rs.nil_iff.mp e2
        subst t10
        match qs, e1, e3 with
        | [(a1, a2)], e1, e3 =>
          cases e1
          cases e3
          obtain ⟨b, rfl, ka, hd⟩ := nkT_ok r1 ek
          have hdk : H' p = some (.dT []) := st.zx _ _ (by intro _ z; cases z) upd_same List.mem_cons_self (fun z => rel.free hpn z)
          have inz : p ∈ m'.z := by rw [w.z]; exact List.mem_cons_self
          have wk : Wk m' m' H' (upd H' p (DicN X.prog X.w p [(nk, b, a2)])) := Wk.pr inz
          have rk : RkN (gx X cl) m' (upd H' p (DicN X.prog X.w p [(nk, b, a2)])) [(nk, y)] [(nk, b, a2)] :=
            ⟨rfl, fun z hz => by
              rw [List.mem_singleton.mp hz]
              exact ⟨KeyAt.to wk.tups _ _ ka, hd⟩, Rs.cons (R.wk wk _ _ r2) Rs.nil⟩
          exact ⟨m', nk, b, a2, rfl, ka, hd, hdk, dicN_end hk (w.put hpn) hpn rel (rel'.pr inz (t := DicN.nz)) rk upd_same pp⟩
      · exact pp.elim
    · exact pp.elim
end
/-! len -/
def lenNF (g : FM) : FM := on1 fun x h => match dnOf h x with
  | some kvs => .ok (.int kvs.length) h
  | none => g [x] h
theorem n_lenN {g : FM} (hg : NoXF g) : NoXF (lenNF g) := on1_nox fun x h c fs h' e => by
  split at e
  · cases e
  · exact hg _ _ _ _ _ e
section
variable {X : Cx} {cl : Cln}
theorem RkN.len {G : Gx} {m : Ml} {H : Hp} {kvs : List (NestedKey × T)} {q : List (NestedKey × Addr × V)} (r : RkN G m H kvs q) : kvs.length = q.length := by
  have := congrArg List.length r.ks
  rw [List.length_map, List.length_map] at this
  exact this
theorem c_lenN {g : FM} (hc : CallR X (.builtin "len") (rMC (gx X cl) g)) : CallR X (.builtin "len") (rMC (gx X cl) (lenNF g)) := by
  intro pins s σ H vs us Q I rv q
  obtain ⟨m, hp, xs, rel, rs, p⟩ := q
  obtain ⟨x, v, rfl, rx, p⟩ := on1_ok rs p
  split at p
  · rename_i kvs ed
    obtain ⟨a, q, rfl, eh, rk⟩ := dnOf_ok rel rx ed
    obtain ⟨hl, hs, ys, pr, dd⟩ := dn_of I.hok eh rk.kn
    have e : kvs.length = ys.length := rk.len.trans (Paired.length pr)
    rw [Vals.ref1 rv]
    refine call_len_dictH hs dd (by
      have := Paired.length pr
      rw [sizeLine_eq] at hl
      omega) ⟨.int kvs.length, H, I.tok _, ⟨_, by rw [e]⟩, p.ok_ rel _ (by simp only [R])⟩
  · exact hc pins s σ H [v] us Q I rv ⟨m, hp, [x], rel, Rs.cons rx Rs.nil, p⟩
/-! sorted -/
def sortNF (k : List T → MH → Res T) : FM := on1 fun x h => match dnOf h x with
  | some kvs => if (((kvs.map (·.1)).map keyT).all (fun x => (toD h deep x).isSome) && srtB (((kvs.map (·.1)).map keyT).map (datD h))) = true then k (((kvs.map (·.1)).map keyT).mergeSort (PySem.W.dataLe false (datD h))) h else .bad
  | none => sortDF k [x] h
theorem n_sortN {k : List T → MH → Res T} (hk : k = lstK ∨ k = lstL) : NoXF (sortNF k) := on1_nox fun x h c fs h' e => by
  split at e
  · split at e
    · exact lst_two_nox hk _ _ _ _ _ e
    · cases e
  · exact n_sortD hk _ _ _ _ _ e
theorem rs_keysN {G : Gx} {m : Ml} {H : Hp} : ∀ {q : List (NestedKey × Addr × V)}, KeysN m H q → Rs G m H ((q.map (·.1)).map keyT) (q.map fun y => V.ref y.2.1)
  | [], _ => Rs.nil
  | y :: q, h => Rs.cons (key_r _ _ (h y List.mem_cons_self).1) (rs_keysN fun z hz => h z (List.mem_cons_of_mem _ hz))
theorem c_sortN {k : List T → MH → Res T} (hk : k = lstK ∨ k = lstL) (hc : X.calm = true) (hu : X.A.units + 66 < cLine) : CallR X (.builtin "sorted") (rMC (gx X cl) (sortNF k)) := by
  intro pins s σ H vs us Q I rv q
  obtain ⟨m, hp, xs, rel, rs, p⟩ := q
  obtain ⟨x, v, rfl, rx, p⟩ := on1_ok rs p
  split at p
  · rename_i kvs ed
    split at p
    · rename_i ok
      rw [Bool.and_eq_true, List.all_eq_true] at ok
      obtain ⟨a, q, rfl, eh, rk⟩ := dnOf_ok rel rx ed
      obtain ⟨hl, hs, ys, pr, dd⟩ := dn_of I.hok eh rk.kn
      obtain ⟨ob, es, ep, g1, g2, g3, g4, _, _⟩ := dd
      have lq := Paired.length pr
      have l1 : es.size = ys.length := by rw [← Array.length_toList, g4, List.length_map]
      have rks := rs_keysN (G := gx X cl) rk.kn
      rw [← rk.ks] at rks
      rw [Vals.ref1 rv]
      refine sortD_at hk I hu rel rks ok.1 ok.2 (fun Q' hq => ?_) p
      refine PySem.W.kdu_collect (L2.kdl_raw hs g2 g3) (I.ok.hd hc) g1 (by omega) fun h' tk acc kp it => hq h' tk acc.toList kp (vals_of_at ?_ fun j x w h1 h2 => ?_)
      · rw [List.length_map, lq, ← l1, ← it.1]
        exact Array.length_toList.symm
      · obtain ⟨en, q1, q2⟩ := it.2 j w (by rw [← Array.getElem?_toList]; exact h2)
        rw [← Array.getElem?_toList, g4, List.getElem?_map] at q1
        obtain ⟨b, q3, q4⟩ := Option.map_eq_some_iff.mp q1
        rw [List.getElem?_map] at h1
        obtain ⟨y, q5, q6⟩ := Option.map_eq_some_iff.mp h1
        have z : ∀ {q : List (NestedKey × Addr × V)} {ys : List (NestedKey × Addr × Value)}, PairN q ys → ∀ (j : Nat) (y : NestedKey × Addr × V) (b : NestedKey × Addr × Value), q[j]? = some y → ys[j]? = some b → y.2.1 = b.2.1 := by
          intro q ys pr
          induction pr with
          | nil => exact fun j y b e => nomatch e
          | cons h t ih =>
            intro j y b e1 e2
            cases j with
            | zero =>
              cases e1
              cases e2
              exact h.2.1
            | succ j => exact ih j y b e1 e2
        rw [← q6, z pr j y b q5 q3, q2, ← q4]
        exact rfl
    · exact p.elim
  · exact c_sortD hk hc hu pins s σ H [v] us Q I rv ⟨m, hp, [x], rel, Rs.cons rx Rs.nil, p⟩
end
end TW
/-! ### own exceptions whose classes stand some deep under Exception: the library's excTail, osa_openX, instanceDict_exc by import -/
namespace TX
open PySem
open Builtin Builtin.ObjectAttr
abbrev xTail : List Value := [.type "Exception", .type "BaseException", .type "object"]
/-- own classes, then those of Exception -/
abbrev xMro (l : List Value) : Bool := W.excTail xTail l
/-- what a built-in's own steps leave to their caller -/
abbrev Behind (prog : Program) (w : World) (A : Around) (R : Result → Shared → Prop) : Fin → Shared → Prop := fun fin s1 => match fin with
  | .done f => R (.ok f) s1
  | .again c1 => c1.quiet = true ∧ codeAny (model prog w) A c1 R s1
section
variable {prog : Program} {w : World} {A : Around} {R : Result → Shared → Prop} {s : Shared} {K : W.Frag} {nm : Str} {tk : Tok} {v : Value} {x C : Addr} {ob : Obj} {od : Option Obj} {cd : ClassData} {bm : List Value}
/-- x.nm = v by object's own rule, its dict asked for -/
theorem road (X : K.In s.heap) (I : W.InstAt s.heap x ob C od) (hcd : W.clsIn K C = some cd) (em : cd.mro = .ref C :: bm) (hm : xMro bm = true) (ha : W.findIn K (.ref C) nm = some none)
    (q : wpAny (model prog w) A.in1 (instanceDict x true) (fun r s1 => ∃ dx, r = some dx ∧ wpAny (model prog w) A.in1 (storeInDict dx (.str nm tk) nm v) (Behind prog w A R) (fun e s2 => R (.error e) s2) s1) (fun e s1 => R (.error e) s1) s) :
    codeAny (model prog w) A (.call (.builtin "object.__setattr__") ⟨[.ref x, .str nm tk, v], []⟩) R s := by
  have over : W.excOver K C xTail = true := by
    unfold W.excOver
    rw [hcd, Option.any_some, em]
    simp [hm]
  have free : W.takerIn K C nm = some none := by
    unfold W.takerIn
    rw [ha]
    rfl
  refine W.osa_openX F.store_Exception X I over free fun b => wpAny_bind (wpAny_pure (wpAny_bind (wpAny_mono q (fun r s1 z => ?_) fun _ _ z => z)))
  obtain ⟨dx, rfl, z⟩ := z
  exact z
end
end TX
namespace TX
open PySem PySem.Spec L2 PyProof.Rows
/-- what the written part says of such a class -/
structure XC (K : PySem.W.Frag) (C : Addr) : Prop where
  cls : ∃ nm q N bs bm sn sub ab col dd k0 k1 k2 k3 k5, K.lookup C = some (excClassObj nm q C N bs bm true sn sub ab col dd k0 k1 k2 k3 k5 "Exception.__new__") ∧ xMro bm = true
  sta : PySem.W.findIn K (.ref C) "__setattr__" = some (some (.builtin "object.__setattr__"))
  bse : PySem.W.subIn K (.ref C) (.type "BaseException") = some true
  exc : PySem.W.subIn K (.ref C) (.type "Exception") = some true
  typ : PySem.W.typeIn K (.ref C) = some (.type "type")
  kep : PySem.W.keepIn K (.ref C) = true
theorem XC.data {K : PySem.W.Frag} {C : Addr} (T : XC K C) : ∃ cd bm, PySem.W.clsIn K C = some cd ∧ cd.mro = .ref C :: bm ∧ xMro bm = true ∧ cd.hasDict = true := by
  obtain ⟨nm, q, N, bs, bm, sn, sub, ab, col, dd, k0, k1, k2, k3, k5, hC, hbm⟩ := T.cls
  refine ⟨{ name := nm, bases := bs, mro := .ref C :: bm, ns := N, qualname := q, hasDict := true, slotNames := sn, subclasses := sub, abstract := ab, collection := col, hasDel := false }, bm, ?_, rfl, hbm, rfl⟩
  unfold PySem.W.clsIn
  rw [hC] <;> rfl
section
variable {X : Cx} {pins : List (Addr × Obj)} {σ : L2.St} {H : Hp} {s : Shared} {a C dx : Addr} {f : Str} {y : V} {u : Value} {fs : List (Str × V)} {Q : Unit → Shared → Prop} {E : Value → Shared → Prop} {A : Around}
theorem upd_back {o1 o2 o3 : HO} (d : dx ≠ a) : upd (upd (upd H dx o1) a o2) dx o3 = upd (upd H dx o3) a o2 := by
  funext b
  by_cases h1 : b = dx
  · subst h1
    rw [upd_same, upd_ne d, upd_same]
  · by_cases h2 : b = a
    · subst h2
      rw [upd_ne h1, upd_same, upd_same]
    · rw [upd_ne h1, upd_ne h2, upd_ne h1, upd_ne h2, upd_ne h1]
/-- the first field: a dict laid, told to the object, and written -/
theorem xst_new (T : XC X.K C) (I : Inv X pins σ H s) (ea : H a = some (exo a C none)) (hno : PySem.W.findIn X.K (.ref C) f = some none) (ry : L2.RelV y u)
    (h : ∀ dx s1, H dx = none → dx ≠ a → Inv X pins σ (upd (upd H dx (exd dx [(f, y)])) a (exo a C (some dx))) s1 → Q () s1) : wpAny (model X.prog X.w) A (setAttr (.ref a) f u) Q E s := by
  obtain ⟨cd, bm, hcd, em, hm, hd⟩ := T.data
  obtain ⟨t0, hob⟩ := exo_at I.hok ea
  obtain ⟨h0, gs, dr, tk, os⟩ := s
  have none_d : H h0.objs.size = none := I.hok.fresh (Nat.le_refl _)
  have d : h0.objs.size ≠ a := Nat.ne_of_gt (Heap.lt_size hob)
  -- the dict
  have e1 : (h0.push (PySem.W.dictOf [] 0)).get? h0.objs.size = some (PySem.W.dictOf [] 0) := Heap.get?_push_size _ rfl
  have n1 : (h0.push (PySem.W.dictOf [] 0)).Ns h0.objs.size (fun _ => none) := ⟨_, #[], _, e1, rfl, fun e he => absurd he (by simp), fun _ => rfl⟩
  have J1 := I.laid (t' := tk) (a := h0.objs.size) (o := exd h0.objs.size []) (fun b o z => Heap.get?_push_of_some (PySem.W.dictOf [] 0) z) (Nat.le_refl _) (exd_ok (Heap.Ns1.of_empty n1) fun g => True.intro)
  -- the object
  have hob1 := Heap.get?_push_of_some (PySem.W.dictOf [] 0) hob
  have e2 := Heap.get?_update_self (fun o => { o with dict := some h0.objs.size }) hob1 rfl
  have k2 : ∀ b o, b ≠ a → (h0.push (PySem.W.dictOf [] 0)).get? b = some o → ((h0.push (PySem.W.dictOf [] 0)).update a (fun o => { o with dict := some h0.objs.size })).get? b = some o := fun b o hb z => (Heap.get?_update_ne _ _ _ _ hb).trans z
  have J2 := J1.write (t' := tk) (x := a) (e := a) (o := exo a C (some h0.objs.size)) (by rw [upd_ne d.symm, ea]; exact True.intro) (.inl rfl) k2 ⟨_, e2⟩ (exo_ok e2)
  have n2 : ((h0.push (PySem.W.dictOf [] 0)).update a (fun o => { o with dict := some h0.objs.size })).Ns h0.objs.size (fun _ => none) := ⟨_, #[], _, k2 _ _ d e1, rfl, fun e he => absurd he (by simp), fun _ => rfl⟩
  refine PySem.W.set_plain I.kIn (od := none) ⟨hob, rfl, rfl, trivial⟩ T.sta (road (od := none) I.kIn ⟨hob, rfl, rfl, trivial⟩ hcd em hm hno (PySem.W.instanceDict_exc hob (PySem.W.looks_clsIn I.kIn hcd) hd ⟨_, rfl, PySem.HandSPX.store_in_new n2 fun h3 t3 n3 sb => ?_⟩))
  -- the field
  have J3 := J2.write (t' := t3) (x := h0.objs.size) (e := h0.objs.size) (o := exd h0.objs.size [(f, y)]) (by rw [upd_ne d, upd_same]; exact True.intro) (.inl rfl) sb.extBut (let ⟨o, _, _, z, _⟩ := n3; ⟨o, z⟩) (exd_ok n3 (relO_put (fs := []) ry fun g => True.intro))
  rw [upd_back d] at J3
  exact h _ _ none_d d J3
/-- a further one -/
theorem xst_old (T : XC X.K C) (I : Inv X pins σ H s) (ea : H a = some (exo a C (some dx))) (ed : H dx = some (exd dx fs)) (hl : fs.length ≤ 900) (hno : PySem.W.findIn X.K (.ref C) f = some none) (ry : L2.RelV y u)
    (h : ∀ s1, Inv X pins σ (upd H dx (exd dx ((f, y) :: fs))) s1 → Q () s1) : wpAny (model X.prog X.w) A (setAttr (.ref a) f u) Q E s := by
  obtain ⟨cd, bm, hcd, em, hm, hd⟩ := T.data
  obtain ⟨t0, hob⟩ := exo_at I.hok ea
  obtain ⟨m0, hns, rel⟩ := exd_at I.hok ed
  have few := within_of rel
  obtain ⟨od, _, _, hod, _⟩ := hns.count few
  obtain ⟨h0, gs, dr, tk, os⟩ := s
  have own : ∀ {B : Around} {Q1 : Option Addr → Shared → Prop} {E1 : Value → Shared → Prop} {t : Nat}, Q1 (some dx) ⟨h0, gs, dr, t, os⟩ → wpAny (model X.prog X.w) B (instanceDict a true) Q1 E1 ⟨h0, gs, dr, t, os⟩ := fun {B Q1 E1 t} z => by
    unfold instanceDict
    refine wpAny_bind (wpAny_loadPart hob (wpAny_bind (PySem.W.looks_clsIn (M := model X.prog X.w) I.kIn hcd _ _ _ _ (fun _ _ e => e) ?_)))
    rw [hd]
    exact wpAny_pure z
  refine PySem.W.set_plain I.kIn (od := some od) ⟨hob, rfl, rfl, hod⟩ T.sta (road (od := some od) I.kIn ⟨hob, rfl, rfl, hod⟩ hcd em hm hno (own ⟨dx, rfl, PySem.OEX.store_in_old hns few (by rw [List.length_map]; omega) fun h1 t1 n1 sb => ?_⟩))
  exact h _ (I.write (t' := t1) (x := dx) (e := dx) (o := exd dx ((f, y) :: fs)) (by rw [ed]; exact True.intro) (.inl rfl) sb.extBut (let ⟨o, _, _, z, _⟩ := n1; ⟨o, z⟩) (exd_ok n1 (relO_put ry rel)))
end
/-- y put as field f of the exception at a: its first one, into a new dict, or a further one -/
def Put (a C : Addr) (f : Str) (y : V) (H : Hp) (K : Hp → Prop) : Prop :=
  (H a = some (exo a C none) ∧ ∀ dx, H dx = none → dx ≠ a → K (upd (upd H dx (exd dx [(f, y)])) a (exo a C (some dx)))) ∨
  ∃ (dx : Addr) (fs : List (Str × V)), H a = some (exo a C (some dx)) ∧ H dx = some (exd dx fs) ∧ fs.length ≤ 900 ∧ K (upd H dx (exd dx ((f, y) :: fs)))
/-- self.f = e, self an exception that is being made -/
def tXst (K : PySem.W.Frag) (f : Str) (to te : TE) : TS := fun D σ H => te σ H fun y H1 => to σ H1 fun x H2 => ∃ a C : Addr, x = .ref a ∧ XC K C ∧ PySem.W.findIn K (.ref C) f = some none ∧ Put a C f y H2 (D.nx σ)
theorem ps_xst {X : Cx} {o e : Expr} {to te : TE} {f : Str} {p' pos : Pos} (ho : PE X o to) (he : PE X e te) (hs : swapsWith e (some (.Attribute o f p')) pos.line X.env = pure false := by rfl) : PS X (.Assign [.Attribute o f p'] e pos) (tXst X.K f to te) where
  run := fun pins s σ H D I h => by
    refine plainObj_wpAny_Assign_Attribute (L2.thn (he.run pins s σ H _ I h) ?_) hs
    rintro v s1 ⟨y, H1, I1, r1, q1⟩
    refine L2.thn (ho.run pins s1 σ H1 _ I1 q1) ?_
    rintro v2 s2 ⟨_, H2, I2, r2, a, C, rfl, T, hno, q⟩
    obtain rfl : v2 = Value.ref a := r2
    obtain ⟨ea, q⟩ | ⟨dx, fs, ea, ed, hl, q⟩ := q
    · exact xst_new T I2 ea hno r1 fun dx s1 n ne J => ⟨σ, _, J, q dx n ne⟩
    · exact xst_old T I2 ea ed hl hno r1 fun s1 J => ⟨σ, _, J, q⟩
end TX
namespace TX
open PySem PySem.Spec L2 PyProof.Rows
section
variable {X : Cx} {pins : List (Addr × Obj)} {σ : L2.St} {H : Hp} {s : Shared} {a C : Addr}
/-- an object beside all that is tracked -/
theorem inv_grow {h1 : Heap} {t1 : Nat} (I : Inv X pins σ H s) (k : ∀ b o, s.heap.get? b = some o → h1.get? b = some o) : Inv X pins σ H { s with heap := h1, toks := t1 } := I.un (Un.kept k) (I.hok.kept k)
theorem inv_pin {u : Addr} {o : Obj} (I : Inv X [] σ H s) (e : s.heap.get? u = some o) (n : H u = none) (nl : u ≠ X.env.locals) (nf : u ∉ X.fs) (nc : ∀ v, o.data ≠ .cell v) : Inv X [(u, o)] σ H s :=
  ⟨I.ok, I.os, I.bare, I.base, I.loc, I.cell, I.free, I.freeC, fun p hp => by
    rcases List.mem_append.mp hp with hp | hp
    · exact I.pin p (List.mem_append_left _ hp)
    · rw [List.mem_singleton.mp hp]
      exact ⟨e, n, nl, nf, nc⟩, I.hok, I.len⟩
theorem inv_unpin (I : Inv X pins σ H s) : Inv X [] σ H s :=
  ⟨I.ok, I.os, I.bare, I.base, I.loc, I.cell, I.free, I.freeC, fun p hp => I.pin p (by
    rw [List.append_nil] at hp
    exact List.mem_append_left _ hp), I.hok, I.len⟩
theorem upd_own {o : HO} (e : H a = some o) : upd H a o = H := by
  funext b
  by_cases hb : b = a
  · rw [hb, upd_same, e]
  · rw [upd_ne hb]
/-- the wrapper called: the args are laid anew -/
theorem xcall {u : Addr} {us : List Value} {Q : Value → Shared → Prop} {E : Value → Shared → Prop} (T : XC X.K C) (I : Inv X pins σ H s) (ea : H a = some (exo a C none)) (hu : s.heap.get? u = some (ESX.bw a)) (hl : us.length ≤ sizeLine)
    (h : ∀ s1, Inv X pins σ H s1 → Q .none s1) : wpAny (model X.prog X.w) X.A (call (.ref u) us) Q E s := by
  obtain ⟨nm, q, N, bs, bm, sn, sub, ab, col, dd, k0, k1, k2, k3, k5, hC, hbm⟩ := T.cls
  obtain ⟨at1, hob⟩ := exo_at I.hok ea
  obtain ⟨h0, g0, d0, t0, o0⟩ := s
  refine ESX.call_bw (I.kIn _ _ hC) hob hu hl fun h1 at2 k hx => ?_
  have J := I.write (t' := t0) (x := a) (e := a) (o := exo a C none) (by rw [ea]; exact True.intro) (.inl rfl) k ⟨_, hx⟩ (exo_ok hx)
  rw [upd_own ea] at J
  exact h _ J
/-- what super().__init__ asks of the running def -/
structure XS (X : Cx) (C : Addr) (sn : Str) : Prop where
  kis : X.env.kindOf "super" = some .globalImplicit
  kic : X.env.kindOf "__class__" = some .free
  kin : X.env.kindOf sn = some .local
  at0 : X.N[0]? = some sn
  nos : X.mg "super" = none
  fun_ : ∃ (f cda cc : Addr) (of oc occ : Obj) (fd : FuncData) (ar : Arg) (vs : Array Value) (file : Str) (tf : Tok), X.env.func = some f ∧ X.K.lookup f = some of ∧ of.data = .func fd ∧ (fd.params.posonlyargs ++ fd.params.args).head? = some ar ∧ ar.arg = sn ∧
    X.env.code = .ref cda ∧ X.K.lookup cda = some oc ∧ oc.data = .fields vs ∧ vs[2]? = some (.str file tf) ∧ ((X.prog.main.file : Str) == file) = true ∧ X.env.cells.lookup ("__class__" : Str) = some cc ∧ X.K.lookup cc = some occ ∧ occ.data = .cell (some (.ref C))
  top : (X.prog.main.scope.names.lookup ("super" : Str)).isSome = false
  par : PySem.W.nsIn X.K cStatics "thirdparty.any" = some none
  ini : ∃ cd : ClassData, PySem.W.clsIn X.K C = some cd ∧ PySem.W.alongIn X.K "__init__" ((cd.mro.dropWhile (· != .ref C)).drop 1) = some (some (.builtin "Exception.__init__")) ∧ PySem.W.mroIn X.K C (.ref C) = some true
theorem xsup {body : List Stmt} {sn0 : Str} {args : List Expr} {ta : TA} {p0 p1 p2 p3 p4 : Pos} {pl : Sem Bool} (T : XC X.K C) (S : XS X C sn0) (hex : X.ex = []) (I : Inv X [] σ H s) (e0 : σ[0]? = some (some (V.ref a))) (ea : H a = some (exo a C none))
    (ha : args = [] ∨ ∃ e es, args = e :: es ∧ PA X args ta ∧ (∀ Q, (∀ vs, vs.length ≤ 1000 → Q vs H) → ta σ H Q) ∧ starEach (e :: es) X.env = (false, eval e X.env) :: starEach es X.env ∧ (∀ pos, (backTo pos (starEach es X.env)).any (·.1) = false))
    (hc : eval (.Call (.Attribute (.Call (.Name "super" p0) [] [] p1) "__init__" p2) args [] p3) X.env = (do
      let ov ← attributeBase (.Call (.Name "super" p0) [] [] p1) "__init__" X.env (eval (.Call (.Name "super" p0) [] [] p1) X.env)
      standAt p2.atName
      let (f, first) ← holding [ov] (getMethod ov "__init__" pl)
      callWith p3 f first (backTo p3 (starEach args X.env)) []))
    (hi : interactive X.env = false) (hs : swapsWith (.Call (.Attribute (.Call (.Name "super" p0) [] [] p1) "__init__" p2) args [] p3) none p4.line X.env = pure false) :
    _root_.PySem.wpAt (model X.prog X.w) X.A (.func body X.env) (exec (.Expr (.Call (.Attribute (.Call (.Name "super" p0) [] [] p1) "__init__" p2) args [] p3) p4) X.env) (fun fl s1 => fl = .next ∧ Inv X [] σ H s1) X.xe s := by
  obtain ⟨f, cda, cc, of, oc, occ, fd, ar, vs, file, tf, q1, q2, q3, q4, q5, q6, q7, q8, q9, q10, q11, q12, q13⟩ := S.fun_
  obtain ⟨cd, c1, c2, c3⟩ := S.ini
  have KX : X.K.In s.heap := I.kIn
  obtain ⟨nm, q, N, bs, bm, sn, sub, ab, col, dd, k0, k1, k2, k3, k5, hC, hbm⟩ := T.cls
  obtain ⟨at1, hob⟩ := exo_at I.hok ea
  have hC1 := KX _ _ hC
  subst q5
  refine ks_wpAt_Expr_any (ks_wpAt_MethodCall (pl := pl) ?_ hc) hi hs
  refine ks_wpAt_super_base S.kis S.kic (by decide) q1 (KX _ _ q2) q3 q4 q6 (KX _ _ q7) q8 q9 q10 S.top ?_
  obtain ⟨mb, b1, b2⟩ := I.mod.blt
  refine PySem.W.ks_loadName_global I.ok.kind S.kis (Calls.loadGlobal_builtin (by rw [I.ok.glob]; exact I.mod.glob.keeps I.bk) S.nos (by rw [I.ok.blt]; exact b1.keeps I.bk) ((b2 "super" (by decide)).trans (by decide +kernel)) ⟨rfl, ?_⟩)
  refine wpAny_loadName_free I.ok.kind S.kic q11 ⟨_, KX _ _ q12, q13⟩ ?_
  obtain ⟨m, hns, hlk⟩ := I.loc
  obtain ⟨u0, ru, lk⟩ := hlk 0 ar.arg (V.ref a) S.at0 e0 (.inl S.kin)
  obtain rfl : u0 = Value.ref a := ru
  have hm0 : m ar.arg = some (.ref a) := by
    rcases lk with ⟨_, z⟩ | ⟨z, _⟩
    · exact z
    · rw [S.kin] at z
      rcases z with z | z <;> cases z
  refine wpAny_loadName_local I.ok.kind S.kin hns hm0 ?_
  obtain ⟨h0, g0, d0, t0, o0⟩ := s
  refine ks_wpAny_isType_cls hC1 rfl ⟨rfl, ?_⟩
  refine ks_wpAny_call_super hC1 rfl hob rfl (fun c z => by cases z) (PySem.W.looks_mroIn KX c3) (fun h1 es1 k1 => ?_)
  have I1 : Inv X [] σ H ⟨h1, g0, d0, t0, o0⟩ := inv_grow (s := ⟨h0, g0, d0, t0, o0⟩) (t1 := t0) I k1
  have K1 : X.K.In h1 := I1.kIn
  have J1 : PySem.W.InstAt h1 a (HandSPX.excO C at1) C none := ⟨k1 _ _ hob, rfl, rfl, trivial⟩
  refine PySem.W.kxs_getMethod PySem.W.kxs_Exception es1 (PySem.W.looks_opaque K1 S.par) (l₀ := cd.mro) (fun A Q E s k q => wpAny_bind ((PySem.W.looks_clsIn K1 c1) A _ E s k (wpAny_pure q))) rfl K1 c2 (J1.type.andThen (PySem.W.looks_subIn K1 T.exc)) (PySem.W.ks_ne K1 J1 c1) (by decide) ?_
  have I2 : Inv X [] σ H ⟨h1.push (PySem.W.kxs_mw "Exception.__init__" a), g0, d0, t0 + 1, o0⟩ := inv_grow (s := ⟨h1, g0, d0, t0, o0⟩) (t1 := t0 + 1) I1 fun b o e => Heap.get?_push_of_some _ e
  have hu2 : (h1.push (PySem.W.kxs_mw "Exception.__init__" a)).get? h1.objs.size = some (ESX.bw a) := Heap.get?_push_at rfl rfl
  have nu : H h1.objs.size = none := I1.hok.fresh (Nat.le_refl _)
  have I3 := inv_pin I2 hu2 nu (fun z => by
    have := I1.lt
    rw [← z] at this
    exact absurd this (Nat.lt_irrefl _)) (I1.nofs (Nat.le_refl _)) (fun v z => by cases z)
  rcases ha with rfl | ⟨e, es, rfl, pa, rd, he, hp⟩
  · show wpAny _ _ (callWith p3 (.ref h1.objs.size) [] [] []) _ _ _
    refine ESX.callWith_bw (x := a) rfl (evalArgs_empty ⟨hu2, ?_⟩)
    exact xcall T I3 ea hu2 (by show 0 ≤ sizeLine; exact Nat.zero_le _) fun s1 J => ⟨rfl, inv_unpin J⟩
  · show wpAny _ _ (callWith p3 (.ref h1.objs.size) [] (backTo p3 (starEach (e :: es) X.env)) []) _ _ _
    refine ESX.callWith_bound (x := a) (L2.thn (pa.run p3 [(h1.objs.size, ESX.bw a)] _ σ H _ I3 (rd (fun vs H1 => H1 = H ∧ vs.length ≤ 1000) fun vs hl => ⟨rfl, hl⟩)) fun us s1 hh => ?_) he (hp p3)
    obtain ⟨vs1, H1, J, rv, eH, hl⟩ := hh
    subst eH
    have hu3 := (J.pin (h1.objs.size, ESX.bw a) (List.mem_append_right _ (List.mem_singleton.mpr rfl))).1
    refine ⟨hu3, ?_⟩
    exact xcall T J ea hu3 (by rw [List.nil_append, ← Paired.length rv, sizeLine_eq]; omega) fun s2 J2 => ⟨rfl, inv_unpin J2⟩
end
end TX
namespace TX
open PySem PySem.Spec L2 PyProof.Rows NdefX
theorem xcells {P : Program} {w : World} {K : PySem.W.Frag} {mg : Str → Option Value} {base : Heap} {A : Around} {outer : List Env} {s : Shared} {H : Hp} {cl : List (Str × Addr)} {cc C : Addr} {occ : Obj} (e0 : Env0 P w K mg base A outer s H) (hcl : cl = [(("__class__" : Str), cc)]) (hcc : K.lookup cc = some occ) (hoc : occ.data = .cell (some (.ref C))) :
    CellsAt cl [("__class__" : Str)] [none] s.heap H := by
  have hb := e0.mod.kin _ _ hcc
  have h2 := e0.bs _ _ hb
  have one : ∀ y c, cl.lookup y = some c → y = ("__class__" : Str) ∧ c = cc := fun y c e => by
    rw [hcl] at e
    by_cases q : y = ("__class__" : Str)
    · subst q
      simp [List.lookup] at e
      exact ⟨rfl, e.symm⟩
    · have : (y == ("__class__" : Str)) = false := by simpa using q
      simp [List.lookup, this] at e
  refine ⟨rfl, fun y c e => ?_, fun x y c e1 e2 => (one x c e1).1.trans (one y c e2).1.symm, fun i y e => ?_⟩
  · rw [(one y c e).2]
    exact ⟨h2.2, _, _, h2.1, hoc⟩
  · cases i with
    | zero =>
      cases e
      exact ⟨cc, by rw [hcl]; simp [List.lookup], fun v z => by cases z⟩
    | succ i => cases e
theorem xfn {CX : CXT} {P : Program} {w : World} {K : PySem.W.Frag} {mg : Str → Option Value} {base : Heap} {N ps : List Str} {F : NF} {f cc C : Addr} {first : Stmt} {rest : List Stmt} {k : Nat} {sp : Sp} {oc : Value} {od : Option Addr} {osl : Array (Option Value)} {dV kV doc pm ct : Value} {an : Option Addr} {fd : FuncData} {occ : Obj}
    (hfd : fd = PySem.W.fnX F.name F.qual F.params F.body F.scope F.cl dV kV doc pm an (.ref F.c) ct) (lk : K.lookup f = some ⟨oc, od, .func fd, osl⟩) (hcd : PySem.W.codeIn K (.ref F.c) F.qual = true)
    (hcl : F.cl = [(("__class__" : Str), cc)]) (hcc : K.lookup cc = some occ) (hoc : occ.data = .cell (some (.ref C))) (hb : F.body = first :: rest) (S : NScope N ps [("__class__" : Str)] F.scope) (len : ∀ vs H Q E, sp vs H Q E → vs.length = ps.length)
    (hbody : ∀ (A : Around) (outer : List Env) (s : Shared) (H : Hp) (vs : List V) (Q : VK) (E : XK), Room k (A.deeper (envF F f s.heap.objs.size)) → sp vs H Q E →
      (∃ t, PSs (ncx CX P w K mg base N F f A outer s H E) rest t ∧ t { nx := fun _ H1 => Q .non H1, rt := Q } (startF N vs [none]) H) ∧
      ∀ s1, Inv (ncx CX P w K mg base N F f A outer s H E) [] (startF N vs [none]) H s1 → _root_.PySem.wpAt (model P w) (A.deeper (envF F f s.heap.objs.size)) (.func F.body (envF F f s.heap.objs.size)) (exec first (envF F f s.heap.objs.size))
        (fun fl s2 => fl = .next ∧ Inv (ncx CX P w K mg base N F f A outer s H E) [] (startF N vs [none]) H s2) (ncx CX P w K mg base N F f A outer s H E).xe s1) :
    FnOk P w K mg base CX (k + 1) f fd ps sp := by
  refine ⟨len, fun A outer s H args us vs Q E hr e0 hbind r hsp => ?_⟩
  subst hfd
  have KX : K.In s.heap := e0.mod.kin.keeps fun b o e => (e0.bs b o e).1
  have hl := len _ _ _ _ hsp
  have nolim : s.heap.NoLimit := e0.mod.nolimit.keeps fun b o e => (e0.bs b o e).1
  refine codeAny_call_function hr.depth (KX _ _ lk) rfl S.co S.gen rfl (PySem.W.codeRec_of KX hcd) (hbind _ _ _ _ ?_)
  refine wpAny_newFunctionEnv S.nocell (fun ⟨n, _⟩ hy => S.par n (List.of_mem_zip hy).1) (fun h1 hns hsb => ⟨nolim.fresh _ hsb, ?_⟩) S.kind
  show codeAny _ _ (.func F.body (envF F f s.heap.objs.size)) _ _
  have kp : ∀ b o, s.heap.get? b = some o → h1.get? b = some o := fun b o e => hsb.extBut b o (Nat.ne_of_lt (Heap.lt_size e)) (Heap.get?_push_of_some _ e)
  have I : Inv (ncx CX P w K mg base N F f A outer s H E) [] (startF N vs [none]) H { s with heap := h1, toks := s.toks + (ps.zip us).length } := inv_startN S hr.hd e0 hl r (xcells e0 hcl hcc hoc) hns kp
  obtain ⟨⟨t, ht, hq⟩, hfirst⟩ := hbody A outer s H vs Q E (hr.deeper _) hsp
  refine ks_codeAny_funcAt ?_
  have eb : execs F.body (envF F f s.heap.objs.size) = execs (first :: rest) (envF F f s.heap.objs.size) := by rw [hb]
  rw [eb]
  refine ks_wpAt_execs_cons (ks_wpAt_mono (hfirst _ I) (fun fl s2 h2 => ?_) fun e s2 z => z)
  obtain ⟨rfl, J⟩ := h2
  have fin : ∀ {σ1 : L2.St} {H1 : Hp} {v : V} {u : Value} {s3 : Shared}, Inv (ncx CX P w K mg base N F f A outer s H E) [] σ1 H1 s3 → L2.RelV v u → Q v H1 → CE outer P w H s Q u s3 :=
    fun {σ1 H1 v u s3} J3 rv q => ⟨v, H1, J3.os, J3.bare, J3.base, J3.hok, rv, q⟩
  refine wpAt_of_wpAny (wpAny_mono (ht.run [] _ (startF N vs [none]) H _ J hq) (fun fl s3 hs => ?_) fun e s3 hs => hs)
  cases fl with
  | ret u =>
    obtain ⟨v, σ1, H1, J3, rv, q⟩ := hs
    exact fin J3 rv q
  | next =>
    obtain ⟨σ1, H1, J3, q⟩ := hs
    exact fin (v := V.non) (u := Value.none) J3 rfl q
  | brk =>
    obtain ⟨_, _, _, q⟩ := hs
    exact False.elim q
  | cont =>
    obtain ⟨_, _, _, q⟩ := hs
    exact False.elim q
end TX
namespace TX
open PySem PySem.Spec L2 PyProof.Rows NdefX
/-- such a class, its __init__ -/
structure XInit (P : Program) (K : PySem.W.Frag) (C : Addr) (name qual : Str) (params : Arguments) (body : List Stmt) (scope : Scope) (flds : List Str) (f : Addr) (fd : FuncData) (cc cda : Addr) : Prop where
  xc : XC K C
  ini : PySem.W.findIn K (.ref C) "__init__" = some (some (.ref f))
  tyf : PySem.W.typeIn K (.ref f) = some (.type "function")
  fn : ∃ oc od osl dV kV doc pm an ct, fd = PySem.W.fnX name qual params body scope [(("__class__" : Str), cc)] dV kV doc pm an (.ref cda) ct ∧ K.lookup f = some ⟨oc, od, .func fd, osl⟩
  code : PySem.W.codeIn K (.ref cda) qual = true
  cell : ∃ occ, K.lookup cc = some occ ∧ occ.data = .cell (some (.ref C))
  file : ∃ ocd vs fl tf, K.lookup cda = some ocd ∧ ocd.data = .fields vs ∧ vs[2]? = some (.str fl tf) ∧ ((P.main.file : Str) == fl) = true
  mro : ∃ cd : ClassData, PySem.W.clsIn K C = some cd ∧ PySem.W.alongIn K "__init__" ((cd.mro.dropWhile (· != .ref C)).drop 1) = some (some (.builtin "Exception.__init__")) ∧ PySem.W.mroIn K C (.ref C) = some true
  nof : ∀ x ∈ flds, PySem.W.findIn K (.ref C) x = some none
  par : PySem.W.nsIn K cStatics "thirdparty.any" = some none
/-- what making one does -/
def spX (C : Addr) (flds : List Str) : Sp := fun vs H Q _ => ∃ a ws, vs = .ref a :: ws ∧ ws.length = flds.length ∧ H a = some (exo a C none) ∧ (flds = [] → Q .non H) ∧
  (flds ≠ [] → ∀ dx, H dx = none → dx ≠ a → Q .non (upd (upd H dx (exd dx (flds.zip ws).reverse)) a (exo a C (some dx))))
section
variable {P : Program} {w : World} {K : PySem.W.Frag} {mg : Str → Option Value} {base : Heap} {C f cc cda : Addr} {name qual : Str} {params : Arguments} {body : List Stmt} {scope : Scope} {fd : FuncData} {x y : Str}
theorem xs_of {F : NF} {A : Around} {outer : List Env} {s : Shared} {H : Hp} {E : XK} {N flds : List Str} {ar : Arg} (T : XInit P K C F.name F.qual F.params F.body F.scope flds f fd cc F.c) (hcl : F.cl = [(("__class__" : Str), cc)]) (hN : N[0]? = some ar.arg) (ha : (F.params.posonlyargs ++ F.params.args).head? = some ar)
    (k1 : F.scope.names.lookup ("super" : Str) = some .globalImplicit) (k2 : F.scope.names.lookup ("__class__" : Str) = some .free) (k3 : F.scope.names.lookup ar.arg = some .local) (hm : mg "super" = none) (top : (P.main.scope.names.lookup ("super" : Str)).isSome = false) :
    XS (ncx (L2.CX P w) P w K mg base N F f A outer s H E) C ar.arg := by
  obtain ⟨oc, od, osl, dV, kV, doc, pm, an, ct, rfl, lk⟩ := T.fn
  obtain ⟨occ, c1, c2⟩ := T.cell
  obtain ⟨ocd, vs, fl, tf, f1, f2, f3, f4⟩ := T.file
  refine ⟨k1, k2, k3, hN, hm, ⟨f, F.c, cc, _, ocd, occ, _, ar, vs, fl, tf, rfl, lk, rfl, ha, rfl, rfl, f1, f2, f3, f4, ?_, c1, c2⟩, top, T.par, T.mro⟩
  show F.cl.lookup _ = _
  rw [hcl]
  simp [List.lookup]
theorem look1 {F : NF} {A : Around} {outer : List Env} {s : Shared} {H : Hp} {E : XK} {N : List Str} : (ncx (L2.CX P w) P w K mg base N F f A outer s H E).env.scope = F.scope := rfl
theorem inter {F : NF} {A : Around} {outer : List Env} {s : Shared} {H : Hp} {E : XK} {N : List Str} (k : F.scope.kind = .function) : interactive (ncx (L2.CX P w) P w K mg base N F f A outer s H E).env = false := by
  unfold interactive
  show (F.scope.kind == .module && _) = false
  rw [k]
  rfl
/-- one field -/
theorem xfn1 (T : XInit P K C name qual params body scope [x] f fd cc cda) {p0 p1 p2 p3 p4 p5 p6 p7 p8 p9 : Pos} {pl : Env → Sem Bool} {ar : Arg}
    (eb : body = [.Expr (.Call (.Attribute (.Call (.Name "super" p0) [] [] p1) "__init__" p2) [.Name x p3] [] p4) p5, .Assign [.Attribute (.Name "self" p6) x p7] (.Name x p8) p9])
    (hc : ∀ env : Env, eval (.Call (.Attribute (.Call (.Name "super" p0) [] [] p1) "__init__" p2) [.Name x p3] [] p4) env = (do
      let ov ← attributeBase (.Call (.Name "super" p0) [] [] p1) "__init__" env (eval (.Call (.Name "super" p0) [] [] p1) env)
      standAt p2.atName
      let (f, first) ← holding [ov] (getMethod ov "__init__" (pl env))
      callWith p4 f first (backTo p4 (starEach [.Name x p3] env)) []))
    (S : NScope ["self", x, "__class__"] ["self", x] [("__class__" : Str)] scope) (ha : (params.posonlyargs ++ params.args).head? = some ar) (har : ar.arg = "self") (k1 : scope.names.lookup ("super" : Str) = some .globalImplicit) (hm : mg "super" = none)
    (top : (P.main.scope.names.lookup ("super" : Str)).isSome = false) (hd : (x == ("__debug__" : Str)) = false) (hd2 : (x == ("__classdict__" : Str)) = false) : FnOk P w K mg base (L2.CX P w) 1 f fd ["self", x] (spX C [x]) := by
  obtain ⟨oc, od, osl, dV, kV, doc, pm, an, ct, efd, lk⟩ := id T.fn
  obtain ⟨occ, c1, c2⟩ := T.cell
  refine xfn (F := ⟨name, qual, params, body, scope, [(("__class__" : Str), cc)], cda⟩) efd lk T.code rfl c1 c2 eb S (fun vs H Q E h => ?_) fun A outer s H vs Q E hr hsp => ?_
  · obtain ⟨a, ws, rfl, hl, _⟩ := h
    simp only [List.length_cons, hl, List.length_nil]
  obtain ⟨a, ws, rfl, hl, ea, _, hq⟩ := hsp
  obtain ⟨v, rfl⟩ : ∃ v, ws = [v] := by
    match ws, hl with
    | [v], _ => exact ⟨v, rfl⟩
  have hq := hq (by simp)
  have v0 : Vis scope "self" := .inl (S.par "self" List.mem_cons_self)
  have v1 : Vis scope x := .inl (S.par x (by simp))
  have XSx := xs_of (w := w) (mg := mg) (base := base) (A := A) (outer := outer) (s := s) (H := H) (E := E) (N := ["self", x, "__class__"]) (F := ⟨name, qual, params, body, scope, [(("__class__" : Str), cc)], cda⟩) (ar := ar) T rfl (by rw [har]; rfl) ha k1 (S.frk "__class__" List.mem_cons_self) (by rw [har]; exact S.par "self" List.mem_cons_self) hm top
  rw [har] at XSx
  refine ⟨⟨_, pss_cons (ps_xst (pv 0 rfl v0) (pv 1 rfl v1 hd hd2)) pss_nil, ?_⟩, fun s1 I => ?_⟩
  · refine ⟨v, rfl, V.ref a, rfl, a, C, rfl, T.xc, T.nof x List.mem_cons_self, .inl ⟨ea, fun dx n ne => ?_⟩⟩
    exact hq dx n ne
  · exact xsup (ta := tCons (tVar 1) tNil) T.xc XSx rfl I rfl ea (.inr ⟨_, _, rfl, pa_cons (pv 1 rfl v1 hd hd2) pa_nil, fun Q q => ⟨v, rfl, q _ (by simp)⟩, rfl, fun _ => rfl⟩) (hc _) (inter S.kind) rfl
/-- two fields -/
theorem xfn2 (T : XInit P K C name qual params body scope [x, y] f fd cc cda) {p0 p1 p2 p3 p4 p5 p6 p7 p8 p9 p10 p11 p12 p13 p14 : Pos} {pl : Env → Sem Bool} {ar : Arg}
    (eb : body = [.Expr (.Call (.Attribute (.Call (.Name "super" p0) [] [] p1) "__init__" p2) [.Name x p3, .Name y p10] [] p4) p5, .Assign [.Attribute (.Name "self" p6) x p7] (.Name x p8) p9, .Assign [.Attribute (.Name "self" p11) y p12] (.Name y p13) p14])
    (hc : ∀ env : Env, eval (.Call (.Attribute (.Call (.Name "super" p0) [] [] p1) "__init__" p2) [.Name x p3, .Name y p10] [] p4) env = (do
      let ov ← attributeBase (.Call (.Name "super" p0) [] [] p1) "__init__" env (eval (.Call (.Name "super" p0) [] [] p1) env)
      standAt p2.atName
      let (f, first) ← holding [ov] (getMethod ov "__init__" (pl env))
      callWith p4 f first (backTo p4 (starEach [.Name x p3, .Name y p10] env)) []))
    (S : NScope ["self", x, y, "__class__"] ["self", x, y] [("__class__" : Str)] scope) (ha : (params.posonlyargs ++ params.args).head? = some ar) (har : ar.arg = "self") (k1 : scope.names.lookup ("super" : Str) = some .globalImplicit) (hm : mg "super" = none)
    (top : (P.main.scope.names.lookup ("super" : Str)).isSome = false) (hd : (x == ("__debug__" : Str)) = false) (hd2 : (x == ("__classdict__" : Str)) = false) (he : (y == ("__debug__" : Str)) = false) (he2 : (y == ("__classdict__" : Str)) = false) : FnOk P w K mg base (L2.CX P w) 1 f fd ["self", x, y] (spX C [x, y]) := by
  obtain ⟨oc, od, osl, dV, kV, doc, pm, an, ct, efd, lk⟩ := id T.fn
  obtain ⟨occ, c1, c2⟩ := T.cell
  refine xfn (F := ⟨name, qual, params, body, scope, [(("__class__" : Str), cc)], cda⟩) efd lk T.code rfl c1 c2 eb S (fun vs H Q E h => ?_) fun A outer s H vs Q E hr hsp => ?_
  · obtain ⟨a, ws, rfl, hl, _⟩ := h
    simp only [List.length_cons, hl, List.length_nil]
  obtain ⟨a, ws, rfl, hl, ea, _, hq⟩ := hsp
  obtain ⟨v, u, rfl⟩ : ∃ v u, ws = [v, u] := by
    match ws, hl with
    | [v, u], _ => exact ⟨v, u, rfl⟩
  have hq := hq (by simp)
  have v0 : Vis scope "self" := .inl (S.par "self" List.mem_cons_self)
  have v1 : Vis scope x := .inl (S.par x (by simp))
  have v2 : Vis scope y := .inl (S.par y (by simp))
  have XSx := xs_of (w := w) (mg := mg) (base := base) (A := A) (outer := outer) (s := s) (H := H) (E := E) (N := ["self", x, y, "__class__"]) (F := ⟨name, qual, params, body, scope, [(("__class__" : Str), cc)], cda⟩) (ar := ar) T rfl (by rw [har]; rfl) ha k1 (S.frk "__class__" List.mem_cons_self) (by rw [har]; exact S.par "self" List.mem_cons_self) hm top
  rw [har] at XSx
  refine ⟨⟨_, pss_cons (ps_xst (pv 0 rfl v0) (pv 1 rfl v1 hd hd2)) (pss_cons (ps_xst (pv 0 rfl v0) (pv 2 rfl v2 he he2)) pss_nil), ?_⟩, fun s1 I => ?_⟩
  · refine ⟨v, rfl, V.ref a, rfl, a, C, rfl, T.xc, T.nof x List.mem_cons_self, .inl ⟨ea, fun dx n ne => ?_⟩⟩
    refine ⟨u, rfl, V.ref a, rfl, a, C, rfl, T.xc, T.nof y (by simp), .inr ⟨dx, [(x, v)], upd_same, ?_, by simp, ?_⟩⟩
    · rw [upd_ne ne, upd_same]
    · have e : upd (upd (upd H dx (exd dx [(x, v)])) a (exo a C (some dx))) dx (exd dx [(y, u), (x, v)]) = upd (upd H dx (exd dx [(y, u), (x, v)])) a (exo a C (some dx)) := by
        funext b
        by_cases b1 : b = dx
        · rw [b1, upd_same, upd_ne ne, upd_same]
        · rw [upd_ne b1]
          by_cases b2 : b = a
          · rw [b2, upd_same, upd_same]
          · rw [upd_ne b2, upd_ne b1, upd_ne b2, upd_ne b1]
      show Q .non (upd (upd (upd H dx (exd dx [(x, v)])) a (exo a C (some dx))) dx (exd dx [(y, u), (x, v)]))
      rw [e]
      exact hq dx n ne
  · exact xsup (ta := tCons (tVar 1) (tCons (tVar 2) tNil)) T.xc XSx rfl I rfl ea (.inr ⟨_, _, rfl, pa_cons (pv 1 rfl v1 hd hd2) (pa_cons (pv 2 rfl v2 he he2) pa_nil), fun Q q => ⟨v, rfl, u, rfl, q _ (by simp)⟩, rfl, fun _ => rfl⟩) (hc _) (inter S.kind) rfl
/-- none -/
theorem xfn0 (T : XInit P K C name qual params body scope [] f fd cc cda) {p0 p1 p2 p4 p5 : Pos} {pl : Env → Sem Bool} {ar : Arg}
    (eb : body = [.Expr (.Call (.Attribute (.Call (.Name "super" p0) [] [] p1) "__init__" p2) [] [] p4) p5])
    (hc : ∀ env : Env, eval (.Call (.Attribute (.Call (.Name "super" p0) [] [] p1) "__init__" p2) [] [] p4) env = (do
      let ov ← attributeBase (.Call (.Name "super" p0) [] [] p1) "__init__" env (eval (.Call (.Name "super" p0) [] [] p1) env)
      standAt p2.atName
      let (f, first) ← holding [ov] (getMethod ov "__init__" (pl env))
      callWith p4 f first (backTo p4 (starEach [] env)) []))
    (S : NScope ["self", "__class__"] ["self"] [("__class__" : Str)] scope) (ha : (params.posonlyargs ++ params.args).head? = some ar) (har : ar.arg = "self") (k1 : scope.names.lookup ("super" : Str) = some .globalImplicit) (hm : mg "super" = none)
    (top : (P.main.scope.names.lookup ("super" : Str)).isSome = false) : FnOk P w K mg base (L2.CX P w) 1 f fd ["self"] (spX C []) := by
  obtain ⟨oc, od, osl, dV, kV, doc, pm, an, ct, efd, lk⟩ := id T.fn
  obtain ⟨occ, c1, c2⟩ := T.cell
  refine xfn (F := ⟨name, qual, params, body, scope, [(("__class__" : Str), cc)], cda⟩) efd lk T.code rfl c1 c2 eb S (fun vs H Q E h => ?_) fun A outer s H vs Q E hr hsp => ?_
  · obtain ⟨a, ws, rfl, hl, _⟩ := h
    simp only [List.length_cons, hl, List.length_nil]
  obtain ⟨a, ws, rfl, hl, ea, hq, _⟩ := hsp
  obtain rfl : ws = [] := List.eq_nil_of_length_eq_zero hl
  have XSx := xs_of (w := w) (mg := mg) (base := base) (A := A) (outer := outer) (s := s) (H := H) (E := E) (N := ["self", "__class__"]) (F := ⟨name, qual, params, body, scope, [(("__class__" : Str), cc)], cda⟩) (ar := ar) T rfl (by rw [har]; rfl) ha k1 (S.frk "__class__" List.mem_cons_self) (by rw [har]; exact S.par "self" List.mem_cons_self) hm top
  rw [har] at XSx
  refine ⟨⟨_, pss_nil, hq rfl⟩, fun s1 I => ?_⟩
  exact xsup (ta := tNil) T.xc XSx rfl I rfl ea (.inl rfl) (hc _) (inter S.kind) rfl
end
end TX
namespace TX
open PySem PySem.Spec L2 PyProof.Rows NdefX
/-! ### C(..), made to be raised -/
section
variable {fs ex : List Addr} {H1 H2 : Hp} {g0 g2 G : Heap} {a C : Addr}
/-- what was not there at first may be dropped -/
theorem un_drop (u : Un fs ex H1 H2 g0 g2) (n0 : g0.get? a = none) (n1 : H1 a = none) (off : ∀ b, b ≠ a → G.get? b = g2.get? b) : Un fs ex H1 (del H2 a) g0 G := by
  have nb : ∀ {b : Addr} {o : Obj}, g0.get? b = some o → b ≠ a := by
    rintro b o z rfl
    rw [n0] at z
    cases z
  have nh : ∀ {b : Addr} {o : HO}, H1 b = some o → b ≠ a := by
    rintro b o z rfl
    rw [n1] at z
    cases z
  constructor
  case keep => exact fun b o z n hf hx => (off b (nb z)).trans (u.keep b o z n hf hx)
  case slot => exact fun b o z n hf hx => (u.slot b o z n hf hx).imp fun _ y => (off b (nb z)).trans y
  case there => exact fun b o z hx => (u.there b o z hx).imp fun _ y => (off b (nb z)).trans y
  case free => exact fun b o z n hx => (del_ne (nb z)).trans (u.free b o z n hx)
  case tups => exact fun b xs z => (del_ne (nh z)).trans (u.tups b xs z)
  case frzs => exact fun b o v z => (del_ne (nh z)).trans (u.frzs b o v z)
  case tbls => exact fun b ps z => (u.tbls b ps z).imp fun _ y => (del_ne (nh z)).trans y
theorem hok_drop {P : Program} {w : World} (ok : HOk P w H2 g2) (ea : H2 a = some (exo a C none)) (off : ∀ b, b ≠ a → G.get? b = g2.get? b) : HOk P w (del H2 a) G := by
  intro b o z
  have hb : b ≠ a := by
    rintro rfl
    rw [del_same] at z
    cases z
  rw [del_ne hb] at z
  have oth : ∀ {c : Addr}, c = b ∨ H2 c = some (.own b) → c ≠ a := by
    rintro c (rfl | hc)
    · exact hb
    · exact at_ne ea hc exo_own
  refine (ok b o z).stay (fun c v hc y => (off c (oth hc)).trans y) ?_ ?_
  · exact fun c hc => (del_ne (oth (.inr hc))).trans hc
  · exact fun c xs hc => (del_ne (at_ne ea hc exo_tup)).trans hc
end
/-- an exception without fields, told to its raiser -/
theorem mk_bare {X : Cx} {pins : List (Addr × Obj)} {σ : L2.St} {H1 H2 : Hp} {Q : XK} {s1 s2 : Shared} {a C : Addr} (T : Raises X (.ref C)) (I : Inv X pins σ H1 s1) (new : s1.heap.objs.size ≤ a) (u : Un (frs X.stack) [] H1 H2 s1.heap s2.heap)
    (ok : HOk X.prog X.w H2 s2.heap) (ho : s2.os = s1.os) (bare : AllBare s2.gens) (ea : H2 a = some (exo a C none)) (q : Q (.ref C) none (del H2 a)) : MkP X pins σ Q (.ref a) s2 := by
  obtain ⟨t0, at_a⟩ := exo_at ok ea
  obtain ⟨G, same, gone⟩ := restrict s2.heap fun b => decide (b ≠ a)
  have off : ∀ b, b ≠ a → G.get? b = s2.heap.get? b := fun b hb => same b (decide_eq_true hb)
  have no_a : G.get? a = none := gone a (by simp)
  have J : Inv X pins σ (del H2 a) { s2 with heap := G } := I.call' (ch := []) ho (un_drop u (Heap.get?_none_of_le new) (I.hok.fresh new) off) (hok_drop ok ea off) bare (by simp)
  refine ⟨a, _, _, _, _, .ref C, none, rfl, J, fun b o z => ?_, no_a, at_a, ⟨rfl, rfl⟩, rfl, rfl, del_same, rfl, bare, T, q⟩
  refine (off b ?_).symm.trans z
  rintro rfl
  rw [show (Shared.heap { s2 with heap := G }) = G from rfl, no_a] at z
  cases z
/-- C(..): its reading -/
def tMkX (C : Addr) (flds : List Str) (ta : TA) : L2.St → Hp → XK → Prop := fun σ H Q => ta σ H fun vs H1 => vs.length = flds.length ∧ (flds = [] → Q (.ref C) none H1) ∧ (flds ≠ [] → ∀ d, H1 d = none → Q (.ref C) (some d) (upd H1 d (.xd (flds.zip vs).reverse)))
section
variable {X : Cx} {C f cc cda : Addr} {name qual : Str} {params : Arguments} {body : List Stmt} {scope : Scope} {fd : FuncData} {x : Str} {ps flds : List Str} {p pos : Pos} {args : List Expr} {ta : TA}
/-- what __init__ leaves at e -/
def Left (C e : Addr) (flds : List Str) (vs : List V) (H1 H2 : Hp) : Prop :=
  (flds = [] ∧ H2 = upd H1 e (exo e C none)) ∨ (flds ≠ [] ∧ ∃ dx, upd H1 e (exo e C none) dx = none ∧ dx ≠ e ∧ H2 = upd (upd (upd H1 e (exo e C none)) dx (exd dx (flds.zip vs).reverse)) e (exo e C (some dx)))
theorem drop_bare {H : Hp} {e : Addr} {o : HO} (n : H e = none) : del (upd H e o) e = H := by
  funext b
  by_cases h : b = e
  · rw [h, del_same, n]
  · rw [del_ne h, upd_ne h]
theorem drop_dict {H : Hp} {e dx : Addr} {o1 o2 o3 o4 : HO} (n : H e = none) (d : dx ≠ e) : upd (del (upd (upd (upd H e o1) dx o2) e o3) e) dx o4 = upd H dx o4 := by
  funext b
  by_cases h1 : b = dx
  · rw [h1, upd_same, upd_same]
  rw [upd_ne h1, upd_ne h1]
  by_cases h2 : b = e
  · rw [h2, del_same, n]
  · rw [del_ne h2, upd_ne h2, upd_ne h1, upd_ne h2]
theorem xmade {pins : List (Addr × Obj)} {σ : L2.St} {H1 : Hp} {Q : XK} {s1 : Shared} {us : List Value} {vs : List V} (T : XInit X.prog X.K C name qual params body scope flds f fd cc cda) (F1 : FnOk X.prog X.w X.K X.mg X.base (L2.CX X.prog X.w) 1 f fd ps (spX C flds)) (hfl : flds.length ≤ 900)
    (hr : Room 2 X.A) (hb : Binds X.K fd ps []) (I1 : Inv X pins σ H1 s1) (r1 : Vals vs us) (hl : vs.length = flds.length) (h0 : flds = [] → Q (.ref C) none H1) (h1 : flds ≠ [] → ∀ d, H1 d = none → Q (.ref C) (some d) (upd H1 d (.xd (flds.zip vs).reverse))) :
    wpAny (model X.prog X.w) X.A (call (.ref C) us) (MkP X pins σ Q) X.xe s1 := by
  obtain ⟨_, _, _, _, bm, _, _, _, _, _, _, _, _, _, _, hC, hbm⟩ := T.xc.cls
  have few : us.length ≤ sizeLine := by
    rw [← Paired.length r1, hl, sizeLine_eq]
    omega
  obtain ⟨g0, gs, dr, tk, os⟩ := s1
  -- its args and itself, new
  obtain ⟨g1, eg⟩ : ∃ g, g = (g0.push (PySem.W.kdv_tup us)).push (PySem.HandSPX.excO C g0.objs.size) := ⟨_, rfl⟩
  obtain ⟨e, ee⟩ : ∃ e : Addr, e = g0.objs.size + 1 := ⟨_, rfl⟩
  have grow : ∀ b o, g0.get? b = some o → g1.get? b = some o := fun b o z => eg ▸ Heap.get?_push_of_some _ (Heap.get?_push_of_some _ z)
  have at_e : g1.get? e = some (PySem.HandSPX.excO C g0.objs.size) := by
    rw [eg, ee]
    heap_get
  have new : g0.objs.size ≤ e := ee ▸ Nat.le_succ _
  have fresh_e : H1 e = none := I1.hok.fresh new
  have I2 := I1.laid (t' := tk) (o := exo e C none) grow new (exo_ok at_e)
  -- its __init__
  have prom : spX C flds (V.ref e :: vs) (upd H1 e (exo e C none)) (fun v H2 => v = .non ∧ Left C e flds vs H1 H2) (fun _ _ _ => False) := by
    refine ⟨e, vs, rfl, hl, upd_same, fun z => ⟨rfl, .inl ⟨z, rfl⟩⟩, fun z dx n d => ⟨rfl, .inr ⟨z, dx, n, d, rfl⟩⟩⟩
  have r2 : Vals (V.ref e :: vs) (Value.ref e :: us) := .cons rfl r1
  have arity : (Value.ref e :: us ++ []).length = ps.length := by
    rw [List.append_nil, ← r2.length]
    exact F1.len _ _ _ _ prom
  have bound := hb ⟨g1, gs, dr, tk, os⟩ (Value.ref e :: us) I2.kIn arity
  rw [List.append_nil] at bound
  have run := F1.run _ X.stack _ _ ⟨Value.ref e :: us, []⟩ _ _ _ (fun _ _ _ => False) (hr.make C us []) (I2.env0.make C us []) bound r2 prom
  have grown := Un.laid (fs := frs X.stack) (ex := []) (o := exo e C none) grow new fresh_e
  subst ee eg
  refine wpAny_call (PySem.HandSPX.call_own F.excBase_Exception (fun Y => PySem.W.excTail_contains Y bm hbm) (I1.kIn _ _ hC) (PySem.W.looks_findIn I1.kIn T.ini) (fun self => PySem.W.bind_fn I1.kIn self T.tyf) few (codeAny_mono run fun r s2 z => ?_))
  obtain er | fl := r
  · exact takes0 er s2 (XE.of_call (W := fun _ _ _ _ => False) I2 (fun _ _ _ h => h) z)
  cases fl with
  | ret u =>
    obtain ⟨_, H2, o2, bare, un, ok, rv, ⟨rfl, left⟩⟩ := z
    refine ⟨rv, ?_⟩
    obtain ⟨z, rfl⟩ | ⟨z, dx, n, d, rfl⟩ := left
    · exact mk_bare (raises_own T.xc.bse T.xc.typ) I1 new (grown.trans un) ok o2 bare upd_same (by rw [drop_bare fresh_e]; exact h0 z)
    · obtain ⟨g2, gs2, dr2, tk2, os2⟩ := s2
      rw [upd_ne d] at n
      exact mk_end (d := dx) (raises_own T.xc.bse T.xc.typ) I1 new grow un ok o2 bare upd_same (by rw [upd_ne d, upd_same]) n (by rw [drop_dict fresh_e d]; exact h1 z dx n)
  | _ => exact z.elim
theorem pmkx {e : Expr} {es : List Expr} (T : XInit X.prog X.K C name qual params body scope flds f fd cc cda) (F1 : FnOk X.prog X.w X.K X.mg X.base (L2.CX X.prog X.w) 1 f fd ps (spX C flds)) (hfl : flds.length ≤ 900) (hr : Room 2 X.A) (hb : Binds X.K fd ps []) (hg : Gl X x) (hm : X.mg x = some (.ref C)) (ha : PA X (e :: es) ta)
    (hdb : (x == ("__debug__" : Str)) = false := by decide) (he : starEach (e :: es) X.env = (false, eval e X.env) :: starEach es X.env := by rfl) (hpl : (backTo pos (starEach es X.env)).any (·.1) = false := by rfl) :
    PMk X (.Call (.Name x p) (e :: es) [] pos) (tMkX C flds ta) := by
  intro pins s σ H Q I h
  refine wpAny_Call_Name_kw (ld_glob I hg hm ?_ hdb)
  refine PySem.W.callWith_K (h₀ := X.base) I.ok.mod.kin T.xc.kep (L2.thn (ha.run pos pins s σ H _ I h) fun us s1 ⟨vs, H1, I1, r1, hl, h0, h1⟩ => ⟨I1.kIn, ?_⟩) he hpl
  exact xmade T F1 hfl hr hb I1 r1 hl h0 h1
theorem pmkx0 (T : XInit X.prog X.K C name qual params body scope [] f fd cc cda) (F1 : FnOk X.prog X.w X.K X.mg X.base (L2.CX X.prog X.w) 1 f fd ps (spX C [])) (hr : Room 2 X.A) (hb : Binds X.K fd ps []) (hg : Gl X x) (hm : X.mg x = some (.ref C))
    (hdb : (x == ("__debug__" : Str)) = false := by decide) : PMk X (.Call (.Name x p) [] [] pos) (fun _ H Q => Q (.ref C) none H) := by
  intro pins s σ H Q I h
  refine wpAny_Call_Name_kw (ld_glob I hg hm ?_ hdb)
  refine PySem.W.callWith_K0 I.kIn T.xc.kep ?_
  exact xmade T F1 (by simp) hr hb I .nil rfl (fun _ => h) (fun z => absurd rfl z)
end
end TX
namespace TX
open PySem PySem.Spec L2 PyProof.Rows NdefX TW
/-! ### raise C(..) -/
/-- a class of errors as its raisers know it -/
structure Xr (P : Program) (w : World) (K : PySem.W.Frag) (mg : Str → Option Value) (base : Heap) (cl : Cln) (c : Str) (flds : List Str) : Prop where
  ex : ∃ (C f cc cda : Addr) (name qual : Str) (params : Arguments) (body : List Stmt) (scope : Scope) (fd : FuncData) (ps : List Str), cl c = some C ∧ mg c = some (.ref C) ∧ XInit P K C name qual params body scope flds f fd cc cda ∧
    FnOk P w K mg base (L2.CX P w) 1 f fd ps (spX C flds) ∧ Binds K fd ps []
def sRaise (c : Str) (flds : List Str) (g : AM) : SM := fun r h => lift (g r h) r fun xs h1 => if xs.length = flds.length then .ex c (flds.zip xs).reverse r h1 else .bad
theorem rk_zip {G : Gx} {m : Ml} {H : Hp} : ∀ {fl : List Str} {xs : List T} {vs : List V}, Rs G m H xs vs → xs.length = fl.length → Rk G m H (fl.zip xs) (fl.zip vs)
  | [], xs, vs, rs, hl => by
    obtain rfl : xs = [] := List.eq_nil_of_length_eq_zero hl
    rw [Rs.nil_iff.mp rs]
    exact Rk.nil_iff.mpr rfl
  | f :: fl, [], vs, rs, hl => by cases hl
  | f :: fl, x :: xs, vs, rs, hl => by
    obtain ⟨v, t, rfl, h1, h2⟩ := Rs.cons_iff.mp rs
    exact Rk.cons_iff.mpr ⟨v, fl.zip t, rfl, h1, rk_zip h2 (by simpa using hl)⟩
theorem rk_rev {G : Gx} {m : Ml} {H : Hp} {κ : Type} {xs : List (κ × T)} {vs : List (κ × V)} (h : Rk G m H xs vs) : Rk G m H xs.reverse vs.reverse := by
  refine ⟨by rw [List.map_reverse, List.map_reverse, h.1], ?_⟩
  rw [List.map_reverse, List.map_reverse]
  exact Rs.reverse h.2
section
variable {X : Cx} {cl : Cln} {W : WX} {x c : Str} {flds : List Str} {p pos pos2 : Pos} {e : Expr} {es : List Expr} {fa : AM} {D : Ends} {σ : L2.St} {H : Hp}
theorem raise_red {C : Addr} (hC : cl c = some C) (h : tMS (gx X cl) W (sRaise c flds fa) D σ H) : ∃ r hp m, RE (gx X cl) m H r σ ∧ Rel (gx X cl) m H hp ∧ Pst (gx X cl) m H (fa r hp) (fun xs m1 h1 H1 => ∀ vs, Rs (gx X cl) m1 H1 xs vs →
    vs.length = flds.length ∧ (flds = [] → W (.ref C) none σ H1) ∧ (flds ≠ [] → ∀ d, H1 d = none → W (.ref C) (some d) σ (upd H1 d (.xd (flds.zip vs).reverse)))) (fun c d H1 => W c d σ H1) := by
  obtain ⟨r, hp, m, re, rel, p⟩ := h
  refine ⟨r, hp, m, re, rel, (FlQ.lift re p).mono (fun xs m1 h1 H1 s q vs rs => ?_) fun _ _ _ z => z⟩
  obtain ⟨rel1, re1, p1⟩ := q
  split at p1
  · rename_i hl
    have hv : vs.length = flds.length := by rw [← Rs.len rs]; exact hl
    refine ⟨hv, fun e => ?_, fun e d hd => ?_⟩
    · exact p1 m1 H1 σ .refl rel1 re1 C none hC (.inl ⟨by rw [e]; rfl, rfl⟩)
    · have st : Stp m1 m1 H1 (upd H1 d (.xd (flds.zip vs).reverse)) := Stp.new hd
      exact p1 m1 _ σ st (rel1.new hd) (re1.step st) C (some d) hC (.inr ⟨d, _, rfl, ⟨.inl upd_same, rel1.freeZ hd⟩, (rk_rev (rk_zip rs hl)).step st⟩)
  · exact p1.elim
theorem ms_raise (K : Xr X.prog X.w X.K X.mg X.base cl c flds) (hfl : flds.length ≤ 900) (hc : X.calm = true) (hr : Room 2 X.A) (tk : Takes X W) (ha : MA X cl W (e :: es) fa) (hg : Gl X c := by rfl) (hdb : (c == ("__debug__" : Str)) = false := by decide)
    (he : starEach (e :: es) X.env = (false, eval e X.env) :: starEach es X.env := by rfl) (hpl : (backTo pos (starEach es X.env)).any (·.1) = false := by rfl) : MS X cl W (.Raise (some (.Call (.Name c p) (e :: es) [] pos)) none pos2) (sRaise c flds fa) := by
  obtain ⟨C, f, cc, cda, name, qual, params, body, scope, fd, ps, hC, hm, T, F, hb⟩ := K.ex
  refine ⟨PS.imp (ps_raise hc tk (pmkx T F hfl hr hb hg hm ha.pa hdb he hpl)) fun D σ H h => ?_⟩
  exact raise_red hC h
theorem ms_raise0 (K : Xr X.prog X.w X.K X.mg X.base cl c []) (hc : X.calm = true) (hr : Room 2 X.A) (tk : Takes X W) (hg : Gl X c := by rfl) (hdb : (c == ("__debug__" : Str)) = false := by decide) : MS X cl W (.Raise (some (.Call (.Name c p) [] [] pos)) none pos2) (sRaise c [] an) := by
  obtain ⟨C, f, cc, cda, name, qual, params, body, scope, fd, ps, hC, hm, TI, F, hb⟩ := K.ex
  refine ⟨PS.imp (ps_raise hc tk (pmkx0 TI F hr hb hg hm hdb)) fun D σ H h => ?_⟩
  obtain ⟨r, hp, m, re, rel, q⟩ := raise_red hC h
  have q2 : Pst (gx X cl) m H (Res.ok ([] : List T) hp) _ _ := q
  exact (q2.ok_ rel [] Rs.nil).2.1 rfl
end
/-! ### try: .. except X [as n]: .. -/
abbrev Sui := Addr → Value → Option Addr → TS
/-- the ends of a suite whose name goes -/
def endX (i : Option Nat) (D : Ends) : Ends := match i with
  | none => D
  | some i => { nx := fun σ H => D.nx (σ.set i none) H, rt := D.rt, bk := fun σ H => D.bk (σ.set i none) H, ct := fun σ H => D.ct (σ.set i none) H }
def begX (i : Option Nat) (σ : L2.St) (a : Addr) : L2.St := match i with
  | none => σ
  | some i => σ.set i (some (.ref a))
def wX (K : PySem.W.Frag) (Wout : WX) (D : Ends) : List (Value × Option Nat × Sui) → WX
  | [] => Wout
  | (c, i, ts) :: r => fun cls d σ H => ∃ b, PySem.W.exmOne K cls c = some b ∧ (b = true → ∀ a, H a = none → ts a cls d (endX i D) (begX i σ a) H) ∧ (b = false → wX K Wout D r cls d σ H)
def NamX (X : Cx) : Option Nat → Option Str → Prop
  | none, n => n = none
  | some i, n => ∃ n0, n = some n0 ∧ X.N[i]? = some n0 ∧ X.env.kindOf n0 = some .local
inductive HdX (X : Cx) : List ExceptHandler → List (Value × Option Nat × Sui) → Prop
  | nil : HdX X [] []
  | cons {x : Str} {c : Value} {i : Option Nat} {n : Option Str} {ts : Sui} {b0 : Stmt} {su : List Stmt} {np p1 : Pos} {hds : List ExceptHandler} {l : List (Value × Option Nat × Sui)} (hc : Names X x c) (hn : NamX X i n)
      (hsu : ∀ (a : Addr) (oe : Obj) (cls : Value) (d : Option Addr) (pn : List (Addr × Obj)), Zc cls d oe → (∃ vs, oe.data = .fields vs) → PSs (X.suite a ((a, oe) :: pn)) (b0 :: su) (ts a cls d)) (r : HdX X hds l) :
      HdX X (.ExceptHandler (some (.Name x np)) n (b0 :: su) p1 :: hds) ((c, i, ts) :: l)
/-! ### an error of the body, landed where the clauses stand: object a, of class cls, its dict d; sI the state without it -/
structure Lnd (X : Cx) (pins : List (Addr × Obj)) (σ : L2.St) (H : Hp) (a : Addr) (cls : Value) (d : Option Addr) (s : Shared) : Prop where
  ex : ∃ (B : Heap) (sI : Shared), Inv X pins σ H sI ∧ (∀ b o, sI.heap.get? b = some o → b ∉ frs X.stack → B.get? b = some o) ∧ sI.heap.UpToSlots s.heap ∧ PySem.HandSPX.FlyingZ B (X.env :: X.outer) a (Zc cls d) s.heap ∧ s.os = sI.os ∧ AllBare s.gens
  na : H a = none
/-- where the clauses stand -/
structure Stand (X : Cx) : Prop where
  stack : X.stack = X.env :: X.outer
  frame : X.env.frame = some X.env.locals
  names : X.N.Nodup
section
variable {X : Cx} {pins : List (Addr × Obj)} {σ : L2.St} {H : Hp} {a : Addr} {cls : Value} {d : Option Addr} {s : Shared} {D : Ends} {E : Value → Shared → Prop}
theorem Lnd.now (L : Lnd X pins σ H a cls d s) : Inv X pins σ H s := by
  obtain ⟨B, sI, I, gnd, up, fly, os, bare⟩ := L.ex
  exact I.landed gnd fly.1 up os bare
/-- what a suite has -/
theorem Lnd.held (S : Stand X) (L : Lnd X pins σ H a cls d s) : ∃ oe, s.heap.get? a = some oe ∧ Zc cls d oe ∧ (∃ vs, oe.data = .fields vs) ∧ Inv (X.suite a ((a, oe) :: (X.pn ++ pins))) [] σ H s := by
  obtain ⟨B, sI, I, gnd, up, fly, os, bare⟩ := L.ex
  obtain ⟨oe, vs, ho, hz, hv⟩ := fly.there
  have off : ∀ {e : Env}, e ∈ X.env :: X.outer → e.frame ≠ some a := fun {e} he q => by
    obtain ⟨_, o, eo, no⟩ := fly.2.2.1.mem (List.mem_filterMap.mpr ⟨e, he, q⟩)
    rw [ho] at eo
    exact no vs (Option.some.inj eo ▸ hv)
  refine ⟨oe, ho, hz, ⟨vs, hv⟩, L.now.suite ho hv L.na (fun z => off List.mem_cons_self (z ▸ S.frame)) fun hm => ?_⟩
  obtain ⟨e, he, q⟩ := List.mem_filterMap.mp hm
  exact off (List.mem_cons_of_mem _ he) q
/-- it is set down -/
theorem Lnd.again {Q : Unit → Shared → Prop} {A : Around} (L : Lnd X pins σ H a cls d s) (q : ∀ s1, Lnd X pins σ H a cls d s1 → Q () s1) : wpAny (model X.prog X.w) A (setFlight (.ref a) none) Q E s := by
  obtain ⟨B, sI, I, gnd, up, fly, os, bare⟩ := L.ex
  exact PySem.HandSPX.lands_againZ fly fun h1 fly1 up1 => q _ ⟨⟨B, sI, I, gnd, up.trans up1, fly1, os, bare⟩, L.na⟩
/-- no clause takes it: it goes on -/
theorem Lnd.on {W : WX} (S : Stand X) (tk : Takes X W) (L : Lnd X pins σ H a cls d s) (w : W cls d σ H) : wpAny (model X.prog X.w) X.A (handleBy (.ref a) X.env []) (SP X pins D) X.xe s := by
  obtain ⟨B, sI, I, gnd, up, fly, os, bare⟩ := L.ex
  have go : wpAny (model X.prog X.w) X.A (setFlight (.ref a) X.env.frame) (fun _ s1 => wpAny (model X.prog X.w) X.A (throw (.ref a) : Sem Flow) (SP X pins D) X.xe s1) X.xe s := by
    rw [S.frame]
    refine PySem.HandSPX.setFlight_upZ fly fun h1 held up1 => wpAny_throw (tk _ _ ⟨a, B, sI, pins, σ, H, cls, d, rfl, I, gnd, up.trans up1, .inr (.inr ?_), L.na, os, bare, w⟩)
    rw [S.stack]
    exact held
  obtain ⟨oe, vs, tr, _, _, ho, _, hv, h1, _⟩ := fly.2.2.2
  refine wpAny_handleBy_nil ?_
  unfold PySem.passOn
  refine wpAny_bind (wpAny_field ho hv h1 ?_)
  rw [if_neg (by simp : ¬ ((Value.ref tr == Value.none) = true))]
  first
    | exact wpAny_bind go
    | exact wpAny_bind (wpAny_pure (wpAny_bind go))
/-- a clause's own test -/
theorem Lnd.asks {x : Str} {c : Value} {np : Pos} {b : Bool} {Q : Bool → Shared → Prop} {E1 E2 : Value → Shared → Prop} (S : Stand X) (L : Lnd X pins σ H a cls d s) (hc : Names X x c) (hb : PySem.W.exmOne X.K cls c = some b) (q : Q b s) :
    wpAny (model X.prog X.w) (X.A.mark (some (.ref a))) (eval (.Name x np) X.env) (fun v s1 => wpAny (model X.prog X.w) (X.A.mark (some (.ref a))) (excMatches (.ref a) v) Q E1 s1) E2 s := by
  obtain ⟨oe, ho, hz, hv, J⟩ := L.held S
  have ty : PySem.W.Looks (model X.prog X.w) s.heap (typeOf (.ref a)) cls := fun B Q1 E1 s1 k z => wpAny_typeOf_ref (k _ _ ho) (by rw [hz.1]; exact z)
  have told := (PySem.W.exm_one (M := model X.prog X.w) L.now.kIn ty hb).here (A := X.A.mark (some (.ref a))) (E := E1) q
  obtain ⟨hg, hdb, hm | ⟨hm, hv1, hn⟩⟩ := hc
  · exact ld_glob J hg hm told hdb
  · exact ld_blt J hg hm hv1 told hn hdb
/-- a suite's end is the statement's -/
theorem sp_out {q : Addr × Obj} {f : Flow} (ok : X.Ok) (z : SP (X.suite a (q :: (X.pn ++ pins))) [] D f s) : SP X pins D f s := by
  cases f
  case ret => exact z.imp fun _ z => z.imp fun _ z => z.imp fun _ z => ⟨z.1.unsuite ok, z.2⟩
  all_goals exact z.imp fun _ z => z.imp fun _ z => ⟨z.1.unsuite ok, z.2⟩
/-- .. behind which the clause's name goes -/
theorem sp_gone {q : Addr × Obj} {f : Flow} {i : Nat} {n : Str} {pos : Pos} {B : Around} (S : Stand X) (ok : X.Ok) (hi : X.N[i]? = some n) (hn : X.env.kindOf n = some .local) (z : SP (X.suite a (q :: (X.pn ++ pins))) [] (endX (some i) D) f s) :
    wpAny (model X.prog X.w) B (do bindName X.env n .none; unbindBehindTheSuite X.env n pos) (fun _ s1 => SP X pins D f s1) E s := by
  cases f
  case ret =>
    obtain ⟨v, σ1, H1, J, r, z⟩ := z
    exact gone_ok (J.unsuite ok) S.names hi hn fun s1 J1 => ⟨v, _, _, J1, r, z⟩
  all_goals
    obtain ⟨σ1, H1, J, z⟩ := z
    exact gone_ok (J.unsuite ok) S.names hi hn fun s1 J1 => ⟨_, _, J1, z⟩
/-- all clauses, one behind the other -/
theorem Lnd.clauses {W : WX} (S : Stand X) (tk : Takes X W) : ∀ {hds : List ExceptHandler} {l : List (Value × Option Nat × Sui)}, HdX X hds l → ∀ {s : Shared}, Lnd X pins σ H a cls d s → wX X.K W D l cls d σ H →
    wpAny (model X.prog X.w) X.A (handleBy (.ref a) X.env hds) (SP X pins D) X.xe s := by
  intro hds l hk
  induction hk with
  | nil => exact fun L w => L.on S tk w
  | @cons x c i n ts b0 su np p1 hds l hc hn hsu _ ih =>
    intro s L ⟨b, hb, yes, no⟩
    refine wpAny_handleBy_cons (codeAny_handlers_test (L.asks S hc hb ?_)) (by intro z; cases z)
    cases b
    · exact ih L (no rfl)
    · have run : ∀ {s1 : Shared}, Lnd X pins σ H a cls d s1 → ∃ oe, Inv (X.suite a ((a, oe) :: (X.pn ++ pins))) [] σ H s1 ∧ PSs (X.suite a ((a, oe) :: (X.pn ++ pins))) (b0 :: su) (ts a cls d) := fun L1 => by
        obtain ⟨oe, _, hz, hv, J⟩ := L1.held S
        exact ⟨oe, J, hsu a oe cls d (X.pn ++ pins) hz hv⟩
      obtain _ | i := i
      · obtain rfl : n = none := hn
        refine codeAny_handlers_suite (L.again fun s1 L1 => ?_)
        obtain ⟨oe, J, P⟩ := run L1
        exact wpAny_mono (P.run [] s1 _ _ _ J (yes rfl a L.na)) (fun f s2 z => sp_out L.now.ok z) fun _ _ z => z.elim
      · obtain ⟨n, rfl, hi, hl⟩ := hn
        refine codeAny_handlers_suite_as (L.again fun s1 L1 => ?_)
        obtain ⟨oe, J, P⟩ := run L1
        refine store_ok (X := X.suite a ((a, oe) :: (X.pn ++ pins))) (v := .ref a) J S.names hi (.inl hl) rfl (fun s2 J2 => ?_) (.inr hl)
        exact wpAny_mono (P.run [] s2 _ _ _ J2 (yes rfl a L.na)) (fun f s3 z => sp_gone S L.now.ok hi hl z) fun _ _ z => z.elim
end
section
variable {X : Cx} {body : List Stmt} {hd0 : ExceptHandler} {hds : List ExceptHandler} {l : List (Value × Option Nat × Sui)} {pos : Pos} {tb : WX → TS} {Wout : WX}
theorem ps_tryX (hst : X.stack = X.env :: X.outer) (hf : X.env.frame = some X.env.locals) (hN : X.N.Nodup) (tk : Takes X Wout)
    (hb : ∀ (W : WX) (pn : List (Addr × Obj)) (xe : Value → Shared → Prop), Takes (X.tr pn xe) W → PassesOwn (model X.prog X.w) X.A X.env xe → PSs (X.tr pn xe) body (tb W))
    (hh : HdX X (hd0 :: hds) l) : PS X (.Try body (hd0 :: hds) [] [] pos) (fun D σ H => tb (wX X.K Wout D l) D σ H) where
  run := fun pins s σ H D I h => by
    have S : Stand X := ⟨hst, hf, hN⟩
    have ok := I.ok
    let caught : Value → Shared → Prop := fun e s1 => wpAny (model X.prog X.w) X.A (noteFrame e X.env) (fun _ s2 => wpAny (model X.prog X.w) X.A (setFlight e none) (fun _ s3 =>
      wpAny (model X.prog X.w) X.A (handleBy e X.env (hd0 :: hds)) (SP X pins D) X.xe s3) X.xe s2) X.xe s1
    have takes : Takes (X.tr (X.pn ++ pins) caught) (wX X.K Wout D l) := by
      rintro u s1 ⟨a, B, sI, pins1, σ1, H1, cls, d, rfl, J, gnd, up, sky, na, os, bare, w⟩
      have sky : Sky B (X.env :: X.outer) a (Zc cls d) X.env.locals s1.heap := hst ▸ sky
      refine Sky.land Zc.steady (ok.frames.trans (congrArg some hst)) hf sky fun h3 fly up3 => ?_
      exact Lnd.clauses S tk hh ⟨⟨B, sI, J.ofTry ok, gnd, up.trans up3, fly, os, bare⟩, na⟩ w
    refine wpAny_Try_except (wpAny_mono ((hb _ _ caught takes PassesOwn.looking).run [] s σ H D (I.toTry _) h) (fun f s1 z => ?_) fun _ _ z => z)
    cases f
    case next => exact wpAny_execs_nil (z.imp fun _ z => z.imp fun _ z => ⟨z.1.ofTry ok, z.2⟩)
    case ret => exact z.imp fun _ z => z.imp fun _ z => z.imp fun _ z => ⟨z.1.ofTry ok, z.2⟩
    all_goals exact z.imp fun _ z => z.imp fun _ z => ⟨z.1.ofTry ok, z.2⟩
end
end TX
namespace TX
open PySem PySem.Spec L2 PyProof.Rows NdefX TW
/-- the classes of errors: their names, their fields, which are parts of which -/
structure ExT where
  cs : List Str
  fl : Str → List Str
  sub : Str → Str → Bool
/-- a clause: the class that it names, the slot of its name, its suite by the class and the fields of what is caught -/
abbrev Hd := Str × Option Nat × (Str → List (Str × T) → SM)
def unX (i : Option Nat) (r : Rho) : Rho := match i with
  | none => r
  | some i => r.set i none
/-- behind a suite its name is gone -/
def finX (i : Option Nat) : Fr → Fr
  | .nx r h => .nx (unX i r) h
  | .bk r h => .bk (unX i r) h
  | .ct r h => .ct (unX i r) h
  | .ret x h => .ret x h
  | _ => .bad
def slX (i : Option Nat) (r : Rho) : Bool := match i with
  | none => true
  | some i => decide (i < r.length)
def hdS (t : ExT) : List Hd → Str → List (Str × T) → Rho → MH → Fr
  | [], c, fs, r, h => .ex c fs r h
  | (d, i, F) :: l, c, fs, r, h => if c ∈ t.cs ∧ d ∈ t.cs ∧ slX i r = true then (if t.sub c d = true then finX i (F c fs (unX i r) h) else hdS t l c fs r h) else .bad
def sTry (t : ExT) (B : SM) (l : List Hd) : SM := fun r h => match B r h with
  | .ex c fs r1 h1 => hdS t l c fs r1 h1
  | o => o
/-- what the written part says of them -/
structure Xt (K : PySem.W.Frag) (cl : Cln) (t : ExT) : Prop where
  exm : ∀ c ∈ t.cs, ∀ d ∈ t.cs, ∀ C, cl c = some C → ∃ D, cl d = some D ∧ PySem.W.exmOne K (.ref C) (.ref D) = some (t.sub c d) ∧ PySem.W.kitOne K (.ref C) (.ref D) = some (t.sub c d)
  exc : ∀ c ∈ t.cs, ∀ C, cl c = some C → ExcC K C ∧ XfC K C
  fld : ∀ c ∈ t.cs, ∀ C, cl c = some C → ∀ f ∈ t.fl c, PySem.W.findIn K (.ref C) f = some none
/-- what is caught: class and fields as trees; class, dict, slot, address -/
structure Cu where
  c : Str
  fs : List (Str × T)
  cls : Value
  d : Option Addr
  i : Option Nat
  a : Addr
def Cgt (G : Gx) (u : Cu) (σ : L2.St) (m : Ml) (H : Hp) : Prop := (∃ C, G.cl u.c = some C ∧ u.cls = .ref C ∧ ((u.fs = [] ∧ u.d = none) ∨ ∃ dx q, u.d = some dx ∧ Fz m H dx (.xd q) ∧ Rk G m H u.fs q)) ∧ ∀ i, u.i = some i → σ[i]? = some (some (V.ref u.a))
theorem Cgt.step {G : Gx} {u : Cu} {σ : L2.St} {m m1 : Ml} {H H1 : Hp} (z : Cgt G u σ m H) (s : Stp m m1 H H1) : Cgt G u σ m1 H1 := by
  obtain ⟨⟨C, e1, e2, q⟩, k⟩ := z
  refine ⟨⟨C, e1, e2, q.imp id ?_⟩, k⟩
  rintro ⟨dx, q, e3, f, rk⟩
  exact ⟨dx, q, e3, f.step s, rk.step s⟩
/-- the readings of a suite's parts: what is caught is known -/
def tX (G : Gx) (W : WX) (u : Cu) (f : EM) : TE := fun σ H Q => ∃ r hp m, RE G m H r σ ∧ Rel G m H hp ∧ Cgt G u σ m H ∧ Pst G m H (f r hp) (fun x m1 _ H1 => ∀ v, R G m1 H1 x v → Q v H1) (fun c d H1 => W c d σ H1)
def tXA (G : Gx) (W : WX) (u : Cu) (f : AM) : TA := fun σ H Q => ∃ r hp m, RE G m H r σ ∧ Rel G m H hp ∧ Cgt G u σ m H ∧ Pst G m H (f r hp) (fun xs m1 _ H1 => ∀ vs, Rs G m1 H1 xs vs → Q vs H1) (fun c d H1 => W c d σ H1)
def tXT (G : Gx) (W : WX) (u : Cu) (f : TM) : TT := fun σ H Q => ∃ r hp m, RE G m H r σ ∧ Rel G m H hp ∧ Cgt G u σ m H ∧ Pst G m H (f r hp) (fun b m1 h1 H1 => Q b H1) (fun c d H1 => W c d σ H1)
def tXS (G : Gx) (W : WX) (u : Cu) (f : SM) : TS := fun D σ H => ∃ r hp m, RE G m H r σ ∧ Rel G m H hp ∧ Cgt G u σ m H ∧ FlQ G m H D W (f r hp)
structure ME' (X : Cx) (cl : Cln) (W : WX) (u : Cu) (e : Expr) (f : EM) : Prop where
  pe : PE X e (tX (gx X cl) W u f)
structure MA' (X : Cx) (cl : Cln) (W : WX) (u : Cu) (es : List Expr) (f : AM) : Prop where
  pa : PA X es (tXA (gx X cl) W u f)
structure MT' (X : Cx) (cl : Cln) (W : WX) (u : Cu) (e : Expr) (f : TM) : Prop where
  pt : PT X e (tXT (gx X cl) W u f)
structure MS' (X : Cx) (cl : Cln) (W : WX) (u : Cu) (s : Stmt) (f : SM) : Prop where
  ps : PS X s (tXS (gx X cl) W u f)
structure MB' (X : Cx) (cl : Cln) (W : WX) (u : Cu) (s : List Stmt) (f : SM) : Prop where
  pss : PSs X s (tXS (gx X cl) W u f)
section
variable {X : Cx} {cl : Cln} {W : WX} {u : Cu} {e a b : Expr} {es : List Expr} {f f1 : EM} {g : AM} {F F1 : SM} {tt : TM} {st : Stmt} {rest : List Stmt} {pos : Pos}
/-- what needs nothing of what is caught -/
theorem mx_e (h : ME X cl W e f) : ME' X cl W u e f := ⟨PE.imp h.pe fun σ H Q ⟨r, hp, m, re, rel, _, p⟩ => ⟨r, hp, m, re, rel, p⟩⟩
theorem mx_s (h : MS X cl W st F) : MS' X cl W u st F := ⟨PS.imp h.ps fun D σ H ⟨r, hp, m, re, rel, _, p⟩ => ⟨r, hp, m, re, rel, p⟩⟩
theorem mx_t (h : MT X cl W e tt) : MT' X cl W u e tt := ⟨PT.imp h.pt fun σ H Q ⟨r, hp, m, re, rel, _, p⟩ => ⟨r, hp, m, re, rel, p⟩⟩
theorem mxa_n : MA' X cl W u [] an := ⟨PA.imp ma_n.pa fun σ H Q ⟨r, hp, m, re, rel, _, p⟩ => ⟨r, hp, m, re, rel, p⟩⟩
theorem mxa_c (ha : ME' X cl W u e f) (hr : MA' X cl W u es g) (hs : starEach (e :: es) X.env = (false, eval e X.env) :: starEach es X.env := by rfl) : MA' X cl W u (e :: es) (ac f g) := by
  refine ⟨PA.imp (pa_cons ha.pe hr.pa hs) fun σ H Q h => ?_⟩
  obtain ⟨r, hp, m, re, rel, cg, p⟩ := h
  refine ⟨r, hp, m, re, rel, cg, p.bind.mono (fun x m1 h1 H1 s q v rv => ?_) fun _ _ _ z => z⟩
  obtain ⟨rel1, p1⟩ := q
  refine ⟨r, h1, m1, re.step s, rel1, cg.step s, p1.bind.mono (fun xs m2 h2 H2 s2 q2 vs rs => ?_) fun _ _ _ z => z⟩
  exact q2.2.ok_ q2.1 (v :: vs) (Rs.cons (R.step s2 _ _ rv) rs)
theorem mx_tup {x1} (h : MA' X cl W u es g) : ME' X cl W u (.Tuple es x1 pos) (emT g) := by
  refine ⟨PE.imp (pe_tup h.pa) fun σ H Q h => ?_⟩
  obtain ⟨r, hp, m, re, rel, cg, p⟩ := h
  refine ⟨r, hp, m, re, rel, cg, p.bind.mono (fun xs m1 h1 H1 s q vs rs => ?_) fun _ _ _ z => z⟩
  obtain ⟨rel1, p1⟩ := q
  unfold tupK at p1
  split at p1
  · rename_i hl
    refine ⟨by rw [← Rs.len rs]; exact hl, fun a ha => ?_⟩
    exact p1 m1 _ (Stp.new ha) (rel1.new ha) _ (tup_new rel1 rs ha)
  · exact p1.elim
theorem mx_lst {k : List T → MH → Res T} (hk : k = lstK ∨ k = lstL) (h : MA' X cl W u es g) : ME' X cl W u (.List es pos) (emL k g) := by
  refine ⟨PE.imp (pe_lst h.pa) fun σ H Q h => ?_⟩
  obtain ⟨r, hp, m, re, rel, cg, p⟩ := h
  refine ⟨r, hp, m, re, rel, cg, p.bind.mono (fun xs m1 h1 H1 s q vs rs => ?_) fun _ _ _ z => z⟩
  obtain ⟨rel1, p1⟩ := q
  obtain ⟨hl, q2⟩ := lst_two hk rel1 rs p1
  exact ⟨by rw [← Rs.len rs]; exact hl, q2⟩
theorem mx_val (h : ME' X cl W u a f) (he : ∀ whole, isTrue a X.env whole = (do let v ← whole; standAt a.pos; holding [v] (truthy v)) := by intro _; rfl) : MT' X cl W u a (tmOf f) := by
  refine ⟨PT.imp (pt_val h.pe he) fun σ H Q h => ?_⟩
  obtain ⟨r, hp, m, re, rel, cg, p⟩ := h
  refine ⟨r, hp, m, re, rel, cg, p.bind.mono (fun x m1 h1 H1 s1 q v rv => ?_) fun _ _ _ z => z⟩
  exact isBl_ok rv q.1 q.2
theorem mx_if {c : Expr} (hc : MT' X cl W u c tt) (ha : ME' X cl W u a f) (hb : ME' X cl W u b f1) : ME' X cl W u (.IfExp c a b pos) (eIf tt f f1) := by
  refine ⟨PE.imp (pe_ifExp hc.pt ha.pe hb.pe) fun σ H Q h => ?_⟩
  obtain ⟨r, hp, m, re, rel, cg, p⟩ := h
  refine ⟨r, hp, m, re, rel, cg, p.bind.mono (fun b m1 h1 H1 s1 q => ?_) fun _ _ _ z => z⟩
  cases b with
  | true => exact ⟨r, h1, m1, re.step s1, q.1, cg.step s1, q.2⟩
  | false => exact ⟨r, h1, m1, re.step s1, q.1, cg.step s1, q.2⟩
theorem mxs_ret (he : ME' X cl W u e f) : MS' X cl W u (.Return (some e) pos) (sRet f) := ⟨PS.imp (ps_ret he.pe) fun D σ H h => by
  obtain ⟨r, hp, m, re, rel, cg, p⟩ := h
  exact ⟨r, hp, m, re, rel, cg, (p.lift re).mono (fun x m1 h1 H1 s q v rv => q.2.2 m1 H1 .refl q.1 v rv) fun _ _ _ z => z⟩⟩
theorem mxs_set (i : Nat) {x : Str} {p2 : Pos} (hN : X.N.Nodup) (he : ME' X cl W u e f) (hi : X.N[i]? = some x := by rfl) (hx : Loc X.env.scope x := by first | exact Or.inl rfl | exact Or.inr rfl) (hs : swapsWith e (some (.Name x p2)) pos.line X.env = pure false := by rfl)
    (hf : X.fn x = true ∨ X.env.scope.names.lookup x = some .local := by first | exact .inl rfl | exact .inr rfl) : MS' X cl W u (.Assign [.Name x p2] e pos) (sSet i f) := ⟨PS.imp (ps_set hN hi hx he.pe hs hf) fun D σ H h => by
  obtain ⟨r, hp, m, re, rel, cg, p⟩ := h
  refine ⟨r, hp, m, re, rel, cg, (p.lift re).mono (fun y m1 h1 H1 s q v rv => ?_) fun _ _ _ z => z⟩
  exact q.2.2 m1 H1 _ .refl q.1 (q.2.1.set rv)⟩
/-- one statement -/
theorem mxb_one (h : MS' X cl W u st F) : MB' X cl W u [st] F := ⟨PSs.imp (pss_cons h.ps pss_nil) fun D σ H h => h⟩
/-- e.f -/
def xFld (t : ExT) (c : Str) (fs : List (Str × T)) (f : Str) : EM := fun _ h => match fs.lookup f with
  | some y => if c ∈ t.cs ∧ f ∈ t.fl c then .ok y h else .bad
  | none => .bad
theorem rk_look {G : Gx} {m : Ml} {H : Hp} : ∀ {fs : List (Str × T)} {q : List (Str × V)} {f : Str} {y : T}, Rk G m H fs q → fs.lookup f = some y → ∃ v, q.lookup f = some v ∧ R G m H y v
  | [], q, f, y, h, e => by cases e
  | (g, x) :: fs, q, f, y, h, e => by
    obtain ⟨v, t, rfl, h1, h2⟩ := Rk.cons_iff.mp h
    by_cases k : f = g
    · subst k
      simp [List.lookup] at e ⊢
      subst e
      exact h1
    · have kk : (f == g) = false := by simpa using k
      simp only [List.lookup, kk] at e ⊢
      exact rk_look h2 e
end
/-- a caught error with its dict: an instance of its class, each field where the dict has it -/
theorem caught_at {X : Cx} {pins pn : List (Addr × Obj)} {σ : L2.St} {H : Hp} {s : Shared} {a C dd : Addr} {oe : Obj} {fs : List (Str × V)} (I : Inv (X.suite a ((a, oe) :: pn)) pins σ H s) (hz : Zc (.ref C) (some dd) oe) (hf : ∃ vs, oe.data = .fields vs) (rd : Rd H dd (.xd fs)) :
    ∃ od, PySem.W.InstAt s.heap a oe C (some od) ∧ ∀ n v, fs.lookup n = some v → ∃ u, PySem.W.lookIn n od = some (some u) ∧ L2.RelV v u := by
  have here := (I.pin (a, oe) (List.mem_append_left _ List.mem_cons_self)).1
  have ok : ObjOk X.prog X.w H s.heap dd (.xd fs) := rd.ok I.hok
  obtain ⟨m, ns, told⟩ := ok
  obtain ⟨od, ho, look⟩ := lookIn_ns ns
  refine ⟨od, ⟨here, hz.1, ?_, by rw [hz.2]; exact ho⟩, fun n v e => ?_⟩
  · obtain ⟨vs, hv⟩ := hf
    unfold PySem.W.notCls
    rw [hv]
  · have r := told n
    rw [e] at r
    obtain ⟨u, eu, ru⟩ := RelO.some_of r
    exact ⟨u, by rw [look, eu], ru⟩
/-- e.n in a suite -/
theorem pe_fldR {X : Cx} {a C : Addr} {oe : Obj} {cls : Value} {d : Option Addr} {pn : List (Addr × Obj)} {e : Expr} {te : TE} {pos : Pos} {n : Str} (TF : XfC X.K C) (hno : PySem.W.findIn X.K (.ref C) n = some none)
    (hz : Zc cls d oe) (hf : ∃ vs, oe.data = .fields vs) (he : PE (X.suite a ((a, oe) :: pn)) e te) (hb : attributeBase e n X.env (eval e X.env) = eval e X.env) :
    PE (X.suite a ((a, oe) :: pn)) (.Attribute e n pos) (fun σ H Q => te σ H fun x H1 => x = .ref a ∧ cls = .ref C ∧ ∃ (dd : Addr) (fs : List (Str × V)) (v : V), d = some dd ∧ Rd H1 dd (.xd fs) ∧ fs.lookup n = some v ∧ Q v H1) where
  run := fun pins s σ H Q I h => by
    refine attr_of hb (L2.thn (he.run pins s σ H _ I h) ?_)
    rintro v1 s1 ⟨_, H1, I1, r1, rfl, rfl, dd, fs, v, rfl, rd, l, q⟩
    obtain rfl : v1 = Value.ref a := r1
    obtain ⟨od, J, told⟩ := caught_at I1 hz hf rd
    obtain ⟨u, look, ru⟩ := told n v l
    exact PySem.HandSPX.exc_get I1.kIn J TF.ga TF.gg TF.exC (PySem.W.findObj_own TF.hdC hno rfl look) (handed_of ru) ⟨v, H1, I1.tok _, ru, q⟩
section
variable {X : Cx} {cl : Cln} {W : WX} {u : Cu} {t : ExT} {pn : List (Addr × Obj)} {oe : Obj} {i : Nat} {n nm f : Str} {pos p1 p2 p3 : Pos}
theorem mx_fld (XT : Xt X.K cl t) (hi : u.i = some i) (hz : Zc u.cls u.d oe) (hv : ∃ vs, oe.data = .fields vs) (hN : X.N[i]? = some n) (hl : Vis X.env.scope n := by first | exact Or.inl rfl | exact Or.inr (Or.inl rfl)) (hd : (n == ("__debug__" : Str)) = false := by decide) (hd2 : (n == ("__classdict__" : Str)) = false := by decide)
    (hb : attributeBase (.Name n p1) f X.env (eval (.Name n p1) X.env) = eval (.Name n p1) X.env := by rfl) : ME' (X.suite u.a ((u.a, oe) :: pn)) cl W u (.Attribute (.Name n p1) f pos) (xFld t u.c u.fs f) := by
  refine ⟨⟨fun pins s σ H Q I h => ?_⟩⟩
  obtain ⟨r, hp, m, re, rel, ⟨⟨C, hC, ec, dd⟩, sl⟩, p⟩ := h
  unfold xFld at p
  split at p
  · rename_i y hy
    split at p
    · rename_i z
      obtain ⟨_, T2⟩ := XT.exc u.c z.1 C hC
      have hno := XT.fld u.c z.1 C hC f z.2
      refine (pe_fldR (te := tVar i) T2 hno hz hv (pe_var (X := X.suite u.a ((u.a, oe) :: pn)) hN hl hd hd2) hb).run pins s σ H Q I ?_
      rcases dd with ⟨e1, _⟩ | ⟨dx, q, e1, fz, rk⟩
      · rw [e1] at hy
        cases hy
      · obtain ⟨v, hv2, rv⟩ := rk_look rk hy
        exact ⟨V.ref u.a, sl i hi, rfl, ec, dx, q, v, e1, fz.1, hv2, p.ok_ rel v rv⟩
    · exact p.elim
  · exact p.elim
end
end TX
namespace TX
open PySem PySem.Spec L2 PyProof.Rows TW
/-! ### isinstance(e, c) in a suite, e with fields or without: the library's kitx_exc and kia_one -/
/-- a caught object as an instance of its class -/
theorem caught_inst {X : Cx} {pins pn : List (Addr × Obj)} {σ : L2.St} {H : Hp} {s : Shared} {a D : Addr} {oe : Obj} {d : Option Addr} (I : Inv (X.suite a ((a, oe) :: pn)) pins σ H s) (hz : Zc (.ref D) d oe) (hf : ∃ vs, oe.data = .fields vs)
    (hd : ∀ dx, d = some dx → ∃ q, Rd H dx (.xd q)) : ∃ od, PySem.W.InstAt s.heap a oe D od := by
  cases d with
  | none =>
    obtain ⟨vs, hv⟩ := hf
    exact ⟨none, (I.pin (a, oe) (List.mem_append_left _ List.mem_cons_self)).1, hz.1, by unfold PySem.W.notCls; rw [hv], by rw [hz.2]; trivial⟩
  | some dx =>
    obtain ⟨q, rd⟩ := hd dx rfl
    obtain ⟨od, J, _⟩ := caught_at I hz hf rd
    exact ⟨some od, J⟩
theorem call_isX {X : Cx} {a D : Addr} {oe : Obj} {d : Option Addr} {pn : List (Addr × Obj)} (C : ExcC X.K D) (hz : Zc (.ref D) d oe) (hf : ∃ vs, oe.data = .fields vs) : CallR (X.suite a ((a, oe) :: pn)) (.builtin "isinstance") (fun xs H Q => (∀ dx, d = some dx → ∃ q, Rd H dx (.xd q)) ∧ rIsE X.K D a xs H Q) := by
  rintro pins s σ H _ us Q I r ⟨hd, c, cv, b, rfl, hcv, e, q⟩
  obtain ⟨od, J⟩ := caught_inst I hz hf hd
  obtain ⟨u1, u2, rfl, r1, r2⟩ := vals2 r
  obtain rfl : u1 = Value.ref a := r1
  obtain rfl : u2 = cv := hcv _ r2
  have here : (PySem.W.clsIn X.K D).isSome = true := by
    obtain ⟨cd, hc, _⟩ := PySem.W.any_some C.hd
    rw [hc]
    rfl
  exact PySem.W.kia_one (PySem.W.kitx_exc here C.hg C.hk C.hs C.ha C.hn C.ht C.hm) I.kIn J e (fun z => nomatch z) fun tk => ⟨.bl b, H, I.kept (t' := tk) fun _ _ z => z, rfl, q⟩
end TX
namespace TX
open PySem PySem.Spec L2 PyProof.Rows NdefX TW
/-- isinstance(e, D) -/
def xIsi (t : ExT) (c d : Str) : EM := fun _ h => if c ∈ t.cs ∧ d ∈ t.cs then .ok (.bl (t.sub c d)) h else .bad
section
variable {X : Cx} {cl : Cln} {W : WX} {u : Cu} {t : ExT} {pn : List (Addr × Obj)} {oe : Obj} {i : Nat} {n dn : Str} {pos p1 p2 p3 : Pos} {D : Addr}
theorem mx_isi (XT : Xt X.K cl t) (hi : u.i = some i) (hz : Zc u.cls u.d oe) (hv : ∃ vs, oe.data = .fields vs) (k : X.mg dn = some (.ref D) ∧ cl dn = some D) (hm : X.mg "isinstance" = none) (hN : X.N[i]? = some n) (hg : Gl X "isinstance" := by rfl) (hgd : Gl X dn := by rfl) (hl : Vis X.env.scope n := by first | exact Or.inl rfl | exact Or.inr (Or.inl rfl) | exact Or.inr (Or.inr rfl))
    (hd : (n == ("__debug__" : Str)) = false := by decide) (hd2 : (n == ("__classdict__" : Str)) = false := by decide) (hd3 : (dn == ("__debug__" : Str)) = false := by decide)
    (he : starEach [.Name n p2, .Name dn p3] X.env = (false, eval (.Name n p2) X.env) :: starEach [.Name dn p3] X.env := by rfl) (he2 : starEach [.Name dn p3] X.env = (false, eval (.Name dn p3) X.env) :: starEach [] X.env := by rfl) (hpl : (backTo pos (starEach [.Name dn p3] X.env)).any (·.1) = false := by rfl) :
    ME' (X.suite u.a ((u.a, oe) :: pn)) cl W u (.Call (.Name "isinstance" p1) [.Name n p2, .Name dn p3] [] pos) (xIsi t u.c dn) := by
  refine ⟨⟨fun pins s σ H Q I h => ?_⟩⟩
  obtain ⟨r, hp, m, re, rel, ⟨⟨C, hC, ec, dd⟩, sl⟩, p⟩ := h
  unfold xIsi at p
  split at p
  · rename_i z
    obtain ⟨T1, _⟩ := XT.exc u.c z.1 C hC
    obtain ⟨D2, hD, _, kt⟩ := XT.exm u.c z.1 dn z.2 C hC
    have eD : D2 = D := by
      have := hD.symm.trans k.2
      exact Option.some.inj this
    subst eD
    have hz2 : Zc (.ref C) u.d oe := ec ▸ hz
    refine (pe_callB (X := X.suite u.a ((u.a, oe) :: pn)) (call_isX T1 hz2 hv) hg hm PyProof.Rows.boot_isinstance (pa_cons (pe_var (X := X.suite u.a ((u.a, oe) :: pn)) hN hl hd hd2) (pa_cons (pe_glob (X := X.suite u.a ((u.a, oe) :: pn)) (v := V.ref D2) (u := Value.ref D2) hgd k.1 rfl hd3) pa_nil he2) he) (by decide) (by decide) he hpl).run pins s σ H Q I ?_
    refine ⟨V.ref u.a, sl i hi, ?_, V.ref D2, Value.ref D2, t.sub u.c dn, rfl, fun _ z => z, kt, p.ok_ rel _ (by simp only [R])⟩
    intro dx e
    rcases dd with ⟨_, e1⟩ | ⟨dx1, q, e1, fz, _⟩
    · rw [e1] at e
      cases e
    · rw [e1] at e
      cases e
      exact ⟨q, fz.1⟩
  · exact p.elim
end
/-! ### try -/
abbrev WF0 : WX := fun _ _ _ _ => False
inductive HdM (X : Cx) (cl : Cln) (t : ExT) : List ExceptHandler → List Hd → Prop
  | nil : HdM X cl t [] []
  | cons {x : Str} {i : Option Nat} {n : Option Str} {F : Str → List (Str × T) → SM} {b0 : Stmt} {su : List Stmt} {np p1 : Pos} {hds : List ExceptHandler} {l : List Hd} (k : ∃ D, X.mg x = some (.ref D) ∧ cl x = some D) (hg : Gl X x) (hdb : (x == ("__debug__" : Str)) = false) (hn : NamX X i n)
      (hsu : ∀ (u : Cu) (oe : Obj) (pn : List (Addr × Obj)), u.i = i → Zc u.cls u.d oe → (∃ vs, oe.data = .fields vs) → MB' (X.suite u.a ((u.a, oe) :: pn)) cl WF0 u (b0 :: su) (F u.c u.fs)) (r : HdM X cl t hds l) :
      HdM X cl t (.ExceptHandler (some (.Name x np)) n (b0 :: su) p1 :: hds) ((x, i, F) :: l)
section
variable {X : Cx} {cl : Cln} {W : WX} {t : ExT}
/-- the suites as readings -/
def suiX (G : Gx) (i : Option Nat) (F : Str → List (Str × T) → SM) : Sui := fun a cls d D σ H => ∃ c fs, tXS G WF0 ⟨c, fs, cls, d, i, a⟩ (F c fs) D σ H
/-- clauses beside clauses -/
inductive HdL (cl : Cln) (G : Gx) : List Hd → List (Value × Option Nat × Sui) → Prop
  | nil : HdL cl G [] []
  | cons {x : Str} {i : Option Nat} {F : Str → List (Str × T) → SM} {D : Addr} {l : List Hd} {l1 : List (Value × Option Nat × Sui)} (k : cl x = some D) (r : HdL cl G l l1) : HdL cl G ((x, i, F) :: l) ((.ref D, i, suiX G i F) :: l1)
theorem hd_both {hds : List ExceptHandler} {l : List Hd} (h : HdM X cl t hds l) : ∃ l1, HdX X hds l1 ∧ HdL cl (gx X cl) l l1 := by
  induction h with
  | nil => exact ⟨[], .nil, .nil⟩
  | @cons x i n F b0 su np p1 hds l k hg hdb hn hsu r ih =>
    obtain ⟨l1, h1, h2⟩ := ih
    obtain ⟨D, k1, k2⟩ := k
    refine ⟨(.ref D, i, suiX (gx X cl) i F) :: l1, .cons ⟨hg, hdb, .inl k1⟩ hn (fun a oe cls d pn hz hv => ⟨fun pins s σ H D0 I h => ?_⟩) h1, .cons k2 h2⟩
    obtain ⟨c, fs, h⟩ := h
    exact (hsu ⟨c, fs, cls, d, i, a⟩ oe pn rfl hz hv).pss.run pins s σ H D0 I h
theorem re_unset2 {G : Gx} {m : Ml} {H : Hp} {r : Rho} {σ : L2.St} {i : Nat} {v : Option V} (h : RE G m H r σ) : RE G m H (r.set i none) (σ.set i v) := by
  refine ⟨by simp [h.len], fun j y e => ?_⟩
  by_cases hj : i = j
  · subst hj
    have hl : i < r.length := by
      have := (List.getElem?_eq_some_iff.mp e).1
      simpa using this
    rw [List.getElem?_set_self hl] at e
    cases e
  · rw [List.getElem?_set_ne hj] at e ⊢
    exact h.at_ j y e
theorem hd_red (XT : Xt X.K cl t) {l : List Hd} {l1 : List (Value × Option Nat × Sui)} (hL : HdL cl (gx X cl) l l1) {m : Ml} {H : Hp} {D : Ends} {r : Rho} {hp : MH} {σ : L2.St} {c : Str} {fs : List (Str × T)} {C : Addr} {d : Option Addr}
    (re : RE (gx X cl) m H r σ) (rel : Rel (gx X cl) m H hp) (hC : cl c = some C) (hd : (fs = [] ∧ d = none) ∨ ∃ dx q, d = some dx ∧ Fz m H dx (.xd q) ∧ Rk (gx X cl) m H fs q) (p : FlQ (gx X cl) m H D W (hdS t l c fs r hp)) : wX X.K W D l1 (.ref C) d σ H := by
  induction hL with
  | nil => exact p m H σ .refl rel re C d hC hd
  | @cons x i F Dx l l1 k rr ih =>
    unfold hdS at p
    split at p
    · rename_i z
      obtain ⟨z1, z2, z3⟩ := z
      obtain ⟨D2, e1, e2, _⟩ := XT.exm c z1 x z2 C hC
      obtain rfl : D2 = Dx := Option.some.inj (e1.symm.trans k)
      refine ⟨t.sub c x, e2, fun hb a ha => ?_, fun hb => ?_⟩
      · rw [if_pos hb] at p
        refine ⟨c, fs, unX i r, hp, m, ?_, rel, ⟨⟨C, hC, rfl, hd⟩, fun j hj => ?_⟩, ?_⟩
        · cases i with
          | none => exact re
          | some i => exact re_unset2 re
        · cases i with
          | none => cases hj
          | some i =>
            cases hj
            have hl : j < r.length := by simpa [slX] using z3
            show (σ.set j (some (V.ref a)))[j]? = _
            exact List.getElem?_set_self (by rw [← re.len]; exact hl)
        · cases q : F c fs (unX i r) hp with
          | nx r1 h1 =>
            rw [q] at p
            intro m2 H2 σ2 s2 rel2 re2
            cases i with
            | none => exact p m2 H2 σ2 s2 rel2 re2
            | some i => exact p m2 H2 (σ2.set i none) s2 rel2 (RE.unset re2)
          | bk r1 h1 =>
            rw [q] at p
            intro m2 H2 σ2 s2 rel2 re2
            cases i with
            | none => exact p m2 H2 σ2 s2 rel2 re2
            | some i => exact p m2 H2 (σ2.set i none) s2 rel2 (RE.unset re2)
          | ct r1 h1 =>
            rw [q] at p
            intro m2 H2 σ2 s2 rel2 re2
            cases i with
            | none => exact p m2 H2 σ2 s2 rel2 re2
            | some i => exact p m2 H2 (σ2.set i none) s2 rel2 (RE.unset re2)
          | ret x1 h1 =>
            rw [q] at p
            cases i with
            | none => exact p
            | some i => exact p
          | ex c1 f1 r1 h1 => rw [q] at p; exact p.elim
          | bad => rw [q] at p; exact p.elim
      · rw [if_neg (by rw [hb]; exact Bool.false_ne_true)] at p
        exact ih p
    · exact p.elim
theorem ms_try {body : List Stmt} {hd0 : ExceptHandler} {hds : List ExceptHandler} {B : SM} {l : List Hd} {pos : Pos} (XT : Xt X.K cl t) (hst : X.stack = X.env :: X.outer) (hf : X.env.frame = some X.env.locals) (hN : X.N.Nodup) (tk : Takes X W)
    (hb : ∀ (W : WX) (pn : List (Addr × Obj)) (xe : Value → Shared → Prop), Takes (X.tr pn xe) W → PassesOwn (model X.prog X.w) X.A X.env xe → MB (X.tr pn xe) cl W body B)
    (hh : HdM X cl t (hd0 :: hds) l) : MS X cl W (.Try body (hd0 :: hds) [] [] pos) (sTry t B l) := by
  obtain ⟨l1, h1, h2⟩ := hd_both hh
  refine ⟨PS.imp (ps_tryX (tb := fun W => tMS (gx X cl) W B) hst hf hN tk (fun W pn xe tk po => (hb W pn xe tk po).pss) h1) fun D σ H h => ?_⟩
  obtain ⟨r, hp, m, re, rel, p⟩ := h
  refine ⟨r, hp, m, re, rel, ?_⟩
  unfold sTry at p
  cases e : B r hp with
  | nx r1 h1 => rw [e] at p; exact p
  | bk r1 h1 => rw [e] at p; exact p
  | ct r1 h1 => rw [e] at p; exact p
  | ret x h1 => rw [e] at p; exact p
  | bad => rw [e] at p; exact p
  | ex c fs r1 h1 =>
    rw [e] at p
    intro m1 H1 σ1 s rel1 re1 C d hC hd
    exact hd_red XT h2 re1 rel1 hC hd (p.step s)
end
end TX
namespace TX
open PySem PySem.Spec L2 PyProof.Rows NdefX TW He
/-! ### the head: what is seen of the classes of errors -/
/-- a class of errors: its name, the words of its __init__, its fields -/
structure XD where
  c : Str
  qual : Str
  params : Arguments
  body : List Stmt
  scope : Scope
  flds : List Str
abbrev XW : Type := Option (Str × Str × Arguments × FuncBody × Scope × Addr × List Str × Addr)
def xW (K : PySem.W.Frag) (c : Str) : XW := match K.lookup (ma K (ga K c) "__init__") with
  | some ⟨_, _, .func fd, _⟩ => some (fd.name, fd.qualname, fd.params, fd.body, fd.scope, fd.globals, fd.closure.map (·.1), fd.builtins)
  | _ => none
def XD.val (d : XD) : XW := some ("__init__", d.qual, d.params, .stmts d.body, d.scope, mainGlobals, ["__class__"], builtinsNs)
abbrev asY (g : Addr → Option Obj) (n : Nat) : List Addr := cStatics :: asD g n
abbrev AlY : Type := AlX × List XW
def obsY (n : Nat) (fa : List Fa) (fn : List DefD) (tf : List Defn) (ex : PySem.W.Frag → Bool) (xs : List XD) (g : Addr → Option Obj) : AlY :=
  ((obsT fa fn [] (frT g (asY g n)), ex (frT g (asY g n)) && tabsB g tf (frT g (asY g n))), xs.map fun d => xW (frT g (asY g n)) d.c)
def valY (fn : List DefD) (xs : List XD) (w : World) : AlY := ((valT fn [] w, true), xs.map XD.val)
structure SaysY (fa : List Fa) (fn : List DefD) (tf : List Defn) (ex : PySem.W.Frag → Bool) (xs : List XD) (w : World) (h : Heap) (K : PySem.W.Frag) : Prop where
  x : SaysX fa fn [] tf ex w h K
  ini : ∀ d ∈ xs, xW K d.c = d.val
theorem saysY_of {n : Nat} {fa : List Fa} {fn : List DefD} {tf : List Defn} {ex : PySem.W.Frag → Bool} {xs : List XD} {w : World} {h : Heap} (e : obsY n fa fn tf ex xs h.get? = valY fn xs w) : SaysY fa fn tf ex xs w h (frT h.get? (asY h.get? n)) := by
  generalize hK : frT h.get? (asY h.get? n) = K at *
  have e0 : ((obsT fa fn [] K, ex K && tabsB h.get? tf K), xs.map fun d => xW K d.c) = valY fn xs w := by
    rw [← hK]
    exact e
  have e1 : obsT fa fn [] K = valT fn [] w := congrArg (fun z : AlY => z.1.1) e0
  have e2 : (ex K && tabsB h.get? tf K) = true := congrArg (fun z : AlY => z.1.2) e0
  have e3 : (xs.map fun d => xW K d.c) = xs.map XD.val := congrArg (fun z : AlY => z.2) e0
  obtain ⟨m1, m2⟩ := (Bool.and_eq_true _ _).mp e2
  have key : ∀ p ∈ tf, PySem.W.codeHdIn K (cT K p).1 (cT K p).2 = true ∧ ∃ o, h.get? (cT K p).2 = some o ∧ emptyTab o = true := fun p hp => by
    obtain ⟨k1, k2⟩ := (Bool.and_eq_true _ _).mp (List.all_eq_true.mp m2 p hp)
    refine ⟨k1, ?_⟩
    cases q : h.get? (cT K p).2 with
    | none =>
      rw [q] at k2
      cases k2
    | some o =>
      rw [q] at k2
      exact ⟨o, rfl, k2⟩
  refine ⟨⟨e1, m1, fun p hp => (key p hp).1, fun p hp => ?_, fun p hp => ?_⟩, fun d hd => ?_⟩
  · obtain ⟨_, o, q, z⟩ := key p hp
    rw [← hK]
    rw [← hK] at q
    exact frT_none q z
  · obtain ⟨_, o, q, z⟩ := key p hp
    rw [q, emptyTab_eq z]
  · have : ∀ l : List XD, (l.map fun d => xW K d.c) = l.map XD.val → ∀ d ∈ l, xW K d.c = d.val := by
      intro l
      induction l with
      | nil => intro _ d hd; cases hd
      | cons a l ih =>
        intro e d hd
        simp only [List.map_cons, List.cons.injEq] at e
        rcases List.mem_cons.mp hd with rfl | hd
        · exact e.1
        · exact ih e.2 d hd
    exact this xs e3 d hd
def hookY (n : Nat) (fa : List Fa) (fn : List DefD) (tf : List Defn) (ex : PySem.W.Frag → Bool) (xs : List XD) : PySem.W.Hook where
  α := AlY
  obs := fun s => obsY n fa fn tf ex xs s.heap.get?
  val := fun w => valY fn xs w
  says := fun w h => ∃ K : PySem.W.Frag, K.In h ∧ SaysY fa fn tf ex xs w h K
  of := fun _ _ e => ⟨_, frT_in, saysY_of e⟩
  keeps := fun _ _ _ ⟨K, hK, c⟩ k => ⟨K, PySem.W.Frag.In.keeps hK k, ⟨⟨c.x.t, c.x.more, c.x.hd, c.x.out, fun p hp => k _ _ (c.x.empty p hp)⟩, c.ini⟩⟩
theorem obsY_eq {n : Nat} {fa : List Fa} {fn : List DefD} {tf : List Defn} {ex : PySem.W.Frag → Bool} {xs : List XD} {g : Addr → Option Obj} {s : Shared} (h : ∀ a, g a = s.heap.get? a) : obsY n fa fn tf ex xs g = (hookY n fa fn tf ex xs).obs s := by
  have e : g = s.heap.get? := funext h
  rw [e]
  rfl
/-! ### the classes' facts, by looking -/
def xcB (K : PySem.W.Frag) (C : Addr) : Bool := match K.lookup C with
  | some ⟨.type ty, _, .cls ⟨_, _, .ref C1 :: bm, _, _, hd, _, _, _, _, de⟩, ⟨[_, _, _, _, some (.builtin nw), _]⟩⟩ => decide (ty = "type") && (decide (C1 = C) && (xMro bm && (hd && (!de && decide (nw = "Exception.__new__")))))
  | _ => false
theorem xcB_ok {K : PySem.W.Frag} {C : Addr} (h : xcB K C = true) : ∃ nm q N bs bm sn sub ab col dd k0 k1 k2 k3 k5, K.lookup C = some (excClassObj nm q C N bs bm true sn sub ab col dd k0 k1 k2 k3 k5 "Exception.__new__") ∧ xMro bm = true := by
  unfold xcB at h
  split at h
  · rename_i ty dd nm bs C1 bm ns qn hd sn sub ab col de k0 k1 k2 k3 nw k5 q
    simp only [Bool.and_eq_true, decide_eq_true_eq, Bool.not_eq_true'] at h
    obtain ⟨rfl, rfl, hm, rfl, rfl, rfl⟩ := h
    exact ⟨nm, qn, ns, bs, bm, sn, sub, ab, col, dd, k0, k1, k2, k3, k5, q, hm⟩
  · cases h
def xcA (K : PySem.W.Frag) (C : Addr) : Bool := xcB K C && (decide (PySem.W.findIn K (.ref C) "__setattr__" = some (some (.builtin "object.__setattr__"))) && (decide (PySem.W.subIn K (.ref C) (.type "BaseException") = some true) && (decide (PySem.W.subIn K (.ref C) (.type "Exception") = some true) &&
  (decide (PySem.W.typeIn K (.ref C) = some (.type "type")) && PySem.W.keepIn K (.ref C)))))
theorem xcA_ok {K : PySem.W.Frag} {C : Addr} (h : xcA K C = true) : XC K C := by
  unfold xcA at h
  simp only [Bool.and_eq_true, decide_eq_true_eq] at h
  obtain ⟨h1, h2, h3, h4, h5, h6⟩ := h
  exact ⟨xcB_ok h1, h2, h3, h4, h5, h6⟩
def xcellB (K : PySem.W.Frag) (cc C : Addr) : Bool := match K.lookup cc with
  | some ⟨_, _, .cell (some (.ref C1)), _⟩ => decide (C1 = C)
  | _ => false
def xfileB (P : Program) (K : PySem.W.Frag) (cda : Addr) : Bool := match K.lookup cda with
  | some ⟨_, _, .fields vs, _⟩ => (match (vs[2]? : Option Value) with
    | some (Value.str fl _) => (P.main.file : Str) == fl
    | _ => false)
  | _ => false
def xmroB (K : PySem.W.Frag) (C : Addr) : Bool := match PySem.W.clsIn K C with
  | some cd => decide (PySem.W.alongIn K "__init__" ((cd.mro.dropWhile (· != .ref C)).drop 1) = some (some (.builtin "Exception.__init__"))) && decide (PySem.W.mroIn K C (.ref C) = some true)
  | none => false
def xfnB (P : Program) (K : PySem.W.Frag) (C f : Addr) (qual : Str) : Bool := match K.lookup f with
  | some ⟨_, _, .func fd, _⟩ => (match fd.closure, fd.code with
    | [(_, cc)], .ref cda => PySem.W.codeIn K (.ref cda) qual && (xcellB K cc C && (xfileB P K cda && (decide (fd.defaults = .none) && decide (fd.kwdefaults = .none))))
    | _, _ => false)
  | _ => false
def XD.ok (P : Program) (K : PySem.W.Frag) (d : XD) : Bool := xcA K (ga K d.c) && (decide (PySem.W.findIn K (.ref (ga K d.c)) "__init__" = some (some (.ref (ma K (ga K d.c) "__init__")))) && (decide (PySem.W.typeIn K (.ref (ma K (ga K d.c) "__init__")) = some (.type "function")) &&
  (xfnB P K (ga K d.c) (ma K (ga K d.c) "__init__") d.qual && (xmroB K (ga K d.c) && ((d.flds.all fun x => decide (PySem.W.findIn K (.ref (ga K d.c)) x = some none)) && decide (PySem.W.nsIn K cStatics "thirdparty.any" = some none))))))
theorem XD.init {P : Program} {K : PySem.W.Frag} {d : XD} (e : xW K d.c = d.val) (h : d.ok P K = true) : ∃ cc cda doc pm an ct, XInit P K (ga K d.c) "__init__" d.qual d.params d.body d.scope d.flds (ma K (ga K d.c) "__init__") (PySem.W.fnX "__init__" d.qual d.params d.body d.scope [(("__class__" : Str), cc)] .none .none doc pm an (.ref cda) ct) cc cda := by
  unfold XD.ok at h
  simp only [Bool.and_eq_true, decide_eq_true_eq] at h
  obtain ⟨h1, h2, h3, h4, h5, h6, h7⟩ := h
  unfold xfnB at h4
  unfold xW at e
  cases q : K.lookup (ma K (ga K d.c) "__init__") with
  | none => rw [q] at h4; cases h4
  | some o =>
    obtain ⟨oc, od, dt, osl⟩ := o
    rw [q] at h4 e
    cases dt with
    | func fd =>
      obtain ⟨n1, n2, n3, n4, n5, n6, n7, n8, n9, n10, n11, n12, n13, n14, n15⟩ := fd
      have e2 : (some (n1, n2, n3, n4, n5, n6, n7.map (·.1), n15) : XW) = some (("__init__" : Str), d.qual, d.params, FuncBody.stmts d.body, d.scope, mainGlobals, [("__class__" : Str)], builtinsNs) := e
      simp only [Option.some.injEq, Prod.mk.injEq] at e2
      obtain ⟨w1, w2, w3, w4, w5, w6, w7, w8⟩ := e2
      subst w1 w2 w3 w4 w5 w6 w8
      dsimp only at h4
      split at h4
      · rename_i nc cc cda
        obtain rfl : nc = "__class__" := by simpa using w7
        simp only [Bool.and_eq_true, decide_eq_true_eq] at h4
        obtain ⟨k1, k2, k3, rfl, rfl⟩ := h4
        refine ⟨cc, cda, n10, n11, n12, n14, xcA_ok h1, h2, h3, ⟨oc, od, osl, .none, .none, n10, n11, n12, n14, rfl, q⟩, k1, ?_, ?_, ?_, fun x hx => ?_, h7⟩
        · unfold xcellB at k2
          split at k2
          · rename_i a1 a2 C1 a3 q2
            obtain rfl := of_decide_eq_true k2
            exact ⟨_, q2, rfl⟩
          · cases k2
        · unfold xfileB at k3
          split at k3
          · rename_i a1 a2 vs a3 q2
            split at k3
            · rename_i fl tk q3
              exact ⟨_, vs, fl, tk, q2, rfl, q3, k3⟩
            · cases k3
          · cases k3
        · unfold xmroB at h5
          split at h5
          · rename_i cd q2
            simp only [Bool.and_eq_true, decide_eq_true_eq] at h5
            exact ⟨cd, q2, h5.1, h5.2⟩
          · cases h5
        · exact of_decide_eq_true (List.all_eq_true.mp h6 x hx)
      · cases h4
    | _ => cases h4
/-- the tables -/
def ExT.ok (K : PySem.W.Frag) (t : ExT) : Bool := (t.cs.all fun c => t.cs.all fun d => decide (PySem.W.exmOne K (.ref (ga K c)) (.ref (ga K d)) = some (t.sub c d)) && decide (PySem.W.kitOne K (.ref (ga K c)) (.ref (ga K d)) = some (t.sub c d))) &&
  (t.cs.all fun c => xeB K (ga K c) && (t.fl c).all fun f => decide (PySem.W.findIn K (.ref (ga K c)) f = some none))
where xeB (K : PySem.W.Frag) (C : Addr) : Bool := xfB K C && (decide (PySem.W.findIn K (.ref C) "__class__" = some (some (.builtin "object.__class__"))) && (decide (PySem.W.specialIn K (.builtin "object.__class__") "__get__" = some (some (.builtin "getset_descriptor.__get__"))) &&
  (decide (PySem.W.takesIn K (.builtin "object.__class__") = some true) && decide (PySem.W.mroIn K C (.type "object") = some true))))
theorem xt_ok {K : PySem.W.Frag} {cl : Cln} {t : ExT} (h : t.ok K = true) (hc : ∀ c ∈ t.cs, cl c = some (ga K c)) : Xt K cl t := by
  unfold ExT.ok at h
  simp only [Bool.and_eq_true, List.all_eq_true, decide_eq_true_eq] at h
  obtain ⟨h1, h2⟩ := h
  refine ⟨fun c hcs d hds C hC => ?_, fun c hcs C hC => ?_, fun c hcs C hC f hf => ?_⟩
  · obtain rfl := Option.some.inj ((hc c hcs).symm.trans hC)
    exact ⟨_, hc d hds, h1 c hcs d hds⟩
  · obtain rfl := Option.some.inj ((hc c hcs).symm.trans hC)
    obtain ⟨k1, _⟩ := h2 c hcs
    unfold ExT.ok.xeB at k1
    simp only [Bool.and_eq_true, decide_eq_true_eq] at k1
    obtain ⟨q1, q2, q3, q4, q5⟩ := k1
    have x := xfB_ok q1
    exact ⟨⟨x.ga, x.gg, x.exC, x.hdC, q2, q3, q4, q5⟩, x⟩
  · obtain rfl := Option.some.inj ((hc c hcs).symm.trans hC)
    exact (h2 c hcs).2 f hf
theorem xr_of {P : Program} {w : World} {K : PySem.W.Frag} {mg : Str → Option Value} {base : Heap} {cl : Cln} {d : XD} {ps : List Str} (e : xW K d.c = d.val) (h : d.ok P K = true) (hC : cl d.c = some (ga K d.c)) (hm : mg d.c = some (.ref (ga K d.c)))
    (F : ∀ f fd cc cda, XInit P K (ga K d.c) "__init__" d.qual d.params d.body d.scope d.flds f fd cc cda → FnOk P w K mg base (L2.CX P w) 1 f fd ps (spX (ga K d.c) d.flds))
    (hb : ∀ cc cda doc pm an ct (us : List Value), us.length = ps.length → bindArgs (PySem.W.fnX "__init__" d.qual d.params d.body d.scope [(("__class__" : Str), cc)] .none .none doc pm an (.ref cda) ct) ⟨us, []⟩ = pure (ps.zip us)) : Xr P w K mg base cl d.c d.flds := by
  obtain ⟨cc, cda, doc, pm, an, ct, T⟩ := XD.init e h
  exact ⟨_, _, cc, cda, _, _, _, _, _, _, ps, hC, hm, T, F _ _ _ _ T, Binds.all (hb cc cda doc pm an ct)⟩
end TX
namespace TX
open PySem PySem.Spec L2 PyProof.Rows NdefX TW
/-! ### == of data with dicts in it: what is the same tree is equal -/
def rfT : Nat → T → Bool
  | _, .non => true
  | _, .bl _ => true
  | _, .int _ => true
  | _, .str _ => true
  | k + 1, .tup xs => xs.all (rfT k)
  | k + 1, .lst xs => xs.all (rfT k)
  | k + 1, .dK ks xs => decide ks.Nodup && xs.all (rfT k)
  | _, _ => false
def boxT : T → Bool
  | .tup _ => true
  | .lst _ => true
  | .dK _ _ => true
  | _ => false
def eqG (x y : T) (hp : MH) : Res T := if boxT x = true ∧ beqT x y = true ∧ rfT deep x = true then .ok (.bl true) hp else eqT x y hp
theorem n_eqG : NoX eqG := fun x y h c fs h' e => by
  unfold eqG at e
  split at e
  · cases e
  · exact n_eq _ _ _ _ _ _ e
theorem all_true (n : Nat) : ((List.range n).all fun _ => true) = true := List.all_eq_true.mpr fun _ _ => rfl
section
variable {X : Cx} {cl : Cln} {pins : List (Addr × Obj)} {σ : L2.St} {H : Hp} {s : Shared} {m : Ml}
theorem rf_lists {k : Nat} (ih : ∀ (x : T) (v v' : V) (u u' : Value), rfT k x = true → R (gx X cl) m H x v → R (gx X cl) m H x v' → RelV v u → RelV v' u' → PySem.W.EqTree X.prog X.w s k u u' true) :
    ∀ (xs : List T) (vs vs' : List V) (us us' : List Value), xs.all (rfT k) = true → Rs (gx X cl) m H xs vs → Rs (gx X cl) m H xs vs' → Vals vs us → Vals vs' us' → us.length = us'.length ∧ ∀ (j : Nat) (h1 : j < us.length) (h2 : j < us'.length), PySem.W.EqTree X.prog X.w s k us[j] us'[j] true
  | [], vs, vs', us, us', _, r1, r2, a1, a2 => by
    rw [Rs.nil_iff.mp r1] at a1
    rw [Rs.nil_iff.mp r2] at a2
    cases a1
    cases a2
    exact ⟨rfl, fun j h1 _ => absurd h1 (Nat.not_lt_zero _)⟩
  | x :: xs, vs, vs', us, us', al, r1, r2, a1, a2 => by
    obtain ⟨v, t, rfl, q1, q2⟩ := Rs.cons_iff.mp r1
    obtain ⟨v', t', rfl, q3, q4⟩ := Rs.cons_iff.mp r2
    cases a1 with
    | cons b1 b2 =>
      cases a2 with
      | cons b3 b4 =>
        simp only [List.all_cons, Bool.and_eq_true] at al
        obtain ⟨l, e⟩ := rf_lists ih xs t t' _ _ al.2 q2 q4 b2 b4
        refine ⟨by simp [l], fun j h1 h2 => ?_⟩
        cases j with
        | zero => exact ih x v v' _ _ al.1 q1 q3 b1 b3
        | succ j => exact e j (by simpa using h1) (by simpa using h2)
theorem rf_pairs {k : Nat} (ih : ∀ (x : T) (v v' : V) (u u' : Value), rfT k x = true → R (gx X cl) m H x v → R (gx X cl) m H x v' → RelV v u → RelV v' u' → PySem.W.EqTree X.prog X.w s k u u' true) :
    ∀ (ks : List Key) (xs : List T) (vs vs' : List V) (ps ps' : List (Key × Value)), ks.Nodup → ks.length = vs.length → ks.length = vs'.length → xs.all (rfT k) = true → Rs (gx X cl) m H xs vs → Rs (gx X cl) m H xs vs' → KV (ks.zip vs) ps → KV (ks.zip vs') ps' →
      ps.map (·.1) = ks ∧ ps'.map (·.1) = ks ∧ ∀ c v y, (c, v) ∈ ps → PySem.valueAt ps' c = some y → PySem.W.EqTree X.prog X.w s k v y true
  | [], xs, vs, vs', ps, ps', _, l1, l2, al, r1, r2, a1, a2 => by
    cases a1
    cases a2
    exact ⟨rfl, rfl, fun _ _ _ h => nomatch h⟩
  | c :: ks, [], vs, vs', ps, ps', nd, l1, l2, al, r1, r2, a1, a2 => by
    rw [Rs.nil_iff.mp r1] at l1
    cases l1
  | c :: ks, x :: xs, vs, vs', ps, ps', nd, l1, l2, al, r1, r2, a1, a2 => by
    obtain ⟨v, t, rfl, q1, q2⟩ := Rs.cons_iff.mp r1
    obtain ⟨v', t', rfl, q3, q4⟩ := Rs.cons_iff.mp r2
    cases a1 with
    | @cons _ p _ ps b1 b2 =>
      cases a2 with
      | @cons _ p' _ ps' b3 b4 =>
        obtain ⟨p1, p2⟩ := p
        obtain ⟨p3, p4⟩ := p'
        obtain ⟨rfl, b1⟩ := b1
        obtain ⟨rfl, b3⟩ := b3
        simp only [List.all_cons, Bool.and_eq_true] at al
        obtain ⟨n1, n2⟩ := List.nodup_cons.mp nd
        obtain ⟨e1, e2, e⟩ := rf_pairs ih ks xs t t' ps ps' n2 (by simpa using l1) (by simpa using l2) al.2 q2 q4 b2 b4
        refine ⟨by simp [e1], by simp [e2], fun d w y hm hv => ?_⟩
        unfold PySem.valueAt at hv
        rcases List.mem_cons.mp hm with hm | hm
        · cases hm
          simp at hv
          subst hv
          exact ih x v v' _ _ al.1 q1 q3 b1 b3
        · have hd : d ∈ ks := by
            rw [← e1]
            exact List.mem_map.mpr ⟨_, hm, rfl⟩
          have ne : c ≠ d := fun z => n1 (z ▸ hd)
          refine e d w y hm ?_
          unfold PySem.valueAt
          rw [List.find?_cons_of_neg (by simpa using ne)] at hv
          exact hv
theorem pairs_all {ks : List Key} {ps ps' : List (Key × Value)} (q1 : ps.map (·.1) = ks) (q2 : ps'.map (·.1) = ks) : ps.length = ps'.length ∧ (ps.all fun p => (PySem.valueAt ps' p.1).isSome && true) = true := by
  refine ⟨by rw [← List.length_map (f := (·.1)), q1, ← q2, List.length_map], ?_⟩
  rw [List.all_eq_true]
  intro p hp
  have hk : p.1 ∈ ps'.map (·.1) := by
    rw [q2, ← q1]
    exact List.mem_map.mpr ⟨p, hp, rfl⟩
  obtain ⟨p', hp', e'⟩ := List.mem_map.mp hk
  unfold PySem.valueAt
  have : (ps'.find? fun kv => decide (kv.1 = p.1)).isSome = true := List.find?_isSome.mpr ⟨p', hp', by simpa using e'⟩
  simpa using this
theorem rf_tree (I : Inv X pins σ H s) : ∀ (k : Nat) (x : T) (v v' : V) (u u' : Value), rfT k x = true → R (gx X cl) m H x v → R (gx X cl) m H x v' → RelV v u → RelV v' u' → PySem.W.EqTree X.prog X.w s k u u' true := by
  intro k
  induction k with
  | zero =>
    intro x v v' u u' e r r' a a'
    cases x with
    | non => simp only [R] at r r'; subst r r'; cases a; cases a'; exact .same
    | bl b => simp only [R] at r r'; subst r r'; cases a; cases a'; exact .same
    | int i =>
      simp only [R] at r r'; subst r r'
      obtain ⟨t, rfl⟩ := a
      obtain ⟨t', rfl⟩ := a'
      have := fun A : Around => PySem.W.keq_flat (A := A) (s := s) (v := .int i t) (y := .int i t') (fun h => Reads.int i t) (fun h => Reads.int i t')
      refine .leaf fun A _ => ?_
      have q := this A
      simpa [PyData.eqv] using q
    | str i =>
      simp only [R] at r r'; subst r r'
      obtain ⟨t, rfl⟩ := a
      obtain ⟨t', rfl⟩ := a'
      have := fun A : Around => PySem.W.keq_flat (A := A) (s := s) (v := .str i t) (y := .str i t') (fun h => Reads.str i t) (fun h => Reads.str i t')
      refine .leaf fun A _ => ?_
      have q := this A
      simpa [PyData.eqv] using q
    | _ => cases e
  | succ k ih =>
    intro x v v' u u' e r r' a a'
    cases x with
    | non => simp only [R] at r r'; subst r r'; cases a; cases a'; exact .same
    | bl b => simp only [R] at r r'; subst r r'; cases a; cases a'; exact .same
    | int i =>
      simp only [R] at r r'; subst r r'
      obtain ⟨t, rfl⟩ := a
      obtain ⟨t', rfl⟩ := a'
      have := fun A : Around => PySem.W.keq_flat (A := A) (s := s) (v := .int i t) (y := .int i t') (fun h => Reads.int i t) (fun h => Reads.int i t')
      refine .leaf fun A _ => ?_
      have q := this A
      simpa [PyData.eqv] using q
    | str i =>
      simp only [R] at r r'; subst r r'
      obtain ⟨t, rfl⟩ := a
      obtain ⟨t', rfl⟩ := a'
      have := fun A : Around => PySem.W.keq_flat (A := A) (s := s) (v := .str i t) (y := .str i t') (fun h => Reads.str i t) (fun h => Reads.str i t')
      refine .leaf fun A _ => ?_
      have q := this A
      simpa [PyData.eqv] using q
    | tup xs =>
      have e : xs.all (rfT k) = true := e
      simp only [R] at r r'
      obtain ⟨b, vs, rfl, f, rs⟩ := r
      obtain ⟨b', vs', rfl, f', rs'⟩ := r'
      cases a
      cases a'
      by_cases hb : b = b'
      · subst hb
        exact .same
      obtain ⟨its, a1, t1, _⟩ := I.tuple (SqT.of f.1)
      obtain ⟨its', a2, t2, _⟩ := I.tuple (SqT.of f'.1)
      obtain ⟨l, q⟩ := rf_lists (X := X) (cl := cl) (H := H) (s := s) (m := m) ih xs vs vs' its its' e rs rs' a1 a2
      have := PySem.W.EqTree.tuples (prog := X.prog) (w := X.w) (s := s) (n := k) (l := b) (l' := b') (vs := its.toArray) (vs' := its'.toArray) (e := fun _ => true) hb t1 t2 (fun j h1 h2 => q j (by simpa using h1) (by simpa using h2))
      simpa [l, all_true] using this
    | lst xs =>
      have e : xs.all (rfT k) = true := e
      simp only [R] at r r'
      obtain ⟨b, vs, rfl, f, rs⟩ := r
      obtain ⟨b', vs', rfl, f', rs'⟩ := r'
      cases a
      cases a'
      by_cases hb : b = b'
      · subst hb
        exact .same
      obtain ⟨its, a1, t1, _⟩ := I.list (.inl (.inl f.1))
      obtain ⟨its', a2, t2, _⟩ := I.list (.inl (.inl f'.1))
      obtain ⟨l, q⟩ := rf_lists (X := X) (cl := cl) (H := H) (s := s) (m := m) ih xs vs vs' its its' e rs rs' a1 a2
      have := PySem.W.EqTree.lists (prog := X.prog) (w := X.w) (s := s) (n := k) (l := b) (l' := b') (vs := its.toArray) (vs' := its'.toArray) (e := fun _ => true) hb t1.isList t2.isList (by simpa using l) (fun j h1 h2 => q j (by simpa using h1) (by simpa using h2))
      simpa [all_true] using this
    | dK ks xs =>
      have e : (decide ks.Nodup && xs.all (rfT k)) = true := e
      simp only [Bool.and_eq_true, decide_eq_true_eq] at e
      simp only [R] at r r'
      obtain ⟨b, vs, rfl, f, lv, rs⟩ := r
      obtain ⟨b', vs', rfl, f', lv', rs'⟩ := r'
      cases a
      cases a'
      by_cases hb : b = b'
      · subst hb
        exact .same
      obtain ⟨_, n1, ps, k1, d1⟩ := dk_rd I.hok f.1
      obtain ⟨_, n2, ps', k2, d2⟩ := dk_rd I.hok f'.1
      obtain ⟨q1, q2, q⟩ := rf_pairs (X := X) (cl := cl) (H := H) (s := s) (m := m) ih ks xs vs vs' ps ps' e.1 lv lv' e.2 rs rs' k1 k2
      have := PySem.W.EqTree.dicts (prog := X.prog) (w := X.w) (s := s) (n := k) (a := b) (b := b') (e := fun _ => true) hb n1 n2 d1 d2 q
      obtain ⟨l1, l2⟩ := pairs_all q1 q2
      rw [l2, l1] at this
      simpa using this
    | _ => cases e
end
section
variable {X : Cx} {cl : Cln}
theorem o_eqG (hu : X.A.units + 66 < cLine) : OpR X (compareOp .Eq) (rM (gx X cl) eqG) := by
  intro pins s σ H v w u u' Q I rv rw' q
  obtain ⟨m, hp, x, y, rel, rx, ry, p⟩ := q
  unfold eqG at p
  split at p
  · rename_i hc
    obtain ⟨hbx, hbq, e⟩ := hc
    obtain rfl := beqT_ok _ _ hbq
    have hd : X.A.units + (13 + 1) < cLine := by omega
    have ih := rf_tree (X := X) (cl := cl) (m := m) I 13
    have fin : EP X pins σ Q (.bool true) s := ⟨.bl true, H, I, rfl, p.ok_ rel _ (by simp only [R])⟩
    cases x with
    | tup xs =>
      have e : xs.all (rfT 13) = true := e
      simp only [R] at rx ry
      obtain ⟨b, vs, rfl, f, rs⟩ := rx
      obtain ⟨b', vs', rfl, f', rs'⟩ := ry
      cases rv
      cases rw'
      obtain ⟨its, a1, t1, _⟩ := I.tuple (SqT.of f.1)
      obtain ⟨its', a2, t2, _⟩ := I.tuple (SqT.of f'.1)
      obtain ⟨l, q⟩ := rf_lists (X := X) (cl := cl) (H := H) (s := s) (m := m) ih xs vs vs' its its' e rs rs' a1 a2
      refine PySem.W.eq_tuplesT (n := 13) (e := fun _ => true) t1 t2 (fun j h1 h2 => q j (by simpa using h1) (by simpa using h2)) hd ?_
      simpa [l, all_true] using fin
    | lst xs =>
      have e : xs.all (rfT 13) = true := e
      simp only [R] at rx ry
      obtain ⟨b, vs, rfl, f, rs⟩ := rx
      obtain ⟨b', vs', rfl, f', rs'⟩ := ry
      cases rv
      cases rw'
      obtain ⟨its, a1, t1, _⟩ := I.list (.inl (.inl f.1))
      obtain ⟨its', a2, t2, _⟩ := I.list (.inl (.inl f'.1))
      obtain ⟨l, q⟩ := rf_lists (X := X) (cl := cl) (H := H) (s := s) (m := m) ih xs vs vs' its its' e rs rs' a1 a2
      refine PySem.W.eq_listsT (n := 13) (e := fun _ => true) t1.isList t2.isList (by simpa using l) (fun j h1 h2 => q j (by simpa using h1) (by simpa using h2)) hd ?_
      simpa [all_true] using fin
    | dK ks xs =>
      have e : (decide ks.Nodup && xs.all (rfT 13)) = true := e
      simp only [Bool.and_eq_true, decide_eq_true_eq] at e
      simp only [R] at rx ry
      obtain ⟨b, vs, rfl, f, lv, rs⟩ := rx
      obtain ⟨b', vs', rfl, f', lv', rs'⟩ := ry
      cases rv
      cases rw'
      obtain ⟨_, n1, ps, k1, d1⟩ := dk_rd I.hok f.1
      obtain ⟨_, n2, ps', k2, d2⟩ := dk_rd I.hok f'.1
      obtain ⟨q1, q2, q⟩ := rf_pairs (X := X) (cl := cl) (H := H) (s := s) (m := m) ih ks xs vs vs' ps ps' e.1 lv lv' e.2 rs rs' k1 k2
      refine PySem.W.eq_dictsT (n := 13) (e := fun _ => true) n1 n2 d1 d2 q hd ?_
      obtain ⟨l1, l2⟩ := pairs_all q1 q2
      rw [l2, l1]
      simpa using fin
    | _ => cases hbx
  · exact o_eq hu pins s σ H v w u u' Q I rv rw' ⟨m, hp, x, y, rel, rx, ry, p⟩
end
end TX
namespace TX
open PySem PySem.Spec PyProof.Rows L2 TW
/-! ### a lambda without parameters, run where a def got it; its exceptions are told of the very state there -/
section
variable {X : Cx} {pins pinsZ : List (Addr × Obj)} {σ σZ : L2.St} {H HZ H1 : Hp} {s s1 sZ : Shared} {CXg : CXT} {Eg : XK} {Ng : List Str} {qg : Str} {sg : Scope} {g f c' : Addr} {cdg pm ctv : Value} {params : Arguments} {body : Expr} {scope : Scope} {pn : List (Addr × Obj)} {xe : Value → Shared → Prop} {W : WX} {tb : TE} {k : Nat} {Q : VK}
abbrev lamO (X : Cx) (params : Arguments) (body : Expr) (scope : Scope) (pm : Value) (c' : Addr) (ctv : Value) : Obj := PySem.W.kla_obj "<lambda>" (X.env.qual ++ "<lambda>") params body scope (cloFrom X.env.cells scope.names []) pm c' ctv
theorem act_run (I : Inv X pins σ H1 s) (L : LamX.LamS X.env.scope scope) (hf : s.heap.get? f = some (lamO X params body scope pm c' ctv)) (hfn : H1 f = none) (hfr : f ∉ L2.frs X.stack)
    (hbind : bindArgs (PySem.W.kla_fn "<lambda>" (X.env.qual ++ "<lambda>") params body scope (cloFrom X.env.cells scope.names []) pm (.ref c') ctv) ⟨[], []⟩ = pure [])
    (IZ : Inv ((cxOf CXg X.prog X.w X.K X.mg X.base Ng qg sg g cdg X.A X.stack s H1 Eg).tr pn xe) pinsZ σZ HZ sZ) (hco : HZ c' = some (LamX.CodeO c' (X.env.qual ++ "<lambda>")))
    (tk : Takes ((cxOf CXg X.prog X.w X.K X.mg X.base Ng qg sg g cdg X.A X.stack s H1 Eg).tr pn xe) W) (hr : Room (k + 1) (X.A.deeper (envOfC qg sg s.heap.objs.size g cdg)))
    (hbody : ∀ (A : Around) (outer : List Env) (s : Shared) (H : Hp), Room k (A.deeper (LamX.lamEnv X scope s.heap.objs.size f c')) → PE (LamX.lamCx X A outer s H (fun c d H' => W c d σZ H') scope f c') body tb) (ht : tb σ HZ Q) :
    wpAny (model X.prog X.w) (X.A.deeper (envOfC qg sg s.heap.objs.size g cdg)) (call (.ref f) []) (EP ((cxOf CXg X.prog X.w X.K X.mg X.base Ng qg sg g cdg X.A X.stack s H1 Eg).tr pn xe) pinsZ σZ Q) xe sZ := by
  have fO : sZ.heap.get? f = some (lamO X params body scope pm c' ctv) := IZ.base.keep f _ hf hfn hfr (fun z => nomatch z)
  obtain ⟨⟨oc, cs, ct, cO, cd, cn⟩, -, -⟩ := IZ.hok c' _ hco
  refine wpAny_call (codeAny_mono (R := CR (L2.CX X.prog X.w) (envOfC qg sg s.heap.objs.size g cdg :: X.stack) X.prog X.w HZ sZ Q fun c d H' => W c d σZ H') ?run ?out)
  case run =>
    refine PySem.W.kla_callFunE hr.depth fO rfl L.co L.gen rfl ⟨c', oc, cs, ct, rfl, cO, cd, cn⟩ ?_
    rw [hbind]
    refine wpAny_pure (wpAny_newFunctionEnv (fun y hy => (L.own y hy).2) (fun y hy => nomatch hy) (fun h₁ ns big => ⟨IZ.nolimit.fresh _ big, ?_⟩) L.kind)
    have old : ∀ b o, sZ.heap.get? b = some o → h₁.get? b = some o := fun b o e => big.extBut b o (Nat.ne_of_lt (Heap.lt_size e)) (Heap.get?_push_of_some _ e)
    have J := LamX.lam_start2 (f := f) (c' := c') (E := fun c d H' => W c d σZ H') (tk := sZ.toks + 0) I L IZ.env0 hr.hd IZ.base ns old
    refine PySem.W.kla_codeExpr (wpAny_mono ((hbody _ _ sZ HZ (hr.deeper _)).run [] _ _ HZ Q J ht) ?_ fun _ _ z => z)
    rintro v s' ⟨y, H', J', ry, q⟩
    exact ⟨y, H', J'.os, J'.bare, J'.base, J'.hok, ry, q⟩
  case out =>
    rintro (e | fl) s' z
    · exact passAt tk σZ pinsZ HZ sZ e s' IZ z
    · cases fl with
      | ret u => exact IZ.after z
      | _ => exact z.elim
end
/-! ### its mirror: the told def runs on the empty heap; slot 0 holds the lambda under a name of its own -/
def callK : Str := "<call>"
def actM (A : MH → Res T) : EM := fun (r : Rho) (h : MH) => match h, (r[0]? : Option (Option T)) with
  | [], some (some (T.cls c)) => if c = callK then (match A [] with
      | .ok y [] => if noC callK y = true then .ok y [] else .bad
      | .exc d fs [] => if d ≠ callK ∧ noCs callK (fs.map (·.2)) = true then .exc d fs [] else .bad
      | _ => .bad) else .bad
  | _, _ => .bad
/-- all that stood at (m, H) and is no cell -/
def stood (m : Ml) (H : Hp) : Addr → HO → Prop := fun a o => NT o ∧ Sm H a o ∧ m.no a
theorem stood_on {m m' : Ml} {H H' : Hp} (w : Wk m m' H H') {a : Addr} {o : HO} (q : stood m H a o) : NT o ∧ Sm H' a o ∧ m'.no a := ⟨q.1, w.fr a o q.1 q.2.1 q.2.2⟩
section
variable {X : Cx} {cl : Cln} {pins : List (Addr × Obj)} {σ : L2.St} {H1 : Hp} {s : Shared} {CXg : CXT} {Eg : XK} {Ng : List Str} {qg : Str} {sg : Scope} {g f c' : Addr} {cdg pm ctv : Value} {params : Arguments} {body : Expr} {scope : Scope} {pn : List (Addr × Obj)} {xe : Value → Shared → Prop} {W : WX} {k : Nat} {te : EM} {r : Rho} {m : Ml} {a : Str} {p1 p2 : Pos}
theorem me_act (I : Inv X pins σ H1 s) (re : RE (gx X cl) m H1 r σ) (L : LamX.LamS X.env.scope scope) (hf : s.heap.get? f = some (lamO X params body scope pm c' ctv)) (hfn : H1 f = none) (hfr : f ∉ L2.frs X.stack) (hco : H1 c' = some (LamX.CodeO c' (X.env.qual ++ "<lambda>"))) (hno : m.no c')
    (hbind : bindArgs (PySem.W.kla_fn "<lambda>" (X.env.qual ++ "<lambda>") params body scope (cloFrom X.env.cells scope.names []) pm (.ref c') ctv) ⟨[], []⟩ = pure [])
    (tk : Takes ((cxOf CXg X.prog X.w X.K X.mg X.base Ng qg sg g cdg X.A X.stack s H1 Eg).tr pn xe) W) (hr : Room (k + 1) (X.A.deeper (envOfC qg sg s.heap.objs.size g cdg)))
    (hte : ∀ (A : Around) (outer : List Env) (s : Shared) (H : Hp) (E : XK) (f c' : Addr), Room k (A.deeper (LamX.lamEnv X scope s.heap.objs.size f c')) → ME (LamX.lamCx X A outer s H E scope f c') cl (fun c d _ H => E c d H) body te)
    (hN : Ng[0]? = some a) (hv : Vis sg a) (hd : (a == ("__debug__" : Str)) = false) (hcd : (a == ("__classdict__" : Str)) = false) :
    ME ((cxOf CXg X.prog X.w X.K X.mg X.base Ng qg sg g cdg X.A X.stack s H1 Eg).tr pn xe) (cl.on callK f (stood m H1)) W (.Call (.Name a p1) [] [] p2) (actM (te (lowR r))) := by
  refine ⟨⟨fun pinsZ sZ σZ HZ Q IZ h => ?_⟩⟩
  obtain ⟨rZ, hZ, mZ, reZ, relZ, p⟩ := h
  unfold actM at p
  split at p
  · rename_i c e0
    split at p
    · rename_i ec
      subst ec
      have slot : σZ[0]? = some (some (V.ref f)) := by
        obtain ⟨v, e1, rv⟩ := reZ.at_ 0 _ e0
        simp only [R] at rv
        obtain ⟨C, hC, rfl⟩ := rv
        obtain rfl : f = C := Option.some.inj (Cln.on_at.symm.trans hC)
        exact e1
      have pinZ : ∀ a o, NT o → Sm H1 a o → m.no a → Sm HZ a o ∧ mZ.no a := fun a o nt h n => (relZ.pins ⟨nt, h, n⟩).2
      have coZ := (pinZ c' _ LamX.codeO_ne (.inl hco) hno).1.ex
      refine wpAny_Call_Name_kw (thn ((pe_var (pos := p1) (i := 0) hN hv hd hcd).run pinsZ sZ σZ HZ (fun v H2 => v = .ref f ∧ H2 = HZ) IZ ⟨.ref f, slot, rfl, rfl⟩) fun u s1 ⟨v, H2, I1, r1, ev, eH⟩ => ?_)
      subst ev eH
      obtain rfl : u = Value.ref f := r1
      refine PySem.W.callWith_F0 ⟨_, _, _, _, I1.base.keep f _ hf hfn hfr (fun z => nomatch z)⟩ ?_
      refine act_run (W := W) (k := k) (tb := tM (gx X cl) (fun c d _ H => W c d σZ H) te) I L hf hfn hfr hbind I1 coZ tk hr (fun A outer s H hr2 => (hte A outer s H _ f c' hr2).pe) ⟨lowR r, [], mZ, re.low pinZ, relZ.off, ?_⟩
      split at p
      · rename_i y e2
        rw [e2]
        split at p
        · rename_i hy
          intro m' H' st rel' v rv
          exact p m' H' st (rel'.on fun b o q => stood_on st.wk (show stood mZ H2 b o from ⟨q.1, pinZ b o q.1 q.2.1 q.2.2⟩)) v ((R.on y v hy).mp rv)
        · exact p.elim
      · rename_i d fs e2
        rw [e2]
        split at p
        · rename_i hy
          intro m' H' st rel' C dx hC hd'
          refine p m' H' st (rel'.on fun b o q => stood_on st.wk (show stood mZ H2 b o from ⟨q.1, pinZ b o q.1 q.2.1 q.2.2⟩)) C dx ((Cln.on_ne hy.1).trans hC) ?_
          rcases hd' with z | ⟨dx', q, e3, fz, rk⟩
          · exact .inl z
          · exact .inr ⟨dx', q, e3, fz, rk.1, (Rs.on _ _ hy.2).mp rk.2⟩
        · exact p.elim
      · exact p.elim
    · exact p.elim
  · exact p.elim
end
/-! ### the def that gets the lambda -/
/-- x calls what it got; B: its body's mirror, the call's mirror given -/
structure Told (P : Program) (w : World) (K : PySem.W.Frag) (mg : Str → Option Value) (base : Heap) (cl : Cln) (k : Nat) (x : Str) (N : Nat) (B : EM → SM) : Prop where
  ex : ∃ (g : Addr) (fd : FuncData) (a : Str) (params : Arguments) (body : List Stmt) (scope : Scope) (dvs : List V) (kws : List (Str × V)) (Ng : List Str),
    FunD K x x params body scope dvs kws g fd ∧ FnScope Ng [a] scope ∧ Ng.length = N ∧ Ng[0]? = some a ∧ Vis scope a ∧ (a == ("__debug__" : Str)) = false ∧ (a == ("__classdict__" : Str)) = false ∧ mg x = some (.ref g) ∧ L2.Binds K fd [a] [] ∧
    ∀ (cl' : Cln) (F : EM) (cdv : Value) (A : Around) (outer : List Env) (s : Shared) (H : Hp) (E : XK), (∀ c, c ≠ callK → cl' c = cl c) → fd.code = cdv → Room k (A.deeper (envOfC x scope s.heap.objs.size g cdv)) →
      (∀ (W : WX) (pn : List (Addr × Obj)) (xe : Value → Shared → Prop) (p1 p2 : Pos), Takes ((cxOf (L2.CX P w) P w K mg base Ng x scope g cdv A outer s H E).tr pn xe) W → ME ((cxOf (L2.CX P w) P w K mg base Ng x scope g cdv A outer s H E).tr pn xe) cl' W (.Call (.Name a p1) [] [] p2) F) →
      MB (cxOf (L2.CX P w) P w K mg base Ng x scope g cdv A outer s H E) cl' (fun c d _ H => E c d H) body (B F)
theorem Told.mono {P : Program} {w : World} {K : PySem.W.Frag} {mg : Str → Option Value} {base : Heap} {cl : Cln} {k j : Nat} {x : Str} {N : Nat} {B : EM → SM} (T0 : Told P w K mg base cl k x N B) (h : k ≤ j) : Told P w K mg base cl j x N B := by
  obtain ⟨g, fd, a, pg, bg, sg, dvs, kws, Ng, FD, S, hl, hN, hv, hd, hcd, hmx, hb, walk⟩ := T0.ex
  exact ⟨g, fd, a, pg, bg, sg, dvs, kws, Ng, FD, S, hl, hN, hv, hd, hcd, hmx, hb, fun cl' F cdv A outer s H E up e hr act => walk cl' F cdv A outer s H E up e (hr.mono h) act⟩
/-- the errors' facts are told on -/
theorem Xt.on {K : PySem.W.Frag} {cl cl' : Cln} {t : ExT} (x : Xt K cl t) (up : ∀ c, c ≠ callK → cl' c = cl c) (hc : ∀ c ∈ t.cs, c ≠ callK) : Xt K cl' t :=
  ⟨fun c h d h' C e => by
    rw [up c (hc c h)] at e
    rw [up d (hc d h')]
    exact x.exm c h d h' C e, fun c h C e => x.exc c h C ((up c (hc c h)).symm.trans e), fun c h C e => x.fld c h C ((up c (hc c h)).symm.trans e)⟩
/-- x(lambda: ..) -/
def emTold (N : Nat) (B : EM → SM) (te : EM) : EM := fun r h => onH (match B (actM (te (lowR r))) (startR N [T.cls callK]) [] with
  | .nx _ h' => .ok .non h'
  | .ret v h' => if noC callK v = true then .ok v h' else .bad
  | .ex d fs _ h' => if d ≠ callK ∧ noCs callK (fs.map (·.2)) = true then .exc d fs h' else .bad
  | _ => .bad) h
section
variable {X : Cx} {cl : Cln} {W : WX} {x : Str} {N k : Nat} {B : EM → SM} {te : EM} {params : Arguments} {body : Expr} {scope : Scope} {c P : Addr} {p lpos pos : Pos}
theorem me_told (T0 : Told X.prog X.w X.K X.mg X.base cl k x N B) (hr : Room (k + 1) X.A) (tk : Takes X W) (TB : LamX.TabB X.base X.mg c P) (hcode : X.env.code = .ref c) (hm : (P, X.env.qual ++ "<lambda>") ∈ cl.tabs) (hu : ∀ p ∈ cl.tabs, p.1 = P → p.2 = X.env.qual ++ "<lambda>")
    (L : LamX.LamS X.env.scope scope) (hte : ∀ (A : Around) (outer : List Env) (s : Shared) (H : Hp) (E : XK) (f c' : Addr), Room (k - 1) (A.deeper (LamX.lamEnv X scope s.heap.objs.size f c')) → ME (LamX.lamCx X A outer s H E scope f c') cl (fun c d _ H => E c d H) body te)
    (hk : 0 < k) (hg : Gl X x := by rfl) (hdef : defaultsOf params X.env = ([], []) := by rfl)
    (hbind : ∀ (q : Str) (cl : List (Str × Addr)) (pm cv ctv : Value), bindArgs (PySem.W.kla_fn "<lambda>" q params body scope cl pm cv ctv) ⟨[], []⟩ = pure [] := by intros; rfl) (hdb : (x == ("__debug__" : Str)) = false := by decide) :
    ME X cl W (.Call (.Name x p) [.Lambda params body scope lpos] [] pos) (emTold N B te) := by
  refine ⟨⟨fun pins s σ H Q I h => ?_⟩⟩
  obtain ⟨r, hp, m, re, rel, p0⟩ := h
  obtain ⟨g, fd, a, pg, bg, sg, dvs, kws, Ng, FD, S, rfl, hN, hv, hd, hcd, hmx, hb, walk⟩ := T0.ex
  obtain ⟨oc, od, dV, kV, doc, pm0, an0, cdv, ct, osl, rfl, lk, hcg, _, _⟩ := FD.ex
  refine wpAny_Call_Name_kw (ld_glob I hg hmx ?_ hdb)
  refine PySem.W.callWith_K (h₀ := X.base) I.ok.mod.kin FD.kp ?_ (by rfl) (by rfl)
  show wpAny _ _ (spliced ((false, eval (.Lambda params body scope lpos) X.env) :: backTo pos (starEach [] X.env))) _ _ s
  refine Calls.spliced_cons (lam_new I rel TB hcode hm hu hdef (L.has I.ok) fun f c' pm ctv H1 s1 I1 st rel1 hf hfn hco hfr hno => Calls.spliced_nil ⟨I1.kIn, ?_⟩)
  have p1 := p0.step st
  have re1 := re.step st
  refine wpAny_call (codeAny_mono (R := CR (L2.CX X.prog X.w) X.stack X.prog X.w H1 s1 Q (WE W σ)) ?run ?out)
  case out =>
    rintro (e | fl) s' z
    · exact passAt tk σ pins H1 s1 e s' I1 z
    · cases fl with
      | ret u => exact I1.after z
      | _ => exact z.elim
  case run =>
    refine LamX.run_ofS (N := Ng) (ps := [a]) (us := [.ref f]) (vs := [.ref f]) lk hcg S hr I1.env0 (hb s1 [.ref f] I1.kIn rfl) (.cons rfl .nil) rfl fun hr' => ?_
    obtain ⟨j, rfl⟩ : ∃ j, k = j + 1 := ⟨k - 1, by omega⟩
    have mb := walk (cl.on callK f (stood m H1)) (actM (te (lowR r))) cdv X.A X.stack s1 H1 (WE W σ) (fun c hc => Cln.on_ne hc) rfl hr' fun W' pn xe p1 p2 tk' =>
      me_act I1 re1 L hf hfn hfr hco hno (hbind _ _ _ _ _) tk' hr' hte hN hv hd hcd
    refine ⟨_, mb.pss, startR Ng.length [T.cls callK], [], m.aside, re_start (Rs.cons (by simp only [R]; exact ⟨f, Cln.on_at, rfl⟩) Rs.nil), rel1.aside.on fun b o q => ⟨q.1, q.2.1, Ml.aside_no.mpr q.2.2⟩, ?_⟩
    have back : ∀ {m2 H2}, Stp m.aside m2 H1 H2 → Rel (gx X (cl.on callK f (stood m H1))) m2 H2 [] → m2 = m.aside ∧ Stp m m H1 H2 ∧ Rel (gx X cl) m H2 hp := fun st2 r2 => rel1.unaside st2 r2.off
    unfold emTold at p1
    generalize B (actM (te (lowR r))) (startR Ng.length [T.cls callK]) [] = fr at p1 ⊢
    cases fr with
    | nx r2 h2 =>
      cases h2 with
      | cons _ _ => exact p1.elim
      | nil =>
        intro m2 H2 σ2 st2 rel2 re2
        obtain ⟨rfl, st3, rel3⟩ := back st2 rel2
        exact p1 m H2 st3 rel3 _ (by simp only [R])
    | ret v h2 =>
      simp only [] at p1
      split at p1
      · rename_i hv0
        cases h2 with
        | cons _ _ => exact p1.elim
        | nil =>
          intro m2 H2 st2 rel2 u ru
          obtain ⟨rfl, st3, rel3⟩ := back st2 rel2
          exact p1 m H2 st3 rel3 u (R.back v u ((R.on v u hv0).mpr ru))
      · exact p1.elim
    | ex d fs r2 h2 =>
      simp only [] at p1
      split at p1
      · rename_i hd0
        cases h2 with
        | cons _ _ => exact p1.elim
        | nil =>
          intro m2 H2 σ2 st2 rel2 re2 C dx hC hdx
          obtain ⟨rfl, st3, rel3⟩ := back st2 rel2
          refine p1 m H2 st3 rel3 C dx ((Cln.on_ne hd0.1).symm.trans hC) ?_
          rcases hdx with z | ⟨dx', q, e3, fz, rk⟩
          · exact .inl z
          · exact .inr ⟨dx', q, e3, ⟨fz.1, Ml.aside_no.mp fz.2⟩, rk.1, Rs.back _ _ ((Rs.on _ _ hd0.2).mpr rk.2)⟩
      · exact p1.elim
    | bk _ _ => exact p1.elim
    | ct _ _ => exact p1.elim
    | bad => exact p1.elim
end
end TX
namespace TX
open PySem PySem.Spec PyProof.Rows L2 TW
/-! ### keyword-only parameters with a default: a call that writes some of them, or none -/
/-- the values given by place, the defaults that stand for what is not given, the values given by name: in the parameters' order -/
def perm {α : Type} (idx : List Nat) (us mv ws : List α) : List α := idx.filterMap fun i => (us ++ (mv ++ ws))[i]?
theorem perm_vals {idx : List Nat} {vs mz zs : List V} {us mv ws : List Value} (h1 : Vals vs us) (h2 : Vals mz mv) (h3 : Vals zs ws) : Vals (perm idx vs mz zs) (perm idx us mv ws) := vals_fm (h1.append (h2.append h3)) id idx
theorem perm_rs {G : Gx} {m : Ml} {H : Hp} {idx : List Nat} {xs dT zs : List T} {vs mz ws : List V} (h1 : Rs G m H xs vs) (h2 : Rs G m H dT mz) (h3 : Rs G m H zs ws) : Rs G m H (perm idx xs dT zs) (perm idx vs mz ws) := rs_fm (Rs.app h1 (Rs.app h2 h3)) id idx
/-- the default of a keyword-only parameter, an object -/
def kwAt (f : Str × Option Str) (x : Str) (K : PySem.W.Frag) : Addr := match K.lookup (He.fAd K f) with
  | some ⟨_, _, .func fd, _⟩ => (match fd.kwdefaults with
    | .ref D => (match PySem.W.nsIn K D x with
      | some (some (.ref a)) => a
      | _ => 0)
    | _ => 0)
  | _ => 0
/-- the empty tuple stands at a -/
def ktB (K : PySem.W.Frag) (a : Addr) : Bool := match K.lookup a with
  | some ⟨.type t, dd, .seq its _, _⟩ => decide (t = "tuple") && dd.isNone && its.isEmpty
  | _ => false
theorem ktB_ok {K : PySem.W.Frag} {a : Addr} (h : ktB K a = true) : KTup K a [] := by
  unfold ktB at h
  split at h
  · rename_i t dd its n sl e
    simp only [Bool.and_eq_true, decide_eq_true_eq, Array.isEmpty_iff, Option.isNone_iff_eq_none] at h
    obtain ⟨⟨rfl, rfl⟩, rfl⟩ := h
    exact ⟨_, _, _, e, rfl, rfl, rfl, Nat.zero_le _, .nil⟩
  · cases h
theorem rs_kt {G : Gx} {m : Ml} {H : Hp} {a : Addr} (h : KTup G.K a []) : Rs G m H [.ktup []] [V.ref a] := Rs.cons (by simp only [R]; exact ⟨a, [], rfl, .inl h, Rs.nil⟩) Rs.nil
theorem rs_ki {G : Gx} {m : Ml} {H : Hp} {i : Int} : Rs G m H [.int i] [V.int i] := Rs.cons (by simp only [R]) Rs.nil
theorem own_kw {P : Program} {w : World} {K : PySem.W.Frag} {mg : Str → Option Value} {base : Heap} {cl : Cln} {k nn : Nat} {x qual : Str} {params : Arguments} {body : List Stmt} {scope : Scope} {kws : List (Str × V)} {f : Addr} {fd : FuncData} {ps : List Str} {mf : FM}
    (F : FunD K x qual params body scope [] kws f fd) (W : FnOk P w K mg base (L2.CX P w) k f fd ps (spM ⟨P, w, K, cl⟩ nn mf)) (hm : mg x = some (.ref f)) (n : Nat) (ks : List Str) (ms : List (Str × V)) (idx : List Nat) (dT : List T) (hk : kws ≠ []) (hms : ∀ q ∈ ms, q ∈ kws)
    (hd : ∀ m H, Rs ⟨P, w, K, cl⟩ m H dT (ms.map (·.2)))
    (h : ∀ (D : Addr) (doc pm : Value) (an : Option Addr) (cdv ct : Value) (us mv ws : List Value), us.length = n → mv.length = ms.length → ws.length = ks.length →
      KwChain D ((ms.map (·.1)).zip mv) (bindArgs (PySem.W.fnOf x qual params body scope .none (.ref D) doc pm an cdv ct) ⟨us, ks.zip ws⟩) (ps.zip (perm idx us mv ws))) :
    OwnK P w K mg base cl k x n nn ks (fun xs zs => perm idx xs dT zs) mf := by
  obtain ⟨mv, kb⟩ := F.kbinds0 n ks ms (perm idx) hk hms perm_vals h
  exact ⟨f, fd, ps, _, _, W, hm, F.kp, kb, fun m H xs zs vs ws h1 h2 _ _ => perm_rs h1 (hd m H) h2⟩
end TX
namespace TW
open PySem PySem.Spec L2 TX
/-! ### what is asked behind a step -/
section
variable {α β : Type} {e a b : Res α} {Q Q' : α → MH → Prop} {X X' : Str → List (Str × T) → MH → Prop} {x : α} {h h1 : MH} {c : Str} {fs : List (Str × T)} {F G : SM} {r r1 : Rho} {D D' : Fr → Prop} {i j l : Nat} {f g v : EM} {t : TM}
/-- two rows, one against one -/
inductive All2 {α β : Type} (R : α → β → Prop) : List α → List β → Prop where
  | nil : All2 R [] []
  | cons {x : α} {y : β} {xs : List α} {ys : List β} (h : R x y) (t : All2 R xs ys) : All2 R (x :: xs) (y :: ys)
theorem All2.len {α β : Type} {R : α → β → Prop} {xs : List α} {ys : List β} (a : All2 R xs ys) : xs.length = ys.length := by
  induction a with
  | nil => rfl
  | cons _ _ ih => simp [ih]
/-- an answer, asked; X: what is asked of a refusal -/
@[irreducible] def We (e : Res α) (Q : α → MH → Prop) (X : Str → List (Str × T) → MH → Prop) : Prop := match e with
  | .ok x h => Q x h
  | .exc c fs h => X c fs h
  | .bad => False
/-- none is raised -/
def NX : Str → List (Str × T) → MH → Prop := fun _ _ _ => False
theorem We.ok (q : Q x h) : We (.ok x h) Q X := by
  unfold We
  exact q
theorem We.exc (q : X c fs h) : We (.exc c fs h) Q X := by
  unfold We
  exact q
theorem We.eq (e : a = b) (w : We b Q X) : We a Q X := by rw [e]; exact w
theorem We.bnd {k : α → MH → Res β} {Q : β → MH → Prop} (w : We e (fun x h1 => We (k x h1) Q X) X) : We (e.bind k) Q X := by
  unfold We at w ⊢
  cases e with
  | ok a h => exact w
  | exc c fs h => exact w
  | bad => exact w
theorem We.get {v : α} (w : We e (fun x h1 => h1 = h ∧ x = v) NX) : e = .ok v h := by
  unfold We at w
  cases e with
  | ok a h => obtain ⟨rfl, rfl⟩ := w; rfl
  | exc c fs h => exact w.elim
  | bad => exact w.elim
theorem We.cut {y : α} (w : We e (fun z h2 => h2 = h1 ∧ z = y) NX) (q : Q y h1) : We e Q X := by
  rw [We.get (h := h1) w]
  exact We.ok q
theorem We.full (e1 : e = .ok x h) (q : Q x h) : We e Q X := by rw [e1]; exact We.ok q
theorem We.at (e1 : e = .ok x h) (q : Q x h) : We e Q X := by rw [e1]; exact We.ok q
theorem We.mono (w : We e Q X) (m : ∀ x h, Q x h → Q' x h) (n : ∀ c fs h, X c fs h → X' c fs h) : We e Q' X' := by
  unfold We at w ⊢
  cases e with
  | ok a h => exact m _ _ w
  | exc c fs h => exact n _ _ _ w
  | bad => exact w
theorem bind_assoc' {γ : Type} {k : α → MH → Res β} {q : β → MH → Res γ} : (e.bind k).bind q = e.bind fun x h => (k x h).bind q := by cases e <;> rfl
/-- behind a statement: the rest, asked -/
@[irreducible] def Sq (G : SM) (D : Fr → Prop) : Fr → Prop
  | .nx r h => D (G r h)
  | o => D o
theorem Wp.sq (w : Wp (F r h) (Sq G D)) : Wp (sSeq F G r h) D := by
  show D (match F r h with
    | .nx r' h' => G r' h'
    | o => o)
  have w : Sq G D (F r h) := w
  unfold Sq at w
  generalize F r h = y at w ⊢
  cases y <;> exact w
theorem Sq.nx (e : r = r1) (w : Wp (G r1 h) D) : Wp (.nx r h) (Sq G D) := by
  subst e
  show Sq G D (.nx r h)
  unfold Sq
  exact w
theorem Sq.ret {x : T} (w : Wp (.ret x h) D) : Wp (.ret x h) (Sq G D) := by
  show Sq G D (.ret x h)
  unfold Sq
  exact w
theorem Sq.ex (w : Wp (.ex c fs r h) D) : Wp (.ex c fs r h) (Sq G D) := by
  show Sq G D (.ex c fs r h)
  unfold Sq
  exact w
theorem Sq.ct (w : Wp (.ct r h) D) : Wp (.ct r h) (Sq G D) := by
  show Sq G D (.ct r h)
  unfold Sq
  exact w
theorem Sq.bk (w : Wp (.bk r h) D) : Wp (.bk r h) (Sq G D) := by
  show Sq G D (.bk r h)
  unfold Sq
  exact w
theorem Wp.lft {k : α → MH → Fr} (w : We e (fun x h1 => Wp (k x h1) D) (fun c fs h1 => Wp (.ex c fs r h1) D)) : Wp (lift e r k) D := by
  unfold We at w
  cases e with
  | ok a h => exact w
  | exc c fs h => exact w
  | bad => exact w.elim
theorem Wp.set_ (w : We (f r h) (fun x h1 => Wp (.nx (r.set i (some x)) h1) D) (fun c fs h1 => Wp (.ex c fs r h1) D)) : Wp (sSet i f r h) D := Wp.lft w
theorem Wp.drop_ (w : We (f r h) (fun _ h1 => Wp (.nx r h1) D) (fun c fs h1 => Wp (.ex c fs r h1) D)) : Wp (sDrop f r h) D := Wp.lft w
theorem Wp.ret_ (w : We (f r h) (fun x h1 => Wp (.ret x h1) D) (fun c fs h1 => Wp (.ex c fs r h1) D)) : Wp (sRet f r h) D := Wp.lft w
theorem Wp.ite_ (w : We (t r h) (fun b h1 => (b = true → Wp (F r h1) D) ∧ (b = false → Wp (G r h1) D)) (fun c fs h1 => Wp (.ex c fs r h1) D)) : Wp (sIf t F G r h) D := by
  refine Wp.lft (We.mono w (fun b h1 z => ?_) fun _ _ _ z => z)
  cases b with
  | true => exact z.1 rfl
  | false => exact z.2 rfl
theorem Wp.asg_ {gm : GM} (w : We (f r h) (fun x h1 => ∃ r1, gm x r = some r1 ∧ Wp (.nx r1 h1) D) (fun c fs h1 => Wp (.ex c fs r h1) D)) : Wp (sAsg gm f r h) D := by
  refine Wp.lft (We.mono w (fun x h1 z => ?_) fun _ _ _ z => z)
  obtain ⟨r1, e, w⟩ := z
  rw [e]
  exact w
theorem Wp.par2_ {a : AM} (w : We (a r h) (fun xs h1 => ∃ x y, xs = [x, y] ∧ Wp (.nx ((r.set i (some x)).set j (some y)) h1) D) (fun c fs h1 => Wp (.ex c fs r h1) D)) : Wp (sPar2 i j a r h) D := by
  refine Wp.lft (We.mono w (fun xs h1 z => ?_) fun _ _ _ z => z)
  obtain ⟨x, y, rfl, w⟩ := z
  exact w
theorem Wp.par3_ {a : AM} (w : We (a r h) (fun xs h1 => ∃ x y z, xs = [x, y, z] ∧ Wp (.nx (((r.set i (some x)).set j (some y)).set l (some z)) h1) D) (fun c fs h1 => Wp (.ex c fs r h1) D)) : Wp (sPar3 i j l a r h) D := by
  refine Wp.lft (We.mono w (fun xs h1 z => ?_) fun _ _ _ z => z)
  obtain ⟨x, y, z, rfl, w⟩ := z
  exact w
theorem Wp.sub_ (w : We (v r h) (fun z h1 => We (f r h1) (fun x h2 => We (g r h2) (fun y h3 => ∃ h4, stT x y z h3 = some h4 ∧ Wp (.nx r h4) D) (fun c fs h1 => Wp (.ex c fs r h1) D)) (fun c fs h1 => Wp (.ex c fs r h1) D)) (fun c fs h1 => Wp (.ex c fs r h1) D)) : Wp (sSub f g v r h) D := by
  refine Wp.lft (We.mono w (fun z h1 w => ?_) fun _ _ _ z => z)
  refine Wp.lft (We.mono w (fun x h2 w => ?_) fun _ _ _ z => z)
  refine Wp.lft (We.mono w (fun y h3 w => ?_) fun _ _ _ z => z)
  obtain ⟨h4, e, w⟩ := w
  simp only [e]
  exact w
theorem Wp.raise_ {flds : List Str} {a : AM} (w : We (a r h) (fun xs h1 => xs.length = flds.length ∧ Wp (.ex c (flds.zip xs).reverse r h1) D) (fun c fs h1 => Wp (.ex c fs r h1) D)) : Wp (sRaise c flds a r h) D := by
  refine Wp.lft (We.mono w (fun xs h1 z => ?_) fun _ _ _ z => z)
  rw [if_pos z.1]
  exact z.2
theorem Wp.fin {f : Fr} (d : D f) : Wp f D := d
theorem Wp.done {x : T} : Wp (.ret x h) (fun fr => ∃ h', fr = .ret x h') := ⟨h, rfl⟩
theorem Wp.doneX : Wp (.ex c fs r h) (fun fr => ∃ r h', fr = .ex c fs r h') := ⟨r, h, rfl⟩
theorem Wp.doneN : Wp (.nx r h) (fun fr => ∃ r h', fr = .nx r h') := ⟨r, h, rfl⟩
theorem Wp.raise0_ {a : AM} (w : We (a r h) (fun xs h1 => xs = [] ∧ Wp (.ex c [] r h1) D) (fun c fs h1 => Wp (.ex c fs r h1) D)) : Wp (sRaise c [] a r h) D :=
  Wp.raise_ (We.mono w (fun xs h1 z => by obtain ⟨rfl, z⟩ := z; exact ⟨rfl, z⟩) fun _ _ _ z => z)
theorem Wp.raise1_ {fl : Str} {a : AM} (w : We (a r h) (fun xs h1 => ∃ x, xs = [x] ∧ Wp (.ex c [(fl, x)] r h1) D) (fun c fs h1 => Wp (.ex c fs r h1) D)) : Wp (sRaise c [fl] a r h) D :=
  Wp.raise_ (We.mono w (fun xs h1 z => by obtain ⟨x, rfl, z⟩ := z; exact ⟨rfl, z⟩) fun _ _ _ z => z)
theorem Wp.raise2_ {fl fm : Str} {a : AM} (w : We (a r h) (fun xs h1 => ∃ x y, xs = [x, y] ∧ Wp (.ex c [(fm, y), (fl, x)] r h1) D) (fun c fs h1 => Wp (.ex c fs r h1) D)) : Wp (sRaise c [fl, fm] a r h) D :=
  Wp.raise_ (We.mono w (fun xs h1 z => by obtain ⟨x, y, rfl, z⟩ := z; exact ⟨rfl, z⟩) fun _ _ _ z => z)
theorem gm_ex {α : Type} {o : Option α} {v : α} {P : α → Prop} (e : o = some v) (w : P v) : ∃ r1, o = some r1 ∧ P r1 := ⟨v, e, w⟩
theorem Wp.nx_ (w : Wp (.nx r h) D) : Wp (sNx r h) D := w
theorem Wp.retN_ (w : Wp (.ret .non h) D) : Wp (sRetN r h) D := w
theorem Wp.ct_ (w : Wp (.ct r h) D) : Wp (sCt r h) D := w
theorem Wp.bk_ (w : Wp (.bk r h) D) : Wp (sBk r h) D := w
theorem Wp.start {n : Nat} {xs : List T} (e : startR n xs = r) (w : Wp (F r h) D) : Wp (F (startR n xs) h) D := by rw [e]; exact w
theorem Wp.eq {u w : Fr} (e : u = w) (k : Wp w D) : Wp u D := by rw [e]; exact k
theorem Wp.frame (e : r = r1) (w : Wp (F r1 h) D) : Wp (F r h) D := by rw [e]; exact w
end
section
variable {α : Type} {r : Rho} {h h1 : MH} {enc : α → T} {it : IM} {gm : GM} {tt : TM} {te : EM} {vs : List Nat} {kk : List T → MH → Res T} {xs : List α} {p : α → Bool} {f : α → T} {up : α → Rho → Rho} {src : Src} {Q : T → MH → Prop} {X : Str → List (Str × T) → MH → Prop}
/-- a comprehension that writes no cell -/
theorem lc_eq (e : it r h = .ok (xs.map enc, src) h) (hs : chk src h = true) (hg : ∀ x r, gm (enc x) r = some (up x r)) (ht : ∀ x ∈ xs, We (tt (up x (wipeR r vs)) h) (fun b h1 => h1 = h ∧ b = p x) NX) (he : ∀ x ∈ xs, p x = true → We (te (up x (wipeR r vs)) h) (fun v h1 => h1 = h ∧ v = f x) NX) :
    lcM kk it gm tt te vs r h = kk ((xs.filter p).map f) h := by
  have one : ∀ zs : List α, (∀ x ∈ zs, x ∈ xs) → lcS src (xs.map enc) gm tt te (wipeR r vs) (zs.map enc) h = .ok ((zs.filter p).map f) h := by
    intro zs
    induction zs with
    | nil =>
      intro _
      show (if chk src h = true then Res.ok [] h else .bad) = _
      rw [if_pos hs]
      rfl
    | cons z zs ih =>
      intro sub
      have zi := sub z List.mem_cons_self
      have rest := ih fun x hx => sub x (List.mem_cons_of_mem _ hx)
      rw [List.map_cons]
      unfold lcS
      rw [if_pos hs, hg z]
      show (calm (tt (up z (wipeR r vs)) h)).bind _ = _
      rw [(ht z zi).get]
      show (if p z = true then _ else _) = _
      cases q : p z with
      | true =>
        rw [if_pos rfl, (he z zi q).get, List.filter_cons_of_pos q, List.map_cons]
        show (lcS src (xs.map enc) gm tt te (wipeR r vs) (zs.map enc) h).bind _ = _
        rw [rest]
        rfl
      | false =>
        rw [if_neg Bool.false_ne_true, List.filter_cons_of_neg (by rw [q]; exact Bool.false_ne_true)]
        exact rest
  rw [s_lcM, e, s_bindok, one xs fun _ z => z]
  rfl
theorem We.lcG (up : α → Rho → Rho) (p : α → Bool) (f : α → T) (e : it r h = .ok (xs.map enc, src) h) (hs : chk src h = true) (hg : ∀ x r, gm (enc x) r = some (up x r)) (ht : ∀ x ∈ xs, We (tt (up x (wipeR r vs)) h) (fun b h1 => h1 = h ∧ b = p x) NX) (he : ∀ x ∈ xs, p x = true → We (te (up x (wipeR r vs)) h) (fun v h1 => h1 = h ∧ v = f x) NX) (w : We (kk ((xs.filter p).map f) h) Q X) :
    We (lcM kk it gm tt te vs r h) Q X := We.eq (lc_eq e hs hg ht he) w
theorem We.lc (k : Nat) (p : α → Bool) (f : α → T) (e : it r h = .ok (xs.map enc, none) h) (ht : ∀ x ∈ xs, We (tt ((wipeR r vs).set k (some (enc x))) h) (fun b h1 => h1 = h ∧ b = p x) NX) (he : ∀ x ∈ xs, p x = true → We (te ((wipeR r vs).set k (some (enc x))) h) (fun v h1 => h1 = h ∧ v = f x) NX) (w : We (kk ((xs.filter p).map f) h) Q X) :
    We (lcM kk it (gmN k) tt te vs r h) Q X := We.lcG (fun x r => r.set k (some (enc x))) p f e rfl (fun _ _ => rfl) ht he w
theorem We.lcY (k : Nat) (f : α → T) (e : it r h = .ok (xs.map enc, none) h) (he : ∀ x ∈ xs, We (te ((wipeR r vs).set k (some (enc x))) h) (fun v h1 => h1 = h ∧ v = f x) NX) (w : We (kk (xs.map f) h) Q X) :
    We (lcM kk it (gmN k) tYes te vs r h) Q X := by
  refine We.lc k (fun _ => true) f e (fun _ _ => We.at rfl ⟨rfl, rfl⟩) (fun x hx _ => he x hx) ?_
  rw [List.filter_eq_self.mpr fun _ _ => rfl]
  exact w
theorem We.lcV (k : Nat) (p : α → Bool) (f : α → T) (v : T) (e : it r h = .ok (xs.map enc, none) h) (ht : ∀ x ∈ xs, We (tt ((wipeR r vs).set k (some (enc x))) h) (fun b h1 => h1 = h ∧ b = p x) NX) (he : ∀ x ∈ xs, p x = true → We (te ((wipeR r vs).set k (some (enc x))) h) (fun v h1 => h1 = h ∧ v = f x) NX) (hl : xs.length ≤ 100000) (ev : T.lst ((xs.filter p).map f) = v) (q : Q v h) :
    We (lcM TW.lstK it (gmN k) tt te vs r h) Q X := We.lc k p f e ht he (We.at (w_lstK (by rw [List.length_map]; exact Nat.le_trans (List.length_filter_le _ _) (Nat.le_trans hl (by decide)))) (by rw [ev]; exact q))
theorem We.lcW (k : Nat) (f : α → T) (v : T) (e : it r h = .ok (xs.map enc, none) h) (he : ∀ x ∈ xs, We (te ((wipeR r vs).set k (some (enc x))) h) (fun v h1 => h1 = h ∧ v = f x) NX) (hl : xs.length ≤ 100000) (ev : T.lst (xs.map f) = v) (q : Q v h) :
    We (lcM TW.lstK it (gmN k) tYes te vs r h) Q X := We.lcY k f e he (We.at (w_lstK (by rw [List.length_map]; exact (Nat.le_trans hl (by decide)))) (by rw [ev]; exact q))
theorem lcS_inv {xs' : List T} {r0 : Rho} {h : MH} (k : Nat) (J : MH → Prop) (p : α → Bool) (f : α → T) : ∀ (zs : List α) (h : MH), (∀ x ∈ zs, ∀ h, J h → We (tt (r0.set k (some (enc x))) h) (fun b h1 => J h1 ∧ b = p x) NX) → (∀ x ∈ zs, p x = true → ∀ h, J h → We (te (r0.set k (some (enc x))) h) (fun v h1 => J h1 ∧ v = f x) NX) → J h → ∃ h1, lcS none xs' (gmN k) tt te r0 (zs.map enc) h = .ok ((zs.filter p).map f) h1 ∧ J h1
  | [], h, _, _, j => ⟨h, rfl, j⟩
  | z :: zs, h, ht, he, j => by
    have one : ∀ {β : Type} {e : Res β} {Q : β → MH → Prop}, We e Q NX → ∃ v h1, e = .ok v h1 ∧ Q v h1 := fun {β e Q} w => by
      unfold We at w
      cases e with
      | ok v h1 => exact ⟨v, h1, rfl, w⟩
      | exc c fs h1 => exact w.elim
      | bad => exact w.elim
    obtain ⟨b, h1, e1, j1, rfl⟩ := one (ht z List.mem_cons_self h j)
    have ih := fun h (j : J h) => lcS_inv (xs' := xs') (h := h) k J p f zs h (fun x hx => ht x (List.mem_cons_of_mem _ hx)) (fun x hx => he x (List.mem_cons_of_mem _ hx)) j
    rw [List.map_cons]
    unfold lcS
    rw [if_pos (chk_none h)]
    show ∃ h2, ((calm (tt (r0.set k (some (enc z))) h)).bind _) = _ ∧ _
    rw [e1]
    show ∃ h2, (if p z = true then (calm (te (r0.set k (some (enc z))) h1)).bind _ else _) = _ ∧ _
    cases q : p z with
    | true =>
      obtain ⟨v, h2, e2, j2, rfl⟩ := one (he z List.mem_cons_self q h1 j1)
      obtain ⟨h3, e3, j3⟩ := ih h2 j2
      refine ⟨h3, ?_, j3⟩
      rw [if_pos rfl, e2, List.filter_cons_of_pos q, List.map_cons]
      show (lcS none xs' (gmN k) tt te r0 (zs.map enc) h2).bind _ = _
      rw [e3]
      rfl
    | false =>
      obtain ⟨h3, e3, j3⟩ := ih h1 j1
      refine ⟨h3, ?_, j3⟩
      rw [if_neg Bool.false_ne_true, List.filter_cons_of_neg (by rw [q]; exact Bool.false_ne_true)]
      exact e3
/-- a comprehension that keeps J -/
theorem We.lcJ (k : Nat) (J : MH → Prop) (p : α → Bool) (f : α → T) (e : it r h = .ok (xs.map enc, none) h1) (j : J h1) (ht : ∀ x ∈ xs, ∀ h, J h → We (tt ((wipeR r vs).set k (some (enc x))) h) (fun b h1 => J h1 ∧ b = p x) NX) (he : ∀ x ∈ xs, p x = true → ∀ h, J h → We (te ((wipeR r vs).set k (some (enc x))) h) (fun v h1 => J h1 ∧ v = f x) NX) (w : ∀ h2, J h2 → We (kk ((xs.filter p).map f) h2) Q X) :
    We (lcM kk it (gmN k) tt te vs r h) Q X := by
  obtain ⟨h2, e2, j2⟩ := lcS_inv (xs' := xs.map enc) (h := h1) k J p f xs h1 ht he j
  refine We.eq (b := kk ((xs.filter p).map f) h2) ?_ (w h2 j2)
  rw [s_lcM, e, s_bindok]
  show (lcS none (xs.map enc) (gmN k) tt te (wipeR r vs) (xs.map enc) h1).bind kk = _
  rw [e2]
  rfl
theorem We.lstK {zs : List T} (hl : zs.length ≤ 100000) (q : Q (.lst zs) h) : We (lstK zs h) Q X := We.at (w_lstK (Nat.le_trans hl (by decide))) q
theorem We.lstL {zs : List T} (hl : zs.length ≤ 100000) (q : Q (.loc h.length) (h ++ [.lst zs])) : We (lstL zs h) Q X := We.at (w_lstL (Nat.le_trans hl (by decide))) q
end
theorem Wp.forA {α : Type} {r : Rho} {enc : α → T} {it : IM} {B : SM} {k : Nat} {xs : List α} {D : Fr → Prop} (S : List Nat) (hp : List T → MH) (f : α → List T) (e : it r (hp []) = .ok (xs.map enc, none) (hp [])) (hN : (xs.flatMap f).length ≤ 100000)
    (hB : ∀ a ∈ xs, ∀ y acc, acc.length ≤ 100000 → Wp (B ((setS r S y).set k (some (enc a))) (hp acc)) (fun fr => ∃ y', fr = .nx (setS r S y') (hp (acc ++ f a)))) (hE : ∀ y, Wp (.nx (setS r S y) (hp (xs.flatMap f))) D) : Wp (sFor it (gmN k) B r (hp [])) D := by
  refine sFor_last (Wp.for_ S (fun pre _ h => h = hp (pre.flatMap f)) e rfl ?_ ?_)
  · rintro pre a post y h ex rfl
    have hl : (pre.flatMap f).length ≤ 100000 := by
      refine Nat.le_trans ?_ hN
      rw [ex, List.flatMap_append, List.length_append]
      exact Nat.le_add_right _ _
    obtain ⟨y', e'⟩ := hB a (by rw [ex]; simp) y _ hl
    exact .inl ⟨y', _, e', by rw [List.flatMap_append]; simp⟩
  · rintro y h rfl
    exact hE y
theorem Wp.forF_ {α β : Type} {r : Rho} {h h1 : MH} {enc : α → T} {it : IM} {B : SM} {k : Nat} {xs : List α} {D : Fr → Prop} (S : List Nat) (g : α → Option β) (ret : β → T) (e : it r h = .ok (xs.map enc, none) h1)
    (hB : ∀ a ∈ xs, ∀ y, Wp (B ((setS r S y).set k (some (enc a))) h1) (fun fr => (g a = none ∧ ∃ y', fr = .nx (setS r S y') h1) ∨ ∃ b, g a = some b ∧ fr = .ret (ret b) h1))
    (hE : xs.findSome? g = none → ∀ y, Wp (.nx (setS r S y) h1) D) (hR : ∀ b, xs.findSome? g = some b → Wp (.ret (ret b) h1) D) : Wp (sFor it (gmN k) B r h) D :=
  sFor_last (forF S g ret e hB hE hR)
theorem Wp.whI {r : Rho} {h : MH} {t : TM} {B : SM} {fuel : Nat} {D : Fr → Prop} (S : List Nat) (I : Nat → (Nat → Option T) → MH → Prop) (k : Nat) (hk : k < fuel) (hI : I k (fun i => r.getD i none) h)
    (hB : ∀ k y h, I k y h → (∃ h1, t (setS r S y) h = .ok false h1 ∧ Wp (.nx (setS r S y) h1) D) ∨ ∃ h1, t (setS r S y) h = .ok true h1 ∧ Wp (B (setS r S y) h1) (fun fr => (∃ y' h' j, fr = .nx (setS r S y') h' ∧ j < k ∧ I j y' h') ∨ ∃ x h', fr = .ret x h' ∧ D (.ret x h'))) : Wp (whS t B fuel r h) D := by
  have q := whS_inv (r0 := r) (t := t) (B := B) S I D hB fuel k (fun i => r.getD i none) h hk hI
  rw [setS_own] at q
  exact q
/-- a def on the empty heap that gives a dict cell of its own -/
theorem pur_wpT {n : Nat} {b : SM} {xs : List T} {P : List (List Key × T) → Prop} (hl : lows 0 xs = true) (e : Wp (b (startR n xs) []) (fun fr => ∃ k kvs h', fr = .ret (.loc k) h' ∧ h'[k]? = some (.dT kvs) ∧ lows 0 (kvs.map (·.2)) = true ∧ P kvs)) : ∃ kvs, P kvs ∧ ∀ h, pur (reg (fnB n b)) xs h = .ok (.dT (kvs.map (·.1)) (kvs.map (·.2))) h := by
  obtain ⟨k, kvs, h', e, ek, lv, p⟩ := e
  refine ⟨kvs, p, fun h => ?_⟩
  rw [pur_nil _ _ _ hl]
  unfold reg fnB
  rw [e]
  have q : frz h' 0 (.loc k) = some (.dT (kvs.map (·.1)) (kvs.map (·.2))) := by
    show frL h' 0 5 k = _
    unfold frL
    rw [if_neg (Nat.not_lt_zero k), ek]
    simp only []
    rw [frWs_low _ _ lv]
    rfl
  show onH (match frz h' 0 (.loc k) with
    | some y => if okH [] h' = true then Res.ok y (h'.take 0) else .bad
    | none => .bad) h = _
  rw [q]
  rfl
/-- a loop that appends what passes -/
theorem Wp.forP {α : Type} {r : Rho} {enc : α → T} {it : IM} {B : SM} {k : Nat} {xs : List α} {D : Fr → Prop} (S : List Nat) (hp : List T → MH) (p : α → Bool) (v : α → T) (e : it r (hp []) = .ok (xs.map enc, none) (hp [])) (hN : xs.length ≤ 100000)
    (hB : ∀ a ∈ xs, ∀ y acc, acc.length ≤ 100000 → Wp (B ((setS r S y).set k (some (enc a))) (hp acc)) (fun fr => ∃ y', fr = .nx (setS r S y') (hp (if p a = true then acc ++ [v a] else acc)))) (hE : ∀ y, Wp (.nx (setS r S y) (hp ((xs.filter p).map v))) D) : Wp (sFor it (gmN k) B r (hp [])) D := by
  have e1 : ∀ ys : List α, ys.flatMap (fun a => if p a = true then [v a] else []) = (ys.filter p).map v := fun ys => by
    induction ys with
    | nil => rfl
    | cons a ys ih =>
      rw [List.flatMap_cons, ih, List.filter_cons]
      split <;> rfl
  refine Wp.forA S hp (fun a => if p a = true then [v a] else []) e (by rw [e1 xs, List.length_map]; exact Nat.le_trans (List.length_filter_le _ _) hN) (fun a ha y acc hl => ?_) fun y => ?_
  · have := hB a ha y acc hl
    by_cases q : p a = true
    · rw [if_pos q] at this ⊢
      exact this
    · rw [if_neg q] at this ⊢
      rw [List.append_nil]
      exact this
  · rw [e1 xs]
    exact hE y
theorem Wp.trn {r r' : Rho} {h h1 : MH} {S : List Nat} (hr : r' = setS r S (fun i => r'.getD i none)) (hh : h = h1) : Wp (.nx r' h) (fun fr => ∃ y', fr = .nx (setS r S y') h1) := by
  subst hh
  exact turnK hr
/-- a loop that appends one value a turn -/
theorem Wp.for1 {α : Type} {r : Rho} {enc : α → T} {it : IM} {B : SM} {k : Nat} {xs : List α} {D : Fr → Prop} (S : List Nat) (hp : List T → MH) (f : α → T) (e : it r (hp []) = .ok (xs.map enc, none) (hp [])) (hN : xs.length ≤ 100000)
    (hB : ∀ a ∈ xs, ∀ y acc, acc.length ≤ 100000 → Wp (B ((setS r S y).set k (some (enc a))) (hp acc)) (fun fr => ∃ y', fr = .nx (setS r S y') (hp (acc ++ [f a])))) (hE : ∀ y, Wp (.nx (setS r S y) (hp (xs.map f))) D) : Wp (sFor it (gmN k) B r (hp [])) D := by
  have e1 : ∀ ys : List α, ys.flatMap (fun a => [f a]) = ys.map f := fun ys => by
    induction ys with
    | nil => rfl
    | cons a ys ih => simp [ih]
  refine Wp.forA S hp (fun a => [f a]) e (by rw [e1 xs, List.length_map]; exact hN) hB fun y => ?_
  rw [e1 xs]
  exact hE y
/-- a loop of which no turn ends anything -/
theorem Wp.forN {α : Type} {r : Rho} {h h1 : MH} {enc : α → T} {it : IM} {B : SM} {k : Nat} {xs : List α} {D : Fr → Prop} (S : List Nat) (e : it r h = .ok (xs.map enc, none) h1)
    (hB : ∀ a ∈ xs, ∀ y, Wp (B ((setS r S y).set k (some (enc a))) h1) (fun fr => ∃ y', fr = .nx (setS r S y') h1)) (hE : ∀ y, Wp (.nx (setS r S y) h1) D) : Wp (sFor it (gmN k) B r h) D :=
  sFor_last (Wp.forK S e hB hE)
/-- a loop with an invariant -/
theorem Wp.forI {α : Type} {r : Rho} {h h1 : MH} {enc : α → T} {it : IM} {gm : GM} {B : SM} {xs : List α} {D : Fr → Prop} (S : List Nat) (I : List α → (Nat → Option T) → MH → Prop) (up : α → Rho → Rho) (e : it r h = .ok (xs.map enc, none) h1)
    (hgm : ∀ a r, gm (enc a) r = some (up a r)) (hI : I [] (fun i => r.getD i none) h1)
    (hB : ∀ pre a post y h, xs = pre ++ a :: post → I pre y h → Wp (B (up a (setS r S y)) h) (fun fr => (∃ y' h', fr = .nx (setS r S y') h' ∧ I (pre ++ [a]) y' h') ∨ ∃ x h', fr = .ret x h' ∧ D (.ret x h')))
    (hE : ∀ y h, I xs y h → Wp (.nx (setS r S y) h) D) : Wp (sFor it gm B r h) D :=
  sFor_last (Wp.forG S I up e hgm hI hB hE)
/-- a def that raises -/
theorem pur_wpX {n : Nat} {b : SM} {xs : List T} {h : MH} {c : Str} {fs : List (Str × T)} (hl : lows 0 xs = true) (hf : lows 0 (fs.map (·.2)) = true) (e : Wp (b (startR n xs) []) (fun fr => ∃ r h', fr = .ex c fs r h')) : pur (reg (fnB n b)) xs h = .exc c fs h := by
  have zip_un : ∀ l : List (Str × T), (l.map (·.1)).zip (l.map (·.2)) = l := fun l => by
    induction l with
    | nil => rfl
    | cons a l ih => simp [ih]
  obtain ⟨r, h', e⟩ := e
  rw [pur_nil _ _ _ hl]
  unfold reg fnB
  rw [e]
  show onH (match frWs (frL h' 0 frD) (fs.map (·.2)) with
    | some ys => if okH [] h' = true then Res.exc c ((fs.map (·.1)).zip ys) (List.take 0 h') else .bad
    | none => .bad) h = _
  rw [frWs_low _ _ hf]
  show Res.exc c ((fs.map (·.1)).zip (fs.map (·.2))) h = _
  rw [zip_un]
/-- a method of the object that was told -/
def methK (ms : List (Str × FM)) (mn : Str) (n : Nat) (g : AM) (r : Rho) (x : T) (h1 : MH) : Res T := match obOf h1 x with
  | some (c, fs) => if TW.lk mn fs = none then (match TW.lk c ms with
    | some F => (g r h1).bind fun xs h2 => if xs.length = n then F (x :: xs) h2 else .bad
    | none => .bad) else .bad
  | none => .bad
theorem q_emMeth {ms : List (Str × FM)} {mn : Str} {n : Nat} {f : EM} {g : AM} {r : Rho} {h : MH} : emMeth ms mn n f g r h = (f r h).bind (methK ms mn n g r) := id rfl
def pSoK (x : T) (h1 : MH) : Res (Option Int) := match x with
  | .int i => .ok (some i) h1
  | _ => .bad
theorem q_pSo' {f : EM} {r : Rho} {h : MH} : pSo f r h = (f r h).bind pSoK := id rfl
theorem q_pSoK {i : Int} {h : MH} : pSoK (.int i) h = .ok (some i) h := id rfl
theorem q_emTix {f : EM} {fa : AM} {r : Rho} {h : MH} : emTix f fa r h = (f r h).bind fun x h1 => if isKt x = true then (fa r h1).bind fun xs h2 => tixT x xs h2 else .bad := id rfl
theorem q_isKt {xs : List T} : isKt (.ktup xs) = true := id rfl
theorem q_emKt {g : AM} {r : Rho} {h : MH} : emKt g r h = (g r h).bind kupK := id rfl
/-! ### what is told of a call that raises, that does not -/
theorem low_at {r : Rho} {i : Nat} {x : T} {h : MH} (e : r[i]? = some (some x)) (l : low 0 x = true) : vr i (lowR r) h = .ok x h := s_vr (by
  unfold lowR
  rw [List.getElem?_map, e]
  show some (if low 0 x = true then some x else none) = _
  rw [if_pos l])
theorem act_ex {A : MH → Res T} {c : Str} {fs : List (Str × T)} {l : Rho} (e : A [] = .exc c fs []) (hc : c ≠ callK) (hz : noCs callK (fs.map Prod.snd) = true) : actM A (some (.cls callK) :: l) [] = .exc c fs [] := by
  show (if callK = callK then (match A [] with
      | .ok y [] => if noC callK y = true then Res.ok y [] else .bad
      | .exc d fs [] => if d ≠ callK ∧ noCs callK (List.map Prod.snd fs) = true then Res.exc d fs [] else .bad
      | _ => .bad) else .bad) = _
  rw [if_pos rfl, e]
  show (if c ≠ callK ∧ noCs callK (fs.map Prod.snd) = true then Res.exc c fs [] else .bad) = _
  rw [if_pos ⟨hc, hz⟩]
theorem act_ok {A : MH → Res T} {y : T} {l : Rho} (e : A [] = .ok y []) (hz : noC callK y = true) : actM A (some (.cls callK) :: l) [] = .ok y [] := by
  show (if callK = callK then (match A [] with
      | .ok y [] => if noC callK y = true then Res.ok y [] else .bad
      | .exc d fs [] => if d ≠ callK ∧ noCs callK (List.map Prod.snd fs) = true then Res.exc d fs [] else .bad
      | _ => .bad) else .bad) = _
  rw [if_pos rfl, e]
  show (if noC callK y = true then Res.ok y [] else .bad) = _
  rw [if_pos hz]
theorem told_ret {N : Nat} {B : EM → SM} {te : EM} {r : Rho} {h : MH} {v : T} (w : B (actM (te (lowR r))) (startR N [T.cls callK]) [] = .ret v []) (hv : noC callK v = true) : emTold N B te r h = .ok v h := by
  unfold emTold
  rw [w]
  show onH (if noC callK v = true then Res.ok v [] else .bad) h = _
  rw [if_pos hv]
  rfl
theorem told_exc {N : Nat} {B : EM → SM} {te : EM} {r : Rho} {h : MH} {v : T} {c : Str} {fs : List (Str × T)} (e : te (lowR r) [] = .exc c fs []) (hc : c ≠ callK) (hz : noCs callK (fs.map Prod.snd) = true) (w : ∀ A : EM, (∀ l, A (some (.cls callK) :: l) [] = .exc c fs []) → B A (startR N [T.cls callK]) [] = .ret v []) (hv : noC callK v = true) : emTold N B te r h = .ok v h :=
  told_ret (w _ fun _ => act_ex e hc hz) hv
theorem told_non {N : Nat} {B : EM → SM} {te : EM} {r : Rho} {h : MH} {v y : T} (e : te (lowR r) [] = .ok y []) (hz : noC callK y = true) (w : ∀ A : EM, (∀ l, A (some (.cls callK) :: l) [] = .ok y []) → B A (startR N [T.cls callK]) [] = .ret v []) (hv : noC callK v = true) : emTold N B te r h = .ok v h :=
  told_ret (w _ fun _ => act_ok e hz) hv
section
variable {h : MH} {x1 x2 x3 x4 x5 x6 : T} {F : FM}
theorem q_emOp : type_of% @s_emOp := id s_emOp
theorem q_emCh : type_of% @s_emCh := id s_emCh
theorem q_em1 : type_of% @s_em1 := id s_em1
theorem q_emCall : type_of% @s_emCall := id s_emCall
theorem q_an : type_of% @s_an := id s_an
theorem q_ac : type_of% @s_ac := id s_ac
theorem q_cst : type_of% @s_cst := id s_cst
theorem q_vr0 : type_of% @s_vr0 := id s_vr0
theorem q_vrS : type_of% @s_vrS := id s_vrS
theorem q_emT : type_of% @s_emT := id s_emT
theorem q_emL : type_of% @s_emL := id s_emL
theorem q_tmOf : type_of% @s_tmOf := id s_tmOf
theorem q_isBl : type_of% @s_isBl := id s_isBl
theorem q_tAn : type_of% @s_tAn := id s_tAn
theorem q_tOrr : type_of% @s_tOrr := id s_tOrr
theorem q_tNo : type_of% @s_tNo := id s_tNo
theorem q_tYes : type_of% @s_tYes := id s_tYes
theorem q_eAn : type_of% @s_eAn := id s_eAn
theorem q_eOr : type_of% @s_eOr := id s_eOr
theorem q_eNo : type_of% @s_eNo := id s_eNo
theorem q_eIf : type_of% @s_eIf := id s_eIf
theorem q_itE : type_of% @s_itE := id s_itE
theorem q_itOf_lst : type_of% @s_itOf_lst := id s_itOf_lst
theorem q_itOf_tup : type_of% @s_itOf_tup := id s_itOf_tup
theorem q_itOf_klst : type_of% @s_itOf_klst := id s_itOf_klst
theorem q_bindok : type_of% @s_bindok := id s_bindok
theorem q_onH : type_of% @s_onH := id s_onH
theorem q_lt : type_of% @s_lt := id s_lt
theorem q_le : type_of% @s_le := id s_le
theorem q_gt : type_of% @s_gt := id s_gt
theorem q_ge : type_of% @s_ge := id s_ge
theorem q_ng : type_of% @s_ng := id s_ng
theorem q_sub : type_of% @s_sub := id s_sub
theorem q_ad_int : type_of% @w_ad_int := id w_ad_int
theorem q_in_tp : type_of% @W_in_tp := id W_in_tp
theorem q_in_ls : type_of% @W_in_ls := id W_in_ls
theorem q_in_tts : type_of% @W_in_tts := id W_in_tts
theorem q_in_lts : type_of% @W_in_lts := id W_in_lts
theorem q_eq_int : type_of% @W_eq_int := id W_eq_int
theorem q_ne_int : type_of% @W_ne_int := id W_ne_int
theorem q_eq_tp : type_of% @W_eq_tp := id W_eq_tp
theorem q_ne_tp : type_of% @W_ne_tp := id W_ne_tp
theorem q_eq_tts : type_of% @W_eq_tts := id W_eq_tts
theorem q_ne_tts : type_of% @W_ne_tts := id W_ne_tts
theorem q_eq_lts : type_of% @W_eq_lts := id W_eq_lts
theorem q_ne_lts : type_of% @W_ne_lts := id W_ne_lts
theorem q_eq_ls0 : type_of% @W_eq_ls0 := id W_eq_ls0
theorem q_ne_ls0 : type_of% @W_ne_ls0 := id W_ne_ls0
theorem q_eq_lts0 : type_of% @W_eq_lts0 := id W_eq_lts0
theorem q_ne_lts0 : type_of% @W_ne_lts0 := id W_ne_lts0
theorem q_eq_tp0 : type_of% @W_eq_tp0 := id W_eq_tp0
theorem q_ne_tp0 : type_of% @W_ne_tp0 := id W_ne_tp0
theorem q_eq_tts0 : type_of% @W_eq_tts0 := id W_eq_tts0
theorem q_ne_tts0 : type_of% @W_ne_tts0 := id W_ne_tts0
theorem q_ne_bl : type_of% @W_ne_bl := id W_ne_bl
theorem q_eq_bl : type_of% @W_eq_bl := id W_eq_bl
theorem q_lst0 : type_of% @W_lst0 := id W_lst0
theorem q_tup0 : type_of% @W_tup0 := id W_tup0
theorem q_lst1 : type_of% @W_lst1 := id W_lst1
theorem q_lst2 : type_of% @W_lst2 := id W_lst2
theorem q_lst3 : type_of% @W_lst3 := id W_lst3
theorem q_tup1 : type_of% @W_tup1 := id W_tup1
theorem q_tup2 : type_of% @W_tup2 := id W_tup2
theorem q_tup3 : type_of% @W_tup3 := id W_tup3
theorem q_tup4 : type_of% @W_tup4 := id W_tup4
theorem q_tupF_lst : type_of% @W_tupF_lst := id W_tupF_lst
theorem q_ix0 : type_of% @W_ix0 := id W_ix0
theorem q_ix1 : type_of% @W_ix1 := id W_ix1
theorem q_ix2 : type_of% @W_ix2 := id W_ix2
theorem q_jx0 : type_of% @W_jx0 := id W_jx0
theorem q_jx1 : type_of% @W_jx1 := id W_jx1
theorem q_jx2 : type_of% @W_jx2 := id W_jx2
theorem q_tupF_ls : type_of% @W_tupF_ls := id W_tupF_ls
theorem q_tupF_lts : type_of% @W_tupF_lts := id W_tupF_lts
theorem q_itOf_ls : type_of% @W_itOf_ls := id W_itOf_ls
theorem q_itOf_tp : type_of% @W_itOf_tp := id W_itOf_tp
theorem q_itOf_lts : type_of% @W_itOf_lts := id W_itOf_lts
theorem q_itOf_tts : type_of% @W_itOf_tts := id W_itOf_tts
theorem q_itOf_lls : type_of% @W_itOf_lls := id W_itOf_lls
theorem q_emCallK : type_of% @s_emCallK := id s_emCallK
theorem q_isbl : type_of% @s_isbl := id s_isbl
theorem q_isnon : type_of% @s_isnon := id s_isnon
theorem q_emSl : type_of% @s_emSl := id s_emSl
theorem q_pNo : type_of% @s_pNo := id s_pNo
theorem q_emBm : type_of% @s_emBm := id s_emBm
theorem q_len_tp : type_of% @W_len_tp := id W_len_tp
theorem q_len_ls : type_of% @W_len_ls := id W_len_ls
theorem q_len_lst : type_of% @W_len_lst := id W_len_lst
theorem q_len_tup : type_of% @W_len_tup := id W_len_tup
theorem q_emL2 : type_of% @s_emL2 := id s_emL2
theorem q_ls0 : type_of% @t_ls0 := id t_ls0
theorem q_ls1 : type_of% @t_ls1 := id t_ls1
theorem q_ls2 : type_of% @t_ls2 := id t_ls2
theorem q_ls3 : type_of% @t_ls3 := id t_ls3
theorem q_ls4 : type_of% @t_ls4 := id t_ls4
theorem q_pF_loc0 : type_of% @tupF_loc0 := id tupF_loc0
theorem q__loc0 : type_of% @it_loc0 := id it_loc0
theorem q_istup : type_of% @s_istup := id s_istup
theorem q_dnV {r : Rho} : dnV r h = .ok (.dK [] []) h := id rfl
theorem q_arg0 : arg 0 F [] h = F [] h := id rfl
theorem q_arg1 : arg 1 F [x1] h = F [x1] h := id rfl
theorem q_arg2 : arg 2 F [x1, x2] h = F [x1, x2] h := id rfl
theorem q_arg3 : arg 3 F [x1, x2, x3] h = F [x1, x2, x3] h := id rfl
theorem q_arg4 : arg 4 F [x1, x2, x3, x4] h = F [x1, x2, x3, x4] h := id rfl
theorem q_arg5 : arg 5 F [x1, x2, x3, x4, x5] h = F [x1, x2, x3, x4, x5] h := id rfl
theorem q_arg6 : arg 6 F [x1, x2, x3, x4, x5, x6] h = F [x1, x2, x3, x4, x5, x6] h := id rfl
theorem q_wipe0 {r : Rho} : wipeR r [] = r := id rfl
theorem q_wipe1 {r : Rho} {i : Nat} : wipeR r [i] = r.set i none := id rfl
theorem q_wipe2 {r : Rho} {i j : Nat} : wipeR r [i, j] = (r.set j none).set i none := id rfl
theorem q_wipe3 {r : Rho} {i j k : Nat} : wipeR r [i, j, k] = ((r.set k none).set j none).set i none := id rfl
theorem q_int {i : Int} : intF [.int i] h = .ok (.int i) h := id rfl
theorem q_tupF_tup {xs : List T} : tupF [.tup xs] h = .ok (.tup xs) h := id rfl
theorem q_tupF_tp {s : List Int} : tupF [tp s] h = .ok (tp s) h := id rfl
theorem q_istupp {neg : Bool} {s : List Int} : isNT neg (tp s) .non h = .ok (.bl neg) h := id rfl
theorem q_istts {neg : Bool} {s : List (List Int)} : isNT neg (tts s) .non h = .ok (.bl neg) h := id rfl
theorem q_isint {neg : Bool} {i : Int} : isNT neg (.int i) .non h = .ok (.bl neg) h := id rfl
theorem q_bindexc {α β : Type} {c : Str} {fs : List (Str × T)} {k : α → MH → Res β} : (Res.exc c fs h : Res α).bind k = .exc c fs h := id rfl
theorem q_lst4 {a0 a1 a2 a3 : T} : lstK [a0, a1, a2, a3] h = .ok (.lst [a0, a1, a2, a3]) h := id rfl
theorem q_lst5 {a0 a1 a2 a3 a4 : T} : lstK [a0, a1, a2, a3, a4] h = .ok (.lst [a0, a1, a2, a3, a4]) h := id rfl
theorem q_tup5 {a0 a1 a2 a3 a4 : T} : tupK [a0, a1, a2, a3, a4] h = .ok (.tup [a0, a1, a2, a3, a4]) h := id rfl
theorem q_lst6 {a0 a1 a2 a3 a4 a5 : T} : lstK [a0, a1, a2, a3, a4, a5] h = .ok (.lst [a0, a1, a2, a3, a4, a5]) h := id rfl
theorem q_tup6 {a0 a1 a2 a3 a4 a5 : T} : tupK [a0, a1, a2, a3, a4, a5] h = .ok (.tup [a0, a1, a2, a3, a4, a5]) h := id rfl
theorem q_lst7 {a0 a1 a2 a3 a4 a5 a6 : T} : lstK [a0, a1, a2, a3, a4, a5, a6] h = .ok (.lst [a0, a1, a2, a3, a4, a5, a6]) h := id rfl
theorem q_tup7 {a0 a1 a2 a3 a4 a5 a6 : T} : tupK [a0, a1, a2, a3, a4, a5, a6] h = .ok (.tup [a0, a1, a2, a3, a4, a5, a6]) h := id rfl
theorem q_lst8 {a0 a1 a2 a3 a4 a5 a6 a7 : T} : lstK [a0, a1, a2, a3, a4, a5, a6, a7] h = .ok (.lst [a0, a1, a2, a3, a4, a5, a6, a7]) h := id rfl
theorem q_tup8 {a0 a1 a2 a3 a4 a5 a6 a7 : T} : tupK [a0, a1, a2, a3, a4, a5, a6, a7] h = .ok (.tup [a0, a1, a2, a3, a4, a5, a6, a7]) h := id rfl
theorem q_lst9 {a0 a1 a2 a3 a4 a5 a6 a7 a8 : T} : lstK [a0, a1, a2, a3, a4, a5, a6, a7, a8] h = .ok (.lst [a0, a1, a2, a3, a4, a5, a6, a7, a8]) h := id rfl
theorem q_tup9 {a0 a1 a2 a3 a4 a5 a6 a7 a8 : T} : tupK [a0, a1, a2, a3, a4, a5, a6, a7, a8] h = .ok (.tup [a0, a1, a2, a3, a4, a5, a6, a7, a8]) h := id rfl
theorem q_lst10 {a0 a1 a2 a3 a4 a5 a6 a7 a8 a9 : T} : lstK [a0, a1, a2, a3, a4, a5, a6, a7, a8, a9] h = .ok (.lst [a0, a1, a2, a3, a4, a5, a6, a7, a8, a9]) h := id rfl
theorem q_tup10 {a0 a1 a2 a3 a4 a5 a6 a7 a8 a9 : T} : tupK [a0, a1, a2, a3, a4, a5, a6, a7, a8, a9] h = .ok (.tup [a0, a1, a2, a3, a4, a5, a6, a7, a8, a9]) h := id rfl
theorem q_lst11 {a0 a1 a2 a3 a4 a5 a6 a7 a8 a9 a10 : T} : lstK [a0, a1, a2, a3, a4, a5, a6, a7, a8, a9, a10] h = .ok (.lst [a0, a1, a2, a3, a4, a5, a6, a7, a8, a9, a10]) h := id rfl
theorem q_tup11 {a0 a1 a2 a3 a4 a5 a6 a7 a8 a9 a10 : T} : tupK [a0, a1, a2, a3, a4, a5, a6, a7, a8, a9, a10] h = .ok (.tup [a0, a1, a2, a3, a4, a5, a6, a7, a8, a9, a10]) h := id rfl
theorem q_lst12 {a0 a1 a2 a3 a4 a5 a6 a7 a8 a9 a10 a11 : T} : lstK [a0, a1, a2, a3, a4, a5, a6, a7, a8, a9, a10, a11] h = .ok (.lst [a0, a1, a2, a3, a4, a5, a6, a7, a8, a9, a10, a11]) h := id rfl
theorem q_tup12 {a0 a1 a2 a3 a4 a5 a6 a7 a8 a9 a10 a11 : T} : tupK [a0, a1, a2, a3, a4, a5, a6, a7, a8, a9, a10, a11] h = .ok (.tup [a0, a1, a2, a3, a4, a5, a6, a7, a8, a9, a10, a11]) h := id rfl
theorem q_lst13 {a0 a1 a2 a3 a4 a5 a6 a7 a8 a9 a10 a11 a12 : T} : lstK [a0, a1, a2, a3, a4, a5, a6, a7, a8, a9, a10, a11, a12] h = .ok (.lst [a0, a1, a2, a3, a4, a5, a6, a7, a8, a9, a10, a11, a12]) h := id rfl
theorem q_lst14 {a0 a1 a2 a3 a4 a5 a6 a7 a8 a9 a10 a11 a12 a13 : T} : lstK [a0, a1, a2, a3, a4, a5, a6, a7, a8, a9, a10, a11, a12, a13] h = .ok (.lst [a0, a1, a2, a3, a4, a5, a6, a7, a8, a9, a10, a11, a12, a13]) h := id rfl
theorem q_lst15 {a0 a1 a2 a3 a4 a5 a6 a7 a8 a9 a10 a11 a12 a13 a14 : T} : lstK [a0, a1, a2, a3, a4, a5, a6, a7, a8, a9, a10, a11, a12, a13, a14] h = .ok (.lst [a0, a1, a2, a3, a4, a5, a6, a7, a8, a9, a10, a11, a12, a13, a14]) h := id rfl
theorem q_lst16 {a0 a1 a2 a3 a4 a5 a6 a7 a8 a9 a10 a11 a12 a13 a14 a15 : T} : lstK [a0, a1, a2, a3, a4, a5, a6, a7, a8, a9, a10, a11, a12, a13, a14, a15] h = .ok (.lst [a0, a1, a2, a3, a4, a5, a6, a7, a8, a9, a10, a11, a12, a13, a14, a15]) h := id rfl
theorem q_lst17 {a0 a1 a2 a3 a4 a5 a6 a7 a8 a9 a10 a11 a12 a13 a14 a15 a16 : T} : lstK [a0, a1, a2, a3, a4, a5, a6, a7, a8, a9, a10, a11, a12, a13, a14, a15, a16] h = .ok (.lst [a0, a1, a2, a3, a4, a5, a6, a7, a8, a9, a10, a11, a12, a13, a14, a15, a16]) h := id rfl
theorem q_lst18 {a0 a1 a2 a3 a4 a5 a6 a7 a8 a9 a10 a11 a12 a13 a14 a15 a16 a17 : T} : lstK [a0, a1, a2, a3, a4, a5, a6, a7, a8, a9, a10, a11, a12, a13, a14, a15, a16, a17] h = .ok (.lst [a0, a1, a2, a3, a4, a5, a6, a7, a8, a9, a10, a11, a12, a13, a14, a15, a16, a17]) h := id rfl
theorem q_lst19 {a0 a1 a2 a3 a4 a5 a6 a7 a8 a9 a10 a11 a12 a13 a14 a15 a16 a17 a18 : T} : lstK [a0, a1, a2, a3, a4, a5, a6, a7, a8, a9, a10, a11, a12, a13, a14, a15, a16, a17, a18] h = .ok (.lst [a0, a1, a2, a3, a4, a5, a6, a7, a8, a9, a10, a11, a12, a13, a14, a15, a16, a17, a18]) h := id rfl
theorem q_lst20 {a0 a1 a2 a3 a4 a5 a6 a7 a8 a9 a10 a11 a12 a13 a14 a15 a16 a17 a18 a19 : T} : lstK [a0, a1, a2, a3, a4, a5, a6, a7, a8, a9, a10, a11, a12, a13, a14, a15, a16, a17, a18, a19] h = .ok (.lst [a0, a1, a2, a3, a4, a5, a6, a7, a8, a9, a10, a11, a12, a13, a14, a15, a16, a17, a18, a19]) h := id rfl
theorem q_lst21 {a0 a1 a2 a3 a4 a5 a6 a7 a8 a9 a10 a11 a12 a13 a14 a15 a16 a17 a18 a19 a20 : T} : lstK [a0, a1, a2, a3, a4, a5, a6, a7, a8, a9, a10, a11, a12, a13, a14, a15, a16, a17, a18, a19, a20] h = .ok (.lst [a0, a1, a2, a3, a4, a5, a6, a7, a8, a9, a10, a11, a12, a13, a14, a15, a16, a17, a18, a19, a20]) h := id rfl
theorem q_lst22 {a0 a1 a2 a3 a4 a5 a6 a7 a8 a9 a10 a11 a12 a13 a14 a15 a16 a17 a18 a19 a20 a21 : T} : lstK [a0, a1, a2, a3, a4, a5, a6, a7, a8, a9, a10, a11, a12, a13, a14, a15, a16, a17, a18, a19, a20, a21] h = .ok (.lst [a0, a1, a2, a3, a4, a5, a6, a7, a8, a9, a10, a11, a12, a13, a14, a15, a16, a17, a18, a19, a20, a21]) h := id rfl
theorem q_lst23 {a0 a1 a2 a3 a4 a5 a6 a7 a8 a9 a10 a11 a12 a13 a14 a15 a16 a17 a18 a19 a20 a21 a22 : T} : lstK [a0, a1, a2, a3, a4, a5, a6, a7, a8, a9, a10, a11, a12, a13, a14, a15, a16, a17, a18, a19, a20, a21, a22] h = .ok (.lst [a0, a1, a2, a3, a4, a5, a6, a7, a8, a9, a10, a11, a12, a13, a14, a15, a16, a17, a18, a19, a20, a21, a22]) h := id rfl
theorem q_lst24 {a0 a1 a2 a3 a4 a5 a6 a7 a8 a9 a10 a11 a12 a13 a14 a15 a16 a17 a18 a19 a20 a21 a22 a23 : T} : lstK [a0, a1, a2, a3, a4, a5, a6, a7, a8, a9, a10, a11, a12, a13, a14, a15, a16, a17, a18, a19, a20, a21, a22, a23] h = .ok (.lst [a0, a1, a2, a3, a4, a5, a6, a7, a8, a9, a10, a11, a12, a13, a14, a15, a16, a17, a18, a19, a20, a21, a22, a23]) h := id rfl
end
end TW
namespace K12
open PySem PySem.Spec L2 TW TX
def top (i : Nat) : Stmt := PySem.Challenge.pw_offerstands_k12_streams_that_bring.main.body.getD i (.Pass ⟨0, 0, 0, 0⟩)
variable {P : Program} {w : World} {K : PySem.W.Frag} {mg : Str → Option Value} {base : Heap} {cl : Cln}
def xtT : ExT := ⟨[("BadTrade" : Str), ("BadDated" : Str), ("BadStream" : Str)], fun c => if c = ("BadTrade" : Str) then [("part" : Str)] else if c = ("BadDated" : Str) then [("thing" : Str)] else if c = ("BadStream" : Str) then [("thing" : Str)] else [], fun c d => decide ((c, d) ∈ [(("BadTrade" : Str), ("BadTrade" : Str)), (("BadDated" : Str), ("BadDated" : Str)), (("BadStream" : Str), ("BadStream" : Str))])⟩
abbrev s__law_deck : Stmt := top 27
theorem sc__law_deck : FnScope ["_law_script", "_law_cell"] ["_law_script"] (defScope s__law_deck) := ⟨rfl, rfl, rfl, by decide +kernel, rfl, by decide +kernel, by decide +kernel⟩
def B__law_deck : SM := (sRet (emD dicL [((cst (.str ("cells" : Str))), (lcM lstL (itE (emSl lstK (vr 0) pNo (pSo (cst (.int 60))))) (gmN 1) tYes (emOp modT (emCall intF (ac (vr 1) an)) (cst (.int 1000000007))) [1])), ((cst (.str ("at" : Str))), (cst (.int 0)))]))
def b__law_deck : SM := B__law_deck 
def m__law_deck : FM := fnB 2 b__law_deck
theorem w__law_deck {f : Addr} {fd : FuncData} (F : FunD K "_law_deck" "_law_deck" (defArgs s__law_deck) (defBody s__law_deck) (defScope s__law_deck) [] [] f fd) (g_int : mg ("int" : Str) = none) : FnOk P w K mg base (L2.CX P w) 1 f fd ["_law_script"] (spM ⟨P, w, K, cl⟩ 1 m__law_deck) := by
  refine (fn_ok (k := 0) (N := ["_law_script", "_law_cell"]) (ps := ["_law_script"]) (b := b__law_deck) F sc__law_deck fun cdv A outer s H E hcdv hr => ?_)
  unfold b__law_deck B__law_deck
  exact (mb_one (ms_ret (me_dict dLL (mps_c me_str (me_lc lL rfl sc__law_deck.nd (blkOk_by (own := [("_law_cell", 1)]) (by first | rfl | decide +kernel)) (mi_e (me_sl lK (me_v 0) mp_no (mp_so me_int))) (by decide) (fun _ _ _ _ _ => (mg_name 1 sc__law_deck.nd)) (fun _ _ _ _ _ => mts_nil) (fun _ _ _ _ _ => (me_op o_mod iT_nox (me_cT c_int n_int PyProof.Rows.boot_int (ma_c (me_v 1) ma_n) g_int) me_int))) (mps_c me_str me_int mps_n)))))
abbrev s__law_draw : Stmt := top 28
theorem sc__law_draw : FnScope ["_law_deck_here", "_law_below", "_law_at", "_law_cells"] ["_law_deck_here", "_law_below"] (defScope s__law_draw) := ⟨rfl, rfl, rfl, by decide +kernel, rfl, by decide +kernel, by decide +kernel⟩
def B__law_draw : SM := (sSeq (sPar2 2 3 (ac (emOp ixT (vr 0) (cst (.str ("at" : Str)))) (ac (emOp ixT (vr 0) (cst (.str ("cells" : Str)))) an)))
 (sSeq (sSub (vr 0) (cst (.str ("at" : Str))) (emOp (adT lstK) (vr 2) (cst (.int 1))))
 (sSeq (sIf (tmOf (emOp ltT (vr 2) (emCall lenF (ac (vr 3) an))))
 (sRet (emOp modT (emOp ixT (vr 3) (vr 2)) (vr 1)))
 sNx)
 (sSeq (sIf (tmOf (emOp eqT (vr 3) (emL lstK an)))
 (sRet (emOp modT (emOp (adT lstK) (emOp mulT (vr 2) (cst (.int 5))) (emOp fdvT (vr 2) (cst (.int 3)))) (vr 1)))
 sNx)
 (sRet (emOp modT (emOp (adT lstK) (emOp (adT lstK) (emOp fdvT (emOp ixT (vr 3) (emOp modT (vr 2) (emCall lenF (ac (vr 3) an)))) (emOp (adT lstK) (vr 2) (cst (.int 1)))) (emOp mulT (vr 2) (cst (.int 13)))) (emOp fdvT (vr 2) (cst (.int 2)))) (vr 1)))))))
def b__law_draw : SM := B__law_draw 
def m__law_draw : FM := pur (reg (fnB 4 b__law_draw))
theorem w__law_draw {f : Addr} {fd : FuncData} (F : FunD K "_law_draw" "_law_draw" (defArgs s__law_draw) (defBody s__law_draw) (defScope s__law_draw) [] [] f fd) (g_len : mg ("len" : Str) = none) : FnOk P w K mg base (L2.CX P w) 1 f fd ["_law_deck_here", "_law_below"] (spM ⟨P, w, K, cl⟩ 2 m__law_draw) := by
  refine fn_pur (fn_reg (fn_ok (k := 0) (N := ["_law_deck_here", "_law_below", "_law_at", "_law_cells"]) (ps := ["_law_deck_here", "_law_below"]) (b := b__law_draw) F sc__law_draw fun cdv A outer s H E hcdv hr => ?_))
  unfold b__law_draw B__law_draw
  exact (mb_cons (ms_par2 2 3 rfl sc__law_draw.nd (ma_c (me_ix (hu_room hr) (me_v 0) me_str) (ma_c (me_ix (hu_room hr) (me_v 0) me_str) ma_n)))
 (mb_cons (ms_sub (hu_room hr) (me_op (o_ad lK) (n_ad lK) (me_v 2) me_int) (me_v 0) me_str)
 (mb_cons (ms_if (mt_cmp o_lt iT_nox (me_v 2) (me_cB c_len n_len boot_len (ma_c (me_v 3) ma_n) g_len) (by first | exact nomark _ | rfl))
 (mb_one (ms_ret (me_op o_mod iT_nox (me_ix (hu_room hr) (me_v 3) (me_v 2)) (me_v 1))))
 mb_nil)
 (mb_cons (ms_if (mt_cmp (o_eq (hu_room hr)) n_eq (me_v 3) (me_lst lK ma_n) (by first | exact nomark _ | rfl))
 (mb_one (ms_ret (me_op o_mod iT_nox (me_op (o_ad lK) (n_ad lK) (me_op o_mul n_mul (me_v 2) me_int) (me_op o_fdv iT_nox (me_v 2) me_int)) (me_v 1))))
 mb_nil)
 (mb_one (ms_ret (me_op o_mod iT_nox (me_op (o_ad lK) (n_ad lK) (me_op (o_ad lK) (n_ad lK) (me_op o_fdv iT_nox (me_ix (hu_room hr) (me_v 3) (me_op o_mod iT_nox (me_v 2) (me_cB c_len n_len boot_len (ma_c (me_v 3) ma_n) g_len))) (me_op (o_ad lK) (n_ad lK) (me_v 2) me_int)) (me_op o_mul n_mul (me_v 2) me_int)) (me_op o_fdv iT_nox (me_v 2) me_int)) (me_v 1))))))))
abbrev s_is_whole : Stmt := top 7
theorem sc_is_whole : FnScope ["thing"] ["thing"] (defScope s_is_whole) := ⟨rfl, rfl, rfl, by decide +kernel, rfl, by decide +kernel, by decide +kernel⟩
def B_is_whole : SM := (sRet (eAn (emCall isiTF (ac (vr 0) (ac (cst (.ty "int")) an))) (eNo (emCall isiTF (ac (vr 0) (ac (cst (.ty "bool")) an))))))
def b_is_whole : SM := B_is_whole 
def m_is_whole : FM := pur (reg (fnB 1 b_is_whole))
theorem w_is_whole {f : Addr} {fd : FuncData} (F : FunD K "is_whole" "is_whole" (defArgs s_is_whole) (defBody s_is_whole) (defScope s_is_whole) [] [] f fd) (g_isinstance : mg ("isinstance" : Str) = none) (g_int : mg ("int" : Str) = none) (g_bool : mg ("bool" : Str) = none) : FnOk P w K mg base (L2.CX P w) 1 f fd ["thing"] (spM ⟨P, w, K, cl⟩ 1 m_is_whole) := by
  refine fn_pur (fn_reg (fn_ok (k := 0) (N := ["thing"]) (ps := ["thing"]) (b := b_is_whole) F sc_is_whole fun cdv A outer s H E hcdv hr => ?_))
  unfold b_is_whole B_is_whole
  exact (mb_one (ms_ret (me_and (me_cB c_isiT n_isiT PyProof.Rows.boot_isinstance (ma_c (me_v 0) (ma_c (me_ty g_int PyProof.Rows.boot_int) ma_n)) g_isinstance) (me_b1 (me_not (me_cB c_isiT n_isiT PyProof.Rows.boot_isinstance (ma_c (me_v 0) (ma_c (me_ty g_bool PyProof.Rows.boot_bool) ma_n)) g_isinstance))))))
abbrev s_trade_lives_fit : Stmt := top 13
theorem sc_trade_lives_fit : FnScope ["lives", "life"] ["lives"] (defScope s_trade_lives_fit) := ⟨rfl, rfl, rfl, by decide +kernel, rfl, by decide +kernel, by decide +kernel⟩
def L_trade_lives_fit_1 (m_is_whole : FM) : SM := (sIf (tOrr (tNo (tmOf (emCall (arg 1 m_is_whole) (ac (vr 1) an)))) (tNo (tmOf (emCh leT leT (cst (.int 1)) (vr 1) (cst (.int 99))))))
 (sRet (cst (.bl false)))
 sNx)
def B_trade_lives_fit (m_is_whole : FM) : SM := (sSeq (sIf (tOrr (tNo (tmOf (emCall isiTF (ac (vr 0) (ac (cst (.ty "tuple")) an))))) (tNo (tmOf (emCh leT leT (cst (.int 1)) (emCall lenF (ac (vr 0) an)) (cst (.int 9))))))
 (sRet (cst (.bl false)))
 sNx)
 (sSeq (sFor (itE (vr 0)) (gmN 1)
 (L_trade_lives_fit_1 m_is_whole))
 (sRet (cst (.bl true)))))
def b_trade_lives_fit : SM := B_trade_lives_fit m_is_whole
def m_trade_lives_fit : FM := pur (reg (fnB 2 b_trade_lives_fit))
theorem w_trade_lives_fit {f : Addr} {fd : FuncData} (F : FunD K "trade_lives_fit" "trade_lives_fit" (defArgs s_trade_lives_fit) (defBody s_trade_lives_fit) (defScope s_trade_lives_fit) [] [] f fd) (g_isinstance : mg ("isinstance" : Str) = none) (g_tuple : mg ("tuple" : Str) = none) (g_len : mg ("len" : Str) = none) (c_TRADE_MOST_OFFERS : ∃ t, mg ("TRADE_MOST_OFFERS" : Str) = some (.int 9 t)) (o_is_whole : Own P w K mg base cl 1 ("is_whole" : Str) 1 m_is_whole) (c_TRADE_MOST_LIFE : ∃ t, mg ("TRADE_MOST_LIFE" : Str) = some (.int 99 t)) : FnOk P w K mg base (L2.CX P w) 2 f fd ["lives"] (spM ⟨P, w, K, cl⟩ 1 m_trade_lives_fit) := by
  refine fn_pur (fn_reg (fn_ok (k := 1) (N := ["lives", "life"]) (ps := ["lives"]) (b := b_trade_lives_fit) F sc_trade_lives_fit fun cdv A outer s H E hcdv hr => ?_))
  unfold b_trade_lives_fit B_trade_lives_fit L_trade_lives_fit_1
  exact (mb_cons (ms_if (MW.mt (mw_or (mt_not (mt_val (me_cB c_isiT n_isiT PyProof.Rows.boot_isinstance (ma_c (me_v 0) (ma_c (me_ty g_tuple PyProof.Rows.boot_tuple) ma_n)) g_isinstance))) (mw_o1 (mt_not (mt_chain o_le iT_nox o_le iT_nox me_int (me_cB c_len n_len boot_len (ma_c (me_v 0) ma_n) g_len) (me_gint rfl c_TRADE_MOST_OFFERS))))))
 (mb_one (ms_ret me_bl))
 mb_nil)
 (mb_cons (ms_for (passes_of rfl) rfl (mi_e (me_v 0)) (mg_name 1 sc_trade_lives_fit.nd)
 (mb_one (ms_if (MW.mt (mw_or (mt_not (mt_val (me_call o_is_whole (hr.mono (by decide)) (takes_of rfl rfl rfl rfl) (ma_c (me_v 1) ma_n)))) (mw_o1 (mt_not (mt_chain o_le iT_nox o_le iT_nox me_int (me_v 1) (me_gint rfl c_TRADE_MOST_LIFE))))))
 (mb_one (ms_ret me_bl))
 mb_nil)))
 (mb_one (ms_ret me_bl))))
abbrev s_is_set : Stmt := top 8
theorem sc_is_set : FnScope ["offers", "thing", "before", "one"] ["offers", "thing"] (defScope s_is_set) := ⟨rfl, rfl, rfl, by decide +kernel, rfl, by decide +kernel, by decide +kernel⟩
def L_is_set_1 (m_is_whole : FM) : SM := (sSeq (sIf (tOrr (tNo (tmOf (emCall (arg 1 m_is_whole) (ac (vr 3) an)))) (tNo (tmOf (emCh ltT ltT (vr 2) (vr 3) (vr 0)))))
 (sRet (cst (.bl false)))
 sNx)
 (sSet 2 (vr 3)))
def B_is_set (m_is_whole : FM) : SM := (sSeq (sIf (tNo (tmOf (emCall isiTF (ac (vr 1) (ac (cst (.ty "tuple")) an)))))
 (sRet (cst (.bl false)))
 sNx)
 (sSeq (sSet 2 (em1 ngT (cst (.int 1))))
 (sSeq (sFor (itE (vr 1)) (gmN 3)
 (L_is_set_1 m_is_whole))
 (sRet (cst (.bl true))))))
def b_is_set : SM := B_is_set m_is_whole
def m_is_set : FM := pur (reg (fnB 4 b_is_set))
theorem w_is_set {f : Addr} {fd : FuncData} (F : FunD K "is_set" "is_set" (defArgs s_is_set) (defBody s_is_set) (defScope s_is_set) [] [] f fd) (g_isinstance : mg ("isinstance" : Str) = none) (g_tuple : mg ("tuple" : Str) = none) (o_is_whole : Own P w K mg base cl 1 ("is_whole" : Str) 1 m_is_whole) : FnOk P w K mg base (L2.CX P w) 2 f fd ["offers", "thing"] (spM ⟨P, w, K, cl⟩ 2 m_is_set) := by
  refine fn_pur (fn_reg (fn_ok (k := 1) (N := ["offers", "thing", "before", "one"]) (ps := ["offers", "thing"]) (b := b_is_set) F sc_is_set fun cdv A outer s H E hcdv hr => ?_))
  unfold b_is_set B_is_set L_is_set_1
  exact (mb_cons (ms_if (mt_not (mt_val (me_cB c_isiT n_isiT PyProof.Rows.boot_isinstance (ma_c (me_v 1) (ma_c (me_ty g_tuple PyProof.Rows.boot_tuple) ma_n)) g_isinstance)))
 (mb_one (ms_ret me_bl))
 mb_nil)
 (mb_cons (ms_set 2 sc_is_set.nd (me_neg me_int))
 (mb_cons (ms_for (passes_of rfl) rfl (mi_e (me_v 1)) (mg_name 3 sc_is_set.nd)
 (mb_cons (ms_if (MW.mt (mw_or (mt_not (mt_val (me_call o_is_whole (hr.mono (by decide)) (takes_of rfl rfl rfl rfl) (ma_c (me_v 3) ma_n)))) (mw_o1 (mt_not (mt_chain o_lt iT_nox o_lt iT_nox (me_v 2) (me_v 3) (me_v 0))))))
 (mb_one (ms_ret me_bl))
 mb_nil)
 (mb_one (ms_set 2 sc_is_set.nd (me_v 3)))))
 (mb_one (ms_ret me_bl)))))
abbrev s_Trade___init__ : Stmt := inClass (top 16) 0
theorem sc_Trade___init__ : FnScope ["self", "lives", "loose"] ["self", "lives", "loose"] (defScope s_Trade___init__) := ⟨rfl, rfl, rfl, by decide +kernel, rfl, by decide +kernel, by decide +kernel⟩
def B_Trade___init__ (m_trade_lives_fit : FM) (m_is_set : FM) : SM := (sSeq (sIf (tNo (tmOf (emCall (arg 1 m_trade_lives_fit) (ac (vr 1) an))))
 (sRaise ("BadTrade" : Str) [("part" : Str)] (ac (cst (.str ("lives" : Str))) an))
 sNx)
 (sSeq (sIf (tNo (tmOf (emCall (arg 2 m_is_set) (ac (emCall lenF (ac (vr 1) an)) (ac (vr 2) an)))))
 (sRaise ("BadTrade" : Str) [("part" : Str)] (ac (cst (.str ("loose" : Str))) an))
 sNx)
 (sSeq (sAtt [("Trade" : Str)] ("lives" : Str) (vr 0) (vr 1))
 (sAtt [("Trade" : Str)] ("loose" : Str) (vr 0) (vr 2)))))
def b_Trade___init__ : SM := B_Trade___init__ m_trade_lives_fit m_is_set
def m_Trade___init__ : FM := fnB 3 b_Trade___init__
theorem w_Trade___init__ {f : Addr} {fd : FuncData} (F : FunD K "__init__" "Trade.__init__" (defArgs s_Trade___init__) (defBody s_Trade___init__) (defScope s_Trade___init__) [] [] f fd) (o_trade_lives_fit : Own P w K mg base cl 2 ("trade_lives_fit" : Str) 1 m_trade_lives_fit) (x_BadTrade : Xr P w K mg base cl ("BadTrade" : Str) [("part" : Str)]) (o_is_set : Own P w K mg base cl 2 ("is_set" : Str) 2 m_is_set) (g_len : mg ("len" : Str) = none) (a_lives : AtOk K cl [("Trade" : Str)] ("lives" : Str)) (a_loose : AtOk K cl [("Trade" : Str)] ("loose" : Str)) : FnOk P w K mg base (L2.CX P w) 3 f fd ["self", "lives", "loose"] (spM ⟨P, w, K, cl⟩ 3 m_Trade___init__) := by
  refine (fn_ok (k := 2) (N := ["self", "lives", "loose"]) (ps := ["self", "lives", "loose"]) (b := b_Trade___init__) F sc_Trade___init__ fun cdv A outer s H E hcdv hr => ?_)
  unfold b_Trade___init__ B_Trade___init__
  exact (mb_cons (ms_if (mt_not (mt_val (me_call o_trade_lives_fit (hr.mono (by decide)) (takes_of rfl rfl rfl rfl) (ma_c (me_v 1) ma_n))))
 (mb_one (ms_raise x_BadTrade (by decide) rfl (hr.mono (by decide)) (takes_of rfl rfl rfl rfl) (ma_c me_str ma_n)))
 mb_nil)
 (mb_cons (ms_if (mt_not (mt_val (me_call o_is_set (hr.mono (by decide)) (takes_of rfl rfl rfl rfl) (ma_c (me_cB c_len n_len boot_len (ma_c (me_v 1) ma_n) g_len) (ma_c (me_v 2) ma_n)))))
 (mb_one (ms_raise x_BadTrade (by decide) rfl (hr.mono (by decide)) (takes_of rfl rfl rfl rfl) (ma_c me_str ma_n)))
 mb_nil)
 (mb_cons (ms_att a_lives (me_v 1) (me_v 0))
 (mb_one (ms_att a_loose (me_v 2) (me_v 0))))))
abbrev s__law_behind : Stmt := top 29
theorem sc__law_behind : FnScope ["_law_lives", "_law_dated", "_law_deed", "_law_rest", "_law_pair", "_law_x", "_law_days"] ["_law_lives", "_law_dated", "_law_deed"] (defScope s__law_behind) := ⟨rfl, rfl, rfl, by decide +kernel, rfl, by decide +kernel, by decide +kernel⟩
def B__law_behind : SM := (sSeq (sIf (tmOf (emOp eqT (vr 2) (emT (ac (cst (.str ("day" : Str))) an))))
 (sRet (emCall tupF (ac (lcM lstK (itE (vr 1)) (gmT 2 (gmCons (gmN 5) (gmCons (gmN 6) gmNil))) (tmOf (emOp gtT (vr 6) (cst (.int 1)))) (emT (ac (vr 5) (ac (emOp subT (vr 6) (cst (.int 1))) an))) [5, 6]) an)))
 sNx)
 (sSeq (sSet 3 (lcM lstK (itE (vr 1)) (gmN 4) (tmOf (emOp neT (emOp ixT (vr 4) (cst (.int 0))) (emOp ixT (vr 2) (cst (.int 1))))) (vr 4) [4]))
 (sRet (eIf (tmOf (emOp eqT (emOp ixT (vr 2) (cst (.int 0))) (cst (.str ("come" : Str))))) (emCall tupF (ac (emCall (sortPF lstK) (ac (emOp (adT lstK) (vr 3) (emL lstK (ac (emT (ac (emOp ixT (vr 2) (cst (.int 1))) (ac (emOp ixT (vr 0) (emOp ixT (vr 2) (cst (.int 1)))) an))) an))) an)) an)) (emCall tupF (ac (vr 3) an))))))
def b__law_behind : SM := B__law_behind 
def m__law_behind : FM := pur (reg (fnB 7 b__law_behind))
theorem w__law_behind {f : Addr} {fd : FuncData} (F : FunD K "_law_behind" "_law_behind" (defArgs s__law_behind) (defBody s__law_behind) (defScope s__law_behind) [] [] f fd) (g_tuple : mg ("tuple" : Str) = none) (g_sorted : mg ("sorted" : Str) = none) : FnOk P w K mg base (L2.CX P w) 1 f fd ["_law_lives", "_law_dated", "_law_deed"] (spM ⟨P, w, K, cl⟩ 3 m__law_behind) := by
  refine fn_pur (fn_reg (fn_ok (k := 0) (N := ["_law_lives", "_law_dated", "_law_deed", "_law_rest", "_law_pair", "_law_x", "_law_days"]) (ps := ["_law_lives", "_law_dated", "_law_deed"]) (b := b__law_behind) F sc__law_behind fun cdv A outer s H E hcdv hr => ?_))
  unfold b__law_behind B__law_behind
  exact (mb_cons (ms_if (mt_cmp (o_eq (hu_room hr)) n_eq (me_v 2) (me_tup (ma_c me_str ma_n)) (by first | exact nomark _ | rfl))
 (mb_one (ms_ret (me_cT c_tup n_tup PyProof.Rows.boot_tuple (ma_c (me_lc lK rfl sc__law_behind.nd (blkOk_by (own := [("_law_x", 5), ("_law_days", 6)]) (by first | rfl | decide +kernel)) (mi_e (me_v 1)) (by decide) (fun _ _ _ _ _ => (mg_tup 2 rfl (mgs_cons (mg_name 5 sc__law_behind.nd) (mgs_cons (mg_name 6 sc__law_behind.nd) mgs_nil)))) (fun _ _ _ _ _ => (mts_one (mt_cmp o_gt iT_nox (me_v 6) me_int (by first | exact nomark _ | rfl)))) (fun _ _ _ _ _ => (me_tup (ma_c (me_v 5) (ma_c (me_op o_sub iT_nox (me_v 6) me_int) ma_n))))) ma_n) g_tuple)))
 mb_nil)
 (mb_cons (ms_setLc 3 lK rfl sc__law_behind.nd (blkOk_by (own := [("_law_pair", 4)]) (by first | rfl | decide +kernel)) (mi_e (me_v 1)) (by decide) (fun _ _ _ _ _ => (mg_name 4 sc__law_behind.nd)) (fun _ _ _ _ _ => (mts_one (mt_cmp (o_ne (hu_room hr)) n_ne (me_ix (hu_room hr) (me_v 4) me_int) (me_ix (hu_room hr) (me_v 2) me_int) (by first | exact nomark _ | rfl)))) (fun _ _ _ _ _ => (me_v 4)))
 (mb_one (ms_ret (me_if (mt_cmp (o_eq (hu_room hr)) n_eq (me_ix (hu_room hr) (me_v 2) me_int) me_str (by first | exact nomark _ | rfl)) (me_cT c_tup n_tup PyProof.Rows.boot_tuple (ma_c (me_cB (c_sortP lK) (n_sortP lK) PyProof.Rows.boot_sorted (ma_c (me_op (o_ad lK) (n_ad lK) (me_v 3) (me_lst lK (ma_c (me_tup (ma_c (me_ix (hu_room hr) (me_v 2) me_int) (ma_c (me_ix (hu_room hr) (me_v 0) (me_ix (hu_room hr) (me_v 2) me_int)) ma_n))) ma_n))) ma_n) g_sorted) ma_n) g_tuple) (me_cT c_tup n_tup PyProof.Rows.boot_tuple (ma_c (me_v 3) ma_n) g_tuple))))))
abbrev s__law_all_first : Stmt := top 30
theorem sc__law_all_first : FnScope ["_law_lives", "_law_loose", "_law_n", "_law_deeds", "_law_first", "_law_edge", "_law_later", "_law_dated", "_law_deed", "_law_x", "_law_to"] ["_law_lives", "_law_loose"] (defScope s__law_all_first) := ⟨rfl, rfl, rfl, by decide +kernel, rfl, by decide +kernel, by decide +kernel⟩
def L__law_all_first_1 (m__law_behind : FM) : SM := (sSeq (sSet 10 (emCall (arg 3 m__law_behind) (ac (vr 0) (ac (vr 7) (ac (vr 8) an)))))
 (sIf (tmOf (emOp (inNF true) (vr 10) (vr 4)))
 (sSeq (sSubN (vr 4) (vr 10) (emOp (adT lstK) (emOp ixNF (vr 4) (vr 7)) (emT (ac (vr 8) an))))
 (sDrop (emBm "list" apT (vr 6) (ac (vr 10) an))))
 sNx))
def L__law_all_first_2 (m__law_behind : FM) : SM := (sFor (itE (vr 3)) (gmN 8)
 (L__law_all_first_1 m__law_behind))
def L__law_all_first_3 (m__law_behind : FM) : SM := (sSeq (sSet 6 (emL lstL an))
 (sSeq (sFor (itE (vr 5)) (gmN 7)
 (L__law_all_first_2 m__law_behind))
 (sSet 5 (vr 6))))
def L__law_all_first_4 : TM := (tmOf (emOp neT (vr 5) (emL lstK an)))
def B__law_all_first (m__law_behind : FM) : SM := (sSeq (sSet 2 (emCall lenF (ac (vr 0) an)))
 (sSeq (sSet 3 (emOp (adT lstK) (emOp (adT lstK) (lcM lstK (itR1 (ac (vr 2) an)) (gmN 9) tYes (emT (ac (cst (.str ("come" : Str))) (ac (vr 9) an))) [9]) (emL lstK (ac (emT (ac (cst (.str ("day" : Str))) an)) an))) (lcM lstK (itE (vr 1)) (gmN 9) tYes (emT (ac (cst (.str ("gone" : Str))) (ac (vr 9) an))) [9])))
 (sSeq (sPar2 4 5 (ac (emDN dicNL (emT an) (emT an)) (ac (emL lstK (ac (emT an) an)) an)))
 (sSeq (whS (L__law_all_first_4)
 (L__law_all_first_3 m__law_behind) 1000000)
 (sRet (vr 4))))))
def b__law_all_first : SM := B__law_all_first m__law_behind
def m__law_all_first : FM := pur (reg (fnB 11 b__law_all_first))
theorem w__law_all_first {f : Addr} {fd : FuncData} (F : FunD K "_law_all_first" "_law_all_first" (defArgs s__law_all_first) (defBody s__law_all_first) (defScope s__law_all_first) [] [] f fd) (g_len : mg ("len" : Str) = none) (g_range : mg ("range" : Str) = none) (o__law_behind : Own P w K mg base cl 1 ("_law_behind" : Str) 3 m__law_behind) : FnOk P w K mg base (L2.CX P w) 2 f fd ["_law_lives", "_law_loose"] (spM ⟨P, w, K, cl⟩ 2 m__law_all_first) := by
  refine fn_pur (fn_reg (fn_ok (k := 1) (N := ["_law_lives", "_law_loose", "_law_n", "_law_deeds", "_law_first", "_law_edge", "_law_later", "_law_dated", "_law_deed", "_law_x", "_law_to"]) (ps := ["_law_lives", "_law_loose"]) (b := b__law_all_first) F sc__law_all_first fun cdv A outer s H E hcdv hr => ?_))
  unfold b__law_all_first B__law_all_first L__law_all_first_4 L__law_all_first_3 L__law_all_first_2 L__law_all_first_1
  exact (mb_cons (ms_set 2 sc__law_all_first.nd (me_cB c_len n_len boot_len (ma_c (me_v 0) ma_n) g_len))
 (mb_cons (ms_set 3 sc__law_all_first.nd (me_op (o_ad lK) (n_ad lK) (me_op (o_ad lK) (n_ad lK) (me_lc lK rfl sc__law_all_first.nd (blkOk_by (own := [("_law_x", 9)]) (by first | rfl | decide +kernel)) (mi_r1 rfl g_range (ma_c (me_v 2) ma_n)) (by decide) (fun _ _ _ _ _ => (mg_name 9 sc__law_all_first.nd)) (fun _ _ _ _ _ => mts_nil) (fun _ _ _ _ _ => (me_tup (ma_c me_str (ma_c (me_v 9) ma_n))))) (me_lst lK (ma_c (me_tup (ma_c me_str ma_n)) ma_n))) (me_lc lK rfl sc__law_all_first.nd (blkOk_by (own := [("_law_x", 9)]) (by first | rfl | decide +kernel)) (mi_e (me_v 1)) (by decide) (fun _ _ _ _ _ => (mg_name 9 sc__law_all_first.nd)) (fun _ _ _ _ _ => mts_nil) (fun _ _ _ _ _ => (me_tup (ma_c me_str (ma_c (me_v 9) ma_n)))))))
 (mb_cons (ms_par2 4 5 rfl sc__law_all_first.nd (ma_c (me_dN1 (.inr rfl) (hu_room hr) (me_tup ma_n) (me_tup ma_n)) (ma_c (me_lst lK (ma_c (me_tup ma_n) ma_n)) ma_n)))
 (mb_cons (ms_while 1000000 (passes_of rfl) (mt_cmp (o_ne (hu_room hr)) n_ne (me_v 5) (me_lst lK ma_n) (by first | exact nomark _ | rfl))
 (mb_cons (ms_set 6 sc__law_all_first.nd (me_lst lL ma_n))
 (mb_cons (ms_for (passes_of rfl) rfl (mi_e (me_v 5)) (mg_name 7 sc__law_all_first.nd)
 (mb_one (ms_for (passes_of rfl) rfl (mi_e (me_v 3)) (mg_name 8 sc__law_all_first.nd)
 (mb_cons (ms_set 10 sc__law_all_first.nd (me_call o__law_behind (hr.mono (by decide)) (takes_of rfl rfl rfl rfl) (ma_c (me_v 0) (ma_c (me_v 7) (ma_c (me_v 8) ma_n)))))
 (mb_one (ms_if (mt_cmp (o_notinN (hu_room hr)) n_inN (me_v 10) (me_v 4) (by first | exact nomark _ | rfl))
 (mb_cons (ms_subN (hu_room hr) (me_op (o_ad lK) (n_ad lK) (me_ixN (hu_room hr) (me_v 4) (me_v 7)) (me_tup (ma_c (me_v 8) ma_n))) (me_v 4) (me_v 10))
 (mb_one (ms_expr (me_bm PySem.F.plainAttrs_list PySem.F.slot_list_append PySem.F.type_list_append mm_ap n_ap (me_v 6) (ma_c (me_v 10) ma_n)))))
 mb_nil))))))
 (mb_one (ms_set 5 sc__law_all_first.nd (me_v 6))))))
 (mb_one (ms_ret (me_v 4)))))))
abbrev s__law_told : Stmt := top 31
theorem sc__law_told : FnScope ["_law_call", "_law_found", "e"] ["_law_call"] (defScope s__law_told) := ⟨rfl, rfl, rfl, by decide +kernel, rfl, by decide +kernel, by decide +kernel⟩
def L__law_told_1 (actF : EM) : SM := (sDrop actF)
def B__law_told (actF : EM) : SM := (sSeq (sSet 1 (cst .non))
 (sSeq (sTry xtT (L__law_told_1 actF) [(("BadDated" : Str), (some 2), (fun c fs => (sSet 1 (emL lstK (ac (xFld xtT c fs ("thing" : Str)) an)))))])
 (sRet (vr 1))))
def tb__law_told : EM → SM := fun actF => B__law_told actF
theorem w__law_told {g : Addr} {fd : FuncData} (F : FunD K "_law_told" "_law_told" (defArgs s__law_told) (defBody s__law_told) (defScope s__law_told) [] [] g fd) (xT : Xt K cl xtT) {C_BadDated : Addr} (k_BadDated : mg ("BadDated" : Str) = some (.ref C_BadDated) ∧ cl ("BadDated" : Str) = some C_BadDated) (hmx : mg ("_law_told" : Str) = some (.ref g)) (hbx : L2.Binds K fd ["_law_call"] []) : Told P w K mg base cl 1 ("_law_told" : Str) 3 tb__law_told := by
  refine ⟨g, fd, "_law_call", _, _, _, [], [], ["_law_call", "_law_found", "e"], F, sc__law_told, rfl, rfl, .inl rfl, by decide, by decide, hmx, hbx, fun cl2 actF cdv A outer s H E up hcdv hr hact => ?_⟩
  have xT := xT.on up (by decide +kernel)
  have k_BadDated : mg ("BadDated" : Str) = some (.ref C_BadDated) ∧ cl2 ("BadDated" : Str) = some C_BadDated := ⟨k_BadDated.1, (up _ (by decide)).trans k_BadDated.2⟩
  unfold tb__law_told B__law_told L__law_told_1
  exact (mb_cons (ms_set 1 sc__law_told.nd me_non)
 (mb_cons (ms_try xT rfl rfl sc__law_told.nd (takes_of rfl rfl rfl rfl) (fun W pn xe tq po => (mb_one (ms_expr (hact W pn xe _ _ tq))))
 (HdM.cons ⟨_, k_BadDated⟩ rfl (by decide) ⟨_, rfl, rfl, rfl⟩ (fun u oe pn hi hz hv => mxb_one (mxs_set 1 sc__law_told.nd (mx_lst lK (mxa_c (mx_fld xT hi hz hv rfl) mxa_n)))) HdM.nil))
 (mb_one (ms_ret (me_v 1)))))
abbrev s_is_dated_of : Stmt := top 17
theorem sc_is_dated_of : FnScope ["trade", "thing", "last", "pair", "offer", "days"] ["trade", "thing"] (defScope s_is_dated_of) := ⟨rfl, rfl, rfl, by decide +kernel, rfl, by decide +kernel, by decide +kernel⟩
def L_is_dated_of_1 (m_is_whole : FM) : SM := (sSeq (sIf (tOrr (tNo (tmOf (emCall isiTF (ac (vr 3) (ac (cst (.ty "tuple")) an))))) (tmOf (emOp neT (emCall lenF (ac (vr 3) an)) (cst (.int 2)))))
 (sRet (cst (.bl false)))
 sNx)
 (sSeq (sAsg (gmT 2 (gmCons (gmN 4) (gmCons (gmN 5) gmNil))) (vr 3))
 (sSeq (sIf (tOrr (tNo (tmOf (emCall (arg 1 m_is_whole) (ac (vr 4) an)))) (tNo (tmOf (emCall (arg 1 m_is_whole) (ac (vr 5) an)))))
 (sRet (cst (.bl false)))
 sNx)
 (sSeq (sIf (tOrr (tNo (tmOf (emCh ltT ltT (vr 2) (vr 4) (emCall lenF (ac (em1 (atT [("Trade" : Str)] ("lives" : Str)) (vr 0)) an))))) (tNo (tmOf (emCh leT leT (cst (.int 1)) (vr 5) (emOp ixT (em1 (atT [("Trade" : Str)] ("lives" : Str)) (vr 0)) (vr 4))))))
 (sRet (cst (.bl false)))
 sNx)
 (sSet 2 (vr 4))))))
def B_is_dated_of (m_is_whole : FM) : SM := (sSeq (sIf (tNo (tmOf (emCall isiTF (ac (vr 1) (ac (cst (.ty "tuple")) an)))))
 (sRet (cst (.bl false)))
 sNx)
 (sSeq (sSet 2 (em1 ngT (cst (.int 1))))
 (sSeq (sFor (itE (vr 1)) (gmN 3)
 (L_is_dated_of_1 m_is_whole))
 (sRet (cst (.bl true))))))
def b_is_dated_of : SM := B_is_dated_of m_is_whole
def m_is_dated_of : FM := pur (reg (fnB 6 b_is_dated_of))
theorem w_is_dated_of {f : Addr} {fd : FuncData} (F : FunD K "is_dated_of" "is_dated_of" (defArgs s_is_dated_of) (defBody s_is_dated_of) (defScope s_is_dated_of) [] [] f fd) (g_isinstance : mg ("isinstance" : Str) = none) (g_tuple : mg ("tuple" : Str) = none) (g_len : mg ("len" : Str) = none) (o_is_whole : Own P w K mg base cl 1 ("is_whole" : Str) 1 m_is_whole) (a_lives : AtOk K cl [("Trade" : Str)] ("lives" : Str)) : FnOk P w K mg base (L2.CX P w) 2 f fd ["trade", "thing"] (spM ⟨P, w, K, cl⟩ 2 m_is_dated_of) := by
  refine fn_pur (fn_reg (fn_ok (k := 1) (N := ["trade", "thing", "last", "pair", "offer", "days"]) (ps := ["trade", "thing"]) (b := b_is_dated_of) F sc_is_dated_of fun cdv A outer s H E hcdv hr => ?_))
  unfold b_is_dated_of B_is_dated_of L_is_dated_of_1
  exact (mb_cons (ms_if (mt_not (mt_val (me_cB c_isiT n_isiT PyProof.Rows.boot_isinstance (ma_c (me_v 1) (ma_c (me_ty g_tuple PyProof.Rows.boot_tuple) ma_n)) g_isinstance)))
 (mb_one (ms_ret me_bl))
 mb_nil)
 (mb_cons (ms_set 2 sc_is_dated_of.nd (me_neg me_int))
 (mb_cons (ms_for (passes_of rfl) rfl (mi_e (me_v 1)) (mg_name 3 sc_is_dated_of.nd)
 (mb_cons (ms_if (MW.mt (mw_or (mt_not (mt_val (me_cB c_isiT n_isiT PyProof.Rows.boot_isinstance (ma_c (me_v 3) (ma_c (me_ty g_tuple PyProof.Rows.boot_tuple) ma_n)) g_isinstance))) (mw_o1 (mt_cmp (o_ne (hu_room hr)) n_ne (me_cB c_len n_len boot_len (ma_c (me_v 3) ma_n) g_len) me_int (by first | exact nomark _ | rfl)))))
 (mb_one (ms_ret me_bl))
 mb_nil)
 (mb_cons (ms_asg (me_v 3) (mg_tup 2 rfl (mgs_cons (mg_name 4 sc_is_dated_of.nd) (mgs_cons (mg_name 5 sc_is_dated_of.nd) mgs_nil))))
 (mb_cons (ms_if (MW.mt (mw_or (mt_not (mt_val (me_call o_is_whole (hr.mono (by decide)) (takes_of rfl rfl rfl rfl) (ma_c (me_v 4) ma_n)))) (mw_o1 (mt_not (mt_val (me_call o_is_whole (hr.mono (by decide)) (takes_of rfl rfl rfl rfl) (ma_c (me_v 5) ma_n)))))))
 (mb_one (ms_ret me_bl))
 mb_nil)
 (mb_cons (ms_if (MW.mt (mw_or (mt_not (mt_chain o_lt iT_nox o_lt iT_nox (me_v 2) (me_v 4) (me_cB c_len n_len boot_len (ma_c (me_at a_lives (me_v 0)) ma_n) g_len))) (mw_o1 (mt_not (mt_chain o_le iT_nox o_le iT_nox me_int (me_v 5) (me_ix (hu_room hr) (me_at a_lives (me_v 0)) (me_v 4)))))))
 (mb_one (ms_ret me_bl))
 mb_nil)
 (mb_one (ms_set 2 sc_is_dated_of.nd (me_v 4))))))))
 (mb_one (ms_ret me_bl)))))
abbrev s_bringing : Stmt := top 25
theorem sc_bringing : FnScope ["trade", "dated", "ahead", "deeds", "left", "offer", "days"] ["trade", "dated"] (defScope s_bringing) := ⟨rfl, rfl, rfl, by decide +kernel, rfl, by decide +kernel, by decide +kernel⟩
def L_bringing_1 : SM := (sSeq (sDrop (emBm "list" exT (vr 3) (ac (lcM lstK (itE (vr 2)) (gmT 2 (gmCons (gmN 6) (gmCons (gmN 5) gmNil))) (tmOf (emOp eqT (vr 6) (vr 4))) (emT (ac (cst (.str ("come" : Str))) (ac (vr 5) an))) [6, 5]) an)))
 (sSeq (sIf (tmOf (emOp gtT (vr 4) (cst (.int 0))))
 (sDrop (emBm "list" apT (vr 3) (ac (emT (ac (cst (.str ("day" : Str))) an)) an)))
 sNx)
 (sSet 4 (emOp subT (vr 4) (cst (.int 1))))))
def L_bringing_2 : TM := (tmOf (emOp geT (vr 4) (cst (.int 0))))
def B_bringing (m_is_dated_of : FM) : SM := (sSeq (sIf (tNo (tmOf (emCall (arg 2 m_is_dated_of) (ac (vr 0) (ac (vr 1) an)))))
 (sRaise ("BadDated" : Str) [("thing" : Str)] (ac (vr 1) an))
 sNx)
 (sSeq (sSet 2 (lcM lstK (itE (vr 1)) (gmT 2 (gmCons (gmN 5) (gmCons (gmN 6) gmNil))) tYes (emT (ac (emOp subT (emOp ixT (em1 (atT [("Trade" : Str)] ("lives" : Str)) (vr 0)) (vr 5)) (vr 6)) (ac (vr 5) an))) [5, 6]))
 (sSeq (sAsg (gmT 2 (gmCons (gmN 3) (gmCons (gmN 4) gmNil))) (emT (ac (emL lstL an) (ac (emCall maxF (ac (emOp (adT lstK) (emL lstK (ac (cst (.int 0)) an)) (lcM lstK (itE (vr 2)) (gmT 2 (gmCons (gmN 6) (gmCons (gmN 5) gmNil))) tYes (vr 6) [6, 5])) an)) an))))
 (sSeq (whS (L_bringing_2)
 (L_bringing_1) 1000000)
 (sRet (emCall tupF (ac (vr 3) an)))))))
def b_bringing : SM := B_bringing m_is_dated_of
def m_bringing : FM := pur (reg (fnB 7 b_bringing))
theorem w_bringing {f : Addr} {fd : FuncData} (F : FunD K "bringing" "bringing" (defArgs s_bringing) (defBody s_bringing) (defScope s_bringing) [] [] f fd) (o_is_dated_of : Own P w K mg base cl 2 ("is_dated_of" : Str) 2 m_is_dated_of) (x_BadDated : Xr P w K mg base cl ("BadDated" : Str) [("thing" : Str)]) (a_lives : AtOk K cl [("Trade" : Str)] ("lives" : Str)) (g_max : mg ("max" : Str) = none) (g_tuple : mg ("tuple" : Str) = none) : FnOk P w K mg base (L2.CX P w) 3 f fd ["trade", "dated"] (spM ⟨P, w, K, cl⟩ 2 m_bringing) := by
  refine fn_pur (fn_reg (fn_ok (k := 2) (N := ["trade", "dated", "ahead", "deeds", "left", "offer", "days"]) (ps := ["trade", "dated"]) (b := b_bringing) F sc_bringing fun cdv A outer s H E hcdv hr => ?_))
  unfold b_bringing B_bringing L_bringing_2 L_bringing_1
  exact (mb_cons (ms_if (mt_not (mt_val (me_call o_is_dated_of (hr.mono (by decide)) (takes_of rfl rfl rfl rfl) (ma_c (me_v 0) (ma_c (me_v 1) ma_n)))))
 (mb_one (ms_raise x_BadDated (by decide) rfl (hr.mono (by decide)) (takes_of rfl rfl rfl rfl) (ma_c (me_v 1) ma_n)))
 mb_nil)
 (mb_cons (ms_setLc 2 lK rfl sc_bringing.nd (blkOk_by (own := [("offer", 5), ("days", 6)]) (by first | rfl | decide +kernel)) (mi_e (me_v 1)) (by decide) (fun _ _ _ _ _ => (mg_tup 2 rfl (mgs_cons (mg_name 5 sc_bringing.nd) (mgs_cons (mg_name 6 sc_bringing.nd) mgs_nil)))) (fun _ _ _ _ _ => mts_nil) (fun _ _ _ _ _ => (me_tup (ma_c (me_op o_sub iT_nox (me_ix (hu_room hr) (me_at a_lives (me_v 0)) (me_v 5)) (me_v 6)) (ma_c (me_v 5) ma_n)))))
 (mb_cons (ms_asg (me_tup (ma_c (me_lst lL ma_n) (ma_c (me_cB (c_max rfl) n_ext PyProof.Rows.boot_max (ma_c (me_op (o_ad lK) (n_ad lK) (me_lst lK (ma_c me_int ma_n)) (me_lc lK rfl sc_bringing.nd (blkOk_by (own := [("days", 6), ("offer", 5)]) (by first | rfl | decide +kernel)) (mi_e (me_v 2)) (by decide) (fun _ _ _ _ _ => (mg_tup 2 rfl (mgs_cons (mg_name 6 sc_bringing.nd) (mgs_cons (mg_name 5 sc_bringing.nd) mgs_nil)))) (fun _ _ _ _ _ => mts_nil) (fun _ _ _ _ _ => (me_v 6)))) ma_n) g_max) ma_n))) (mg_tup 2 rfl (mgs_cons (mg_name 3 sc_bringing.nd) (mgs_cons (mg_name 4 sc_bringing.nd) mgs_nil))))
 (mb_cons (ms_while 1000000 (passes_of rfl) (mt_cmp o_ge iT_nox (me_v 4) me_int (by first | exact nomark _ | rfl))
 (mb_cons (ms_expr (me_bm PySem.F.plainAttrs_list PySem.F.slot_list_extend PySem.F.type_list_extend mm_ex n_ex (me_v 3) (ma_c (me_lc lK rfl sc_bringing.nd (blkOk_by (own := [("days", 6), ("offer", 5)]) (by first | rfl | decide +kernel)) (mi_e (me_v 2)) (by decide) (fun _ _ _ _ _ => (mg_tup 2 rfl (mgs_cons (mg_name 6 sc_bringing.nd) (mgs_cons (mg_name 5 sc_bringing.nd) mgs_nil)))) (fun _ _ _ _ _ => (mts_one (mt_cmp (o_eq (hu_room hr)) n_eq (me_v 6) (me_v 4) (by first | exact nomark _ | rfl)))) (fun _ _ _ _ _ => (me_tup (ma_c me_str (ma_c (me_v 5) ma_n))))) ma_n)))
 (mb_cons (ms_if (mt_cmp o_gt iT_nox (me_v 4) me_int (by first | exact nomark _ | rfl))
 (mb_one (ms_expr (me_bm PySem.F.plainAttrs_list PySem.F.slot_list_append PySem.F.type_list_append mm_ap n_ap (me_v 3) (ma_c (me_tup (ma_c me_str ma_n)) ma_n))))
 mb_nil)
 (mb_one (ms_set 4 sc_bringing.nd (me_op o_sub iT_nox (me_v 4) me_int))))))
 (mb_one (ms_ret (me_cT c_tup n_tup PyProof.Rows.boot_tuple (ma_c (me_v 3) ma_n) g_tuple)))))))
abbrev s_is_deed : Stmt := top 18
theorem sc_is_deed : FnScope ["trade", "thing", "word", "offer"] ["trade", "thing"] (defScope s_is_deed) := ⟨rfl, rfl, rfl, by decide +kernel, rfl, by decide +kernel, by decide +kernel⟩
def B_is_deed (m_is_whole : FM) : SM := (sSeq (sIf (tOrr (tNo (tmOf (emCall isiTF (ac (vr 1) (ac (cst (.ty "tuple")) an))))) (tNo (tmOf (emCh leT leT (cst (.int 1)) (emCall lenF (ac (vr 1) an)) (cst (.int 2))))))
 (sRet (cst (.bl false)))
 sNx)
 (sSeq (sIf (tmOf (emOp eqT (emCall lenF (ac (vr 1) an)) (cst (.int 1))))
 (sRet (emOp eqT (emOp ixT (vr 1) (cst (.int 0))) (cst (.str ("day" : Str)))))
 sNx)
 (sSeq (sAsg (gmT 2 (gmCons (gmN 2) (gmCons (gmN 3) gmNil))) (vr 1))
 (sSeq (sIf (tOrr (tNo (tmOf (emCall (arg 1 m_is_whole) (ac (vr 3) an)))) (tNo (tmOf (emCh leT ltT (cst (.int 0)) (vr 3) (emCall lenF (ac (em1 (atT [("Trade" : Str)] ("lives" : Str)) (vr 0)) an))))))
 (sRet (cst (.bl false)))
 sNx)
 (sRet (eOr (emOp eqT (vr 2) (cst (.str ("come" : Str)))) (eAn (emOp eqT (vr 2) (cst (.str ("gone" : Str)))) (emOp (inT false) (vr 3) (em1 (atT [("Trade" : Str)] ("loose" : Str)) (vr 0))))))))))
def b_is_deed : SM := B_is_deed m_is_whole
def m_is_deed : FM := pur (reg (fnB 4 b_is_deed))
theorem w_is_deed {f : Addr} {fd : FuncData} (F : FunD K "is_deed" "is_deed" (defArgs s_is_deed) (defBody s_is_deed) (defScope s_is_deed) [] [] f fd) (g_isinstance : mg ("isinstance" : Str) = none) (g_tuple : mg ("tuple" : Str) = none) (g_len : mg ("len" : Str) = none) (o_is_whole : Own P w K mg base cl 1 ("is_whole" : Str) 1 m_is_whole) (a_lives : AtOk K cl [("Trade" : Str)] ("lives" : Str)) (a_loose : AtOk K cl [("Trade" : Str)] ("loose" : Str)) : FnOk P w K mg base (L2.CX P w) 2 f fd ["trade", "thing"] (spM ⟨P, w, K, cl⟩ 2 m_is_deed) := by
  refine fn_pur (fn_reg (fn_ok (k := 1) (N := ["trade", "thing", "word", "offer"]) (ps := ["trade", "thing"]) (b := b_is_deed) F sc_is_deed fun cdv A outer s H E hcdv hr => ?_))
  unfold b_is_deed B_is_deed
  exact (mb_cons (ms_if (MW.mt (mw_or (mt_not (mt_val (me_cB c_isiT n_isiT PyProof.Rows.boot_isinstance (ma_c (me_v 1) (ma_c (me_ty g_tuple PyProof.Rows.boot_tuple) ma_n)) g_isinstance))) (mw_o1 (mt_not (mt_chain o_le iT_nox o_le iT_nox me_int (me_cB c_len n_len boot_len (ma_c (me_v 1) ma_n) g_len) me_int)))))
 (mb_one (ms_ret me_bl))
 mb_nil)
 (mb_cons (ms_if (mt_cmp (o_eq (hu_room hr)) n_eq (me_cB c_len n_len boot_len (ma_c (me_v 1) ma_n) g_len) me_int (by first | exact nomark _ | rfl))
 (mb_one (ms_ret (me_cmp (o_eq (hu_room hr)) n_eq (me_ix (hu_room hr) (me_v 1) me_int) me_str (by first | exact nomark _ | rfl))))
 mb_nil)
 (mb_cons (ms_asg (me_v 1) (mg_tup 2 rfl (mgs_cons (mg_name 2 sc_is_deed.nd) (mgs_cons (mg_name 3 sc_is_deed.nd) mgs_nil))))
 (mb_cons (ms_if (MW.mt (mw_or (mt_not (mt_val (me_call o_is_whole (hr.mono (by decide)) (takes_of rfl rfl rfl rfl) (ma_c (me_v 3) ma_n)))) (mw_o1 (mt_not (mt_chain o_le iT_nox o_lt iT_nox me_int (me_v 3) (me_cB c_len n_len boot_len (ma_c (me_at a_lives (me_v 0)) ma_n) g_len))))))
 (mb_one (ms_ret me_bl))
 mb_nil)
 (mb_one (ms_ret (me_or (me_cmp (o_eq (hu_room hr)) n_eq (me_v 2) me_str (by first | exact nomark _ | rfl)) (me_b1 (me_and (me_cmp (o_eq (hu_room hr)) n_eq (me_v 2) me_str (by first | exact nomark _ | rfl)) (me_b1 (me_cmp (o_in (hu_room hr)) n_in (me_v 3) (me_at a_loose (me_v 0)) (by first | exact nomark _ | rfl))))))))))))
abbrev s_is_stream : Stmt := top 19
theorem sc_is_stream : FnScope ["trade", "thing", "deed"] ["trade", "thing"] (defScope s_is_stream) := ⟨rfl, rfl, rfl, by decide +kernel, rfl, by decide +kernel, by decide +kernel⟩
def L_is_stream_1 (m_is_deed : FM) : SM := (sIf (tNo (tmOf (emCall (arg 2 m_is_deed) (ac (vr 0) (ac (vr 2) an)))))
 (sRet (cst (.bl false)))
 sNx)
def B_is_stream (m_is_deed : FM) : SM := (sSeq (sIf (tNo (tmOf (emCall isiTF (ac (vr 1) (ac (cst (.ty "tuple")) an)))))
 (sRet (cst (.bl false)))
 sNx)
 (sSeq (sFor (itE (vr 1)) (gmN 2)
 (L_is_stream_1 m_is_deed))
 (sRet (cst (.bl true)))))
def b_is_stream : SM := B_is_stream m_is_deed
def m_is_stream : FM := pur (reg (fnB 3 b_is_stream))
theorem w_is_stream {f : Addr} {fd : FuncData} (F : FunD K "is_stream" "is_stream" (defArgs s_is_stream) (defBody s_is_stream) (defScope s_is_stream) [] [] f fd) (g_isinstance : mg ("isinstance" : Str) = none) (g_tuple : mg ("tuple" : Str) = none) (o_is_deed : Own P w K mg base cl 2 ("is_deed" : Str) 2 m_is_deed) : FnOk P w K mg base (L2.CX P w) 3 f fd ["trade", "thing"] (spM ⟨P, w, K, cl⟩ 2 m_is_stream) := by
  refine fn_pur (fn_reg (fn_ok (k := 2) (N := ["trade", "thing", "deed"]) (ps := ["trade", "thing"]) (b := b_is_stream) F sc_is_stream fun cdv A outer s H E hcdv hr => ?_))
  unfold b_is_stream B_is_stream L_is_stream_1
  exact (mb_cons (ms_if (mt_not (mt_val (me_cB c_isiT n_isiT PyProof.Rows.boot_isinstance (ma_c (me_v 1) (ma_c (me_ty g_tuple PyProof.Rows.boot_tuple) ma_n)) g_isinstance)))
 (mb_one (ms_ret me_bl))
 mb_nil)
 (mb_cons (ms_for (passes_of rfl) rfl (mi_e (me_v 1)) (mg_name 2 sc_is_stream.nd)
 (mb_one (ms_if (mt_not (mt_val (me_call o_is_deed (hr.mono (by decide)) (takes_of rfl rfl rfl rfl) (ma_c (me_v 0) (ma_c (me_v 2) ma_n)))))
 (mb_one (ms_ret me_bl))
 mb_nil)))
 (mb_one (ms_ret me_bl))))
abbrev s_stream_check : Stmt := top 23
theorem sc_stream_check : FnScope ["trade", "stream", "start"] ["trade", "stream", "start"] (defScope s_stream_check) := ⟨rfl, rfl, rfl, by decide +kernel, rfl, by decide +kernel, by decide +kernel⟩
def B_stream_check (m_is_dated_of : FM) (m_is_stream : FM) : SM := (sSeq (sIf (tNo (tmOf (emCall (arg 2 m_is_dated_of) (ac (vr 0) (ac (vr 2) an)))))
 (sRaise ("BadDated" : Str) [("thing" : Str)] (ac (vr 2) an))
 sNx)
 (sIf (tNo (tmOf (emCall (arg 2 m_is_stream) (ac (vr 0) (ac (vr 1) an)))))
 (sRaise ("BadStream" : Str) [("thing" : Str)] (ac (vr 1) an))
 sNx))
def b_stream_check : SM := B_stream_check m_is_dated_of m_is_stream
def m_stream_check : FM := pur (reg (fnB 3 b_stream_check))
theorem w_stream_check {f : Addr} {fd : FuncData} (F : FunD K "stream_check" "stream_check" (defArgs s_stream_check) (defBody s_stream_check) (defScope s_stream_check) [] [] f fd) (o_is_dated_of : Own P w K mg base cl 2 ("is_dated_of" : Str) 2 m_is_dated_of) (x_BadDated : Xr P w K mg base cl ("BadDated" : Str) [("thing" : Str)]) (o_is_stream : Own P w K mg base cl 3 ("is_stream" : Str) 2 m_is_stream) (x_BadStream : Xr P w K mg base cl ("BadStream" : Str) [("thing" : Str)]) : FnOk P w K mg base (L2.CX P w) 4 f fd ["trade", "stream", "start"] (spM ⟨P, w, K, cl⟩ 3 m_stream_check) := by
  refine fn_pur (fn_reg (fn_ok (k := 3) (N := ["trade", "stream", "start"]) (ps := ["trade", "stream", "start"]) (b := b_stream_check) F sc_stream_check fun cdv A outer s H E hcdv hr => ?_))
  unfold b_stream_check B_stream_check
  exact (mb_cons (ms_if (mt_not (mt_val (me_call o_is_dated_of (hr.mono (by decide)) (takes_of rfl rfl rfl rfl) (ma_c (me_v 0) (ma_c (me_v 2) ma_n)))))
 (mb_one (ms_raise x_BadDated (by decide) rfl (hr.mono (by decide)) (takes_of rfl rfl rfl rfl) (ma_c (me_v 2) ma_n)))
 mb_nil)
 (mb_one (ms_if (mt_not (mt_val (me_call o_is_stream (hr.mono (by decide)) (takes_of rfl rfl rfl rfl) (ma_c (me_v 0) (ma_c (me_v 1) ma_n)))))
 (mb_one (ms_raise x_BadStream (by decide) rfl (hr.mono (by decide)) (takes_of rfl rfl rfl rfl) (ma_c (me_v 1) ma_n)))
 mb_nil)))
abbrev s_behind : Stmt := top 21
theorem sc_behind : FnScope ["trade", "dated", "deed", "rest", "pair", "offer", "days"] ["trade", "dated", "deed"] (defScope s_behind) := ⟨rfl, rfl, rfl, by decide +kernel, rfl, by decide +kernel, by decide +kernel⟩
def B_behind : SM := (sSeq (sIf (tmOf (emOp eqT (emOp ixT (vr 2) (cst (.int 0))) (cst (.str ("day" : Str)))))
 (sRet (emCall tupF (ac (lcM lstK (itE (vr 1)) (gmT 2 (gmCons (gmN 5) (gmCons (gmN 6) gmNil))) (tmOf (emOp gtT (vr 6) (cst (.int 1)))) (emT (ac (vr 5) (ac (emOp subT (vr 6) (cst (.int 1))) an))) [5, 6]) an)))
 sNx)
 (sSeq (sSet 3 (lcM lstL (itE (vr 1)) (gmN 4) (tmOf (emOp neT (emOp ixT (vr 4) (cst (.int 0))) (emOp ixT (vr 2) (cst (.int 1))))) (vr 4) [4]))
 (sSeq (sIf (tmOf (emOp eqT (emOp ixT (vr 2) (cst (.int 0))) (cst (.str ("come" : Str)))))
 (sDrop (emBm "list" apT (vr 3) (ac (emT (ac (emOp ixT (vr 2) (cst (.int 1))) (ac (emOp ixT (em1 (atT [("Trade" : Str)] ("lives" : Str)) (vr 0)) (emOp ixT (vr 2) (cst (.int 1)))) an))) an)))
 sNx)
 (sRet (emCall tupF (ac (emCall (sortPF lstK) (ac (vr 3) an)) an))))))
def b_behind : SM := B_behind 
def m_behind : FM := pur (reg (fnB 7 b_behind))
theorem w_behind {f : Addr} {fd : FuncData} (F : FunD K "behind" "behind" (defArgs s_behind) (defBody s_behind) (defScope s_behind) [] [] f fd) (g_tuple : mg ("tuple" : Str) = none) (a_lives : AtOk K cl [("Trade" : Str)] ("lives" : Str)) (g_sorted : mg ("sorted" : Str) = none) : FnOk P w K mg base (L2.CX P w) 1 f fd ["trade", "dated", "deed"] (spM ⟨P, w, K, cl⟩ 3 m_behind) := by
  refine fn_pur (fn_reg (fn_ok (k := 0) (N := ["trade", "dated", "deed", "rest", "pair", "offer", "days"]) (ps := ["trade", "dated", "deed"]) (b := b_behind) F sc_behind fun cdv A outer s H E hcdv hr => ?_))
  unfold b_behind B_behind
  exact (mb_cons (ms_if (mt_cmp (o_eq (hu_room hr)) n_eq (me_ix (hu_room hr) (me_v 2) me_int) me_str (by first | exact nomark _ | rfl))
 (mb_one (ms_ret (me_cT c_tup n_tup PyProof.Rows.boot_tuple (ma_c (me_lc lK rfl sc_behind.nd (blkOk_by (own := [("offer", 5), ("days", 6)]) (by first | rfl | decide +kernel)) (mi_e (me_v 1)) (by decide) (fun _ _ _ _ _ => (mg_tup 2 rfl (mgs_cons (mg_name 5 sc_behind.nd) (mgs_cons (mg_name 6 sc_behind.nd) mgs_nil)))) (fun _ _ _ _ _ => (mts_one (mt_cmp o_gt iT_nox (me_v 6) me_int (by first | exact nomark _ | rfl)))) (fun _ _ _ _ _ => (me_tup (ma_c (me_v 5) (ma_c (me_op o_sub iT_nox (me_v 6) me_int) ma_n))))) ma_n) g_tuple)))
 mb_nil)
 (mb_cons (ms_setLc 3 lL rfl sc_behind.nd (blkOk_by (own := [("pair", 4)]) (by first | rfl | decide +kernel)) (mi_e (me_v 1)) (by decide) (fun _ _ _ _ _ => (mg_name 4 sc_behind.nd)) (fun _ _ _ _ _ => (mts_one (mt_cmp (o_ne (hu_room hr)) n_ne (me_ix (hu_room hr) (me_v 4) me_int) (me_ix (hu_room hr) (me_v 2) me_int) (by first | exact nomark _ | rfl)))) (fun _ _ _ _ _ => (me_v 4)))
 (mb_cons (ms_if (mt_cmp (o_eq (hu_room hr)) n_eq (me_ix (hu_room hr) (me_v 2) me_int) me_str (by first | exact nomark _ | rfl))
 (mb_one (ms_expr (me_bm PySem.F.plainAttrs_list PySem.F.slot_list_append PySem.F.type_list_append mm_ap n_ap (me_v 3) (ma_c (me_tup (ma_c (me_ix (hu_room hr) (me_v 2) me_int) (ma_c (me_ix (hu_room hr) (me_at a_lives (me_v 0)) (me_ix (hu_room hr) (me_v 2) me_int)) ma_n))) ma_n))))
 mb_nil)
 (mb_one (ms_ret (me_cT c_tup n_tup PyProof.Rows.boot_tuple (ma_c (me_cB (c_sortP lK) (n_sortP lK) PyProof.Rows.boot_sorted (ma_c (me_v 3) ma_n) g_sorted) ma_n) g_tuple))))))
abbrev s_stood_behind : Stmt := top 22
theorem sc_stood_behind : FnScope ["trade", "dated", "stream", "deed"] ["trade", "dated", "stream"] (defScope s_stood_behind) := ⟨rfl, rfl, rfl, by decide +kernel, rfl, by decide +kernel, by decide +kernel⟩
def L_stood_behind_1 (m_behind : FM) : SM := (sSet 1 (emCall (arg 3 m_behind) (ac (vr 0) (ac (vr 1) (ac (vr 3) an)))))
def B_stood_behind (m_behind : FM) : SM := (sSeq (sFor (itE (vr 2)) (gmN 3)
 (L_stood_behind_1 m_behind))
 (sRet (vr 1)))
def b_stood_behind : SM := B_stood_behind m_behind
def m_stood_behind : FM := pur (reg (fnB 4 b_stood_behind))
theorem w_stood_behind {f : Addr} {fd : FuncData} (F : FunD K "stood_behind" "stood_behind" (defArgs s_stood_behind) (defBody s_stood_behind) (defScope s_stood_behind) [] [] f fd) (o_behind : Own P w K mg base cl 1 ("behind" : Str) 3 m_behind) : FnOk P w K mg base (L2.CX P w) 2 f fd ["trade", "dated", "stream"] (spM ⟨P, w, K, cl⟩ 3 m_stood_behind) := by
  refine fn_pur (fn_reg (fn_ok (k := 1) (N := ["trade", "dated", "stream", "deed"]) (ps := ["trade", "dated", "stream"]) (b := b_stood_behind) F sc_stood_behind fun cdv A outer s H E hcdv hr => ?_))
  unfold b_stood_behind B_stood_behind L_stood_behind_1
  exact (mb_cons (ms_for (passes_of rfl) rfl (mi_e (me_v 2)) (mg_name 3 sc_stood_behind.nd)
 (mb_one (ms_set 1 sc_stood_behind.nd (me_call o_behind (hr.mono (by decide)) (takes_of rfl rfl rfl rfl) (ma_c (me_v 0) (ma_c (me_v 1) (ma_c (me_v 3) ma_n)))))))
 (mb_one (ms_ret (me_v 1))))
abbrev s_stands : Stmt := top 24
theorem sc_stands : FnScope ["trade", "stream", "start"] ["trade", "stream", "start"] (defScope s_stands) := ⟨rfl, rfl, rfl, by decide +kernel, rfl, by decide +kernel, by decide +kernel⟩
def B_stands (m_stream_check : FM) (m_stood_behind : FM) : SM := (sSeq (sDrop (emCall (arg 3 m_stream_check) (ac (vr 0) (ac (vr 1) (ac (vr 2) an)))))
 (sRet (emCall (arg 3 m_stood_behind) (ac (vr 0) (ac (vr 2) (ac (vr 1) an))))))
def b_stands : SM := B_stands m_stream_check m_stood_behind
def m_stands : FM := pur (reg (fnB 3 b_stands))
theorem w_stands {f : Addr} {fd : FuncData} {kws : List (Str × V)} (F : FunD K "stands" "stands" (defArgs s_stands) (defBody s_stands) (defScope s_stands) [] kws f fd) (o_stream_check : Own P w K mg base cl 4 ("stream_check" : Str) 3 m_stream_check) (o_stood_behind : Own P w K mg base cl 2 ("stood_behind" : Str) 3 m_stood_behind) : FnOk P w K mg base (L2.CX P w) 5 f fd ["trade", "stream", "start"] (spM ⟨P, w, K, cl⟩ 3 m_stands) := by
  refine fn_pur (fn_reg (fn_ok (k := 4) (N := ["trade", "stream", "start"]) (ps := ["trade", "stream", "start"]) (b := b_stands) F sc_stands fun cdv A outer s H E hcdv hr => ?_))
  unfold b_stands B_stands
  exact (mb_cons (ms_expr (me_call o_stream_check (hr.mono (by decide)) (takes_of rfl rfl rfl rfl) (ma_c (me_v 0) (ma_c (me_v 1) (ma_c (me_v 2) ma_n)))))
 (mb_one (ms_ret (me_call o_stood_behind (hr.mono (by decide)) (takes_of rfl rfl rfl rfl) (ma_c (me_v 0) (ma_c (me_v 2) (ma_c (me_v 1) ma_n)))))))
abbrev s_law : Stmt := top 32
theorem sc_law : FnScope ["_law_script", "_law_deck_here", "_law_n", "_law_lives", "_law_loose", "_law_many", "_law_life", "_law_dated", "_law_odd", "_law_thing", "_law_trade", "_law_first", "_law_told_here", "_law_waits", "_law_x", "_law_days"] ["_law_script"] (defScope s_law) := ⟨rfl, rfl, rfl, by decide +kernel, rfl, by decide +kernel, by decide +kernel⟩
abbrev o_stands_2_ : List T → List T → List T := fun xs zs => perm [0, 1, 2] xs [.ktup []] zs
def ou_bringing_0_trade_dated {α : Type} : List α → List α → List α := fun a b => match a, b with
  | [], [z0, z1] => [z0, z1]
  | _, _ => []
abbrev o_bringing_0_trade_dated : List T → List T → List T := ou_bringing_0_trade_dated
def L_law_1 : SM := (sSet 5 (emOp mulT (vr 5) (emOp (adT lstK) (vr 6) (cst (.int 1)))))
def L_law_2 (m_bringing : FM) (m_stands : FM) : SM := (sSeq (sPar2 12 13 (ac (emCall (arg 2 m_bringing) (ac (vr 10) (ac (vr 7) an))) (ac (lcM lstK (itE (vr 7)) (gmT 2 (gmCons (gmN 14) (gmCons (gmN 15) gmNil))) tYes (emOp subT (emOp ixT (vr 3) (vr 14)) (vr 15)) [14, 15]) an)))
 (sSeq (sIf (tmOf (emOp neT (emCall lenF (ac (vr 12) an)) (emOp (adT lstK) (emCall lenF (ac (vr 7) an)) (emCall maxF (ac (emOp (adT lstK) (vr 13) (emL lstK (ac (cst (.int 0)) an))) an)))))
 (sRet (cst (.bl false)))
 sNx)
 (sIf (tOrr (tmOf (emOp neT (vr 12) (emOp ixNF (vr 11) (vr 7)))) (tmOf (emOp neT (emCallK 2 0 o_stands_2_ (arg 3 m_stands) (ac (vr 10) (ac (vr 12) an)) an) (vr 7))))
 (sRet (cst (.bl false)))
 sNx)))
def B_law (m__law_deck : FM) (m__law_draw : FM) (m_Trade___init__ : FM) (m__law_all_first : FM) (m_bringing : FM) (m_stands : FM) (tb__law_told : EM → SM) : SM := (sSeq (sSet 1 (emCall (arg 1 m__law_deck) (ac (vr 0) an)))
 (sSeq (sSet 2 (emOp (adT lstK) (cst (.int 1)) (emCall (arg 2 m__law_draw) (ac (vr 1) (ac (cst (.int 3)) an)))))
 (sSeq (sSet 3 (emCall tupF (ac (lcM lstK (itR1 (ac (vr 2) an)) (gmN 14) tYes (eIf (tmOf (emOp ltT (vr 2) (cst (.int 3)))) (emOp ixT (emL lstK (ac (cst (.int 1)) (ac (cst (.int 2)) (ac (cst (.int 2)) (ac (cst (.int 3)) an))))) (emCall (arg 2 m__law_draw) (ac (vr 1) (ac (cst (.int 4)) an)))) (emOp (adT lstK) (cst (.int 1)) (emCall (arg 2 m__law_draw) (ac (vr 1) (ac (cst (.int 2)) an))))) [14]) an)))
 (sSeq (sSet 4 (emCall tupF (ac (lcM lstK (itR1 (ac (vr 2) an)) (gmN 14) (tmOf (emOp eqT (emCall (arg 2 m__law_draw) (ac (vr 1) (ac (cst (.int 2)) an))) (cst (.int 1)))) (vr 14) [14]) an)))
 (sSeq (sAsg (gmT 2 (gmCons (gmN 10) (gmCons (gmN 11) gmNil))) (emT (ac (regE (emMk ("Trade" : Str) 2 m_Trade___init__ (ac (vr 3) (ac (vr 4) an)))) (ac (emCall (arg 2 m__law_all_first) (ac (vr 3) (ac (vr 4) an))) an))))
 (sSeq (sSet 5 (cst (.int 1)))
 (sSeq (sFor (itE (vr 3)) (gmN 6)
 (L_law_1))
 (sSeq (sIf (tmOf (emOp neT (emCall (lenNF lenF) (ac (vr 11) an)) (vr 5)))
 (sRet (cst (.bl false)))
 sNx)
 (sSeq (sFor (itE (emCall (sortNF lstK) (ac (vr 11) an))) (gmN 7)
 (L_law_2 m_bringing m_stands))
 (sSeq (sSet 8 (emL lstK (ac (emT (ac (emT (ac (cst (.int 0)) (ac (emOp (adT lstK) (emOp ixT (vr 3) (cst (.int 0))) (cst (.int 1))) an))) an)) (ac (emT (ac (emT (ac (vr 2) (ac (cst (.int 1)) an))) an)) (ac (cst .non) (ac (cst (.int 7)) (ac (emT (ac (emT (ac (cst (.int 0)) (ac (cst (.bl true)) an))) an)) (ac (emL lstK an) (ac (emT (ac (emT (ac (cst (.int 0)) (ac (cst (.int 0)) an))) an)) (ac (emT (ac (cst (.int 0)) (ac (cst (.int 1)) an))) (ac (emT (ac (emT (ac (cst (.int 0)) (ac (cst (.int 1)) an))) (ac (emT (ac (cst (.int 0)) (ac (cst (.int 1)) an))) an))) (ac (cst (.str ("()" : Str))) an))))))))))))
 (sSeq (sSet 9 (emOp ixT (vr 8) (emCall (arg 2 m__law_draw) (ac (vr 1) (ac (cst (.int 10)) an)))))
 (sRet (emOp eqT (emTold 3 tb__law_told (emCallK 0 2 o_bringing_0_trade_dated (arg 2 m_bringing) an (ac (vr 10) (ac (vr 9) an)))) (emL lstK (ac (vr 9) an)))))))))))))))
def b_law : SM := B_law m__law_deck m__law_draw m_Trade___init__ m__law_all_first m_bringing m_stands tb__law_told
def m_law : FM := pur (reg (fnB 16 b_law))
theorem w_law {f : Addr} {fd : FuncData} (F : FunD K "law" "law" (defArgs s_law) (defBody s_law) (defScope s_law) [] [] f fd) (o__law_deck : Own P w K mg base cl 1 ("_law_deck" : Str) 1 m__law_deck) (o__law_draw : Own P w K mg base cl 1 ("_law_draw" : Str) 2 m__law_draw) (g_tuple : mg ("tuple" : Str) = none) (g_range : mg ("range" : Str) = none) (k_mk_Trade : Mkr P w K mg base cl 3 ("Trade" : Str) 2 m_Trade___init__) (o__law_all_first : Own P w K mg base cl 2 ("_law_all_first" : Str) 2 m__law_all_first) (g_len : mg ("len" : Str) = none) (g_sorted : mg ("sorted" : Str) = none) (o_bringing : Own P w K mg base cl 3 ("bringing" : Str) 2 m_bringing) (g_max : mg ("max" : Str) = none) (ok_stands_2_ : OwnK P w K mg base cl 5 ("stands" : Str) 2 3 [] o_stands_2_ m_stands) (T__law_told : Told P w K mg base cl 1 ("_law_told" : Str) 3 tb__law_told) (ok_bringing_0_trade_dated : OwnK P w K mg base cl 3 ("bringing" : Str) 0 2 [("trade" : Str), ("dated" : Str)] o_bringing_0_trade_dated m_bringing) {c0 P0 : Addr} (hcode : fd.code = .ref c0) (TB : LamX.TabB base mg c0 P0) (hT : (P0, (("law" : Str) ++ ".<locals>.") ++ "<lambda>") ∈ cl.tabs) (hTu : ∀ p ∈ cl.tabs, p.1 = P0 → p.2 = (("law" : Str) ++ ".<locals>.") ++ "<lambda>") : FnOk P w K mg base (L2.CX P w) 6 f fd ["_law_script"] (spM ⟨P, w, K, cl⟩ 1 m_law) := by
  refine fn_pur (fn_reg (fn_ok (k := 5) (N := ["_law_script", "_law_deck_here", "_law_n", "_law_lives", "_law_loose", "_law_many", "_law_life", "_law_dated", "_law_odd", "_law_thing", "_law_trade", "_law_first", "_law_told_here", "_law_waits", "_law_x", "_law_days"]) (ps := ["_law_script"]) (b := b_law) F sc_law fun cdv A outer s H E hcdv hr => ?_))
  have hcd := hcdv.symm.trans hcode
  unfold b_law B_law L_law_2 L_law_1
  exact (mb_cons (ms_set 1 sc_law.nd (me_call o__law_deck (hr.mono (by decide)) (takes_of rfl rfl rfl rfl) (ma_c (me_v 0) ma_n)))
 (mb_cons (ms_set 2 sc_law.nd (me_op (o_ad lK) (n_ad lK) me_int (me_call o__law_draw (hr.mono (by decide)) (takes_of rfl rfl rfl rfl) (ma_c (me_v 1) (ma_c me_int ma_n)))))
 (mb_cons (ms_set 3 sc_law.nd (me_cT c_tup n_tup PyProof.Rows.boot_tuple (ma_c (me_lc lK rfl sc_law.nd (blkOk_by (own := [("_law_x", 14)]) (by first | rfl | decide +kernel)) (mi_r1 rfl g_range (ma_c (me_v 2) ma_n)) (by decide) (fun _ _ _ _ _ => (mg_name 14 sc_law.nd)) (fun _ _ _ _ _ => mts_nil) (fun _ _ _ _ _ => (me_if (mt_cmp o_lt iT_nox (me_v 2) me_int (by first | exact nomark _ | rfl)) (me_ix (hu_room hr) (me_lst lK (ma_c me_int (ma_c me_int (ma_c me_int (ma_c me_int ma_n))))) (me_call o__law_draw (hr.mono (by decide)) takes0 (ma_c (me_v 1) (ma_c me_int ma_n)))) (me_op (o_ad lK) (n_ad lK) me_int (me_call o__law_draw (hr.mono (by decide)) takes0 (ma_c (me_v 1) (ma_c me_int ma_n))))))) ma_n) g_tuple))
 (mb_cons (ms_set 4 sc_law.nd (me_cT c_tup n_tup PyProof.Rows.boot_tuple (ma_c (me_lc lK rfl sc_law.nd (blkOk_by (own := [("_law_x", 14)]) (by first | rfl | decide +kernel)) (mi_r1 rfl g_range (ma_c (me_v 2) ma_n)) (by decide) (fun _ _ _ _ _ => (mg_name 14 sc_law.nd)) (fun _ _ _ _ _ => (mts_one (mt_cmp (o_eq (hu_room hr)) n_eq (me_call o__law_draw (hr.mono (by decide)) takes0 (ma_c (me_v 1) (ma_c me_int ma_n))) me_int (by first | exact nomark _ | rfl)))) (fun _ _ _ _ _ => (me_v 14))) ma_n) g_tuple))
 (mb_cons (ms_asg (me_tup (ma_c (me_reg (me_make k_mk_Trade (hr.mono (by decide)) (takes_of rfl rfl rfl rfl) (ma_c (me_v 3) (ma_c (me_v 4) ma_n)))) (ma_c (me_call o__law_all_first (hr.mono (by decide)) (takes_of rfl rfl rfl rfl) (ma_c (me_v 3) (ma_c (me_v 4) ma_n))) ma_n))) (mg_tup 2 rfl (mgs_cons (mg_name 10 sc_law.nd) (mgs_cons (mg_name 11 sc_law.nd) mgs_nil))))
 (mb_cons (ms_set 5 sc_law.nd me_int)
 (mb_cons (ms_for (passes_of rfl) rfl (mi_e (me_v 3)) (mg_name 6 sc_law.nd)
 (mb_one (ms_set 5 sc_law.nd (me_op o_mul n_mul (me_v 5) (me_op (o_ad lK) (n_ad lK) (me_v 6) me_int)))))
 (mb_cons (ms_if (mt_cmp (o_ne (hu_room hr)) n_ne (me_cB (c_lenN c_len) (n_lenN n_len) boot_len (ma_c (me_v 11) ma_n) g_len) (me_v 5) (by first | exact nomark _ | rfl))
 (mb_one (ms_ret me_bl))
 mb_nil)
 (mb_cons (ms_for (passes_of rfl) rfl (mi_e (me_cB (c_sortN lK rfl (hu_room hr)) (n_sortN lK) PyProof.Rows.boot_sorted (ma_c (me_v 11) ma_n) g_sorted)) (mg_name 7 sc_law.nd)
 (mb_cons (ms_par2 12 13 rfl sc_law.nd (ma_c (me_call o_bringing (hr.mono (by decide)) (takes_of rfl rfl rfl rfl) (ma_c (me_v 10) (ma_c (me_v 7) ma_n))) (ma_c (me_lc lK rfl sc_law.nd (blkOk_by (own := [("_law_x", 14), ("_law_days", 15)]) (by first | rfl | decide +kernel)) (mi_e (me_v 7)) (by decide) (fun _ _ _ _ _ => (mg_tup 2 rfl (mgs_cons (mg_name 14 sc_law.nd) (mgs_cons (mg_name 15 sc_law.nd) mgs_nil)))) (fun _ _ _ _ _ => mts_nil) (fun _ _ _ _ _ => (me_op o_sub iT_nox (me_ix (hu_room hr) (me_v 3) (me_v 14)) (me_v 15)))) ma_n)))
 (mb_cons (ms_if (mt_cmp (o_ne (hu_room hr)) n_ne (me_cB c_len n_len boot_len (ma_c (me_v 12) ma_n) g_len) (me_op (o_ad lK) (n_ad lK) (me_cB c_len n_len boot_len (ma_c (me_v 7) ma_n) g_len) (me_cB (c_max rfl) n_ext PyProof.Rows.boot_max (ma_c (me_op (o_ad lK) (n_ad lK) (me_v 13) (me_lst lK (ma_c me_int ma_n))) ma_n) g_max)) (by first | exact nomark _ | rfl))
 (mb_one (ms_ret me_bl))
 mb_nil)
 (mb_one (ms_if (MW.mt (mw_or (mt_cmp (o_ne (hu_room hr)) n_ne (me_v 12) (me_ixN (hu_room hr) (me_v 11) (me_v 7)) (by first | exact nomark _ | rfl)) (mw_o1 (mt_cmp (o_ne (hu_room hr)) n_ne (me_callK (ks := []) ok_stands_2_ (hr.mono (by decide)) (takes_of rfl rfl rfl rfl) (ma_c (me_v 10) (ma_c (me_v 12) ma_n)) mk_n) (me_v 7) (by first | exact nomark _ | rfl)))))
 (mb_one (ms_ret me_bl))
 mb_nil)))))
 (mb_cons (ms_set 8 sc_law.nd (me_lst lK (ma_c (me_tup (ma_c (me_tup (ma_c me_int (ma_c (me_op (o_ad lK) (n_ad lK) (me_ix (hu_room hr) (me_v 3) me_int) me_int) ma_n))) ma_n)) (ma_c (me_tup (ma_c (me_tup (ma_c (me_v 2) (ma_c me_int ma_n))) ma_n)) (ma_c me_non (ma_c me_int (ma_c (me_tup (ma_c (me_tup (ma_c me_int (ma_c me_bl ma_n))) ma_n)) (ma_c (me_lst lK ma_n) (ma_c (me_tup (ma_c (me_tup (ma_c me_int (ma_c me_int ma_n))) ma_n)) (ma_c (me_tup (ma_c me_int (ma_c me_int ma_n))) (ma_c (me_tup (ma_c (me_tup (ma_c me_int (ma_c me_int ma_n))) (ma_c (me_tup (ma_c me_int (ma_c me_int ma_n))) ma_n))) (ma_c me_str ma_n))))))))))))
 (mb_cons (ms_set 9 sc_law.nd (me_ix (hu_room hr) (me_v 8) (me_call o__law_draw (hr.mono (by decide)) (takes_of rfl rfl rfl rfl) (ma_c (me_v 1) (ma_c me_int ma_n)))))
 (mb_one (ms_ret (me_cmp (o_eq (hu_room hr)) n_eq (me_told (T__law_told.mono (j := 4) (by decide)) (hr.mono (by decide)) (takes_of rfl rfl rfl rfl) TB hcd hT hTu (LamX.lamS_by (by show LamX.lamSB (defScope s_law) _ = true; decide +kernel)) (fun A outer s H E f c1 hr => (me_callK0 (ks := [("trade" : Str), ("dated" : Str)]) ok_bringing_0_trade_dated (hr.mono (by decide)) (takes_of rfl rfl rfl rfl) (mk_c (me_v 10) (mk_c (me_v 9) mk_n)))) (by decide)) (me_lst lK (ma_c (me_v 9) ma_n)) (by first | exact nomark _ | rfl)))))))))))))))
theorem kpair_bringing_0_trade_dated {vs : List V} {us : List Value} {zs : List V} {ws : List Value} (r1 : Vals vs us) (r2 : Vals zs ws) : Vals (ou_bringing_0_trade_dated vs zs) (ou_bringing_0_trade_dated us ws) := by
  unfold ou_bringing_0_trade_dated
  rcases r1 with _ | ⟨a0, r1⟩ <;> rcases r2 with _ | ⟨b0, r2⟩ <;> (try rcases r2 with _ | ⟨b1, r2⟩) <;> (try rcases r2 with _ | ⟨b2, r2⟩) <;> first | exact .nil | exact (Paired.cons (by assumption) (Paired.cons (by assumption) .nil))
theorem krs_bringing_0_trade_dated {G : Gx} {m : Ml} {H : Hp} {xs zs : List T} {vs ws : List V} (h1 : Rs G m H xs vs) (h2 : Rs G m H zs ws) (l1 : xs.length = 0) (l2 : zs.length = 2) : Rs G m H (o_bringing_0_trade_dated xs zs) (ou_bringing_0_trade_dated vs ws) := by
  match xs, zs, l1, l2, h1, h2 with
  | [], [z0, z1], _, _, h1, h2 =>
    obtain rfl := Rs.nil_iff.mp h1
    obtain ⟨vz0, _, rfl, rz0, h2⟩ := Rs.cons_iff.mp h2
    obtain ⟨vz1, _, rfl, rz1, h2⟩ := Rs.cons_iff.mp h2
    obtain rfl := Rs.nil_iff.mp h2
    exact (Rs.cons rz0 (Rs.cons rz1 Rs.nil))
def d__law_deck : He.DefD := ⟨("_law_deck", none), "_law_deck", "_law_deck", defArgs s__law_deck, defBody s__law_deck, defScope s__law_deck, [], []⟩
def d__law_draw : He.DefD := ⟨("_law_draw", none), "_law_draw", "_law_draw", defArgs s__law_draw, defBody s__law_draw, defScope s__law_draw, [], []⟩
def d_is_whole : He.DefD := ⟨("is_whole", none), "is_whole", "is_whole", defArgs s_is_whole, defBody s_is_whole, defScope s_is_whole, [], []⟩
def d_trade_lives_fit : He.DefD := ⟨("trade_lives_fit", none), "trade_lives_fit", "trade_lives_fit", defArgs s_trade_lives_fit, defBody s_trade_lives_fit, defScope s_trade_lives_fit, [], []⟩
def d_is_set : He.DefD := ⟨("is_set", none), "is_set", "is_set", defArgs s_is_set, defBody s_is_set, defScope s_is_set, [], []⟩
def d_Trade___init__ : He.DefD := ⟨("Trade", some "__init__"), "__init__", "Trade.__init__", defArgs s_Trade___init__, defBody s_Trade___init__, defScope s_Trade___init__, [], []⟩
def d__law_behind : He.DefD := ⟨("_law_behind", none), "_law_behind", "_law_behind", defArgs s__law_behind, defBody s__law_behind, defScope s__law_behind, [], []⟩
def d__law_all_first : He.DefD := ⟨("_law_all_first", none), "_law_all_first", "_law_all_first", defArgs s__law_all_first, defBody s__law_all_first, defScope s__law_all_first, [], []⟩
def d__law_told : He.DefD := ⟨("_law_told", none), "_law_told", "_law_told", defArgs s__law_told, defBody s__law_told, defScope s__law_told, [], []⟩
def d_is_dated_of : He.DefD := ⟨("is_dated_of", none), "is_dated_of", "is_dated_of", defArgs s_is_dated_of, defBody s_is_dated_of, defScope s_is_dated_of, [], []⟩
def d_bringing : He.DefD := ⟨("bringing", none), "bringing", "bringing", defArgs s_bringing, defBody s_bringing, defScope s_bringing, [], []⟩
def d_is_deed : He.DefD := ⟨("is_deed", none), "is_deed", "is_deed", defArgs s_is_deed, defBody s_is_deed, defScope s_is_deed, [], []⟩
def d_is_stream : He.DefD := ⟨("is_stream", none), "is_stream", "is_stream", defArgs s_is_stream, defBody s_is_stream, defScope s_is_stream, [], []⟩
def d_stream_check : He.DefD := ⟨("stream_check", none), "stream_check", "stream_check", defArgs s_stream_check, defBody s_stream_check, defScope s_stream_check, [], []⟩
def d_behind : He.DefD := ⟨("behind", none), "behind", "behind", defArgs s_behind, defBody s_behind, defScope s_behind, [], []⟩
def d_stood_behind : He.DefD := ⟨("stood_behind", none), "stood_behind", "stood_behind", defArgs s_stood_behind, defBody s_stood_behind, defScope s_stood_behind, [], []⟩
def d_stands : He.DefD := ⟨("stands", none), "stands", "stands", defArgs s_stands, defBody s_stands, defScope s_stands, [], [("start", .adr (kwAt ("stands", none) "start"))]⟩
def d_law : He.DefD := ⟨("law", none), "law", "law", defArgs s_law, defBody s_law, defScope s_law, [], []⟩
def fn : List He.DefD := [d__law_deck, d__law_draw, d_is_whole, d_trade_lives_fit, d_is_set, d_Trade___init__, d__law_behind, d__law_all_first, d__law_told, d_is_dated_of, d_bringing, d_is_deed, d_is_stream, d_stream_check, d_behind, d_stood_behind, d_stands, d_law]
def fa : List He.Fa := [.glo "_law_deck", .glo "_law_draw", .glo "is_whole", .glo "trade_lives_fit", .glo "is_set", .glo "_law_behind", .glo "_law_all_first", .glo "_law_told", .glo "is_dated_of", .glo "bringing", .glo "is_deed", .glo "is_stream", .glo "stream_check", .glo "behind", .glo "stood_behind", .glo "stands", .glo "law", .free "int", .free "len", .free "isinstance", .free "bool", .free "tuple", .int "TRADE_MOST_OFFERS" 9, .int "TRADE_MOST_LIFE" 99, .noat "Trade" "lives", .noat "Trade" "loose", .free "sorted", .free "range", .free "max", .mkr "Trade", .free "super", .glo "BadDated", .glo "BadStream", .glo "BadTrade", .glo "Trade", .cls "Trade"]
def tf : List He.Defn := [("law", none)]
def exI (K : PySem.W.Frag) : Bool := true
def exK (K : PySem.W.Frag) : Bool := true && ktB K (kwAt ("stands", none) "start" K)
def exT (K : PySem.W.Frag) : Bool := true && exK K
abbrev t_BadTrade : Stmt := inClass (top 3) 0
def e_BadTrade : XD := ⟨"BadTrade", "BadTrade.__init__", defArgs t_BadTrade, defBody t_BadTrade, defScope t_BadTrade, [("part" : Str)]⟩
abbrev t_BadDated : Stmt := inClass (top 4) 0
def e_BadDated : XD := ⟨"BadDated", "BadDated.__init__", defArgs t_BadDated, defBody t_BadDated, defScope t_BadDated, [("thing" : Str)]⟩
abbrev t_BadStream : Stmt := inClass (top 5) 0
def e_BadStream : XD := ⟨"BadStream", "BadStream.__init__", defArgs t_BadStream, defBody t_BadStream, defScope t_BadStream, [("thing" : Str)]⟩
def xs : List XD := [e_BadTrade, e_BadDated, e_BadStream]
def ex0 (K : PySem.W.Frag) : Bool := exI K && exT K
def exE (K : PySem.W.Frag) : Bool := xtT.ok K && xs.all fun d => d.ok (PySem.Challenge.rw_offerstands_k12_streams_that_bring).prog K
def ex (K : PySem.W.Frag) : Bool := ex0 K && exE K
abbrev Rw : PySem.W.OpenRow := PySem.W.OpenLaw.row PySem.Challenge.rw_offerstands_k12_streams_that_bring
abbrev hk : PySem.W.Hook := hookY 6 fa fn tf ex xs
def ob (s : PySem.W.SharedT) : AlY := obsY 6 fa fn tf ex xs (HandSHeadRun.getT s)
theorem ob_eq (s : PySem.W.SharedT) : ob s = hk.obs s.abs := obsY_eq (HandSHeadRun.getT_eq s)
def loose0 : List Str := ["__name__", "OfferError", "BadText", "BadTrade", "BadDated", "BadStream", "is_whole", "is_set", "TRADE_MOST_OFFERS", "TRADE_MOST_LIFE", "TRADE_FIGURES", "trade_lives_fit", "trade_number", "trade_offer_row", "Trade", "is_dated_of", "is_deed", "is_stream", "behind", "stood_behind", "stream_check", "stands", "bringing", "_law_deck", "_law_draw", "_law_behind", "_law_all_first", "_law_told"]
def loose : List Str := loose0
theorem run (w : World) : HandSHeadRun.RunEq Rw (PySem.W.view Rw.prog [32]) hk ob 8000 loose w := by
  intro os
  kernel_rfl
def clf (K : PySem.W.Frag) : Cln := { of := fun c => if c = ("BadDated" : Str) then some (He.ga K "BadDated") else if c = ("BadStream" : Str) then some (He.ga K "BadStream") else if c = ("BadTrade" : Str) then some (He.ga K "BadTrade") else if c = ("Trade" : Str) then some (He.ga K "Trade") else none, tabs := [((He.cT K ("law", none)).2, (("law" : Str) ++ ".<locals>.") ++ "<lambda>")] }
abbrev law_ : PySem.W.OpenLaw := PySem.Challenge.rw_offerstands_k12_streams_that_bring
theorem facts {w : World} {h : Heap} {K : PySem.W.Frag} {mg : Str → Option Value} {f : Addr} (X : K.In h) (G : h.Ns mainGlobals mg) (hfa : mg ("law" : Str) = some (.ref f)) (cY : SaysY fa fn tf ex xs w h K) (LT : LawT m_law 63) : LamX.LawAtS law_ w K (L2.CX law_.prog w) 6 63 "_law_script" mg f h := by
  have c := cY.x
  have hE0 : ex0 K = true ∧ exE K = true := (Bool.and_eq_true _ _).mp c.more
  have hE1 : xtT.ok K = true ∧ (xs.all fun d => d.ok (PySem.Challenge.rw_offerstands_k12_streams_that_bring).prog K) = true := (Bool.and_eq_true _ _).mp hE0.2
  have hE2 := List.all_eq_true.mp hE1.2
  have cd := c.t.d
  obtain ⟨fd__law_deck, F__law_deck⟩ := cd.def_ 0 (d := d__law_deck) rfl
  obtain ⟨fd__law_draw, F__law_draw⟩ := cd.def_ 1 (d := d__law_draw) rfl
  obtain ⟨fd_is_whole, F_is_whole⟩ := cd.def_ 2 (d := d_is_whole) rfl
  obtain ⟨fd_trade_lives_fit, F_trade_lives_fit⟩ := cd.def_ 3 (d := d_trade_lives_fit) rfl
  obtain ⟨fd_is_set, F_is_set⟩ := cd.def_ 4 (d := d_is_set) rfl
  obtain ⟨fd_Trade___init__, F_Trade___init__⟩ := cd.def_ 5 (d := d_Trade___init__) rfl
  obtain ⟨fd__law_behind, F__law_behind⟩ := cd.def_ 6 (d := d__law_behind) rfl
  obtain ⟨fd__law_all_first, F__law_all_first⟩ := cd.def_ 7 (d := d__law_all_first) rfl
  obtain ⟨fd__law_told, F__law_told⟩ := cd.def_ 8 (d := d__law_told) rfl
  obtain ⟨fd_is_dated_of, F_is_dated_of⟩ := cd.def_ 9 (d := d_is_dated_of) rfl
  obtain ⟨fd_bringing, F_bringing⟩ := cd.def_ 10 (d := d_bringing) rfl
  obtain ⟨fd_is_deed, F_is_deed⟩ := cd.def_ 11 (d := d_is_deed) rfl
  obtain ⟨fd_is_stream, F_is_stream⟩ := cd.def_ 12 (d := d_is_stream) rfl
  obtain ⟨fd_stream_check, F_stream_check⟩ := cd.def_ 13 (d := d_stream_check) rfl
  obtain ⟨fd_behind, F_behind⟩ := cd.def_ 14 (d := d_behind) rfl
  obtain ⟨fd_stood_behind, F_stood_behind⟩ := cd.def_ 15 (d := d_stood_behind) rfl
  obtain ⟨fd_stands, F_stands⟩ := cd.def_ 16 (d := d_stands) rfl
  obtain ⟨fd_law, F_law⟩ := cd.def_ 17 (d := d_law) rfl
  have e0 := hfa.symm.trans (He.glo_ok X G (cd.fact 16 (f := .glo "law") rfl))
  cases e0
  refine ⟨fd_law, tf.map (He.cT K), spM ⟨law_.prog, w, K, clf K⟩ 1 m_law, fun p hp => ?_, fun p hp => ?_, fun p hp => ?_, fun s u => FunD.bindsA (ps := ["_law_script"]) F_law (fun _ _ _ _ _ _ us hl => match us, hl with | [_], _ => rfl) s [u] rfl, fun H a ns hl _ hT hS => law_sp LT hl (fun p hp => ?_) hS, fun base KX Gb TB => ?_⟩
  · obtain ⟨q, hq, rfl⟩ := List.mem_map.mp hp
    exact c.empty q hq
  · obtain ⟨q, hq, rfl⟩ := List.mem_map.mp hp
    exact c.out q hq
  · obtain ⟨q, hq, rfl⟩ := List.mem_map.mp hp
    exact PySem.W.codeHd_of_K X (c.hd q hq)
  · have hp2 : p ∈ (clf K).tabs := hp
    simp only [clf, List.mem_cons, List.not_mem_nil, or_false] at hp2
    subst hp2
    exact hT (He.cT K ("law", none)) (List.mem_map.mpr ⟨_, List.mem_cons_self, rfl⟩)
  have g_bool := He.free_ok KX Gb (cd.fact 20 (f := .free "bool") rfl)
  have g_int := He.free_ok KX Gb (cd.fact 17 (f := .free "int") rfl)
  have g_isinstance := He.free_ok KX Gb (cd.fact 19 (f := .free "isinstance") rfl)
  have g_len := He.free_ok KX Gb (cd.fact 18 (f := .free "len") rfl)
  have g_max := He.free_ok KX Gb (cd.fact 28 (f := .free "max") rfl)
  have g_range := He.free_ok KX Gb (cd.fact 27 (f := .free "range") rfl)
  have g_sorted := He.free_ok KX Gb (cd.fact 26 (f := .free "sorted") rfl)
  have g_tuple := He.free_ok KX Gb (cd.fact 21 (f := .free "tuple") rfl)
  have c_TRADE_MOST_LIFE := He.int_ok KX Gb (cd.fact 23 (f := .int "TRADE_MOST_LIFE" 99) rfl)
  have c_TRADE_MOST_OFFERS := He.int_ok KX Gb (cd.fact 22 (f := .int "TRADE_MOST_OFFERS" 9) rfl)
  have k_BadDated : mg ("BadDated" : Str) = some (.ref (He.ga K "BadDated")) ∧ clf K ("BadDated" : Str) = some (He.ga K "BadDated") := ⟨He.glo_ok KX Gb (cd.fact 31 (f := .glo "BadDated") rfl), by unfold clf; simp only []; first | rw [if_pos rfl] | rw [if_pos trivial]⟩
  have k_BadStream : mg ("BadStream" : Str) = some (.ref (He.ga K "BadStream")) ∧ clf K ("BadStream" : Str) = some (He.ga K "BadStream") := ⟨He.glo_ok KX Gb (cd.fact 32 (f := .glo "BadStream") rfl), by unfold clf; simp only []; rw [if_neg (by decide)]; first | rw [if_pos rfl] | rw [if_pos trivial]⟩
  have k_BadTrade : mg ("BadTrade" : Str) = some (.ref (He.ga K "BadTrade")) ∧ clf K ("BadTrade" : Str) = some (He.ga K "BadTrade") := ⟨He.glo_ok KX Gb (cd.fact 33 (f := .glo "BadTrade") rfl), by unfold clf; simp only []; rw [if_neg (by decide)]; rw [if_neg (by decide)]; first | rw [if_pos rfl] | rw [if_pos trivial]⟩
  have k_Trade : mg ("Trade" : Str) = some (.ref (He.ga K "Trade")) ∧ clf K ("Trade" : Str) = some (He.ga K "Trade") := ⟨He.glo_ok KX Gb (cd.fact 34 (f := .glo "Trade") rfl), by unfold clf; simp only []; rw [if_neg (by decide)]; rw [if_neg (by decide)]; rw [if_neg (by decide)]; first | rw [if_pos rfl] | rw [if_pos trivial]⟩
  have kc_Trade : Cls K (He.ga K "Trade") := He.cls_ok (cd.fact 35 (f := .cls "Trade") rfl)
  have g_super := He.free_ok KX Gb (cd.fact 30 (f := .free "super") rfl)
  have x_BadTrade : Xr law_.prog w K mg base (clf K) ("BadTrade" : Str) [("part" : Str)] := xr_of (d := e_BadTrade) (ps := ["self", "part"]) (cY.ini e_BadTrade (by simp [xs])) (hE2 e_BadTrade (by simp [xs])) k_BadTrade.2 k_BadTrade.1 (fun f fd cc cda T => xfn1 T rfl (fun _ => rfl) (NdefX.nscope_by (by decide +kernel)) rfl rfl rfl g_super rfl (by decide) (by decide)) (fun cc cda doc pm an ct us hl => match us, hl with | [_, _], _ => rfl)
  have x_BadDated : Xr law_.prog w K mg base (clf K) ("BadDated" : Str) [("thing" : Str)] := xr_of (d := e_BadDated) (ps := ["self", "thing"]) (cY.ini e_BadDated (by simp [xs])) (hE2 e_BadDated (by simp [xs])) k_BadDated.2 k_BadDated.1 (fun f fd cc cda T => xfn1 T rfl (fun _ => rfl) (NdefX.nscope_by (by decide +kernel)) rfl rfl rfl g_super rfl (by decide) (by decide)) (fun cc cda doc pm an ct us hl => match us, hl with | [_, _], _ => rfl)
  have x_BadStream : Xr law_.prog w K mg base (clf K) ("BadStream" : Str) [("thing" : Str)] := xr_of (d := e_BadStream) (ps := ["self", "thing"]) (cY.ini e_BadStream (by simp [xs])) (hE2 e_BadStream (by simp [xs])) k_BadStream.2 k_BadStream.1 (fun f fd cc cda T => xfn1 T rfl (fun _ => rfl) (NdefX.nscope_by (by decide +kernel)) rfl rfl rfl g_super rfl (by decide) (by decide)) (fun cc cda doc pm an ct us hl => match us, hl with | [_, _], _ => rfl)
  have xT : Xt K (clf K) xtT := xt_ok hE1.1 (by intro c hc; simp only [xtT, List.mem_cons, List.not_mem_nil, or_false] at hc; rcases hc with rfl | rfl | rfl; exact k_BadTrade.2; exact k_BadDated.2; exact k_BadStream.2)
  have kt_stands_start : KTup K (kwAt ("stands", none) "start" K) [] := by
    have hx0 : ex0 K = true := hE0.1
    have hx : exT K = true := (Bool.and_eq_true _ _ ▸ hx0 : exI K = true ∧ exT K = true).2
    simp only [exT, exK, Bool.and_eq_true] at hx
    exact ktB_ok (by simp [hx])
  have a_lives : AtOk K (clf K) [("Trade" : Str)] ("lives" : Str) := by
    intro c hc C hC
    simp only [List.mem_cons, List.not_mem_nil, or_false] at hc
    subst hc
    · rw [k_Trade.2] at hC
      cases hC
      exact ⟨kc_Trade, He.noat_ok (cd.fact 24 (f := .noat "Trade" "lives") rfl)⟩
  have a_loose : AtOk K (clf K) [("Trade" : Str)] ("loose" : Str) := by
    intro c hc C hC
    simp only [List.mem_cons, List.not_mem_nil, or_false] at hc
    subst hc
    · rw [k_Trade.2] at hC
      cases hC
      exact ⟨kc_Trade, He.noat_ok (cd.fact 25 (f := .noat "Trade" "loose") rfl)⟩
  have w__law_deck_ := w__law_deck (P := law_.prog) (w := w) (K := K) (mg := mg) (base := base) (cl := clf K) F__law_deck g_int
  have w__law_draw_ := w__law_draw (P := law_.prog) (w := w) (K := K) (mg := mg) (base := base) (cl := clf K) F__law_draw g_len
  have w_is_whole_ := w_is_whole (P := law_.prog) (w := w) (K := K) (mg := mg) (base := base) (cl := clf K) F_is_whole g_isinstance g_int g_bool
  have o_is_whole : Own law_.prog w K mg base (clf K) 1 ("is_whole" : Str) 1 m_is_whole := ⟨_, _, _, w_is_whole_, He.glo_ok KX Gb (cd.fact 2 (f := .glo "is_whole") rfl), F_is_whole.kp, F_is_whole.bindsN fun _ _ _ _ _ _ us hl => match us, hl with | [_], _ => rfl⟩
  have w_trade_lives_fit_ := w_trade_lives_fit (P := law_.prog) (w := w) (K := K) (mg := mg) (base := base) (cl := clf K) F_trade_lives_fit g_isinstance g_tuple g_len c_TRADE_MOST_OFFERS o_is_whole c_TRADE_MOST_LIFE
  have w_is_set_ := w_is_set (P := law_.prog) (w := w) (K := K) (mg := mg) (base := base) (cl := clf K) F_is_set g_isinstance g_tuple o_is_whole
  have o_trade_lives_fit : Own law_.prog w K mg base (clf K) 2 ("trade_lives_fit" : Str) 1 m_trade_lives_fit := ⟨_, _, _, w_trade_lives_fit_, He.glo_ok KX Gb (cd.fact 3 (f := .glo "trade_lives_fit") rfl), F_trade_lives_fit.kp, F_trade_lives_fit.bindsN fun _ _ _ _ _ _ us hl => match us, hl with | [_], _ => rfl⟩
  have o_is_set : Own law_.prog w K mg base (clf K) 2 ("is_set" : Str) 2 m_is_set := ⟨_, _, _, w_is_set_, He.glo_ok KX Gb (cd.fact 4 (f := .glo "is_set") rfl), F_is_set.kp, F_is_set.bindsN fun _ _ _ _ _ _ us hl => match us, hl with | [_, _], _ => rfl⟩
  have w_Trade___init___ := w_Trade___init__ (P := law_.prog) (w := w) (K := K) (mg := mg) (base := base) (cl := clf K) F_Trade___init__ o_trade_lives_fit x_BadTrade o_is_set g_len a_lives a_loose
  have w__law_behind_ := w__law_behind (P := law_.prog) (w := w) (K := K) (mg := mg) (base := base) (cl := clf K) F__law_behind g_tuple g_sorted
  have o__law_behind : Own law_.prog w K mg base (clf K) 1 ("_law_behind" : Str) 3 m__law_behind := ⟨_, _, _, w__law_behind_, He.glo_ok KX Gb (cd.fact 5 (f := .glo "_law_behind") rfl), F__law_behind.kp, F__law_behind.bindsN fun _ _ _ _ _ _ us hl => match us, hl with | [_, _, _], _ => rfl⟩
  have w__law_all_first_ := w__law_all_first (P := law_.prog) (w := w) (K := K) (mg := mg) (base := base) (cl := clf K) F__law_all_first g_len g_range o__law_behind
  have T__law_told := w__law_told (P := law_.prog) (w := w) (K := K) (mg := mg) (base := base) (cl := clf K) F__law_told xT k_BadDated (He.glo_ok KX Gb (cd.fact 7 (f := .glo "_law_told") rfl)) (F__law_told.bindsN fun _ _ _ _ _ _ us hl => match us, hl with | [_], _ => rfl)
  have w_is_dated_of_ := w_is_dated_of (P := law_.prog) (w := w) (K := K) (mg := mg) (base := base) (cl := clf K) F_is_dated_of g_isinstance g_tuple g_len o_is_whole a_lives
  have o_is_dated_of : Own law_.prog w K mg base (clf K) 2 ("is_dated_of" : Str) 2 m_is_dated_of := ⟨_, _, _, w_is_dated_of_, He.glo_ok KX Gb (cd.fact 8 (f := .glo "is_dated_of") rfl), F_is_dated_of.kp, F_is_dated_of.bindsN fun _ _ _ _ _ _ us hl => match us, hl with | [_, _], _ => rfl⟩
  have w_bringing_ := w_bringing (P := law_.prog) (w := w) (K := K) (mg := mg) (base := base) (cl := clf K) F_bringing o_is_dated_of x_BadDated a_lives g_max g_tuple
  have w_is_deed_ := w_is_deed (P := law_.prog) (w := w) (K := K) (mg := mg) (base := base) (cl := clf K) F_is_deed g_isinstance g_tuple g_len o_is_whole a_lives a_loose
  have o_is_deed : Own law_.prog w K mg base (clf K) 2 ("is_deed" : Str) 2 m_is_deed := ⟨_, _, _, w_is_deed_, He.glo_ok KX Gb (cd.fact 10 (f := .glo "is_deed") rfl), F_is_deed.kp, F_is_deed.bindsN fun _ _ _ _ _ _ us hl => match us, hl with | [_, _], _ => rfl⟩
  have w_is_stream_ := w_is_stream (P := law_.prog) (w := w) (K := K) (mg := mg) (base := base) (cl := clf K) F_is_stream g_isinstance g_tuple o_is_deed
  have o_is_stream : Own law_.prog w K mg base (clf K) 3 ("is_stream" : Str) 2 m_is_stream := ⟨_, _, _, w_is_stream_, He.glo_ok KX Gb (cd.fact 11 (f := .glo "is_stream") rfl), F_is_stream.kp, F_is_stream.bindsN fun _ _ _ _ _ _ us hl => match us, hl with | [_, _], _ => rfl⟩
  have w_stream_check_ := w_stream_check (P := law_.prog) (w := w) (K := K) (mg := mg) (base := base) (cl := clf K) F_stream_check o_is_dated_of x_BadDated o_is_stream x_BadStream
  have w_behind_ := w_behind (P := law_.prog) (w := w) (K := K) (mg := mg) (base := base) (cl := clf K) F_behind g_tuple a_lives g_sorted
  have o_behind : Own law_.prog w K mg base (clf K) 1 ("behind" : Str) 3 m_behind := ⟨_, _, _, w_behind_, He.glo_ok KX Gb (cd.fact 13 (f := .glo "behind") rfl), F_behind.kp, F_behind.bindsN fun _ _ _ _ _ _ us hl => match us, hl with | [_, _, _], _ => rfl⟩
  have w_stood_behind_ := w_stood_behind (P := law_.prog) (w := w) (K := K) (mg := mg) (base := base) (cl := clf K) F_stood_behind o_behind
  have o_stream_check : Own law_.prog w K mg base (clf K) 4 ("stream_check" : Str) 3 m_stream_check := ⟨_, _, _, w_stream_check_, He.glo_ok KX Gb (cd.fact 12 (f := .glo "stream_check") rfl), F_stream_check.kp, F_stream_check.bindsN fun _ _ _ _ _ _ us hl => match us, hl with | [_, _, _], _ => rfl⟩
  have o_stood_behind : Own law_.prog w K mg base (clf K) 2 ("stood_behind" : Str) 3 m_stood_behind := ⟨_, _, _, w_stood_behind_, He.glo_ok KX Gb (cd.fact 14 (f := .glo "stood_behind") rfl), F_stood_behind.kp, F_stood_behind.bindsN fun _ _ _ _ _ _ us hl => match us, hl with | [_, _, _], _ => rfl⟩
  have w_stands_ := w_stands (P := law_.prog) (w := w) (K := K) (mg := mg) (base := base) (cl := clf K) F_stands o_stream_check o_stood_behind
  have o__law_deck : Own law_.prog w K mg base (clf K) 1 ("_law_deck" : Str) 1 m__law_deck := ⟨_, _, _, w__law_deck_, He.glo_ok KX Gb (cd.fact 0 (f := .glo "_law_deck") rfl), F__law_deck.kp, F__law_deck.bindsN fun _ _ _ _ _ _ us hl => match us, hl with | [_], _ => rfl⟩
  have o__law_draw : Own law_.prog w K mg base (clf K) 1 ("_law_draw" : Str) 2 m__law_draw := ⟨_, _, _, w__law_draw_, He.glo_ok KX Gb (cd.fact 1 (f := .glo "_law_draw") rfl), F__law_draw.kp, F__law_draw.bindsN fun _ _ _ _ _ _ us hl => match us, hl with | [_, _], _ => rfl⟩
  have k_mk_Trade : Mkr law_.prog w K mg base (clf K) 3 ("Trade" : Str) 2 m_Trade___init__ := ⟨He.ga K "Trade", _, _, _, k_Trade.2, k_Trade.1, He.mkr_ok (cd.fact 29 (f := .mkr "Trade") rfl), w_Trade___init___, F_Trade___init__.bindsN fun _ _ _ _ _ _ us hl => match us, hl with | [_, _, _], _ => rfl⟩
  have o__law_all_first : Own law_.prog w K mg base (clf K) 2 ("_law_all_first" : Str) 2 m__law_all_first := ⟨_, _, _, w__law_all_first_, He.glo_ok KX Gb (cd.fact 6 (f := .glo "_law_all_first") rfl), F__law_all_first.kp, F__law_all_first.bindsN fun _ _ _ _ _ _ us hl => match us, hl with | [_, _], _ => rfl⟩
  have o_bringing : Own law_.prog w K mg base (clf K) 3 ("bringing" : Str) 2 m_bringing := ⟨_, _, _, w_bringing_, He.glo_ok KX Gb (cd.fact 9 (f := .glo "bringing") rfl), F_bringing.kp, F_bringing.bindsN fun _ _ _ _ _ _ us hl => match us, hl with | [_, _], _ => rfl⟩
  have ok_stands_2_ : OwnK law_.prog w K mg base (clf K) 5 ("stands" : Str) 2 3 [] o_stands_2_ m_stands := own_kw F_stands w_stands_ (He.glo_ok KX Gb (cd.fact 15 (f := .glo "stands") rfl)) 2 [] [(("start" : Str), V.ref (kwAt ("stands", none) "start" K))] [0, 1, 2] [.ktup []] (List.cons_ne_nil _ _) (fun q h => h) (fun m H => (rs_kt kt_stands_start)) fun D doc pm an cdv ct us mv ws h1 h2 h3 => match us, mv, ws, h1, h2, h3 with | [_, _], [_], [], _, _, _ => ⟨_, _, _, _, _, _, rfl, rfl, rfl⟩
  have ok_bringing_0_trade_dated : OwnK law_.prog w K mg base (clf K) 3 ("bringing" : Str) 0 2 [("trade" : Str), ("dated" : Str)] o_bringing_0_trade_dated m_bringing := ⟨_, _, _, ou_bringing_0_trade_dated, ou_bringing_0_trade_dated, w_bringing_, He.glo_ok KX Gb (cd.fact 9 (f := .glo "bringing") rfl), F_bringing.kp, ⟨fun s us ws _ h1 h2 => by
    obtain ⟨oc, od, dV, kV, doc, pm, an, cdv, ct, osl, e1, lk, hcd, hD, hK⟩ := F_bringing.ex
    rcases hD with ⟨_, rfl⟩ | ⟨z, _⟩
    · subst e1
      exact .of_eq (match us, ws, h1, h2 with | [], [_, _], _, _ => rfl)
    · exact absurd rfl z, fun {vs us zs ws} r1 r2 => by
    unfold ou_bringing_0_trade_dated
    exact kpair_bringing_0_trade_dated r1 r2⟩, fun m H xs zs vs ws h1 h2 h3 h4 => krs_bringing_0_trade_dated h1 h2 h3 h4⟩
  have cq_law : ∃ c0, fd_law.code = .ref c0 := by
    obtain ⟨oc, od, dV, kV, doc, pm, an, cdv, ct, osl, e1, lk, hcd, hD, hK⟩ := F_law.ex
    obtain ⟨c0, e2⟩ := He.codeIn_ref hcd
    exact ⟨c0, by rw [e1]; exact e2⟩
  have cr_law : fd_law.code = .ref (He.cT K ("law", none)).1 := by
    obtain ⟨c0, e2⟩ := cq_law
    obtain ⟨oc, od, dV, kV, doc, pm, an, cdv, ct, osl, e1, lk, hcd, hD, hK⟩ := F_law.ex
    have e3 := He.codeOf_eq (p := ("law", none)) lk e2
    rw [e2]
    exact congrArg Value.ref e3.symm
  have w_law_ := w_law (P := law_.prog) (w := w) (K := K) (mg := mg) (base := base) (cl := clf K) F_law o__law_deck o__law_draw g_tuple g_range k_mk_Trade o__law_all_first g_len g_sorted o_bringing g_max ok_stands_2_ T__law_told ok_bringing_0_trade_dated cr_law (TB _ (List.mem_map.mpr ⟨("law", none), by simp [tf], rfl⟩)) (by simp [clf]) (by intro p hp e; have hp2 : p ∈ (clf K).tabs := hp; simp only [clf, List.mem_cons, List.not_mem_nil, or_false] at hp2; rw [hp2])
  exact w_law_
end K12
namespace K12
open PySem PySem.Spec L2 TW
section
/-- the sets of n offers, in their order -/
def sets : Nat → List (List Int)
  | 1 => [[], [0]]
  | 2 => [[], [0], [1], [0, 1]]
  | 3 => [[], [0], [1], [2], [0, 1], [0, 2], [1, 2], [0, 1, 2]]
  | 4 => [[], [0], [1], [2], [3], [0, 1], [0, 2], [0, 3], [1, 2], [1, 3], [2, 3], [0, 1, 2], [0, 1, 3], [0, 2, 3], [1, 2, 3], [0, 1, 2, 3]]
  | 5 => [[], [0], [1], [2], [3], [4], [0, 1], [0, 2], [0, 3], [0, 4], [1, 2], [1, 3], [1, 4], [2, 3], [2, 4], [3, 4], [0, 1, 2], [0, 1, 3], [0, 1, 4], [0, 2, 3], [0, 2, 4], [0, 3, 4], [1, 2, 3], [1, 2, 4], [1, 3, 4], [2, 3, 4], [0, 1, 2, 3], [0, 1, 2, 4], [0, 1, 3, 4], [0, 2, 3, 4], [1, 2, 3, 4], [0, 1, 2, 3, 4]]
  | _ => []
def rng (n : Nat) : List Int := (List.range n).map Int.ofNat
def sub (s t : List Int) : Bool := s.all fun x => decide (x ∈ t)
def ns4 : List Nat := [1, 2, 3, 4, 5]
theorem f_isset : (ns4.all fun n => (sets n).all fun s => isOk (m_is_set [.int n, tp s] []) (.bl true)) = true := by decide +kernel
end
section
/-- as the law finds them -/
def un : Nat → List (List Int)
  | 0 => [[]]
  | n + 1 => un n ++ (un n).map fun s => s ++ [(n : Int)]
def pos : Nat → List Nat
  | 1 => [0, 1]
  | 2 => [0, 1, 2, 3]
  | 3 => [0, 1, 2, 4, 3, 5, 6, 7]
  | 4 => [0, 1, 2, 5, 3, 6, 8, 11, 4, 7, 9, 12, 10, 13, 14, 15]
  | 5 => [0, 1, 2, 6, 3, 7, 10, 16, 4, 8, 11, 17, 13, 19, 22, 26, 5, 9, 12, 18, 14, 20, 23, 27, 15, 21, 24, 28, 25, 29, 30, 31]
  | _ => []
def at_ (n i : Nat) : T := tp ((sets n).getD i [])
theorem f_pos : (ns4.all fun n => decide ((pos n).map (fun i => (sets n).getD i []) = un n ∧ (List.range (2 ^ n)).map (fun i => (sets n).getD i []) = sets n ∧ (pos n).Perm (List.range (2 ^ n)))) = true := by decide +kernel
theorem f_key : (ns4.all fun n => ((un n).map tp).all (keyOk []) && ((un n).map tp).all fun a => ((un n).map tp).all fun b => PySem.W.alike (keyD [] a) (keyD [] b)) = true := by decide +kernel
theorem f_le : (ns4.all fun n => (pos n).all fun i => (pos n).all fun j => decide (i ≤ j) == PySem.W.dataLe false (keyD []) (at_ n i) (at_ n j)) = true := by decide +kernel
theorem sort_pos (n : Nat) (hn : n ∈ ns4) : (pos n).mergeSort (fun i j => decide (i ≤ j)) = List.range (2 ^ n) := by
  have f := f_pos
  rw [List.all_eq_true] at f
  have q := (of_decide_eq_true (f n hn)).2.2
  have p1 : ((pos n).mergeSort (fun i j => decide (i ≤ j))).Perm (List.range (2 ^ n)) := (List.mergeSort_perm _ _).trans q
  have s1 : ((pos n).mergeSort (fun i j => decide (i ≤ j))).Pairwise (fun i j => decide (i ≤ j) = true) := List.pairwise_mergeSort (fun a b c h1 h2 => by simp at *; omega) (fun a b => by simp; omega) _
  have s2 : (List.range (2 ^ n)).Pairwise (fun i j => decide (i ≤ j) = true) := by
    refine (List.pairwise_lt_range (n := 2 ^ n)).imp ?_
    intro a b h
    simp
    omega
  exact List.Perm.eq_of_pairwise (fun a b _ _ h1 h2 => by simp at *; omega) s1 s2 p1
theorem sets_len : ∀ n ∈ ns4, (sets n).length ≤ 32 := by decide +kernel
theorem sort_sets (n : Nat) (hn : n ∈ ns4) : sortKF lstK (.lst ((un n).map tp)) [] = .ok (lts (sets n)) [] := by
  have f := f_pos
  rw [List.all_eq_true] at f
  obtain ⟨q1, q2, _⟩ := of_decide_eq_true (f n hn)
  have k := f_key
  rw [List.all_eq_true] at k
  have l := f_le
  rw [List.all_eq_true] at l
  have l := l n hn
  show (if (((un n).map tp).all (keyOk []) && ((un n).map tp).all fun a => ((un n).map tp).all fun b => PySem.W.alike (keyD [] a) (keyD [] b)) = true then lstK (((un n).map tp).mergeSort (PySem.W.dataLe false (keyD []))) [] else .bad) = _
  rw [if_pos (k n hn)]
  have e : ((un n).map tp).mergeSort (PySem.W.dataLe false (keyD [])) = (sets n).map tp := by
    have u : (un n).map tp = (pos n).map (at_ n) := by
      rw [← q1, List.map_map]
      rfl
    rw [u, ← List.map_mergeSort (r := fun i j => decide (i ≤ j)), sort_pos n hn]
    · conv => rhs; rw [← q2, List.map_map]
      rfl
    · intro a ha b hb
      have z := List.all_eq_true.mp (List.all_eq_true.mp l a ha) b hb
      exact beq_iff_eq.mp z
  rw [e]
  refine w_lstK ?_
  rw [List.length_map]
  exact Nat.le_trans (sets_len n hn) (by decide)
theorem low_lts (ss : List (List Int)) : low 0 (lts ss) = true := lows_tp ss
end
section
def firsts (c : List (List Int)) (s : List Int) : List Int := c.filterMap fun row => (row.filter fun x => decide (x ∈ s)).head?
def addK (acc : List Int) (x : Int) : List Int := if x ∈ acc then acc else acc ++ [x]
def dkeys (acc fs : List Int) : List Int := fs.foldl addK acc
def taken (c : List (List Int)) (s : List Int) : List Int := sortI (dkeys [] (firsts c s))
theorem mem_addK {acc : List Int} {x k : Int} : k ∈ addK acc x ↔ k ∈ acc ∨ k = x := by
  unfold addK
  split
  · rename_i h
    constructor
    · exact .inl
    · rintro (h' | rfl)
      · exact h'
      · exact h
  · simp
theorem nd_addK {acc : List Int} {x : Int} (h : acc.Nodup) : (addK acc x).Nodup := by
  unfold addK
  split
  · exact h
  · rename_i hx
    rw [List.nodup_append]
    refine ⟨h, by simp, fun a ha b hb => ?_⟩
    simp only [List.mem_singleton] at hb
    rintro rfl
    exact hx (hb ▸ ha)
theorem mem_dkeys {k : Int} : ∀ {fs acc : List Int}, k ∈ dkeys acc fs ↔ k ∈ acc ∨ k ∈ fs
  | [], acc => by simp [dkeys]
  | f :: fs, acc => by
    show k ∈ dkeys (addK acc f) fs ↔ _
    rw [mem_dkeys, mem_addK, List.mem_cons, or_assoc]
theorem nd_dkeys : ∀ {fs acc : List Int}, acc.Nodup → (dkeys acc fs).Nodup
  | [], acc, h => h
  | f :: fs, acc, h => nd_dkeys (fs := fs) (nd_addK h)
theorem len_dkeys : ∀ {fs acc : List Int}, (dkeys acc fs).length ≤ acc.length + fs.length
  | [], acc => by simp [dkeys]
  | f :: fs, acc => by
    have h := len_dkeys (fs := fs) (acc := addK acc f)
    have : (addK acc f).length ≤ acc.length + 1 := by
      unfold addK
      split
      · exact Nat.le_succ _
      · simp
    show (dkeys (addK acc f) fs).length ≤ _
    rw [List.length_cons]
    omega
def kv (k : Int) : Key × T := (.inl k, .bl true)
theorem put_kv (acc : List Int) (x : Int) : putT (acc.map kv) (.inl x) (.bl true) = (addK acc x).map kv := by
  unfold putT addK
  by_cases h : x ∈ acc
  · rw [if_pos h, if_pos]
    · rw [List.map_map]
      refine congrFun (congrArg _ (funext fun y => ?_)) _
      show (if (kv y).1 = .inl x then ((kv y).1, .bl true) else kv y) = _
      split <;> rfl
    · rw [List.any_map, List.any_eq_true]
      exact ⟨x, h, decide_eq_true rfl⟩
  · rw [if_neg h, if_neg]
    · simp [kv]
    · rw [List.any_map, List.any_eq_true]
      rintro ⟨y, hy, e⟩
      have e := of_decide_eq_true e
      injection e with e
      exact h (e ▸ hy)
def Sz (c : List (List Int)) : Prop := c.length ≤ 1000 ∧ ∀ row ∈ c, row.length ≤ 1000
theorem firsts_cons (row : List Int) (c : List (List Int)) (s : List Int) : firsts (row :: c) s = match row.filter (fun x => decide (x ∈ s)) with
    | [] => firsts c s
    | x :: _ => x :: firsts c s := by
  unfold firsts
  rw [List.filterMap_cons]
  cases row.filter (fun x => decide (x ∈ s)) <;> rfl
theorem firsts_len (c : List (List Int)) (s : List Int) : (firsts c s).length ≤ c.length := List.length_filterMap_le _ _
def bTak : SM := (sSeq (sSet 4 (lcM lstK (itE (vr 3)) (gmN 5) (tmOf (emOp (inT false) (vr 5) (vr 1))) (vr 5) [5]))
 (sIf (tmOf (emOp neT (vr 4) (emL lstK an)))
 (sSub (vr 2) (emOp ixT (vr 4) (cst (.int 0))) (cst (.bl true)))
 sNx))
theorem bTak_run (s row acc : List Int) (l0 : T) (x4 x5 : Option T) (hrow : row.length ≤ 1000) (ha : acc.length ≤ 1000) : bTak [some l0, some (tp s), some (.loc 0), some (ls row), x4, x5] [.dK (acc.map kv)] = .nx [some l0, some (tp s), some (.loc 0), some (ls row), some (ls (row.filter fun x => decide (x ∈ s))), x5] [.dK ((dkeys acc (firsts [row] s)).map kv)] := by
  have e1 : lcM lstK (itE (vr 3)) (gmN 5) (tmOf (emOp (inT false) (vr 5) (vr 1))) (vr 5) [5] [some l0, some (tp s), some (.loc 0), some (ls row), x4, x5] [.dK (acc.map kv)] = .ok (ls (row.filter fun x => decide (x ∈ s))) [.dK (acc.map kv)] := by
    show (lcS none (row.map T.int) (gmN 5) _ _ [some l0, some (tp s), some (.loc 0), some (ls row), x4, none] (row.map T.int) _).bind lstK = _
    rw [lc_ints (fun x => decide (x ∈ s)) (show 5 < 6 from by decide)]
    · refine w_lstK ?_
      rw [List.length_map]
      exact Nat.le_trans (List.length_filter_le _ _) (Nat.le_trans hrow (by decide))
    · intro x hx
      show (inT false (.int x) (tp s) _).bind isBl = _
      rw [w_in_tp]
      rfl
  unfold bTak
  rw [s_sSeq, s_sSet, e1]
  have e2 : neT (ls (row.filter fun x => decide (x ∈ s))) (.lst []) [.dK (acc.map kv)] = .ok (.bl (!decide ((row.filter fun x => decide (x ∈ s)) = []))) [.dK (acc.map kv)] := ne_ls _ _ []
  rw [firsts_cons]
  cases hf : row.filter (fun x => decide (x ∈ s)) with
  | nil =>
    rw [hf] at e2
    show lift ((neT (ls []) (.lst []) _).bind isBl) _ _ = _
    rw [e2]
    rfl
  | cons z zs =>
    rw [hf, show (!decide (z :: zs = [])) = true from by simp] at e2
    show lift ((neT (ls (z :: zs)) (.lst []) _).bind isBl) _ _ = _
    rw [e2]
    have e5 : stT (.loc 0) (.int z) (.bl true) [.dK (acc.map kv)] = some [.dK ((addK acc z).map kv)] := by
      show (if (acc.map kv).length < sizeLine then some [MO.dK (putT (acc.map kv) (.inl z) (.bl true))] else none) = _
      rw [if_pos (by rw [List.length_map]; exact Nat.lt_of_le_of_lt ha (by decide)), put_kv]
    have e6 : ixT (ls (z :: zs)) (.int 0) [.dK (acc.map kv)] = .ok (.int z) [.dK (acc.map kv)] := w_ix_lst (n := 0) rfl
    show (lift (ixT (ls (z :: zs)) (.int 0) [.dK (acc.map kv)]) [some l0, some (tp s), some (.loc 0), some (ls row), some (ls (z :: zs)), x5] fun y h3 => match stT (.loc 0) y (.bl true) h3 with
      | some h4 => Fr.nx [some l0, some (tp s), some (.loc 0), some (ls row), some (ls (z :: zs)), x5] h4
      | none => .bad) = _
    rw [e6]
    show (match stT (.loc 0) (.int z) (.bl true) [.dK (acc.map kv)] with
      | some h4 => Fr.nx [some l0, some (tp s), some (.loc 0), some (ls row), some (ls (z :: zs)), x5] h4
      | none => .bad) = _
    rw [e5]
    rfl
theorem taken_loop (s : List Int) (l0 : T) (all : List T) : ∀ (c : List (List Int)) (acc : List Int) (x3 x4 x5 : Option T), acc.length + c.length ≤ 1000 → (∀ row ∈ c, row.length ≤ 1000) →
    ∃ y3 y4, forS none all (gmN 3) bTak (c.map ls) [some l0, some (tp s), some (.loc 0), x3, x4, x5] [.dK (acc.map kv)] = .nx [some l0, some (tp s), some (.loc 0), y3, y4, x5] [.dK ((dkeys acc (firsts c s)).map kv)]
  | [], acc, x3, x4, x5, _, _ => ⟨x3, x4, rfl⟩
  | row :: c, acc, x3, x4, x5, hl, hr => by
    have hrow := hr row List.mem_cons_self
    rw [List.length_cons] at hl
    have eb := bTak_run s row acc l0 x4 x5 hrow (by omega)
    have el : (dkeys acc (firsts [row] s)).length + c.length ≤ 1000 := by
      have := len_dkeys (fs := firsts [row] s) (acc := acc)
      have := firsts_len [row] s
      simp at this
      omega
    obtain ⟨y3, y4, ih⟩ := taken_loop s l0 all c (dkeys acc (firsts [row] s)) (some (ls row)) (some (ls (row.filter fun x => decide (x ∈ s)))) x5 el fun row h => hr row (List.mem_cons_of_mem _ h)
    refine ⟨y3, y4, ?_⟩
    rw [List.map_cons, s_forSn]
    show (match bTak [some l0, some (tp s), some (.loc 0), some (ls row), x4, x5] [.dK (acc.map kv)] with
      | .nx r' h' => forS none all (gmN 3) bTak (c.map ls) r' h'
      | .ct r' h' => forS none all (gmN 3) bTak (c.map ls) r' h'
      | .bk r' h' => .nx r' h'
      | o => o) = _
    rw [eb]
    show forS none all (gmN 3) bTak (c.map ls) _ _ = _
    rw [ih]
    congr 3
    rw [firsts_cons row c, firsts_cons row []]
    cases row.filter (fun x => decide (x ∈ s)) <;> rfl
theorem so_kv (acc : List Int) : soOf [.dK (acc.map kv)] (.loc 0) = some acc := by
  show mapO (fun q : Key × T => match q.1 with
          | .inl i => some i
          | .inr _ => none) (acc.map kv) = _
  induction acc with
  | nil => rfl
  | cons x acc ih =>
    simp only [List.map_cons, mapO, ih]
    rfl
theorem taken_len (c : List (List Int)) (s : List Int) : (taken c s).length ≤ c.length := by
  unfold taken
  rw [sortI_len]
  have := len_dkeys (fs := firsts c s) (acc := [])
  have := firsts_len c s
  simp at *
  omega
theorem low_lls (c : List (List Int)) : low 0 (lls c) = true := lows_ls c
end
section
theorem fm_congr {α β : Type} {f g : α → Option β} : ∀ {l : List α}, (∀ x ∈ l, f x = g x) → l.filterMap f = l.filterMap g
  | [], _ => rfl
  | a :: l, h => by
    rw [List.filterMap_cons, List.filterMap_cons, h a List.mem_cons_self, fm_congr fun x hx => h x (List.mem_cons_of_mem _ hx)]
theorem taken_lt (c : List (List Int)) (s : List Int) : (taken c s).Pairwise (· < ·) := by
  have nd : (taken c s).Nodup := (sortI_perm _).nodup_iff.mpr (nd_dkeys (by simp))
  have le := sortI_le (dkeys [] (firsts c s))
  have := List.Pairwise.and le nd
  exact this.imp fun {a b} h => by
    have h1 : a ≤ b := h.1
    have h2 : a ≠ b := h.2
    omega
theorem mem_taken {c : List (List Int)} {s : List Int} {x : Int} : x ∈ taken c s ↔ ∃ row ∈ c, (row.filter fun y => decide (y ∈ s)).head? = some x := by
  unfold taken
  rw [mem_sortI, mem_dkeys]
  unfold firsts
  rw [List.mem_filterMap]
  simp
theorem taken_sub {c : List (List Int)} {s : List Int} {x : Int} (h : x ∈ taken c s) : x ∈ s := by
  obtain ⟨row, _, e⟩ := mem_taken.mp h
  have := List.mem_of_head? e
  rw [List.mem_filter] at this
  exact of_decide_eq_true this.2
/-- taken tells by the members alone -/
theorem taken_ext {c : List (List Int)} {s t : List Int} (h : ∀ x, x ∈ s ↔ x ∈ t) : taken c s = taken c t := by
  have : (fun y => decide (y ∈ s)) = fun y : Int => decide (y ∈ t) := funext fun y => decide_eq_decide.mpr (h y)
  unfold taken firsts
  rw [this]
theorem head_sub (row s t : List Int) (h : ∀ x ∈ s, x ∈ t) : (row.filter fun y => decide (y ∈ s)) = ((row.filter fun y => decide (y ∈ t)).filter fun y => decide (y ∈ s)) := by
  rw [List.filter_filter]
  refine List.filter_congr fun x _ => ?_
  by_cases hx : x ∈ s
  · simp [hx, h x hx]
  · simp [hx]
/-- what is taken of more, of less too -/
theorem taken_less {c : List (List Int)} {s t : List Int} {x : Int} (h : ∀ x ∈ s, x ∈ t) (hx : x ∈ s) (ht : x ∈ taken c t) : x ∈ taken c s := by
  obtain ⟨row, hr, e⟩ := mem_taken.mp ht
  refine mem_taken.mpr ⟨row, hr, ?_⟩
  rw [head_sub row s t h]
  cases q : row.filter fun y => decide (y ∈ t) with
  | nil => rw [q] at e; cases e
  | cons a l =>
    rw [q] at e
    cases e
    rw [List.filter_cons_of_pos (by simpa using hx)]
    rfl
/-- with all that is taken there, the same -/
theorem taken_same {c : List (List Int)} {s t : List Int} (h : ∀ x ∈ s, x ∈ t) (hs : ∀ x ∈ taken c t, x ∈ s) : taken c s = taken c t := by
  unfold taken
  congr 2
  unfold firsts
  refine fm_congr ?_
  intro row hr
  rw [head_sub row s t h]
  cases q : row.filter fun y => decide (y ∈ t) with
  | nil => rfl
  | cons a l =>
    have ha : a ∈ taken c t := mem_taken.mpr ⟨row, hr, by rw [q]; rfl⟩
    rw [List.filter_cons_of_pos (by simpa using hs a ha)]
    rfl
theorem lt_eq : ∀ {s t : List Int}, s.Pairwise (· < ·) → t.Pairwise (· < ·) → (∀ x, x ∈ s ↔ x ∈ t) → s = t := fun hs ht h =>
  (sorted_lt_eq hs h).trans (sorted_lt_eq ht fun k => Iff.rfl).symm
theorem f_filter (n : Nat) (hn : n ∈ ns4) (p : Int → Bool) : (rng n).filter p ∈ sets n := by
  simp only [ns4, List.mem_cons, List.not_mem_nil, or_false] at hn
  rcases hn with rfl | rfl | rfl | rfl | rfl
  · show ([0] : List Int).filter p ∈ sets 1
    simp only [List.filter]
    cases p 0 <;> decide
  · show ([0, 1] : List Int).filter p ∈ sets 2
    simp only [List.filter]
    cases p 0 <;> cases p 1 <;> decide
  · show ([0, 1, 2] : List Int).filter p ∈ sets 3
    simp only [List.filter]
    cases p 0 <;> cases p 1 <;> cases p 2 <;> decide
  · show ([0, 1, 2, 3] : List Int).filter p ∈ sets 4
    simp only [List.filter]
    cases p 0 <;> cases p 1 <;> cases p 2 <;> cases p 3 <;> decide
  · show ([0, 1, 2, 3, 4] : List Int).filter p ∈ sets 5
    simp only [List.filter]
    cases p 0 <;> cases p 1 <;> cases p 2 <;> cases p 3 <;> cases p 4 <;> decide
theorem rng_lt : ∀ n ∈ ns4, (rng n).Pairwise (· < ·) := by decide +kernel
theorem sets_lt : ∀ n ∈ ns4, ∀ s ∈ sets n, s.Pairwise (· < ·) := by decide +kernel
theorem sets_rng : ∀ n ∈ ns4, ∀ s ∈ sets n, ∀ x ∈ s, x ∈ rng n := by decide +kernel
theorem sets_nd : ∀ n ∈ ns4, (sets n).Nodup := by decide +kernel
/-- all rising rows below n are there -/
theorem sets_mem {n : Nat} (hn : n ∈ ns4) {s : List Int} (h : s.Pairwise (· < ·)) (hr : ∀ x ∈ s, x ∈ rng n) : s ∈ sets n := by
  have e : s = (rng n).filter fun x => decide (x ∈ s) := lt_eq h ((rng_lt n hn).filter _) fun x => by
    rw [List.mem_filter]
    constructor
    · exact fun hx => ⟨hr x hx, decide_eq_true hx⟩
    · exact fun hx => of_decide_eq_true hx.2
  rw [e]
  exact f_filter n hn _
theorem taken_mem {n : Nat} (hn : n ∈ ns4) (c : List (List Int)) {s : List Int} (hs : s ∈ sets n) : taken c s ∈ sets n := sets_mem hn (taken_lt c s) fun x hx => sets_rng n hn s hs x (taken_sub hx)
theorem sub_iff {s t : List Int} : sub s t = true ↔ ∀ x ∈ s, x ∈ t := by
  unfold sub
  rw [List.all_eq_true]
  simp
end
section
variable {n : Nat} {h : MH}
theorem all4 {q : Nat → Bool} (e : ns4.all q = true) (hn : n ∈ ns4) : q n = true := List.all_eq_true.mp e n hn
theorem x_is_set (hn : n ∈ ns4) {s : List Int} (hs : s ∈ sets n) : m_is_set [.int n, tp s] h = .ok (.bl true) h := pur_is (List.all_eq_true.mp (all4 f_isset hn) s hs) (by simp only [lows, low, low_tp, Bool.and_self])
theorem x_is_whole (i : Int) : m_is_whole [.int i] h = .ok (.bl true) h := pur_any rfl rfl
/-- a chooser of n offers, f what it takes -/
def chO (n : Nat) (f : List Int → List Int) : T := .obj "Chooser" ["offers", "picks", "table", "places"] [.int n, tts ((sets n).map f), .dT ((sets n).map keyL) ((sets n).map fun s => tp (f s)), tp (rng n)]
theorem lows_tpf (f : List Int → List Int) : ∀ ss : List (List Int), lows 0 (ss.map fun s => tp (f s)) = true
  | [] => rfl
  | s :: ss => by
    simp only [List.map_cons, lows, low_tp, Bool.true_and]
    exact lows_tpf f ss
theorem low_tts (ss : List (List Int)) : low 0 (tts ss) = true := lows_tp ss
theorem low_chO (f : List Int → List Int) : low 0 (chO n f) = true := by
  show lows 0 [_, _, _, _] = true
  simp only [lows, low_tts, low_tp, Bool.and_true, Bool.true_and]
  exact lows_tpf f _
def kvf (f : List Int → List Int) (s : List Int) : List Key × T := (keyL s, tp (f s))
theorem put_kvf (f : List Int → List Int) (done : List (List Int)) (s : List Int) (hs : s ∉ done) : putT (done.map (kvf f)) (keyL s) (tp (f s)) = (done ++ [s]).map (kvf f) := by
  unfold putT
  rw [if_neg]
  · simp [kvf]
  · rw [List.any_map, List.any_eq_true]
    rintro ⟨y, hy, e⟩
    have e := of_decide_eq_true e
    exact hs (keyL_inj e ▸ hy)
end
section
variable {n : Nat} {h : MH}
def iniA : SM := (sIf (tOrr (tNo (tmOf (emCall (arg 1 m_is_whole) (ac (vr 1) an)))) (tNo (tmOf (emCh leT leT (cst (.int 1)) (vr 1) (cst (.int 6))))))
 sBad
 sNx)
def iniB : SM := (sIf (tOrr (tNo (tmOf (emCall isiTF (ac (vr 2) (ac (cst (.ty "tuple")) an))))) (tmOf (emOp neT (emCall lenF (ac (vr 2) an)) (emCall lenF (ac (vr 3) an)))))
 sBad
 sNx)
def iniZ : SM := (sSeq (sAtt [("Chooser" : Str)] ("offers" : Str) (vr 0) (vr 1))
 (sSeq (sAtt [("Chooser" : Str)] ("picks" : Str) (vr 0) (vr 2))
 (sSeq (sAtt [("Chooser" : Str)] ("table" : Str) (vr 0) (vr 4))
 (sAtt [("Chooser" : Str)] ("places" : Str) (vr 0) (emRgT (rg1 (vr 1)))))))
theorem rg_rng (hn : n ∈ ns4) : emRgT (rg1 (cst (.int n))) [] h = .ok (tp (rng n)) h := by
  simp only [ns4, List.mem_cons, List.not_mem_nil, or_false] at hn
  rcases hn with rfl | rfl | rfl | rfl | rfl <;> rfl
theorem ini_A (hn : n ∈ ns4) (x0 : Option T) (l : Rho) (h : MH) : iniA (x0 :: some (.int n) :: l) h = .nx (x0 :: some (.int n) :: l) h := by
  have : (1 : Int) ≤ n ∧ (n : Int) ≤ 6 := by
    simp only [ns4, List.mem_cons, List.not_mem_nil, or_false] at hn
    omega
  unfold iniA
  simp [x_is_whole, this.1, this.2]
theorem isi_tup (xs : List T) : isiTF [.tup xs, .ty "tuple"] h = .ok (.bl true) h := rfl
theorem ini_B (f : List Int → List Int) (x0 x1 : Option T) (l : Rho) (h : MH) : iniB (x0 :: x1 :: some (tts ((sets n).map f)) :: some (tts (sets n)) :: l) h = .nx (x0 :: x1 :: some (tts ((sets n).map f)) :: some (tts (sets n)) :: l) h := by
  have e2 : lenF [tts ((sets n).map f)] h = .ok (.int (sets n).length) h := by
    rw [show tts ((sets n).map f) = .tup (((sets n).map f).map tp) from rfl, w_len_tup, List.length_map, List.length_map]
  have e3 : lenF [tts (sets n)] h = .ok (.int (sets n).length) h := by
    rw [show tts (sets n) = .tup ((sets n).map tp) from rfl, w_len_tup, List.length_map]
  unfold iniB
  simp [e2, e3, ne_int, show isiTF [tts ((sets n).map f), .ty "tuple"] h = .ok (.bl true) h from isi_tup _]
def fsO (n : Nat) (f : List Int → List Int) : List (Str × T) := [(("offers" : Str), .int n), (("picks" : Str), tts ((sets n).map f)), (("table" : Str), .loc 1), (("places" : Str), tp (rng n))]
theorem put_p1 (x y : T) : putA ("picks" : Str) y [(("offers" : Str), x)] = [(("offers" : Str), x), (("picks" : Str), y)] := by
  simp [putA, show ("offers" : Str) ≠ "picks" from by decide]
theorem put_p2 (x y z : T) : putA ("table" : Str) z [(("offers" : Str), x), (("picks" : Str), y)] = [(("offers" : Str), x), (("picks" : Str), y), (("table" : Str), z)] := by
  simp [putA, show ("offers" : Str) ≠ "table" from by decide, show ("picks" : Str) ≠ "table" from by decide]
theorem put_p3 (x y z w : T) : putA ("places" : Str) w [(("offers" : Str), x), (("picks" : Str), y), (("table" : Str), z)] = [(("offers" : Str), x), (("picks" : Str), y), (("table" : Str), z), (("places" : Str), w)] := by
  simp [putA, show ("offers" : Str) ≠ "places" from by decide, show ("picks" : Str) ≠ "places" from by decide, show ("table" : Str) ≠ "places" from by decide]
theorem at_1 {nm : Str} {v : EM} {z : T} {fs fs' : List (Str × T)} {l : Rho} {q : MO} (e1 : v (some (.loc 0) :: l) [.ins "Chooser" fs, q] = .ok z [.ins "Chooser" fs, q]) (e2 : fs.length < 1000) (e3 : putA nm z fs = fs') : sAtt [("Chooser" : Str)] nm (vr 0) v (some (.loc 0) :: l) [.ins "Chooser" fs, q] = .nx (some (.loc 0) :: l) [.ins "Chooser" fs', q] := by
  unfold sAtt
  rw [e1]
  show (if ("Chooser" : Str) ∈ [("Chooser" : Str)] ∧ fs.length < 1000 then Fr.nx (some (.loc 0) :: l) [.ins "Chooser" (putA nm z fs), q] else .bad) = _
  rw [if_pos ⟨List.mem_cons_self, e2⟩, e3]
theorem ini_Z (hn : n ∈ ns4) (f : List Int → List Int) (x3 y5 y6 y7 : Option T) (q : MO) : iniZ [some (.loc 0), some (.int n), some (tts ((sets n).map f)), x3, some (.loc 1), y5, y6, y7] [.ins "Chooser" [], q] = .nx [some (.loc 0), some (.int n), some (tts ((sets n).map f)), x3, some (.loc 1), y5, y6, y7] [.ins "Chooser" (fsO n f), q] := by
  have eR : ∀ (h : MH) (x0 : Option T) (l : Rho), emRgT (rg1 (vr 1)) (x0 :: some (.int n) :: l) h = .ok (tp (rng n)) h := fun h x0 l => rg_rng (h := h) hn
  unfold iniZ
  rw [s_sSeq, at_1 (v := vr 1) (z := .int n) (fs := []) (fs' := [(("offers" : Str), .int n)]) (s_vrS.trans s_vr0) (Nat.zero_lt_of_lt (Nat.lt_succ_self 999)) rfl]
  show sSeq _ _ _ _ = _
  rw [s_sSeq, at_1 (v := vr 2) (z := tts ((sets n).map f)) (fs := [(("offers" : Str), .int n)]) (s_vrS.trans (s_vrS.trans s_vr0)) (by simp) (put_p1 _ _)]
  show sSeq _ _ _ _ = _
  rw [s_sSeq, at_1 (v := vr 4) (z := .loc 1) (fs := [(("offers" : Str), .int n), (("picks" : Str), tts ((sets n).map f))]) (s_vrS.trans (s_vrS.trans (s_vrS.trans (s_vrS.trans s_vr0)))) (by simp) (put_p2 _ _ _)]
  show sAtt _ _ _ _ _ _ = _
  rw [at_1 (fs := [(("offers" : Str), .int n), (("picks" : Str), tts ((sets n).map f)), (("table" : Str), .loc 1)]) (eR _ _ _) (by simp) (put_p3 _ _ _ _)]
  rfl
def fin (n : Nat) (f : List Int → List Int) : MH := [.ins "Chooser" (fsO n f), .dT ((sets n).map (kvf f))]
theorem g_ini3 (F : FM) (hF : ∀ h : MH, F [.int n] h = .ok (tts (sets n)) h) (x0 x2 x3 : Option T) (l : Rho) : sSet 3 (emCall (arg 1 F) (ac (vr 1) an)) (x0 :: some (.int n) :: x2 :: x3 :: l) h = .nx (x0 :: some (.int n) :: x2 :: some (tts (sets n)) :: l) h := by
  simp [hF]
theorem w_itEn {f : EM} {r : Rho} {xs : List T} (e : f r h = .ok (.tup xs) h) : itEn (ac f an) r h = .ok (enL 0 xs, none) h := by
  unfold itEn
  rw [s_ac, e]
  rfl
theorem frWs_cons {g : Nat → Option T} {x y : T} {xs ys : List T} (e : frW g x = some y) (e2 : frWs g xs = some ys) : frWs g (x :: xs) = some (y :: ys) := by
  unfold frWs
  rw [e, e2]
theorem fin_frz (f : List Int → List Int) : frz (fin n f) 0 (.loc 0) = some (chO n f) := by
  have t : frL (fin n f) 0 4 1 = some (.dT ((sets n).map keyL) ((sets n).map fun s => tp (f s))) := by
    show (frWs (frL (fin n f) 0 3) (((sets n).map (kvf f)).map (·.2))).map (T.dT (((sets n).map (kvf f)).map (·.1))) = _
    rw [List.map_map, List.map_map, show (fun x : List Key × T => x.2) ∘ kvf f = fun s => tp (f s) from rfl, frWs_low _ _ (lows_tpf f _)]
    rfl
  show (frWs (frL (fin n f) 0 4) [.int n, tts ((sets n).map f), .loc 1, tp (rng n)]).map (T.obj "Chooser" ["offers", "picks", "table", "places"]) = _
  rw [frWs_cons (frW_low _ _ rfl) (frWs_cons (frW_low _ _ (low_tts _)) (frWs_cons (show frW (frL (fin n f) 0 4) (.loc 1) = _ from t) (frWs_cons (frW_low _ _ (low_tp _)) (show frWs _ [] = some [] from rfl))))]
  rfl
theorem w_mk (F : FM) (c : Str) (h' : MH) (z y : T) (hF : F [.loc 0, z, y] [.ins c []] = .ok .non h') {r : Rho} {g : AM} (hg : g r [] = .ok [z, y] []) : regE (emMk c 2 F g) r [] = endR [] (.ok (.loc 0) h') := by
  unfold regE emMk
  rw [hg]
  show endR [] ((F [.loc 0, z, y] [.ins c []]).bind _) = _
  rw [hF]
  rfl
theorem taken_ok (hn : n ∈ ns4) (c : List (List Int)) : ∀ s ∈ sets n, taken c s ∈ sets n ∧ sub (taken c s) s = true := fun s hs => ⟨taken_mem hn c hs, sub_iff.mpr fun x hx => taken_sub hx⟩
/-- a comprehension over tuples that calls, tuples told -/
theorem lc_call {ss : List (List Int)} {xs' : List T} {k : Nat} {te : EM} {r0 : Rho} (G : List Int → List Int) (he : ∀ s ∈ ss, te (r0.set k (some (tp s))) h = .ok (tp (G s)) h) : lcS none xs' (gmN k) tYes te r0 (ss.map tp) h = .ok ((ss.map G).map tp) h := by
  have : ∃ F : T → T, ∀ s : List Int, F (tp s) = tp (G s) := ⟨fun x => match x with
    | .tup xs => (match mapO inOf xs with
      | some s => tp (G s)
      | none => .non)
    | _ => .non, fun s => by
      show (match mapO inOf (s.map T.int) with
        | some s => tp (G s)
        | none => .non) = _
      rw [mapO_inOf]⟩
  obtain ⟨F, hF⟩ := this
  rw [lc_pure (p := fun _ => true) (f := F)]
  · rw [List.filter_eq_self.mpr (fun _ _ => rfl), List.map_map, List.map_map]
    congr 1
    exact List.map_congr_left fun s _ => hF s
  · intro x _
    rfl
  · intro x hx _
    obtain ⟨s, hs, rfl⟩ := List.mem_map.mp hx
    rw [he s hs, hF]
theorem g_cho (F1 F2 : FM) (G : List Int → List Int) (l : T) (ss : List (List Int)) (hl : ss.length ≤ 32) (h1 : F1 [.int n] [] = .ok (lts ss) []) (h2 : ∀ s, F2 [l, tp s] [] = .ok (tp (G s)) []) :
    ac (vr 0) (ac (emCall tupF (ac (lcM lstK (itE (emCall (arg 1 F1) (ac (vr 0) an))) (gmN 2) tYes (emCall (arg 2 F2) (ac (vr 1) (ac (vr 2) an))) [2]) an)) an) [some (.int n), some l, none] [] = .ok [.int n, tts (ss.map G)] [] := by
  have e : lcM lstK (itE (emCall (arg 1 F1) (ac (vr 0) an))) (gmN 2) tYes (emCall (arg 2 F2) (ac (vr 1) (ac (vr 2) an))) [2] [some (.int n), some l, none] [] = .ok (lts (ss.map G)) [] := by
    rw [s_lcM, s_itE]
    have e1 : emCall (arg 1 F1) (ac (vr 0) an) [some (.int n), some l, none] [] = .ok (lts ss) [] := h1
    rw [e1, s_bindok, show itOf (lts ss) [] = .ok (ss.map tp, none) [] from rfl, s_bindok]
    show (lcS none (ss.map tp) (gmN 2) tYes _ [some (.int n), some l, none] (ss.map tp) []).bind lstK = _
    rw [lc_call G (fun s _ => h2 s), s_bindok, w_lstK]
    · rfl
    · rw [List.length_map, List.length_map]
      exact Nat.le_trans hl (by decide)
  rw [s_ac, s_vr0, s_bindok, s_ac, s_emCall, s_ac, e]
  rfl
end
section
variable {n : Nat} {h : MH} {f g : List Int → List Int}
/-- s with x -/
def ins (s : List Int) (x : Int) : List Int := sortI (onceI (s ++ [x]))
theorem f_ins : ∀ n ∈ ns4, ∀ s ∈ sets n, ∀ x ∈ rng n, ins s x ∈ sets n := by decide +kernel
theorem mem_ins {s : List Int} {x y : Int} : y ∈ ins s x ↔ y ∈ s ∨ y = x := by
  unfold ins
  rw [mem_sortI, mem_onceI]
  simp
theorem at_table : atT [("Chooser" : Str)] ("table" : Str) (chO n f) h = .ok (.dT ((sets n).map keyL) ((sets n).map fun s => tp (f s))) h := rfl
theorem at_places : atT [("Chooser" : Str)] ("places" : Str) (chO n f) h = .ok (tp (rng n)) h := rfl
theorem at_offers : atT [("Chooser" : Str)] ("offers" : Str) (chO n f) h = .ok (.int n) h := rfl
theorem at_picks : atT [("Chooser" : Str)] ("picks" : Str) (chO n f) h = .ok (tts ((sets n).map f)) h := rfl
theorem rng_len (n : Nat) : (rng n).length = n := by unfold rng; simp
theorem g_len1 (F : FM) (x : T) (i : Int) (c : Str) (fs : List (Str × T)) (hx : obOf h x = some (c, fs)) (hF : F [x] h = .ok (.int i) h) (hi : 0 ≤ i ∧ i < 2 ^ 63) : lenOF [(c, F)] [x] h = .ok (.int i) h := by
  unfold lenOF on1
  simp only [hx, TW.lk, if_true, hF, calm, s_bindok, -Int.reducePow]
  rw [if_pos hi]
theorem pur_nx {n : Nat} {b : SM} {xs : List T} {r : Rho} {h h' : MH} (hl : lows 0 xs = true) (e : b (startR n xs) [] = .nx r h') : pur (reg (fnB n b)) xs h = .ok .non h := by
  rw [pur_nil _ _ _ hl]
  unfold reg fnB
  rw [e]
  rw [endR_nil rfl]
  rfl
theorem g_cset (F1 F2 : FM) (s : List Int) (h1 : ∀ h, F1 [chO n f] h = .ok (.int n) h) (h2 : ∀ h, F2 [.int n, tp s] h = .ok (.bl true) h) : sIf (tNo (tmOf (emCall (arg 2 F2) (ac (emCall F1 (ac (vr 0) an)) (ac (vr 1) an))))) sBad sNx [some (chO n f), some (tp s)] [] = .nx [some (chO n f), some (tp s)] [] := by
  simp [h1, h2]
theorem g_cst (F1 F2 : FM) (s : List Int) (h1 : ∀ h, F1 [.lst [chO n f, chO n g]] h = .ok .non h) (h2 : ∀ h, F2 [chO n f, tp s] h = .ok .non h) : sSeq (sDrop (emCall (arg 1 F1) (ac (emL lstK (ac (vr 0) (ac (vr 1) an))) an)))
  (sDrop (emCall (arg 2 F2) (ac (vr 0) (ac (vr 2) an)))) [some (chO n f), some (chO n g), some (tp s)] [] = .nx [some (chO n f), some (chO n g), some (tp s)] [] := by
  have e : lstK [chO n f, chO n g] [] = .ok (.lst [chO n f, chO n g]) [] := w_lstK (show 2 ≤ sizeLine by decide)
  simp [h1, h2, e]
theorem g_cpart (F1 F2 F3 F4 : FM) (s t : List Int) (h1 : ∀ h, F1 [chO n f, chO n g, tp s] h = .ok .non h) (h2 : ∀ h, F2 [chO n f] h = .ok (.int n) h) (h3 : ∀ h, F3 [.int n, tp t] h = .ok (.bl true) h) (h4 : ∀ h, F4 [tp t, tp s] h = .ok (.bl true) h) :
    sSeq (sDrop (emCall (arg 3 F1) (ac (vr 0) (ac (vr 1) (ac (vr 2) an)))))
      (sIf (tOrr (tNo (tmOf (emCall (arg 2 F3) (ac (emCall F2 (ac (vr 0) an)) (ac (vr 3) an))))) (tNo (tmOf (emCall (arg 2 F4) (ac (vr 3) (ac (vr 2) an))))))
        sBad
        sNx) [some (chO n f), some (chO n g), some (tp s), some (tp t)] [] = .nx [some (chO n f), some (chO n g), some (tp s), some (tp t)] [] := by
  simp [h1, h2, h3, h4]
def agr (f g : List Int → List Int) (s : List Int) : Bool := decide (f s = s) && decide (g s = s)
/-- wished beside s: of st -/
def wis (f g : List Int → List Int) (st s : List Int) : List Int := st.filter fun x => !decide (x ∈ s) && (decide (x ∈ f (ins s x)) && decide (x ∈ g (ins s x)))
def bWis (F : FM) : SM := (sIf (tmOf (emOp (inT true) (vr 5) (vr 3)))
 (sSeq (sSet 6 (emCall (arg 2 F) (ac (vr 3) (ac (vr 5) an))))
 (sIf (tAn (tmOf (emOp (inT false) (vr 5) (emOp ixT (em1 (atT [("Chooser" : Str)] ("table" : Str)) (vr 0)) (vr 6)))) (tmOf (emOp (inT false) (vr 5) (emOp ixT (em1 (atT [("Chooser" : Str)] ("table" : Str)) (vr 1)) (vr 6)))))
 (sDrop (emBm "list" apT (vr 4) (ac (vr 5) an)))
 sNx))
 sNx)
theorem w_app {acc : List T} {y : T} (hl : acc.length < sizeLine) : apT (.loc 0) [y] [.lst acc] = .ok .non [.lst (acc ++ [y])] := if_pos hl
theorem w_isl {acc : List T} : isTy "list" [.lst acc] (.loc 0) = true := rfl
theorem g_wis (F : FM) (s : List Int) (x : Int) (hF : ∀ h, F [tp s, .int x] h = .ok (tp (ins s x)) h) (hw : ins s x ∈ sets n) (acc : List T) (hl : acc.length < sizeLine) (x2 x6 : Option T) :
    ∃ y6, bWis F [some (chO n f), some (chO n g), x2, some (tp s), some (.loc 0), some (.int x), x6] [.lst acc] = .nx [some (chO n f), some (chO n g), x2, some (tp s), some (.loc 0), some (.int x), y6] [.lst (acc ++ ((([x] : List Int).filter fun x => !decide (x ∈ s) && (decide (x ∈ f (ins s x)) && decide (x ∈ g (ins s x))))).map .int)] := by
  have e1 : ∀ h, ixT (.dT ((sets n).map keyL) ((sets n).map fun s => tp (f s))) (tp (ins s x)) h = .ok (tp (f (ins s x))) h := fun h => w_ix_dT (f := fun s => tp (f s)) hw
  have e2 : ∀ h, ixT (.dT ((sets n).map keyL) ((sets n).map fun s => tp (g s))) (tp (ins s x)) h = .ok (tp (g (ins s x))) h := fun h => w_ix_dT (f := fun s => tp (g s)) hw
  unfold bWis
  by_cases h1 : x ∈ s
  · refine ⟨x6, ?_⟩
    simp [w_in_tp, h1]
  · refine ⟨some (tp (ins s x)), ?_⟩
    by_cases h2 : x ∈ f (ins s x)
    · by_cases h3 : x ∈ g (ins s x)
      · simp [w_in_tp, h1, hF, at_table, e1, e2, h2, h3, emBm, w_isl, w_app hl]
      · simp [w_in_tp, h1, hF, at_table, e1, e2, h2, h3]
    · simp [w_in_tp, h1, hF, at_table, e1, e2, h2]
theorem wis_loop (F : FM) (s : List Int) (x2 : Option T) (all : List T) : ∀ (st : List Int), (∀ x ∈ st, (∀ h, F [tp s, .int x] h = .ok (tp (ins s x)) h) ∧ ins s x ∈ sets n) → ∀ (acc : List T) (x5 x6 : Option T), acc.length + st.length ≤ 1000 →
    ∃ y5 y6, forS none all (gmN 5) (bWis F) (st.map .int) [some (chO n f), some (chO n g), x2, some (tp s), some (.loc 0), x5, x6] [.lst acc] = .nx [some (chO n f), some (chO n g), x2, some (tp s), some (.loc 0), y5, y6] [.lst (acc ++ (wis f g st s).map .int)]
  | [], _, acc, x5, x6, _ => ⟨x5, x6, by simp [wis]⟩
  | x :: st, hx, acc, x5, x6, hl => by
    rw [List.length_cons] at hl
    obtain ⟨z6, e⟩ := g_wis (f := f) (g := g) F s x (hx x List.mem_cons_self).1 (hx x List.mem_cons_self).2 acc (Nat.lt_of_le_of_lt (show acc.length ≤ 1000 by omega) (by decide)) x2 x6
    obtain ⟨y5, y6, ih⟩ := wis_loop F s x2 all st (fun y hy => hx y (List.mem_cons_of_mem _ hy)) (acc ++ ((([x] : List Int).filter fun x => !decide (x ∈ s) && (decide (x ∈ f (ins s x)) && decide (x ∈ g (ins s x))))).map .int) (some (.int x)) z6 (by
      have : (([x] : List Int).filter fun x => !decide (x ∈ s) && (decide (x ∈ f (ins s x)) && decide (x ∈ g (ins s x)))).length ≤ 1 := List.length_filter_le _ _
      simp only [List.length_append, List.length_map]
      omega)
    refine ⟨y5, y6, ?_⟩
    rw [List.map_cons, s_forSn]
    show (match bWis F [some (chO n f), some (chO n g), x2, some (tp s), some (.loc 0), some (.int x), x6] [.lst acc] with
      | .nx r' h' => forS none all (gmN 5) (bWis F) (st.map .int) r' h'
      | .ct r' h' => forS none all (gmN 5) (bWis F) (st.map .int) r' h'
      | .bk r' h' => .nx r' h'
      | o => o) = _
    rw [e]
    simp only []
    rw [ih]
    congr 3
    rw [List.append_assoc, ← List.map_append]
    congr 2
    unfold wis
    rw [← List.filter_append]
    rfl
end
section
variable {n : Nat} {h : MH} {f g : List Int → List Int}
def stl (f g : List Int → List Int) (st s : List Int) : Bool := agr f g s && decide (wis f g st s = [])
theorem g_stl (F1 F2 : FM) (x2 : T) (s w : List Int) (b : Bool) (h1 : ∀ h, F1 [chO n f, chO n g, tp s] h = .ok (.bl b) h) (h2 : ∀ h, F2 [chO n f, chO n g, x2, tp s] h = .ok (tp w) h) :
    sRet (eAn (emCall (arg 3 F1) (ac (vr 0) (ac (vr 1) (ac (vr 3) an)))) (emOp eqT (emCall (arg 4 F2) (ac (vr 0) (ac (vr 1) (ac (vr 2) (ac (vr 3) an))))) (emT an))) [some (chO n f), some (chO n g), some x2, some (tp s)] [] = .ret (.bl (b && decide (w = []))) [] := by
  have e0 : ∀ h, tupK [] h = .ok (tp []) h := fun h => rfl
  cases b <;> simp [h1, h2, e0, eq_tp]
theorem g_among (F1 F2 : FM) (st : List Int) (ss : List (List Int)) (p : List Int → Bool) (hl : ss.length ≤ 32) (h1 : ∀ h, F1 [tp st] h = .ok (lts ss) h) (h2 : ∀ s ∈ ss, ∀ h, F2 [chO n f, chO n g, tp st, tp s] h = .ok (.bl (p s)) h) :
    sRet (emCall tupF (ac (lcM lstK (itE (emCall (arg 1 F1) (ac (vr 2) an))) (gmN 3) (tmOf (emCall (arg 4 F2) (ac (vr 0) (ac (vr 1) (ac (vr 2) (ac (vr 3) an)))))) (vr 3) [3]) an)) [some (chO n f), some (chO n g), some (tp st), none] [] = .ret (tts (ss.filter p)) [] := by
  have e : lcM lstK (itE (emCall (arg 1 F1) (ac (vr 2) an))) (gmN 3) (tmOf (emCall (arg 4 F2) (ac (vr 0) (ac (vr 1) (ac (vr 2) (ac (vr 3) an)))))) (vr 3) [3] [some (chO n f), some (chO n g), some (tp st), none] [] = .ok (lts (ss.filter p)) [] := by
    rw [s_lcM, s_itE]
    have e1 : emCall (arg 1 F1) (ac (vr 2) an) [some (chO n f), some (chO n g), some (tp st), none] [] = .ok (lts ss) [] := h1 []
    rw [e1, s_bindok, show itOf (lts ss) [] = .ok (ss.map tp, none) [] from rfl, s_bindok]
    show (lcS none (ss.map tp) (gmN 3) _ _ [some (chO n f), some (chO n g), some (tp st), none] (ss.map tp) []).bind lstK = _
    rw [lc_tups p (show 3 < 4 from by decide), s_bindok, w_lstK]
    · rfl
    · rw [List.length_map]
      exact Nat.le_trans (List.length_filter_le _ _) (Nat.le_trans hl (by decide))
    · intro s hs
      show ((F2 [chO n f, chO n g, tp st, tp s] []).bind isBl) = _
      rw [h2 s hs]
      rfl
  rw [s_sRet, s_emCall, s_ac, e]
  rfl
theorem g_two (F1 F2 : FM) (s : List Int) (x : T) (h1 : ∀ h, F1 [chO n f, chO n g, tp s] h = .ok .non h) (h2 : ∀ h, F2 [chO n f, chO n g, tp s] h = .ok x h) :
    sSeq (sDrop (emCall (arg 3 F1) (ac (vr 0) (ac (vr 1) (ac (vr 2) an))))) (sRet (emCall (arg 3 F2) (ac (vr 0) (ac (vr 1) (ac (vr 2) an))))) [some (chO n f), some (chO n g), some (tp s)] [] = .ret x [] := by
  simp [h1, h2]
theorem g_isst (F1 F2 : FM) (s t : List Int) (x : T) (h1 : ∀ h, F1 [chO n f, chO n g, tp s, tp t] h = .ok .non h) (h2 : ∀ h, F2 [chO n f, chO n g, tp s, tp t] h = .ok x h) :
    sSeq (sDrop (emCall (arg 4 F1) (ac (vr 0) (ac (vr 1) (ac (vr 2) (ac (vr 3) an)))))) (sRet (emCall (arg 4 F2) (ac (vr 0) (ac (vr 1) (ac (vr 2) (ac (vr 3) an)))))) [some (chO n f), some (chO n g), some (tp s), some (tp t)] [] = .ret x [] := by
  simp [h1, h2]
theorem g_wbb (F1 F2 F3 : FM) (hn : n ∈ ns4) (s : List Int) (x : T) (h1 : ∀ h, F1 [chO n f, chO n g, tp s] h = .ok .non h) (h2 : ∀ h, F2 [chO n f, chO n g, tp (rng n), tp s] h = .ok x h) (h3 : ∀ h, F3 [chO n f] h = .ok (.int n) h) :
    sSeq (sDrop (emCall (arg 3 F1) (ac (vr 0) (ac (vr 1) (ac (vr 2) an))))) (sRet (emCall (arg 4 F2) (ac (vr 0) (ac (vr 1) (ac (emRgT (rg1 (emCall F3 (ac (vr 0) an)))) (ac (vr 2) an)))))) [some (chO n f), some (chO n g), some (tp s)] [] = .ret x [] := by
  have e : ∀ h, emRgT (rg1 (emCall F3 (ac (vr 0) an))) [some (chO n f), some (chO n g), some (tp s)] h = .ok (tp (rng n)) h := fun h => by
    have e1 : emCall F3 (ac (vr 0) an) [some (chO n f), some (chO n g), some (tp s)] h = .ok (.int n) h := h3 h
    have e2 := rg_rng (h := h) hn
    unfold emRgT rg1 at e2 ⊢
    rw [e1]
    exact e2
  simp [h1, h2, e]
theorem rng_mem (hn : n ∈ ns4) : rng n ∈ sets n := sets_mem hn (rng_lt n hn) fun x hx => hx
end
end K12
namespace K12
open PySem PySem.Spec L2 TW TX
section
open PySem.W (Datum Tup)
section
variable {h : MH} {i j : Int}
theorem w_mod (hj : 0 < j) : modT (.int i) (.int j) h = .ok (.int (i % j)) h := by
  show (if decide (0 < j) = true then Res.ok (T.int (i % j)) h else .bad) = _
  rw [if_pos (decide_eq_true hj)]
theorem w_fdv (hj : 0 < j) (hk : j < 1073741824) : fdvT (.int i) (.int j) h = .ok (.int (i / j)) h := by
  show (if decide (CDiv i j) = true then Res.ok (T.int (i / j)) h else .bad) = _
  rw [if_pos (decide_eq_true ⟨hj, hk⟩)]
theorem w_mul (hj : (-(2 ^ 64) < i ∧ i < 2 ^ 64) ∨ (-(2 ^ 64) < j ∧ j < 2 ^ 64)) : mulT (.int i) (.int j) h = .ok (.int (i * j)) h := by
  show (if CMul i j then Res.ok (T.int (i * j)) h else .bad) = _
  exact if_pos (show CMul i j from hj)
end
/-! ### the deck that keeps its cells: a list, a dict with the place; m is not looked at (so that the later texts are those of the other deck) -/
def kv3 (m d : Int) : List (Key × T) := [(.inr ("cells" : Str), .loc 0), (.inr ("at" : Str), .int d)]
def dkH (R : List Int) (m d : Int) (tl : MH) : MH := .lst (R.map .int) :: .dK (kv3 m d) :: tl
section
variable {R : List Int} {m d : Int} {tl : MH}
theorem ix_cells : ixT (.loc 1) (.str ("cells" : Str)) (dkH R m d tl) = .ok (.loc 0) (dkH R m d tl) := rfl
theorem ix_at : ixT (.loc 1) (.str ("at" : Str)) (dkH R m d tl) = .ok (.int d) (dkH R m d tl) := rfl
theorem st_at2 (e : Int) : stT (.loc 1) (.str ("at" : Str)) (.int e) (dkH R m d tl) = some (dkH R m e tl) := rfl
theorem toD_loc0 : toD (dkH R m d tl) deep (.loc 0) = some (Datum.toD R) := by
  show (mapO (toD (dkH R m d tl) 13) (R.map T.int)).map PyData.list = _
  rw [mapO_int]
  rfl
theorem eq_cells : eqT (.loc 0) (.lst []) (dkH R m d tl) = .ok (.bl (decide (R = []))) (dkH R m d tl) := by
  unfold eqT
  rw [toD_loc0, show toD (dkH R m d tl) deep (.lst []) = some (Datum.toD ([] : List Int)) from toD_ls _ []]
  simp only [Datum.eqv]
theorem ls_cells : lsOf (dkH R m d tl) (.loc 0) = some (R.map .int) := rfl
theorem len_cells : lenF [.loc 0] (dkH R m d tl) = .ok (.int R.length) (dkH R m d tl) := by
  unfold lenF on1 lnOf
  simp only [ls_cells, List.length_map]
theorem ix_cell {k : Nat} (hk : k < R.length) : ixT (.loc 0) (.int k) (dkH R m d tl) = .ok (.int R[k]) (dkH R m d tl) := by
  unfold ixT
  simp only [ls_cells]
  rw [TW.atI_nat (z := T.int R[k]) (by rw [List.getElem?_map, List.getElem?_eq_getElem hk]; rfl)]
end
theorem lows_ints (N : Nat) : ∀ R : List Int, lows N (R.map .int) = true
  | [] => rfl
  | x :: R => by simp only [List.map_cons, lows, low, lows_ints N R, Bool.and_self]
theorem low_dk {R : List Int} {m d : Int} {tl : MH} {N : Nat} (hN : N = (dkH R m d tl).length) (ht : tl.all (lowO N) = true) : lowH N (dkH R m d tl) = true := by
  unfold lowH
  rw [hN, List.take_length, ← hN]
  show (lowO N (.lst (R.map .int)) && (lowO N (.dK (kv3 m d)) && tl.all (lowO N))) = true
  have hp : 0 < N := by
    rw [hN]
    exact Nat.succ_pos _
  rw [ht, show lowO N (.lst (R.map .int)) = true from lows_ints N R, show lowO N (.dK (kv3 m d)) = true from by
    simp [lowO, kv3, lows, low]
    omega]
  rfl
theorem endR_dk {R R' : List Int} {m d d' v : Int} {tl : MH} (ht : tl.all (lowO (2 + tl.length)) = true) : endR (dkH R m d tl) (.ok (.int v) (dkH R' m d' tl)) = .ok (.int v) (dkH R' m d' tl) := by
  unfold endR
  show (if okH (dkH R m d tl) (dkH R' m d' tl) = true then Res.ok (T.int v) ((dkH R' m d' tl).take (dkH R m d tl).length) else .bad) = _
  have hN : (dkH R m d tl).length = (dkH R' m d' tl).length := rfl
  have e : okH (dkH R m d tl) (dkH R' m d' tl) = true := by
    unfold okH
    rw [low_dk hN (by
      rw [show (dkH R m d tl).length = 2 + tl.length from by show tl.length + 1 + 1 = _; omega]
      exact ht), Bool.or_true]
  rw [if_pos e, hN, List.take_length]
theorem core_draw {b : Int} (hb : 0 < b) (R : List Int) (m d : Int) (tl : MH) (hd : 0 ≤ d ∧ d ≤ 1000) : ∃ v, b__law_draw [some (.loc 1), some (.int b), none, none] (dkH R m d tl) = .ret (.int v) (dkH R m (d + 1) tl) ∧ 0 ≤ v ∧ v < b := by
  have d1 : ∀ i h, modT (.int i) (.int b) h = .ok (.int (i % b)) h := fun i h => w_mod hb
  have m1 : ∀ h, mulT (.int d) (.int 5) h = .ok (.int (d * 5)) h := fun h => w_mul (.inr (by omega))
  have m2 : ∀ h, mulT (.int d) (.int 13) h = .ok (.int (d * 13)) h := fun h => w_mul (.inr (by omega))
  have f3 : ∀ h, fdvT (.int d) (.int 3) h = .ok (.int (d / 3)) h := fun h => w_fdv (by omega) (by omega)
  have f2 : ∀ h, fdvT (.int d) (.int 2) h = .ok (.int (d / 2)) h := fun h => w_fdv (by omega) (by omega)
  have f1 : ∀ i h, fdvT (.int i) (.int (d + 1)) h = .ok (.int (i / (d + 1))) h := fun i h => w_fdv (by omega) (by omega)
  have l0 : ∀ h, lstK [] h = .ok (.lst []) h := fun _ => rfl
  have c0 := @eq_cells R m (d + 1) tl
  have c1 := @len_cells R m (d + 1) tl
  by_cases q1 : d < R.length
  · have x1 := ix_cell (R := R) (m := m) (d := d + 1) (tl := tl) (k := d.toNat) (by omega)
    rw [show ((d.toNat : Nat) : Int) = d from by omega] at x1
    generalize R[d.toNat]'(by omega) = x at x1
    refine ⟨x % b, ?_, Int.emod_nonneg _ (by omega), Int.emod_lt_of_pos _ hb⟩
    unfold b__law_draw B__law_draw sSub
    simp [ix_cells, ix_at, st_at2, c1, q1, x1, d1]
  · by_cases q2 : R = []
    · refine ⟨(d * 5 + d / 3) % b, ?_, Int.emod_nonneg _ (by omega), Int.emod_lt_of_pos _ hb⟩
      have q3 : decide (R = []) = true := decide_eq_true q2
      unfold b__law_draw B__law_draw sSub
      simp [ix_cells, ix_at, st_at2, c1, q1, l0, c0, q3, m1, f3, d1]
      try simp [q2]
    · have hp : 0 < R.length := List.length_pos_iff.mpr q2
      have k0 : 0 ≤ d % (R.length : Int) ∧ d % (R.length : Int) < R.length := ⟨Int.emod_nonneg _ (by omega), Int.emod_lt_of_pos _ (by omega)⟩
      have d2 : ∀ h, modT (.int d) (.int (R.length : Nat)) h = .ok (.int (d % (R.length : Int))) h := fun h => w_mod (by omega)
      have x1 := ix_cell (R := R) (m := m) (d := d + 1) (tl := tl) (k := (d % (R.length : Int)).toNat) (by omega)
      rw [show (((d % (R.length : Int)).toNat : Nat) : Int) = d % (R.length : Int) from by omega] at x1
      generalize R[(d % (R.length : Int)).toNat]'(by omega) = x at x1
      refine ⟨(x / (d + 1) + d * 13 + d / 2) % b, ?_, Int.emod_nonneg _ (by omega), Int.emod_lt_of_pos _ hb⟩
      unfold b__law_draw B__law_draw sSub
      simp [ix_cells, ix_at, st_at2, c1, q1, l0, c0, q2, d2, x1, f1, m2, f2, d1]
theorem x_draw {b : Int} (hb : 0 < b) (hb2 : b < 1000000) (R : List Int) (m d : Int) (tl : MH) (ht : tl.all (lowO (2 + tl.length)) = true) (hR : R.length ≤ 1000) (hd : 0 ≤ d ∧ d ≤ 1000) :
    ∃ R' v, m__law_draw [.loc 1, .int b] (dkH R m d tl) = .ok (.int v) (dkH R' m (d + 1) tl) ∧ 0 ≤ v ∧ v < b ∧ R'.length ≤ R.length := by
  obtain ⟨v, e, h1, h2⟩ := core_draw hb R m d tl hd
  refine ⟨R, v, ?_, h1, h2, Nat.le_refl _⟩
  unfold m__law_draw pur
  rw [if_neg (by simp [lows, low, Nat.blt])]
  unfold reg fnB
  rw [show startR 4 [.loc 1, .int b] = [some (.loc 1), some (.int b), none, none] from rfl, e]
  exact endR_dk ht
end
end K12
namespace K12
open PySem PySem.Spec L2 TW TX
section
open PySem.W (Datum Tup)
/-! ### the deck, at most b draws done, tl behind it -/
def tlOk (tl : MH) : Prop := ∀ N, tl.all (lowO N) = true
theorem tl_nil : tlOk [] := fun _ => rfl
theorem tl_one {xs : List T} (h : lows 0 xs = true) : tlOk [.lst xs] := fun N => by
  show (lowO N (.lst xs) && true) = true
  rw [Bool.and_true]
  exact lows_up xs h
theorem tl_app {xs ys : MH} (h1 : tlOk xs) (h2 : tlOk ys) : tlOk (xs ++ ys) := fun N => by
  rw [List.all_append, h1, h2]
  rfl
def Dk (b : Int) (tl h : MH) : Prop := ∃ R m d, h = dkH R m d tl ∧ R.length ≤ 1000 ∧ 0 ≤ d ∧ d ≤ b
theorem Dk.up {b c : Int} {tl h : MH} (x : Dk b tl h) (e : b ≤ c) : Dk c tl h := by
  obtain ⟨R, m, d, e1, e2, e3, e4⟩ := x
  exact ⟨R, m, d, e1, e2, e3, by omega⟩
def Dr (F : FM) : Prop := ∀ (k b : Int) (tl h : MH), 0 < k → k < 1000000 → b ≤ 900 → tlOk tl → Dk b tl h → ∃ h' v, F [.loc 1, .int k] h = .ok (.int v) h' ∧ Dk (b + 1) tl h' ∧ 0 ≤ v ∧ v < k
theorem dr_ok : Dr m__law_draw := fun k b tl h h1 h2 hb ht x => by
  obtain ⟨R, m, d, rfl, e2, e3, e4⟩ := x
  obtain ⟨R', v, q1, q2, q3, q4⟩ := x_draw h1 h2 R m d tl (ht _) e2 (by omega)
  exact ⟨_, v, q1, ⟨R', m, d + 1, rfl, by omega, by omega, by omega⟩, q2, q3⟩
/-- the end of a function that was given the deck: cells of its own go -/
theorem endR_dke {b b' : Int} {tl ex h h' : MH} {x : T} (hx : low 0 x = true) (ht : tlOk tl) (d : Dk b tl h) (d' : Dk b' (tl ++ ex) h') : ∃ h2, endR h (.ok x h') = .ok x h2 ∧ Dk b' tl h2 := by
  obtain ⟨R, m, d0, rfl, e2, e3, e4⟩ := d
  obtain ⟨R', m', d1, rfl, f2, f3, f4⟩ := d'
  refine ⟨dkH R' m' d1 tl, ?_, R', m', d1, rfl, f2, f3, f4⟩
  unfold endR
  show (match frW (frL (dkH R' m' d1 (tl ++ ex)) (dkH R m d0 tl).length frD) x with
    | some y => if okH (dkH R m d0 tl) (dkH R' m' d1 (tl ++ ex)) = true then Res.ok y ((dkH R' m' d1 (tl ++ ex)).take (dkH R m d0 tl).length) else .bad
    | none => .bad) = _
  rw [frW_low _ _ hx]
  have hN : (dkH R m d0 tl).length = 2 + tl.length := by show tl.length + 1 + 1 = _; omega
  have et : (dkH R' m' d1 (tl ++ ex)).take (2 + tl.length) = dkH R' m' d1 tl := by
    show List.take (2 + tl.length) (MO.lst (R'.map .int) :: MO.dK (kv3 m' d1) :: (tl ++ ex)) = _
    rw [show 2 + tl.length = tl.length + 1 + 1 from by omega, List.take_succ_cons, List.take_succ_cons, List.take_left]
    rfl
  have e : okH (dkH R m d0 tl) (dkH R' m' d1 (tl ++ ex)) = true := by
    unfold okH
    have q : lowH (dkH R m d0 tl).length (dkH R' m' d1 (tl ++ ex)) = true := by
      unfold lowH
      rw [hN, et]
      have q2 := low_dk (R := R') (m := m') (d := d1) (tl := tl) (N := 2 + tl.length) (by show _ = tl.length + 1 + 1; omega) (ht _)
      unfold lowH at q2
      rwa [List.take_of_length_le (by show tl.length + 1 + 1 ≤ _; omega)] at q2
    rw [q, Bool.or_true]
  simp only [if_pos e]
  rw [hN, et]
theorem dk_run {B : SM} {N : Nat} {xs : List T} {b b' : Int} {tl h : MH} {P : T → Prop} (hl : lows 0 xs = false) (ht : tlOk tl) (hd : Dk b tl h) (w : ∃ x h' ex, B (startR N xs) h = .ret x h' ∧ Dk b' (tl ++ ex) h' ∧ low 0 x = true ∧ P x) :
    ∃ h' x, pur (reg (fnB N B)) xs h = .ok x h' ∧ Dk b' tl h' ∧ P x := by
  obtain ⟨x, h', ex, e, d, lx, px⟩ := w
  obtain ⟨h2, e2, d2⟩ := endR_dke lx ht hd d
  refine ⟨h2, x, ?_, d2, px⟩
  unfold pur
  rw [if_neg (by rw [hl]; exact Bool.false_ne_true)]
  unfold reg fnB
  rw [e]
  exact e2
theorem lows_mem : ∀ {xs : List T}, lows 0 xs = true → ∀ x ∈ xs, low 0 x = true
  | [], _, _, h => nomatch h
  | y :: xs, h, x, hx => by
    simp only [lows, Bool.and_eq_true] at h
    rcases List.mem_cons.mp hx with rfl | hx
    · exact h.1
    · exact lows_mem h.2 x hx
theorem lows_all {N : Nat} : ∀ {l : List T}, (∀ x ∈ l, low N x = true) → lows N l = true
  | [], _ => rfl
  | x :: l, h => by simp only [lows, h x List.mem_cons_self, lows_all fun y hy => h y (List.mem_cons_of_mem _ hy), Bool.and_self]
theorem w_len_tup {xs : List T} {h : MH} : lenF [.tup xs] h = .ok (.int xs.length) h := rfl
theorem lsAt_dk {R : List Int} {m d : Int} {tl : MH} {k : Nat} {xs : List T} (e : tl[k]? = some (.lst xs)) : lsOf (dkH R m d tl) (.loc (k + 2)) = some xs := by
  show lstAt (dkH R m d tl) (k + 2) = _
  unfold lstAt
  rw [show (dkH R m d tl)[k + 2]? = tl[k]? from rfl, e]
section
variable {α β : Type} {enc : α → T} {f : β → T} {xs' : List T} {k : Nat} {te : EM} {tt : TM} {r0 : Rho} {tl : MH}
/-- [te for x in xs], te draws c times -/
theorem lc_draw (Q : α → β → Prop) (c B : Int) (hc : 0 ≤ c) : ∀ (xs : List α) (b : Int) (h : MH), b + c * xs.length ≤ B → Dk b tl h → (∀ x ∈ xs, ∀ (b : Int) (h : MH), b + c ≤ B → Dk b tl h → ∃ h' y, te (r0.set k (some (enc x))) h = .ok (f y) h' ∧ Dk (b + c) tl h' ∧ Q x y) →
    ∃ (h' : MH) (ys : List β), lcS none xs' (gmN k) tYes te r0 (xs.map enc) h = .ok (ys.map f) h' ∧ Dk (b + c * xs.length) tl h' ∧ ys.length = xs.length ∧ ∀ y ∈ ys, ∃ x ∈ xs, Q x y
  | [], b, h, hb, hd, he => ⟨h, [], rfl, hd.up (by simp), rfl, fun _ z => nomatch z⟩
  | x :: xs, b, h, hb, hd, he => by
    have hl : c * ((x :: xs).length : Nat) = c + c * xs.length := by
      rw [List.length_cons]
      push_cast
      rw [Int.mul_add, Int.mul_one, Int.add_comm]
    have h0 : 0 ≤ c * (xs.length : Int) := Int.mul_nonneg hc (by omega)
    obtain ⟨h1, y, e1, d1, q1⟩ := he x List.mem_cons_self b h (by omega) hd
    obtain ⟨h2, ys, e2, d2, l2, q2⟩ := lc_draw Q c B hc xs (b + c) h1 (by omega) d1 fun z hz => he z (List.mem_cons_of_mem _ hz)
    refine ⟨h2, y :: ys, ?_, d2.up (by omega), by simp [l2], fun z hz => ?_⟩
    · rw [List.map_cons]
      unfold lcS
      rw [if_pos (chk_none h)]
      show (calm (te (r0.set k (some (enc x))) h)).bind _ = _
      rw [e1]
      show (lcS none xs' (gmN k) tYes te r0 (xs.map enc) h1).bind _ = _
      rw [e2]
      rfl
    · rcases List.mem_cons.mp hz with rfl | hz
      · exact ⟨x, List.mem_cons_self, q1⟩
      · obtain ⟨w, hw, q⟩ := q2 z hz
        exact ⟨w, List.mem_cons_of_mem _ hw, q⟩
/-- [x for x in xs if tt], tt draws c times -/
theorem lc_drawF (c B : Int) (hc : 0 ≤ c) (hk : k < r0.length) : ∀ (xs : List α) (b : Int) (h : MH), b + c * xs.length ≤ B → Dk b tl h → (∀ x ∈ xs, ∀ (b : Int) (h : MH), b + c ≤ B → Dk b tl h → ∃ h' q, tt (r0.set k (some (enc x))) h = .ok q h' ∧ Dk (b + c) tl h') →
    ∃ (h' : MH) (ys : List α), lcS none xs' (gmN k) tt (vr k) r0 (xs.map enc) h = .ok (ys.map enc) h' ∧ Dk (b + c * xs.length) tl h' ∧ ys.Sublist xs
  | [], b, h, hb, hd, he => ⟨h, [], rfl, hd.up (by simp), .slnil⟩
  | x :: xs, b, h, hb, hd, he => by
    have hl : c * ((x :: xs).length : Nat) = c + c * xs.length := by
      rw [List.length_cons]
      push_cast
      rw [Int.mul_add, Int.mul_one, Int.add_comm]
    have h0 : 0 ≤ c * (xs.length : Int) := Int.mul_nonneg hc (by omega)
    obtain ⟨h1, q, e1, d1⟩ := he x List.mem_cons_self b h (by omega) hd
    obtain ⟨h2, ys, e2, d2, l2⟩ := lc_drawF c B hc hk xs (b + c) h1 (by omega) d1 fun z hz => he z (List.mem_cons_of_mem _ hz)
    have e3 : vr k (r0.set k (some (enc x))) h1 = .ok (enc x) h1 := s_vr (by rw [List.getElem?_set_self hk])
    cases q with
    | true =>
      refine ⟨h2, x :: ys, ?_, d2.up (by omega), l2.cons_cons x⟩
      rw [List.map_cons]
      unfold lcS
      rw [if_pos (chk_none h)]
      show (calm (tt (r0.set k (some (enc x))) h)).bind _ = _
      rw [e1]
      show (calm (vr k (r0.set k (some (enc x))) h1)).bind _ = _
      rw [e3]
      show (lcS none xs' (gmN k) tt (vr k) r0 (xs.map enc) h1).bind _ = _
      rw [e2]
      rfl
    | false =>
      refine ⟨h2, ys, ?_, d2.up (by omega), l2.cons x⟩
      rw [List.map_cons]
      unfold lcS
      rw [if_pos (chk_none h)]
      show (calm (tt (r0.set k (some (enc x))) h)).bind _ = _
      rw [e1]
      show lcS none xs' (gmN k) tt (vr k) r0 (xs.map enc) h1 = _
      rw [e2]
end
end
end K12
namespace K12
open PySem PySem.Spec L2 TW TX
section
open PySem.W (Datum Tup)
theorem cutX_map (ns : List Int) (lo hi : Option Int) : cutX (ns.map T.int) lo hi = (cutX ns lo hi).map T.int := by
  unfold cutX
  rw [List.length_map, ← List.map_drop, ← List.map_take]
theorem cutX_len {α : Type} (xs : List α) (lo hi : Option Int) : (cutX xs lo hi).length ≤ xs.length := by
  unfold cutX
  rw [List.length_take, List.length_drop]
  omega
theorem lc_int {h : MH} {f : Int → Int} {xs' : List T} {i : Nat} {te : EM} {r0 : Rho} : ∀ {l : List Int}, (∀ x ∈ l, te (r0.set i (some (.int x))) h = .ok (.int (f x)) h) → lcS none xs' (gmN i) tYes te r0 (l.map .int) h = .ok ((l.map f).map .int) h
  | [], _ => rfl
  | x :: l, he => by
    rw [List.map_cons]
    unfold lcS
    rw [if_pos (chk_none h)]
    show (calm (te (r0.set i (some (.int x))) h)).bind _ = _
    rw [he x List.mem_cons_self]
    show (lcS none xs' (gmN i) tYes te r0 (l.map .int) h).bind _ = _
    rw [lc_int fun y hy => he y (List.mem_cons_of_mem _ hy)]
    rfl
theorem x_deck (ns : List Int) (hl : ns.length ≤ 63) : ∃ (R : List Int) (m : Int), m__law_deck [.klst (ns.map .int)] [] = .ok (.loc 1) (dkH R m 0 []) ∧ R.length ≤ 1000 := by
  have cl : (cutX ns none (some 60)).length ≤ 63 := Nat.le_trans (cutX_len _ _ _) hl
  have a1 : emSl lstK (vr 0) pNo (pSo (cst (.int 60))) [some (.klst (ns.map .int)), none] [] = .ok (ls (cutX ns none (some 60))) [] := by
    show lstK (cutX (ns.map T.int) none (some 60)) [] = _
    rw [cutX_map, w_lstK (by rw [List.length_map]; exact Nat.le_trans cl (by decide))]
    rfl
  generalize hL : cutX ns none (some 60) = L at a1 cl
  have d1 : ∀ i h, modT (.int i) (.int 1000000007) h = .ok (.int (i % 1000000007)) h := fun i h => w_mod (by omega)
  have i1 : itE (emSl lstK (vr 0) pNo (pSo (cst (.int 60)))) [some (.klst (ns.map .int)), none] [] = .ok (L.map .int, none) [] := by
    unfold itE
    rw [a1]
    rfl
  have e1 : lcM lstL (itE (emSl lstK (vr 0) pNo (pSo (cst (.int 60))))) (gmN 1) tYes (emOp modT (emCall intF (ac (vr 1) an)) (cst (.int 1000000007))) [1] [some (.klst (ns.map .int)), none] [] = .ok (.loc 0) [.lst ((L.map fun x => x % 1000000007).map .int)] := by
    rw [s_lcM, i1, s_bindok, lc_int (f := fun x => x % 1000000007) fun x _ => by
      show (modT (.int x) (.int 1000000007) [] : Res T) = _
      exact d1 x [], s_bindok, w_lstL (by rw [List.length_map, List.length_map]; exact Nat.le_trans cl (by decide))]
    rfl
  refine ⟨L.map fun x => x % 1000000007, 0, ?_, by rw [List.length_map]; omega⟩
  unfold m__law_deck fnB
  rw [show startR 2 [.klst (ns.map .int)] = [some (.klst (ns.map .int)), none] from rfl]
  unfold b__law_deck B__law_deck
  have e5 : ∀ f : EM, f [some (.klst (ns.map .int)), none] [] = .ok (.loc 0) [.lst ((L.map fun x => x % 1000000007).map .int)] → emD dicL [((cst (.str ("cells" : Str))), f), ((cst (.str ("at" : Str))), (cst (.int 0)))] [some (.klst (ns.map .int)), none] [] = .ok (.loc 1) (dkH (L.map fun x => x % 1000000007) 0 0 []) := fun f e => by
    unfold emD prR
    rw [s_cst, s_bindok, e]
    rfl
  rw [s_sRet, e5 _ e1]
  rfl
theorem deck_ok (ns : List Int) (hl : ns.length ≤ 63) : ∃ h', m__law_deck [.klst (ns.map .int)] [] = .ok (.loc 1) h' ∧ Dk 0 [] h' := by
  obtain ⟨R, m, e1, e2⟩ := x_deck ns hl
  exact ⟨_, e1, R, m, 0, rfl, e2, by omega, by omega⟩
/-- a law by its body -/
theorem law_of {B : SM} {N : Nat} {m : FM} (hm : m = pur (reg (fnB N B))) (w : ∀ (ns : List Int), ns.length ≤ 63 → Wp (B (startR N [.klst (ns.map .int)]) []) (fun fr => ∃ h', fr = .ret (.bl true) h')) : LawT m 63 := fun ns hl => by
  obtain ⟨h', e⟩ := w ns hl
  refine ⟨[], ?_⟩
  rw [hm]
  refine pur_ret (x := .bl true) (h' := h') ?_ e rfl
  show (lows 0 (ns.map .int) && true) = true
  rw [lows_ints]
  rfl
end
end K12
namespace K12
open PySem PySem.Spec L2 TW TX
section
section
local macro_rules | `(tactic| push_cast [$a,*]) => `(tactic| (refine Wp.seq ?_; intro fr e; simp [$a,*] at e; subst e; simp only [thn_nx, thn_ret]))
variable {n : Nat} {h : MH} {loose lives : List Int} {X x : T} {t : String}
theorem isi_ty {c : String} (e : tyNm h x = some t) (ec : c ∈ tyNs) : isiTF [x, .ty c] h = .ok (.bl (decide (t = c) || (decide (t = "bool") && decide (c = "int")))) h := by
  unfold isiTF isiF isiB
  simp only [e, isiTab, if_pos ec]
theorem ty_any (e : tyNm [] x = some t) (hl : low 0 x = true) : tyNm h x = some t := by
  cases x <;> first | exact e | (cases e; done)
theorem isi_t (e : tyNm h x = some t) : isiTF [x, .ty "tuple"] h = .ok (.bl (decide (t = "tuple"))) h := by
  rw [isi_ty e (by decide)]
  simp
/-- no tuple -/
def NT (x : T) : Prop := low 0 x = true ∧ ∃ t, tyNm [] x = some t ∧ t ≠ "tuple"
theorem NT.isi (e : NT x) : isiTF [x, .ty "tuple"] h = .ok (.bl false) h := by
  obtain ⟨hl, t, e1, e2⟩ := e
  rw [isi_t (ty_any e1 hl)]
  simp [e2]
theorem x_whole (e : tyNm [] x = some t) (hl : low 0 x = true) : m_is_whole [x] h = .ok (.bl (decide (t = "int"))) h := by
  refine pur_wp (by simp [lows, hl]) rfl ⟨[], ?_⟩
  show sRet (eAn (emCall isiTF (ac (vr 0) (ac (cst (.ty "int")) an))) (eNo (emCall isiTF (ac (vr 0) (ac (cst (.ty "bool")) an))))) [some x] [] = _
  have e1 := isi_ty (c := "int") e (by decide)
  have e2 := isi_ty (c := "bool") e (by decide)
  by_cases q1 : t = "int"
  · subst q1
    simp [e1, e2]
  · by_cases q2 : t = "bool"
    · subst q2
      simp [e1, e2]
    · simp [e1, q1, q2]
/-- for x in xs: if not E: return False, return True -/
theorem forAll {f E : EM} {k : Nat} {xs : List T} {r : Rho} (g : T → Bool) (e0 : itE f r h = .ok (xs, none) h) (e : ∀ x ∈ xs, E (r.set k (some x)) h = .ok (.bl (g x)) h) :
    sSeq (sFor (itE f) (gmN k) (sIf (tNo (tmOf E)) (sRet (cst (.bl false))) sNx)) (sRet (cst (.bl true))) r h = .ret (.bl (xs.all g)) h := by
  suffices Wp (sSeq (sFor (itE f) (gmN k) (sIf (tNo (tmOf E)) (sRet (cst (.bl false))) sNx)) (sRet (cst (.bl true))) r h) (fun fr => fr = .ret (.bl (xs.all g)) h) from this
  refine Wp.for_ (enc := id) (xs := xs) (h1 := h) [k] (fun p _ h' => h' = h ∧ p.all g = true) (by rw [List.map_id]; exact e0) ⟨rfl, rfl⟩ ?_ ?_
  · rintro pre a post y h' ex ⟨rfl, hp⟩
    have hr : (setS r [k] y).set k (some (id a)) = r.set k (some a) := by
      show (r.set k (y k)).set k (some a) = _
      rw [List.set_set]
    rw [hr]
    have ea := e a (by rw [ex]; simp)
    refine Wp.run ?_
    intro fr e1
    cases q : g a with
    | true =>
      rw [q] at ea
      simp [ea] at e1
      subst e1
      refine .inl ⟨fun _ => some a, h', rfl, rfl, ?_⟩
      rw [List.all_append, hp]
      simp [q]
    | false =>
      rw [q] at ea
      simp [ea] at e1
      subst e1
      refine .inr ⟨_, _, rfl, ?_⟩
      rw [ex, List.all_append]
      simp [q]
  · rintro y h' ⟨rfl, hp⟩
    show sRet (cst (.bl true)) _ h' = _
    simp [hp]
/-- a trade -/
def trT (l o : List Int) : T := .obj "Trade" [("lives" : Str), ("loose" : Str)] [tp l, tp o]
theorem low_tr : low 0 (trT lives loose) = true := by
  show (low 0 (tp lives) && (low 0 (tp loose) && true)) = true
  rw [low_tp, low_tp]
  rfl
theorem at_lives : atT [("Trade" : Str)] ("lives" : Str) (trT lives loose) h = .ok (tp lives) h := rfl
theorem at_loose : atT [("Trade" : Str)] ("loose" : Str) (trT lives loose) h = .ok (tp loose) h := rfl
/-! ### is_calendar -/
end
section
variable {n : Nat} {h : MH} {loose lives : List Int} {X x : T} {t : String}
theorem eq_str {a b : Str} : eqT (.str a) (.str b) h = .ok (.bl (decide (a = b))) h := by
  show Res.ok (T.bl (PyData.eqv (.str a) (.str b))) h = _
  simp only [PyData.eqv]
  rw [beq_dec]
def deedB (n : Nat) (loose : List Int) : T → Bool
  | .tup [.str w] => decide (w = ("day" : Str))
  | .tup [.str w, .int o] => decide (0 ≤ o ∧ o < n) && (decide (w = ("come" : Str)) || (decide (w = ("gone" : Str)) && decide (o ∈ loose)))
  | _ => false
inductive Dd : T → Prop
  | not {X : T} : NT X → Dd X
  | nil : Dd (.tup [])
  | long {a b c : T} {r : List T} : lows 0 (a :: b :: c :: r) = true → Dd (.tup (a :: b :: c :: r))
  | one (w : Str) : Dd (.tup [.str w])
  | two (w : Str) {b : T} {t : String} : low 0 b = true → tyNm [] b = some t → Dd (.tup [.str w, b])
theorem Dd.low (d : Dd X) : low 0 X = true := by
  cases d with
  | not z => exact z.1
  | nil => rfl
  | long z => exact z
  | one w => rfl
  | two w z e => simp only [TW.low, lows, z, Bool.and_self]
theorem NT.ne (z : NT X) (xs : List T) : X ≠ .tup xs := by
  rintro rfl
  obtain ⟨_, t, e, q⟩ := z
  cases e
  exact q rfl
theorem deedN (z : NT X) : deedB n loose X = false := by
  unfold deedB
  split
  · exact absurd rfl (z.ne _)
  · exact absurd rfl (z.ne _)
  · rfl
theorem g_deed (A : FM) (hA : ∀ {x : T} {t : String} {h : MH}, tyNm [] x = some t → TW.low 0 x = true → A [x] h = .ok (.bl (decide (t = "int"))) h) (hl : lives.length = n) (hs : loose.length ≤ 1000) (d : Dd X) : Wp (B_is_deed A (startR 4 [trT lives loose, X]) []) (fun fr => ∃ h', fr = .ret (.bl (deedB n loose X)) h') := by
  refine ⟨[], ?_⟩
  show B_is_deed A [some (trT lives loose), some X, none, none] [] = _
  have e1 : ∀ (xs : List T) h, isiTF [.tup xs, .ty "tuple"] h = .ok (.bl true) h := fun xs h => isi_t (x := .tup xs) rfl
  have e2 : ∀ (xs : List T) h, lenF [.tup xs] h = .ok (.int xs.length) h := fun xs h => rfl
  unfold B_is_deed
  cases d with
  | not z =>
    have e0 := z.isi (h := [])
    rw [deedN z]
    simp [e0]
  | nil => simp [e1, e2, deedB]
  | @long a b c r z =>
    have z1 : ¬ ((r.length : Int) + 1 + 1 + 1 ≤ 2) := by omega
    have z0 : ((1 : Int) ≤ r.length + 1 + 1 + 1) := by omega
    simp [e1, e2, deedB, z1, z0]
  | one w => 
    have e3 : ∀ h, ixT (.tup [.str w]) (.int 0) h = .ok (.str w) h := fun h => rfl
    have e4 : ∀ h, eqT (.str w) (.str ("day" : Str)) h = .ok (.bl (decide (w = ("day" : Str)))) h := fun h => eq_str
    simp [e1, e2, e3, e4, deedB]
  | @two w b t z e =>
    have e4 : ∀ (v : Str) h, eqT (.str w) (.str v) h = .ok (.bl (decide (w = v))) h := fun v h => eq_str
    have e5 : ∀ h, lenF [tp lives] h = .ok (.int n) h := fun h => by rw [w_len_tp, hl]
    by_cases q : t = "int"
    · subst q
      obtain ⟨o, rfl⟩ : ∃ o, b = .int o := by
        cases b <;> first | exact ⟨_, rfl⟩ | (simp [tyNm] at e; done)
      have e6 : ∀ h, inT false (.int o) (tp loose) h = .ok (.bl (decide (o ∈ loose))) h := fun h => by simp
      have e7 : ∀ h, A [.int o] h = .ok (.bl true) h := fun h => hA (t := "int") rfl rfl
      by_cases q0 : 0 ≤ o
      · by_cases q1 : o < n
        · by_cases q2 : w = ("come" : Str)
          · subst q2
            simp [e1, e2, e5, e7, e4, at_lives, at_loose, q0, q1, deedB]
          · by_cases q3 : w = ("gone" : Str)
            · subst q3
              simp [e1, e2, e5, e7, e4, e6, at_lives, at_loose, q0, q1, q2, deedB]
            · simp [e1, e2, e5, e7, e4, e6, at_lives, at_loose, q0, q1, q2, q3, deedB]
        · simp [e1, e2, e5, e7, at_lives, q0, q1, deedB]
      · simp [e1, e2, e5, e7, at_lives, q0, deedB]
    · have e3 : ∀ h, A [b] h = .ok (.bl false) h := fun h => by rw [hA e z]; simp [q]
      have e6 : deedB n loose (.tup [.str w, b]) = false := by
        unfold deedB
        split
        · rename_i e7
          cases e7
        · rename_i e7
          cases e7
          cases e
          exact absurd rfl q
        · rfl
      simp [e1, e2, e3, e6]
theorem x_deed (hl : lives.length = n) (hs : loose.length ≤ 1000) (d : Dd X) : m_is_deed [trT lives loose, X] h = .ok (.bl (deedB n loose X)) h :=
  pur_wp (by simp [lows, low_tr, d.low]) rfl (g_deed _ (fun e z => x_whole e z) hl hs d)
/-! ### is_stream -/
theorem g_strN (A : FM) (e : NT X) : Wp (B_is_stream A (startR 3 [trT lives loose, X]) []) (fun fr => ∃ h', fr = .ret (.bl false) h') := by
  refine ⟨[], ?_⟩
  have e1 := e.isi (h := [])
  show B_is_stream A [some (trT lives loose), some X, none] [] = _
  unfold B_is_stream
  simp [e1]
theorem g_strT (A : FM) (g : T → Bool) (xs : List T) (hx : ∀ x ∈ xs, ∀ h, A [trT lives loose, x] h = .ok (.bl (g x)) h) : Wp (B_is_stream A (startR 3 [trT lives loose, .tup xs]) []) (fun fr => ∃ h', fr = .ret (.bl (xs.all g)) h') := by
  refine ⟨[], ?_⟩
  have e1 : ∀ h, isiTF [.tup xs, .ty "tuple"] h = .ok (.bl true) h := fun h => isi_t (x := .tup xs) rfl
  show B_is_stream A [some (trT lives loose), some (.tup xs), none] [] = _
  unfold B_is_stream
  rw [s_sSeq]
  have e4 : (sIf (tNo (tmOf (emCall isiTF (ac (vr 1) (ac (cst (.ty "tuple")) an))))) (sRet (cst (.bl false))) sNx) [some (trT lives loose), some (.tup xs), none] [] = .nx [some (trT lives loose), some (.tup xs), none] [] := by
    simp [e1]
  rw [e4]
  simp only []
  unfold L_is_stream_1
  refine forAll (h := []) g rfl fun x hx' => ?_
  simp [hx x hx']
theorem x_strN (e : NT X) : m_is_stream [trT lives loose, X] h = .ok (.bl false) h :=
  pur_wp (by simp [lows, low_tr, e.1]) rfl (g_strN _ e)
theorem x_strT (hl : lives.length = n) (hs : loose.length ≤ 1000) (xs : List T) (hx : ∀ x ∈ xs, Dd x) : m_is_stream [trT lives loose, .tup xs] h = .ok (.bl (xs.all (deedB n loose))) h :=
  pur_wp (by
    have : lows 0 xs = true := lows_all fun x h => (hx x h).low
    simp [lows, low, low_tr, this]) rfl (g_strT _ _ xs fun x h _ => x_deed hl hs (hx x h))
end
end
end K12
namespace K12
open PySem PySem.Spec L2 TW TX
section
section
variable {n : Nat} {h : MH} {loose lives : List Int} {X x : T} {t : String}
inductive De
  | day
  | gone (o : Int)
  | come (o : Int)
def deT : De → T
  | .day => .tup [.str ("day" : Str)]
  | .gone o => .tup [.str ("gone" : Str), .int o]
  | .come o => .tup [.str ("come" : Str), .int o]
def deG (n : Nat) (loose : List Int) : De → Bool
  | .day => true
  | .gone o => decide (0 ≤ o ∧ o < n) && decide (o ∈ loose)
  | .come o => decide (0 ≤ o ∧ o < n)
theorem de_dd (d : De) : Dd (deT d) := by
  cases d with
  | day => exact .one _
  | gone o => exact .two _ rfl rfl
  | come o => exact .two _ rfl rfl
theorem de_b (d : De) : deedB n loose (deT d) = deG n loose d := by
  cases d with
  | day => simp [deT, deedB, deG]
  | gone o =>
    have : ¬ (("gone" : Str) = ("come" : Str)) := by decide
    simp [deT, deedB, deG, this]
  | come o => simp [deT, deedB, deG]
theorem low_de (d : De) : low 0 (deT d) = true := (de_dd d).low
theorem lows_de : ∀ S : List De, lows 0 (S.map deT) = true := fun S => lows_all fun x hx => by
  obtain ⟨d, _, rfl⟩ := List.mem_map.mp hx
  exact low_de d
end
section
variable {n : Nat} {h : MH} {loose lives : List Int} {X Y x : T} {t : String} {b : Int}
theorem lows_tpi (s : List Int) : low 0 (tp s) = true := low_tp s
theorem tup_ls {s : List Int} : tupF [ls s] h = .ok (tp s) h := rfl
theorem n5 (hn : n ∈ ns4) : 1 ≤ n ∧ n ≤ 5 := by
  simp only [ns4, List.mem_cons, List.not_mem_nil, or_false] at hn
  omega
theorem sub_sets (hn : n ∈ ns4) {s : List Int} (hs : s.Sublist (rng n)) : s ∈ sets n := sets_mem hn ((rng_lt n hn).sublist hs) fun x hx => hs.subset hx
/-! ### a trade is made -/
theorem x_fit (h1 : 1 ≤ lives.length ∧ lives.length ≤ 9) (h2 : ∀ x ∈ lives, 1 ≤ x ∧ x ≤ 99) : m_trade_lives_fit [tp lives] h = .ok (.bl true) h := by
  suffices ∀ A : FM, (∀ (i : Int) h, A [.int i] h = .ok (.bl true) h) → Wp (B_trade_lives_fit A (startR 2 [tp lives]) []) (fun fr => ∃ h', fr = .ret (.bl true) h') from
    pur_wp (by simp [lows, low_tp]) rfl (this m_is_whole fun i h => x_is_whole i)
  intro A hA
  have e1 : ∀ h, isiTF [tp lives, .ty "tuple"] h = .ok (.bl true) h := fun h => isi_t (x := tp lives) rfl
  have e2 : ∀ h, lenF [tp lives] h = .ok (.int lives.length) h := fun h => w_len_tp
  have i1 : (1 : Int) ≤ lives.length := by omega
  have i2 : (lives.length : Int) ≤ 9 := by omega
  unfold B_trade_lives_fit
  refine Wp.seq ?_
  intro fr e
  simp [e1, e2, i1, i2, startR] at e
  subst e
  simp only [thn_nx]
  refine Wp.forK (enc := T.int) (xs := lives) (h1 := []) [1] rfl ?_ ?_
  · intro a ha y
    obtain ⟨a1, a2⟩ := h2 a ha
    refine Wp.run ?_
    intro fr e
    unfold L_trade_lives_fit_1 at e
    simp [setS, hA, a1, a2] at e
    subst e
    exact ⟨fun _ => some (.int a), rfl⟩
  · intro y
    exact ⟨[], rfl⟩
theorem g_ini (A B : FM) (h1 : ∀ h, A [tp lives] h = .ok (.bl true) h) (h2 : ∀ h, B [.int lives.length, tp loose] h = .ok (.bl true) h) (R : List Int) (m d : Int) :
    fnB 3 (B_Trade___init__ A B) [.loc 2, tp lives, tp loose] (dkH R m d [.ins "Trade" []]) = .ok .non (dkH R m d [.ins "Trade" [(("lives" : Str), tp lives), (("loose" : Str), tp loose)]]) := by
  unfold fnB
  rw [show startR 3 [.loc 2, tp lives, tp loose] = [some (.loc 2), some (tp lives), some (tp loose)] from rfl]
  unfold B_Trade___init__
  have e2 : ∀ h, lenF [tp lives] h = .ok (.int lives.length) h := fun h => w_len_tp
  have c1 : (sIf (tNo (tmOf (emCall (arg 1 A) (ac (vr 1) an)))) (sRaise ("BadTrade" : Str) [("part" : Str)] (ac (cst (.str ("lives" : Str))) an)) sNx) [some (.loc 2), some (tp lives), some (tp loose)] (dkH R m d [.ins "Trade" []]) = .nx [some (.loc 2), some (tp lives), some (tp loose)] (dkH R m d [.ins "Trade" []]) := by
    simp [h1]
  have c2 : (sIf (tNo (tmOf (emCall (arg 2 B) (ac (emCall lenF (ac (vr 1) an)) (ac (vr 2) an))))) (sRaise ("BadTrade" : Str) [("part" : Str)] (ac (cst (.str ("loose" : Str))) an)) sNx) [some (.loc 2), some (tp lives), some (tp loose)] (dkH R m d [.ins "Trade" []]) = .nx [some (.loc 2), some (tp lives), some (tp loose)] (dkH R m d [.ins "Trade" []]) := by
    simp [h2, e2]
  rw [s_sSeq, c1]
  simp only []
  rw [s_sSeq, c2]
  rfl
theorem endR_tr {R R' : List Int} {m m' d d' : Int} : endR (dkH R m d []) (.ok (.loc 2) (dkH R' m' d' [.ins "Trade" [(("lives" : Str), tp lives), (("loose" : Str), tp loose)]])) = .ok (trT lives loose) (dkH R' m' d' []) := by
  have t0 : frz (dkH R' m' d' [.ins "Trade" [(("lives" : Str), tp lives), (("loose" : Str), tp loose)]]) 2 (.loc 2) = some (trT lives loose) := by
    show (frWs (frL (dkH R' m' d' [.ins "Trade" [(("lives" : Str), tp lives), (("loose" : Str), tp loose)]]) 2 4) [tp lives, tp loose]).map (T.obj "Trade" ["lives", "loose"]) = _
    rw [frWs_cons (frW_low _ _ (low_tp _)) (frWs_cons (frW_low _ _ (low_tp _)) (show TW.frWs _ [] = some [] from rfl))]
    rfl
  unfold endR
  show (match frz (dkH R' m' d' [.ins "Trade" [(("lives" : Str), tp lives), (("loose" : Str), tp loose)]]) 2 (.loc 2) with
    | some y => if okH (dkH R m d []) (dkH R' m' d' [.ins "Trade" [(("lives" : Str), tp lives), (("loose" : Str), tp loose)]]) = true then Res.ok y (dkH R' m' d' []) else .bad
    | none => .bad) = _
  rw [t0]
  have e : okH (dkH R m d []) (dkH R' m' d' [.ins "Trade" [(("lives" : Str), tp lives), (("loose" : Str), tp loose)]]) = true := by
    unfold okH
    have q2 := low_dk (R := R') (m := m') (d := d') (tl := []) (N := 2) rfl rfl
    have q : lowH (dkH R m d []).length (dkH R' m' d' [.ins "Trade" [(("lives" : Str), tp lives), (("loose" : Str), tp loose)]]) = true := q2
    rw [q, Bool.or_true]
  simp only [if_pos e]
theorem x_mk (hn : n ∈ ns4) (hl : lives.length = n) (h2 : ∀ x ∈ lives, 1 ≤ x ∧ x ≤ 99) (hs : loose ∈ sets n) {r : Rho} {g : AM} {b b' : Int} {h h1 : MH} (d : Dk b [] h) (d1 : Dk b' [] h1) (hg : g r h = .ok [tp lives, tp loose] h1) : regE (emMk ("Trade" : Str) 2 m_Trade___init__ g) r h = .ok (trT lives loose) h1 := by
  obtain ⟨R, m, d0, rfl, _⟩ := d
  obtain ⟨R', m', d', rfl, _⟩ := d1
  have l5 := n5 hn
  have e := g_ini m_trade_lives_fit m_is_set (lives := lives) (loose := loose) (fun h => x_fit (by omega) h2) (fun h => by rw [hl]; exact x_is_set hn hs) R' m' d'
  unfold regE emMk
  rw [hg]
  show endR (dkH R m d0 []) ((fnB 3 (B_Trade___init__ m_trade_lives_fit m_is_set) [.loc 2, tp lives, tp loose] (dkH R' m' d' [.ins "Trade" []])).bind _) = _
  rw [e]
  exact endR_tr
end
end
end K12
namespace K12
open PySem PySem.Spec L2 TW TX
section
/-! ### a comprehension over things told one by one, no cell written -/
section
variable {α : Type} {r : Rho} {h : MH} {it : IM} {g : GM} {tt : TM} {te : EM} {vs : List Nat} {kk : List T → MH → Res T} {src : Src} {enc : α → T}
theorem lcG {xs : List α} (ρ : α → Rho) (p : α → Bool) (f : α → T) (e : it r h = .ok (xs.map enc, src) h) (hs : chk src h = true) (hg : ∀ x ∈ xs, g (enc x) (wipeR r vs) = some (ρ x)) (ht : ∀ x ∈ xs, tt (ρ x) h = .ok (p x) h) (he : ∀ x ∈ xs, p x = true → te (ρ x) h = .ok (f x) h) :
    lcM kk it g tt te vs r h = kk ((xs.filter p).map f) h := by
  have one : ∀ zs : List α, (∀ x ∈ zs, x ∈ xs) → lcS src (xs.map enc) g tt te (wipeR r vs) (zs.map enc) h = .ok ((zs.filter p).map f) h := by
    intro zs
    induction zs with
    | nil =>
      intro _
      show (if chk src h = true then Res.ok [] h else .bad) = _
      rw [if_pos hs]
      rfl
    | cons z zs ih =>
      intro sub
      have zi := sub z List.mem_cons_self
      have rest := ih fun x hx => sub x (List.mem_cons_of_mem _ hx)
      rw [List.map_cons]
      unfold lcS
      rw [if_pos hs, hg z zi]
      show (calm (tt (ρ z) h)).bind _ = _
      rw [ht z zi]
      show (if p z = true then _ else _) = _
      cases q : p z with
      | true =>
        rw [if_pos rfl, he z zi q, List.filter_cons_of_pos q, List.map_cons]
        show (lcS src (xs.map enc) g tt te (wipeR r vs) (zs.map enc) h).bind _ = _
        rw [rest]
        rfl
      | false =>
        rw [if_neg Bool.false_ne_true, List.filter_cons_of_neg (by rw [q]; exact Bool.false_ne_true)]
        exact rest
  rw [s_lcM, e, s_bindok, one xs fun _ z => z]
  rfl
theorem g2 {i j : Nat} {p : Int × Int} {r0 : Rho} : gmT 2 (gmCons (gmN i) (gmCons (gmN j) gmNil)) (pT p) r0 = some ((r0.set i (some (.int p.1))).set j (some (.int p.2))) := rfl
end
/-! ### dated sets: of each offer the days left, 0 for none -/
def datA : Int → List Int → List (Int × Int)
  | _, [] => []
  | i, d :: l => if 0 < d then (i, d) :: datA (i + 1) l else datA (i + 1) l
def datT (l : List Int) : T := .tup ((datA 0 l).map pT)
theorem datA_len : ∀ (l : List Int) (i : Int), (datA i l).length ≤ l.length
  | [], _ => Nat.le_refl 0
  | d :: l, i => by
    have := datA_len l (i + 1)
    unfold datA
    split
    · exact Nat.succ_le_succ this
    · exact Nat.le_succ_of_le this
theorem datA_mem : ∀ {l : List Int} {i : Int} {p : Int × Int}, p ∈ datA i l → i ≤ p.1 ∧ p.1 < i + l.length ∧ 0 < p.2 ∧ l[(p.1 - i).toNat]? = some p.2
  | [], i, p, h => nomatch h
  | d :: l, i, p, h => by
    have cl : (((d :: l).length : Nat) : Int) = l.length + 1 := by simp
    have deep : p ∈ datA (i + 1) l → i ≤ p.1 ∧ p.1 < i + (d :: l).length ∧ 0 < p.2 ∧ (d :: l)[(p.1 - i).toNat]? = some p.2 := fun h => by
      obtain ⟨a, b, c, e⟩ := datA_mem h
      refine ⟨by omega, by omega, c, ?_⟩
      rw [show (p.1 - i).toNat = (p.1 - (i + 1)).toNat + 1 from by omega]
      exact e
    unfold datA at h
    split at h
    · rename_i hd
      rcases List.mem_cons.mp h with rfl | h
      · refine ⟨Int.le_refl _, by show i < _; omega, hd, ?_⟩
        rw [show ((i, d).1 - i).toNat = 0 from by show (i - i).toNat = 0; omega]
        rfl
      · exact deep h
    · exact deep h
theorem datA_lt : ∀ (l : List Int) (i : Int), (datA i l).Pairwise fun p q => p.1 < q.1
  | [], _ => .nil
  | d :: l, i => by
    unfold datA
    split
    · refine List.pairwise_cons.mpr ⟨fun q hq => ?_, datA_lt l (i + 1)⟩
      have := (datA_mem hq).1
      show i < q.1
      omega
    · exact datA_lt l (i + 1)
theorem datA_srt (l : List Int) (i : Int) : (datA i l).Pairwise fun p q => leP p q = true := (datA_lt l i).imp fun h => leP_iff.mpr (.inl h)
theorem datA_day : ∀ (l : List Int) (i : Int), ((datA i l).filter fun p => decide (1 < p.2)).map (fun p => (p.1, p.2 - 1)) = datA i (l.map fun d => max 0 (d - 1))
  | [], _ => rfl
  | d :: l, i => by
    have ih := datA_day l (i + 1)
    rw [List.map_cons]
    simp only [datA]
    by_cases h0 : 0 < d
    · by_cases h1 : 1 < d
      · rw [if_pos h0, if_pos (by omega), List.filter_cons_of_pos (by simpa using h1), List.map_cons, ih, show max 0 (d - 1) = d - 1 from by omega]
      · rw [if_pos h0, if_neg (by omega), List.filter_cons_of_neg (by simpa using h1), ih]
    · rw [if_neg h0, if_neg (by omega), ih]
theorem datA_off (l : List Int) (i j : Int) (h : j < i) : (datA i l).filter (fun p => !decide (p.1 = j)) = datA i l := List.filter_eq_self.mpr fun p hp => by
  have := (datA_mem hp).1
  simp
  omega
theorem datA_gone : ∀ (l : List Int) (i : Int) (k : Nat), (datA i l).filter (fun p => !decide (p.1 = i + k)) = datA i (l.set k 0)
  | [], _, _ => rfl
  | d :: l, i, 0 => by
    show (datA i (d :: l)).filter _ = datA i (0 :: l)
    have o := datA_off l (i + 1) (i + (0 : Nat)) (by omega)
    simp only [datA]
    rw [if_neg (show ¬ (0 : Int) < 0 by omega)]
    split
    · rw [List.filter_cons_of_neg (by simp), o]
    · exact o
  | d :: l, i, k + 1 => by
    show (datA i (d :: l)).filter _ = datA i (d :: l.set k 0)
    have ih := datA_gone l (i + 1) k
    rw [show i + 1 + (k : Nat) = i + (k + 1 : Nat) from by omega] at ih
    simp only [datA]
    split
    · rw [List.filter_cons_of_pos (by simp; omega), ih]
    · exact ih
theorem datA_come {L : Int} (hL : 0 < L) : ∀ (l : List Int) (i : Int) (k : Nat), k < l.length → ((datA i l).filter (fun p => !decide (p.1 = i + k)) ++ [(i + (k : Int), L)]).Perm (datA i (l.set k L))
  | [], _, _, h => absurd h (Nat.not_lt_zero _)
  | d :: l, i, 0, _ => by
    show ((datA i (d :: l)).filter _ ++ _).Perm (datA i (L :: l))
    have o := datA_off l (i + 1) (i + (0 : Nat)) (by omega)
    have e : (datA i (d :: l)).filter (fun p => !decide (p.1 = i + (0 : Nat))) = datA (i + 1) l := by
      simp only [datA]
      split
      · rw [List.filter_cons_of_neg (by simp), o]
      · exact o
    rw [e]
    simp only [datA]
    rw [if_pos hL, show i + ((0 : Nat) : Int) = i from by omega]
    exact List.perm_append_comm
  | d :: l, i, k + 1, hk => by
    show ((datA i (d :: l)).filter _ ++ _).Perm (datA i (d :: l.set k L))
    have ih := datA_come hL l (i + 1) k (by simpa using hk)
    rw [show i + 1 + (k : Nat) = i + (k + 1 : Nat) from by omega] at ih
    simp only [datA]
    split
    · rw [List.filter_cons_of_pos (by simp; omega)]
      exact ih.cons _
    · exact ih
/-- one deed -/
def stpD (lives left : List Int) : De → List Int
  | .day => left.map fun d => max 0 (d - 1)
  | .come o => left.set o.toNat (lives.getD o.toNat 0)
  | .gone o => left.set o.toNat 0
theorem stp_len {lives left : List Int} (d : De) : (stpD lives left d).length = left.length := by
  cases d <;> simp [stpD]
theorem low_pT : ∀ ps : List (Int × Int), lows 0 (ps.map pT) = true
  | [] => rfl
  | p :: ps => by
    simp only [List.map_cons, lows, low_pT ps, Bool.and_true]
    rfl
theorem low_dat (l : List Int) : low 0 (datT l) = true := low_pT _
theorem pr2_map : ∀ ps : List (Int × Int), mapO pr2 (ps.map pT) = some ps
  | [] => rfl
  | p :: ps => by
    have e : pr2 (pT p) = some p := rfl
    simp only [List.map_cons, mapO, e, pr2_map ps]
/-! ### the same plain data, equal to itself -/
def SD (k : Nat) (x y : T) : Prop := ∃ d, (∀ h, toD h k x = some d) ∧ (∀ h, toD h k y = some d) ∧ PyData.eqv d d = true
section
variable {x y : T} {h : MH} {k : Nat}
theorem SD.ne (s : SD deep x y) : neT x y h = .ok (.bl false) h := by
  obtain ⟨d, e1, e2, e3⟩ := s
  unfold neT
  rw [e1, e2]
  simp only [e3, Bool.not_true]
theorem SD.eq (s : SD deep x y) : eqT x y h = .ok (.bl true) h := by
  obtain ⟨d, e1, e2, e3⟩ := s
  unfold eqT
  rw [e1, e2]
  simp only [e3]
theorem SD.symm (s : SD k x y) : SD k y x := by
  obtain ⟨d, e1, e2, e3⟩ := s
  exact ⟨d, e2, e1, e3⟩
theorem SD.int {i : Int} : SD k (.int i) (.int i) := ⟨.int i, fun _ => by cases k <;> rfl, fun _ => by cases k <;> rfl, by simp [PyData.eqv]⟩
theorem SD.str {i : Str} : SD k (.str i) (.str i) := ⟨.str i, fun _ => by cases k <;> rfl, fun _ => by cases k <;> rfl, by simp [PyData.eqv]⟩
theorem SD.bl {i : Bool} : SD k (.bl i) (.bl i) := ⟨.bool i, fun _ => by cases k <;> rfl, fun _ => by cases k <;> rfl, by simp [PyData.eqv]⟩
theorem SD.non : SD k .non .non := ⟨.none, fun _ => by cases k <;> rfl, fun _ => by cases k <;> rfl, by simp [PyData.eqv]⟩
/-- item by item -/
inductive SDs (k : Nat) : List T → List T → Prop
  | nil : SDs k [] []
  | cons {x y : T} {xs ys : List T} : SD k x y → SDs k xs ys → SDs k (x :: xs) (y :: ys)
theorem SDs.all : ∀ {xs ys : List T}, SDs k xs ys → ∃ ds, (∀ h, mapO (toD h k) xs = some ds) ∧ (∀ h, mapO (toD h k) ys = some ds) ∧ PyData.eqvAll ds ds = true
  | _, _, .nil => ⟨[], fun _ => rfl, fun _ => rfl, by simp [PyData.eqvAll]⟩
  | _, _, .cons ⟨d, a, b, c⟩ s => by
    obtain ⟨ds, a2, b2, c2⟩ := SDs.all s
    exact ⟨d :: ds, fun h => by simp only [mapO, a h, a2 h], fun h => by simp only [mapO, b h, b2 h], by simp only [PyData.eqvAll, c, c2, Bool.and_self]⟩
theorem SDs.tup {xs ys : List T} (s : SDs k xs ys) : SD (k + 1) (.tup xs) (.tup ys) := by
  obtain ⟨ds, a, b, c⟩ := s.all
  refine ⟨.tuple ds, fun h => ?_, fun h => ?_, by simp only [PyData.eqv, c]⟩
  · show (mapO (toD h k) xs).map PyData.tuple = _
    rw [a]
    rfl
  · show (mapO (toD h k) ys).map PyData.tuple = _
    rw [b]
    rfl
theorem SDs.lst {xs ys : List T} (s : SDs k xs ys) : SD (k + 1) (.lst xs) (.lst ys) := by
  obtain ⟨ds, a, b, c⟩ := s.all
  refine ⟨.list ds, fun h => ?_, fun h => ?_, by simp only [PyData.eqv, c]⟩
  · show (mapO (toD h k) xs).map PyData.list = _
    rw [a]
    rfl
  · show (mapO (toD h k) ys).map PyData.list = _
    rw [b]
    rfl
theorem SDs.map {α : Type} {f g : α → T} : ∀ {l : List α}, (∀ a ∈ l, SD k (f a) (g a)) → SDs k (l.map f) (l.map g)
  | [], _ => .nil
  | a :: l, h => .cons (h a List.mem_cons_self) (SDs.map fun b hb => h b (List.mem_cons_of_mem _ hb))
theorem SD.kt : SD (k + 1) (.ktup []) (.tup []) := ⟨.tuple [], fun _ => rfl, fun _ => rfl, by simp [PyData.eqv, PyData.eqvAll]⟩
end
/-- X stands for the days left -/
structure IsD (X : T) (left : List Int) : Prop where
  low : low 0 X = true
  it : ∀ h, itOf X h = .ok ((datA 0 left).map pT, none) h
  ty : ∀ h, isiTF [X, .ty "tuple"] h = .ok (.bl true) h
  sd : ∀ k, SD (k + 2) X (datT left)
theorem sd_pT {k : Nat} (p : Int × Int) : SD (k + 1) (pT p) (pT p) := SDs.tup (.cons .int (.cons .int .nil))
theorem isD (left : List Int) : IsD (datT left) left := ⟨low_dat left, fun _ => rfl, fun _ => isi_t (x := datT left) rfl, fun k => SDs.tup (SDs.map fun p _ => sd_pT p)⟩
theorem isD0 {left : List Int} (e : datA 0 left = []) : IsD (.ktup []) left := ⟨rfl, fun h => by rw [e]; rfl, fun _ => isi_t (x := .ktup []) rfl, fun k => by
  unfold datT
  rw [e]
  exact SD.kt⟩
end
end K12
namespace K12
open PySem PySem.Spec L2 TW TX
variable {n : Nat} {h : MH} {loose lives left : List Int} {o : Int}
theorem w_lstKP {ps : List (Int × Int)} (hl : ps.length ≤ 1000) : lstK (ps.map pT) h = .ok (.lst (ps.map pT)) h := w_lstK (by rw [List.length_map]; exact Nat.le_trans hl (by decide))
theorem b_day {X : T} (hX : IsD X left) : B_behind [some (trT lives loose), some X, some (deT .day), none, none, none, none] [] = .ret (datT (stpD lives left .day)) [] ∨ 1000 < left.length := by
  by_cases hl : left.length ≤ 1000
  · left
    have x0 : ∀ h, ixT (deT .day) (.int 0) h = .ok (.str ("day" : Str)) h := fun h => rfl
    have q : ∀ h, eqT (.str ("day" : Str)) (.str ("day" : Str)) h = .ok (.bl true) h := fun h => by rw [eq_str]; simp
    have gl : (datA 0 (stpD lives left .day)).length ≤ 1000 := Nat.le_trans (datA_len _ _) (by rw [stp_len]; exact hl)
    have e2 : lcM lstK (itE (vr 1)) (gmT 2 (gmCons (gmN 5) (gmCons (gmN 6) gmNil))) (tmOf (emOp gtT (vr 6) (cst (.int 1)))) (emT (ac (vr 5) (ac (emOp subT (vr 6) (cst (.int 1))) an))) [5, 6] [some (trT lives loose), some X, some (deT .day), none, none, none, none] [] = .ok (.lst ((datA 0 (stpD lives left .day)).map pT)) [] := by
      rw [lcG (xs := datA 0 left) (enc := pT) (src := none) (fun p => [some (trT lives loose), some X, some (deT .day), none, none, some (.int p.1), some (.int p.2)]) (fun p => decide (1 < p.2)) (fun p => pT (p.1, p.2 - 1)) (hX.it []) rfl (fun _ _ => rfl) (fun p _ => by simp) (fun p _ _ => by simp; rfl)]
      rw [show (fun p : Int × Int => pT (p.1, p.2 - 1)) = pT ∘ (fun p => (p.1, p.2 - 1)) from rfl, ← List.map_map, datA_day]
      exact w_lstKP gl
    unfold B_behind
    rw [s_sSeq, s_sIf, show tmOf (emOp eqT (emOp ixT (vr 2) (cst (.int 0))) (cst (.str ("day" : Str)))) [some (trT lives loose), some X, some (deT .day), none, none, none, none] [] = .ok true [] from by simp [x0, q], s_liftok, if_pos rfl, s_sRet, s_emCall, s_ac, e2]
    rfl
  · right
    omega
/-- sorted(rest), as a tuple -/
theorem srt_end {ps qs : List (Int × Int)} (hp : ps.Perm qs) (hq : qs.Pairwise fun p q => leP p q = true) (hl : ps.length ≤ 1000) {r : Rho} (hr : r[3]? = some (some (.loc 0))) : sRet (emCall tupF (ac (emCall (sortPF lstK) (ac (vr 3) an)) an)) r [.lst (ps.map pT)] = .ret (.tup (qs.map pT)) [.lst (ps.map pT)] := by
  have es : sortP ps = qs := sortP_one (sortP_srt ps) hq ((sortP_perm ps).trans hp)
  have e1 : sortPF lstK [.loc 0] [.lst (ps.map pT)] = .ok (.lst (qs.map pT)) [.lst (ps.map pT)] := by
    unfold sortPF on1
    simp only [show lsOf [MO.lst (ps.map pT)] (.loc 0) = some (ps.map pT) from rfl, pr2_map]
    rw [es]
    exact w_lstKP (by rw [← hp.length_eq]; exact hl)
  rw [s_sRet, s_emCall, s_ac, s_emCall, s_ac, s_vr hr, s_bindok, s_an, s_bindok, s_bindok, e1]
  rfl
theorem b_rest {X Y : T} (hX : IsD X left) (i1 : ∀ h, ixT Y (.int 1) h = .ok (.int o) h) (hl : left.length ≤ 1000) : (sSet 3 (lcM lstL (itE (vr 1)) (gmN 4) (tmOf (emOp neT (emOp ixT (vr 4) (cst (.int 0))) (emOp ixT (vr 2) (cst (.int 1))))) (vr 4) [4])) [some (trT lives loose), some X, some Y, none, none, none, none] [] = .nx [some (trT lives loose), some X, some Y, some (.loc 0), none, none, none] [.lst (((datA 0 left).filter fun p => !decide (p.1 = o)).map pT)] := by
  have x0 : ∀ (p : Int × Int) h, ixT (pT p) (.int 0) h = .ok (.int p.1) h := fun p h => rfl
  have e2 : lcM lstL (itE (vr 1)) (gmN 4) (tmOf (emOp neT (emOp ixT (vr 4) (cst (.int 0))) (emOp ixT (vr 2) (cst (.int 1))))) (vr 4) [4] [some (trT lives loose), some X, some Y, none, none, none, none] [] = .ok (.loc 0) [.lst (((datA 0 left).filter fun p => !decide (p.1 = o)).map pT)] := by
    rw [lcG (xs := datA 0 left) (enc := pT) (src := none) (fun p => [some (trT lives loose), some X, some Y, none, some (pT p), none, none]) (fun p => !decide (p.1 = o)) pT (hX.it []) rfl (fun _ _ => rfl) (fun p _ => by simp [x0, i1]) (fun p _ _ => rfl)]
    exact w_lstL (by
      rw [List.length_map]
      exact Nat.le_trans (Nat.le_trans (List.length_filter_le _ _) (Nat.le_trans (datA_len _ _) hl)) (by decide))
  rw [s_sSet, e2]
  rfl
theorem x_behind {X : T} (hX : IsD X left) (hl : lives.length = n) (hll : left.length = n) (hn : n ≤ 9) (pos : ∀ x ∈ lives, 1 ≤ x) (d : De) (hd : deG n loose d = true) : m_behind [trT lives loose, X, deT d] h = .ok (datT (stpD lives left d)) h := by
  have n2 : ¬ (("come" : Str) = ("day" : Str)) := by decide
  have n3 : ¬ (("gone" : Str) = ("day" : Str)) := by decide
  have n4 : ¬ (("gone" : Str) = ("come" : Str)) := by decide
  have e0 : ∀ (a b : Str) h, eqT (.str a) (.str b) h = .ok (.bl (decide (a = b))) h := fun a b h => eq_str
  cases d with
  | day =>
    refine pur_wp (by simp [lows, low_tr, hX.low, low_de]) (low_dat _) ⟨[], ?_⟩
    rcases b_day (lives := lives) (loose := loose) hX with e | e
    · exact e
    · omega
  | come o =>
    have ho : 0 ≤ o ∧ o < n := by simpa [deG] using hd
    have ho2 : o.toNat < lives.length := by omega
    have L0 : 0 < lives.getD o.toNat 0 := by
      rw [List.getD_eq_getElem?_getD, List.getElem?_eq_getElem ho2]
      have := pos _ (List.getElem_mem ho2)
      show 0 < lives[o.toNat]
      omega
    have pm := datA_come L0 left 0 o.toNat (by omega)
    rw [show (0 : Int) + (o.toNat : Nat) = o from by omega] at pm
    have x0 : ∀ h, ixT (deT (.come o)) (.int 0) h = .ok (.str ("come" : Str)) h := fun h => rfl
    have x1 : ∀ h, ixT (deT (.come o)) (.int 1) h = .ok (.int o) h := fun h => rfl
    have x2 : ∀ h, ixT (tp lives) (.int o) h = .ok (.int (lives.getD o.toNat 0)) h := fun h => by
      have := w_ix_tup (h := h) (xs := lives.map .int) (n := o.toNat) (z := .int (lives.getD o.toNat 0)) (by
        rw [List.getElem?_map, List.getD_eq_getElem?_getD, List.getElem?_eq_getElem ho2]
        rfl)
      rw [show ((o.toNat : Nat) : Int) = o from by omega] at this
      exact this
    generalize hL : lives.getD o.toNat 0 = L at *
    generalize hr : (datA 0 left).filter (fun p => !decide (p.1 = o)) = rest at *
    have rl : rest.length ≤ 9 := by
      rw [← hr]
      exact Nat.le_trans (List.length_filter_le _ _) (Nat.le_trans (datA_len _ _) (by omega))
    refine pur_wp (by simp [lows, low_tr, hX.low, low_de]) (low_dat _) ⟨[.lst ((rest ++ [(o, L)]).map pT)], ?_⟩
    show B_behind [some (trT lives loose), some X, some (deT (.come o)), none, none, none, none] [] = _
    unfold B_behind
    have br := b_rest (lives := lives) (loose := loose) (left := left) (Y := deT (.come o)) hX x1 (by omega)
    rw [hr] at br
    rw [s_sSeq, show (sIf (tmOf (emOp eqT (emOp ixT (vr 2) (cst (.int 0))) (cst (.str ("day" : Str))))) (sRet (emCall tupF (ac (lcM lstK (itE (vr 1)) (gmT 2 (gmCons (gmN 5) (gmCons (gmN 6) gmNil))) (tmOf (emOp gtT (vr 6) (cst (.int 1)))) (emT (ac (vr 5) (ac (emOp subT (vr 6) (cst (.int 1))) an))) [5, 6]) an))) sNx) [some (trT lives loose), some X, some (deT (.come o)), none, none, none, none] [] = .nx [some (trT lives loose), some X, some (deT (.come o)), none, none, none, none] [] from by simp [x0, e0, n2]]
    simp only []
    rw [s_sSeq, br]
    simp only []
    have ap : (sDrop (emBm "list" apT (vr 3) (ac (emT (ac (emOp ixT (vr 2) (cst (.int 1))) (ac (emOp ixT (em1 (atT [("Trade" : Str)] ("lives" : Str)) (vr 0)) (emOp ixT (vr 2) (cst (.int 1)))) an))) an))) [some (trT lives loose), some X, some (deT (.come o)), some (.loc 0), none, none, none] [.lst (rest.map pT)] = .nx [some (trT lives loose), some X, some (deT (.come o)), some (.loc 0), none, none, none] [.lst ((rest ++ [(o, L)]).map pT)] := by
      have a1 : apT (.loc 0) [.tup [.int o, .int L]] [.lst (rest.map pT)] = .ok .non [.lst ((rest ++ [(o, L)]).map pT)] := by
        rw [show (rest ++ [(o, L)]).map pT = rest.map pT ++ [.tup [.int o, .int L]] from by rw [List.map_append]; rfl]
        show (if (rest.map pT).length < sizeLine then Res.ok T.non [.lst (rest.map pT ++ [.tup [.int o, .int L]])] else .bad) = _
        rw [if_pos (by rw [List.length_map]; exact Nat.lt_of_le_of_lt rl (by decide))]
      have t1 : isTy "list" [.lst (rest.map pT)] (.loc 0) = true := rfl
      simp [emBm, t1, x1, x2, at_lives, a1]
    rw [s_sSeq, s_sIf, show tmOf (emOp eqT (emOp ixT (vr 2) (cst (.int 0))) (cst (.str ("come" : Str)))) [some (trT lives loose), some X, some (deT (.come o)), some (.loc 0), none, none, none] [.lst (rest.map pT)] = .ok true [.lst (rest.map pT)] from by simp [x0, e0], s_liftok, if_pos rfl, ap]
    simp only []
    rw [srt_end pm (datA_srt _ _) (by rw [List.length_append]; simp; omega) rfl]
    rw [← hL]
    rfl
  | gone o =>
    have ho : 0 ≤ o ∧ o < n := by
      have : (0 ≤ o ∧ o < n) ∧ o ∈ loose := by simpa [deG] using hd
      exact this.1
    have pm := datA_gone left 0 o.toNat
    rw [show (0 : Int) + (o.toNat : Nat) = o from by omega] at pm
    have x0 : ∀ h, ixT (deT (.gone o)) (.int 0) h = .ok (.str ("gone" : Str)) h := fun h => rfl
    have x1 : ∀ h, ixT (deT (.gone o)) (.int 1) h = .ok (.int o) h := fun h => rfl
    have rl : (datA 0 (left.set o.toNat 0)).length ≤ 9 := Nat.le_trans (datA_len _ _) (by simp; omega)
    refine pur_wp (by simp [lows, low_tr, hX.low, low_de]) (low_dat _) ⟨[.lst ((datA 0 (left.set o.toNat 0)).map pT)], ?_⟩
    show B_behind [some (trT lives loose), some X, some (deT (.gone o)), none, none, none, none] [] = _
    unfold B_behind
    have br := b_rest (lives := lives) (loose := loose) (left := left) (Y := deT (.gone o)) hX x1 (by omega)
    rw [pm] at br
    rw [s_sSeq, show (sIf (tmOf (emOp eqT (emOp ixT (vr 2) (cst (.int 0))) (cst (.str ("day" : Str))))) (sRet (emCall tupF (ac (lcM lstK (itE (vr 1)) (gmT 2 (gmCons (gmN 5) (gmCons (gmN 6) gmNil))) (tmOf (emOp gtT (vr 6) (cst (.int 1)))) (emT (ac (vr 5) (ac (emOp subT (vr 6) (cst (.int 1))) an))) [5, 6]) an))) sNx) [some (trT lives loose), some X, some (deT (.gone o)), none, none, none, none] [] = .nx [some (trT lives loose), some X, some (deT (.gone o)), none, none, none, none] [] from by simp [x0, e0, n3]]
    simp only []
    rw [s_sSeq, br]
    simp only []
    rw [s_sSeq, s_sIf, show tmOf (emOp eqT (emOp ixT (vr 2) (cst (.int 0))) (cst (.str ("come" : Str)))) [some (trT lives loose), some X, some (deT (.gone o)), some (.loc 0), none, none, none] [.lst ((datA 0 (left.set o.toNat 0)).map pT)] = .ok false [.lst ((datA 0 (left.set o.toNat 0)).map pT)] from by simp [x0, e0, n4], s_liftok, if_neg Bool.false_ne_true]
    simp only [s_sNx]
    rw [srt_end (.refl _) (datA_srt _ _) (by omega) rfl]
    rfl
end K12
namespace K12
open PySem PySem.Spec L2 TW TX
section
variable {n : Nat} {h : MH} {loose lives left : List Int} {o : Int} {X : T} {S : List De}
/-- a trade of n offers -/
structure Tr (n : Nat) (lives loose : List Int) : Prop where
  nn : n ∈ ns4
  len : lives.length = n
  pos : ∀ x ∈ lives, 1 ≤ x
  top : ∀ x ∈ lives, x ≤ 3
  lo : loose ∈ sets n
theorem Tr.n5 (t : Tr n lives loose) : 1 ≤ n ∧ n ≤ 5 := K12.n5 t.nn
theorem set_len' : ∀ n ∈ ns4, ∀ s ∈ sets n, s.length ≤ n := by decide +kernel
theorem Tr.lol (t : Tr n lives loose) : loose.length ≤ 1000 := by
  have := set_len' n t.nn loose t.lo
  have := t.n5
  omega
/-- deed after deed -/
def dRun (lives : List Int) : List Int → List De → List Int
  | left, [] => left
  | left, d :: S => dRun lives (stpD lives left d) S
def runs (lives : List Int) : List Int → List De → List (List Int)
  | _, [] => []
  | left, d :: S => stpD lives left d :: runs lives (stpD lives left d) S
theorem runs_len : ∀ (S : List De) (left : List Int), (runs lives left S).length = S.length
  | [], _ => rfl
  | d :: S, left => by
    simp only [runs, List.length_cons, runs_len S]
theorem run_len : ∀ (S : List De) (left : List Int), (dRun lives left S).length = left.length
  | [], _ => rfl
  | d :: S, left => by
    simp only [dRun]
    rw [run_len S, stp_len]
theorem runs_all : ∀ {S : List De} {left l : List Int}, l ∈ runs lives left S → l.length = left.length
  | d :: S, left, l, h => by
    simp only [runs] at h
    rcases List.mem_cons.mp h with rfl | h
    · exact stp_len d
    · rw [runs_all h, stp_len]
theorem run_app : ∀ (S R : List De) (left : List Int), dRun lives left (S ++ R) = dRun lives (dRun lives left S) R
  | [], R, left => rfl
  | d :: S, R, left => by
    show dRun lives (stpD lives left d) (S ++ R) = _
    rw [run_app S R]
    rfl
theorem runs_end : ∀ (S : List De) (left : List Int), ∃ F, left :: runs lives left S = F ++ [dRun lives left S]
  | [], left => ⟨[], rfl⟩
  | d :: S, left => by
    obtain ⟨F, e⟩ := runs_end S (stpD lives left d)
    exact ⟨left :: F, by show left :: (stpD lives left d :: runs lives (stpD lives left d) S) = _; rw [e]; rfl⟩
abbrev Ok (n : Nat) (loose : List Int) (S : List De) : Prop := ∀ d ∈ S, deG n loose d = true
theorem Ok.hd {d : De} (o : Ok n loose (d :: S)) : deG n loose d = true := o d List.mem_cons_self
theorem Ok.tl {d : De} (o : Ok n loose (d :: S)) : Ok n loose S := fun e he => o e (List.mem_cons_of_mem _ he)
def Beh (n : Nat) (lives loose : List Int) (W : FM) : Prop := ∀ (X : T) (left : List Int) (d : De) (h : MH), IsD X left → left.length = n → deG n loose d = true → W [trT lives loose, X, deT d] h = .ok (datT (stpD lives left d)) h
theorem beh_ok (t : Tr n lives loose) : Beh n lives loose m_behind := fun X left d h hX hl hd => x_behind hX t.len hl (by have := t.n5; omega) t.pos d hd
/-- what stands at last -/
def endX (lives : List Int) (X : T) (left : List Int) : List De → T
  | [] => X
  | d :: S => datT (dRun lives left (d :: S))
theorem endX_is (hX : IsD X left) : IsD (endX lives X left S) (dRun lives left S) := by
  cases S with
  | nil => exact hX
  | cons d S => exact isD _
theorem sb_loop (W : FM) (hW : Beh n lives loose W) (x2 : Option T) (all : List T) : ∀ (S : List De) (X : T) (left : List Int) (x3 : Option T), IsD X left → left.length = n → Ok n loose S →
    ∃ y3, forS none all (gmN 3) (L_stood_behind_1 W) (S.map deT) [some (trT lives loose), some X, x2, x3] h = .nx [some (trT lives loose), some (endX lives X left S), x2, y3] h
  | [], X, left, x3, _, _, _ => ⟨x3, rfl⟩
  | d :: S, X, left, x3, hX, hl, ho => by
    have e1 := hW X left d h hX hl ho.hd
    obtain ⟨y3, ih⟩ := sb_loop W hW x2 all S (datT (stpD lives left d)) (stpD lives left d) (some (deT d)) (isD _) (by rw [stp_len]; exact hl) ho.tl
    refine ⟨y3, ?_⟩
    rw [List.map_cons, s_forSn, show L_stood_behind_1 W (([some (trT lives loose), some X, x2, x3] : Rho).set 3 (some (deT d))) h = .nx [some (trT lives loose), some (datT (stpD lives left d)), x2, some (deT d)] h from by
      unfold L_stood_behind_1
      simp [e1]]
    simp only []
    rw [ih]
    cases S <;> rfl
theorem x_stood (t : Tr n lives loose) (hX : IsD X left) (hl : left.length = n) (ho : Ok n loose S) : m_stood_behind [trT lives loose, X, .tup (S.map deT)] h = .ok (endX lives X left S) h := by
  refine pur_wp (by simp [lows, low, low_tr, hX.low, lows_de]) (endX_is hX).low ⟨[], ?_⟩
  obtain ⟨y3, e⟩ := sb_loop (h := []) m_behind (beh_ok t) (some (.tup (S.map deT))) (S.map deT) S X left none hX hl ho
  show B_stood_behind m_behind [some (trT lives loose), some X, some (.tup (S.map deT)), none] [] = _
  unfold B_stood_behind
  rw [s_sSeq, s_sFor, show itE (vr 2) [some (trT lives loose), some X, some (.tup (S.map deT)), none] [] = .ok (S.map deT, none) [] from rfl, s_liftok, e]
  rfl
/-! ### the last of a list -/
theorem atI_end {xs : List T} {z : T} : atI (xs ++ [z]) (-1) = some z := by
  unfold atI
  have q : ixN (xs ++ [z]).length (-1) = some xs.length := by
    unfold ixN
    simp only [List.length_append, List.length_cons, List.length_nil]
    rw [if_neg (by omega), if_pos (by omega)]
    congr 1
    omega
  rw [q]
  simp
theorem ix_endC {xs : List T} {z : T} : ixT (.loc 0) (.int (-1)) [.lst (xs ++ [z])] = .ok z [.lst (xs ++ [z])] := by
  unfold ixT
  simp only [show lsOf [MO.lst (xs ++ [z])] (.loc 0) = some (xs ++ [z]) from rfl, atI_end]
theorem ix_endT {xs : List T} {z : T} : ixT (.tup (xs ++ [z])) (.int (-1)) h = .ok z h := by
  unfold ixT
  simp only [lsOf, tpOf, atI_end]
/-! ### the moments -/
def momT (lives : List Int) (X : T) (left : List Int) (S : List De) : T := .tup (X :: (runs lives left S).map datT)
theorem lows_dat : ∀ L : List (List Int), lows 0 (L.map datT) = true := fun L => lows_all fun x hx => by
  obtain ⟨d, _, rfl⟩ := List.mem_map.mp hx
  exact low_dat d
theorem low_mom (hX : IsD X left) : low 0 (momT lives X left S) = true := by
  show (low 0 X && lows 0 ((runs lives left S).map datT)) = true
  rw [hX.low, lows_dat]
  rfl
/-! ### the offers of a dated set -/
end
end K12
namespace K12
open PySem PySem.Spec L2 TW TX
section
variable {n : Nat} {h : MH} {loose lives left : List Int} {o : Int} {X Y Z : T} {S : List De}
theorem w_lives {s : List Int} (h0 : 0 ≤ o) (h1 : o < s.length) : ixT (tp s) (.int o) h = .ok (.int (s.getD o.toNat 0)) h := by
  have lt : o.toNat < s.length := by omega
  have := w_ix_tup (h := h) (xs := s.map .int) (n := o.toNat) (z := .int (s.getD o.toNat 0)) (by
    rw [List.getElem?_map, List.getD_eq_getElem?_getD, List.getElem?_eq_getElem lt]
    rfl)
  rw [show ((o.toNat : Nat) : Int) = o from by omega] at this
  exact this
/-! ### is_dated_of -/
def datB (n : Nat) (lives : List Int) : Int → List (Int × Int) → Bool
  | _, [] => true
  | last, p :: ps => decide ((last < p.1 ∧ p.1 < n) ∧ 1 ≤ p.2 ∧ p.2 ≤ lives.getD p.1.toNat 0) && datB n lives p.1 ps
theorem wh_i (i : Int) : m_is_whole [.int i] h = .ok (.bl true) h := by
  rw [x_whole (t := "int") rfl rfl]
  simp
theorem dt_turn (W : FM) (hW : ∀ (i : Int) h, W [.int i] h = .ok (.bl true) h) (hl : lives.length = n) (x1 x4 x5 : Option T) {last : Int} (h0 : -1 ≤ last) (p : Int × Int) :
    L_is_dated_of_1 W [some (trT lives loose), x1, some (.int last), some (pT p), x4, x5] h = if (last < p.1 ∧ p.1 < n) ∧ 1 ≤ p.2 ∧ p.2 ≤ lives.getD p.1.toNat 0 then .nx [some (trT lives loose), x1, some (.int p.1), some (pT p), some (.int p.1), some (.int p.2)] h else .ret (.bl false) h := by
  have e1 : isiTF [pT p, .ty "tuple"] h = .ok (.bl true) h := isi_t (x := pT p) rfl
  have e2 : lenF [pT p] h = .ok (.int 2) h := rfl
  have e3 : ∀ h, lenF [tp lives] h = .ok (.int n) h := fun h => by rw [w_len_tp, hl]
  have e4 : (sAsg (gmT 2 (gmCons (gmN 4) (gmCons (gmN 5) gmNil))) (vr 3)) [some (trT lives loose), x1, some (.int last), some (pT p), x4, x5] h = .nx [some (trT lives loose), x1, some (.int last), some (pT p), some (.int p.1), some (.int p.2)] h := rfl
  have c1 : (sIf (tOrr (tNo (tmOf (emCall isiTF (ac (vr 3) (ac (cst (.ty "tuple")) an))))) (tmOf (emOp neT (emCall lenF (ac (vr 3) an)) (cst (.int 2))))) (sRet (cst (.bl false))) sNx) [some (trT lives loose), x1, some (.int last), some (pT p), x4, x5] h = .nx [some (trT lives loose), x1, some (.int last), some (pT p), x4, x5] h := by
    simp [e1, e2]
  unfold L_is_dated_of_1
  rw [s_sSeq, c1]
  simp only []
  rw [s_sSeq, e4]
  simp only []
  by_cases q1 : last < p.1
  · by_cases q2 : p.1 < n
    · have e5 : ∀ h, ixT (tp lives) (.int p.1) h = .ok (.int (lives.getD p.1.toNat 0)) h := fun h => w_lives (by omega) (by omega)
      generalize lives.getD p.1.toNat 0 = L at *
      by_cases q3 : 1 ≤ p.2
      · by_cases q4 : p.2 ≤ L
        · rw [if_pos ⟨⟨q1, q2⟩, q3, q4⟩]
          simp [hW, at_lives, e3, e5, q1, q2, q3, q4]
        · rw [if_neg (fun z => q4 z.2.2)]
          simp [hW, at_lives, e3, e5, q1, q2, q3, q4]
      · rw [if_neg (fun z => q3 z.2.1)]
        simp [hW, at_lives, e3, e5, q1, q2, q3]
    · rw [if_neg (fun z => q2 z.1.2)]
      simp [hW, at_lives, e3, q1, q2]
  · rw [if_neg (fun z => q1 z.1.1)]
    simp [hW, at_lives, e3, q1]
theorem dt_loop (W : FM) (hW : ∀ (i : Int) h, W [.int i] h = .ok (.bl true) h) (hl : lives.length = n) (x1 : Option T) (all : List T) : ∀ (ps : List (Int × Int)) (last : Int) (x3 x4 x5 : Option T), -1 ≤ last →
    ∃ y2 y3 y4 y5, forS none all (gmN 3) (L_is_dated_of_1 W) (ps.map pT) [some (trT lives loose), x1, some (.int last), x3, x4, x5] h = if datB n lives last ps = true then .nx [some (trT lives loose), x1, y2, y3, y4, y5] h else .ret (.bl false) h
  | [], last, x3, x4, x5, _ => ⟨_, _, _, _, rfl⟩
  | p :: ps, last, x3, x4, x5, h0 => by
    by_cases q : (last < p.1 ∧ p.1 < n) ∧ 1 ≤ p.2 ∧ p.2 ≤ lives.getD p.1.toNat 0
    · obtain ⟨y2, y3, y4, y5, ih⟩ := dt_loop W hW hl x1 all ps p.1 (some (pT p)) (some (.int p.1)) (some (.int p.2)) (by omega)
      refine ⟨y2, y3, y4, y5, ?_⟩
      rw [List.map_cons, s_forSn, show ([some (trT lives loose), x1, some (.int last), x3, x4, x5] : Rho).set 3 (some (pT p)) = [some (trT lives loose), x1, some (.int last), some (pT p), x4, x5] from rfl, dt_turn W hW hl x1 x4 x5 h0 p, if_pos q]
      simp only [datB, decide_eq_true q, Bool.true_and]
      exact ih
    · refine ⟨none, none, none, none, ?_⟩
      rw [List.map_cons, s_forSn, show ([some (trT lives loose), x1, some (.int last), x3, x4, x5] : Rho).set 3 (some (pT p)) = [some (trT lives loose), x1, some (.int last), some (pT p), x4, x5] from rfl, dt_turn W hW hl x1 x4 x5 h0 p, if_neg q]
      simp only [datB, decide_eq_false q, Bool.false_and]
      rfl
theorem x_dated (hl : lives.length = n) {ps : List (Int × Int)} (lo : low 0 X = true) (it : itOf X [] = .ok (ps.map pT, none) []) (ty : isiTF [X, .ty "tuple"] [] = .ok (.bl true) []) : m_is_dated_of [trT lives loose, X] h = .ok (.bl (datB n lives (-1) ps)) h := by
  refine pur_wp (by simp [lows, low_tr, lo]) rfl ⟨[], ?_⟩
  obtain ⟨y2, y3, y4, y5, e⟩ := dt_loop (h := []) (loose := loose) m_is_whole (fun i h => wh_i i) hl (some X) (ps.map pT) ps (-1) none none none (by omega)
  show B_is_dated_of m_is_whole [some (trT lives loose), some X, none, none, none, none] [] = _
  generalize m_is_whole = W at *
  unfold B_is_dated_of
  rw [s_sSeq, show (sIf (tNo (tmOf (emCall isiTF (ac (vr 1) (ac (cst (.ty "tuple")) an))))) (sRet (cst (.bl false))) sNx) [some (trT lives loose), some X, none, none, none, none] [] = .nx [some (trT lives loose), some X, none, none, none, none] [] from by simp [ty]]
  simp only []
  rw [s_sSeq, show sSet 2 (em1 ngT (cst (.int 1))) [some (trT lives loose), some X, none, none, none, none] [] = .nx [some (trT lives loose), some X, some (.int (-1)), none, none, none] [] from rfl]
  simp only []
  rw [s_sSeq, s_sFor, show itE (vr 1) [some (trT lives loose), some X, some (.int (-1)), none, none, none] [] = .ok (ps.map pT, none) [] from it, s_liftok, e]
  cases datB n lives (-1) ps <;> rfl
theorem x_datedN (z : NT X) : m_is_dated_of [trT lives loose, X] h = .ok (.bl false) h := by
  refine pur_wp (by simp [lows, low_tr, z.1]) rfl ⟨[], ?_⟩
  have e1 := z.isi (h := [])
  show B_is_dated_of m_is_whole [some (trT lives loose), some X, none, none, none, none] [] = _
  generalize m_is_whole = W at *
  unfold B_is_dated_of
  simp [e1]
theorem x_datedB : m_is_dated_of [trT lives loose, .tup [.tup [.int 0, .bl true]]] h = .ok (.bl false) h := by
  refine pur_wp (by simp [lows, low, low_tr]) rfl ⟨[], ?_⟩
  have e1 : isiTF [.tup [.int 0, .bl true], .ty "tuple"] [] = .ok (.bl true) [] := isi_t (x := .tup [.int 0, .bl true]) rfl
  have e2 : isiTF [.tup [.tup [.int 0, .bl true]], .ty "tuple"] [] = .ok (.bl true) [] := isi_t (x := .tup [.tup [.int 0, .bl true]]) rfl
  have e3 : lenF [.tup [.int 0, .bl true]] [] = .ok (.int 2) [] := rfl
  have w1 : m_is_whole [.int 0] [] = .ok (.bl true) [] := wh_i 0
  have w2 : m_is_whole [.bl true] [] = .ok (.bl false) [] := by
    rw [x_whole (t := "bool") rfl rfl]
    simp
  show B_is_dated_of m_is_whole [some (trT lives loose), some (.tup [.tup [.int 0, .bl true]]), none, none, none, none] [] = _
  generalize m_is_whole = W at *
  have e4 : (sAsg (gmT 2 (gmCons (gmN 4) (gmCons (gmN 5) gmNil))) (vr 3)) [some (trT lives loose), some (.tup [.tup [.int 0, .bl true]]), some (.int (-1)), some (.tup [.int 0, .bl true]), none, none] [] = .nx [some (trT lives loose), some (.tup [.tup [.int 0, .bl true]]), some (.int (-1)), some (.tup [.int 0, .bl true]), some (.int 0), some (.bl true)] [] := rfl
  have turn : L_is_dated_of_1 W [some (trT lives loose), some (.tup [.tup [.int 0, .bl true]]), some (.int (-1)), some (.tup [.int 0, .bl true]), none, none] [] = .ret (.bl false) [] := by
    unfold L_is_dated_of_1
    rw [s_sSeq, show (sIf (tOrr (tNo (tmOf (emCall isiTF (ac (vr 3) (ac (cst (.ty "tuple")) an))))) (tmOf (emOp neT (emCall lenF (ac (vr 3) an)) (cst (.int 2))))) (sRet (cst (.bl false))) sNx) [some (trT lives loose), some (.tup [.tup [.int 0, .bl true]]), some (.int (-1)), some (.tup [.int 0, .bl true]), none, none] [] = .nx [some (trT lives loose), some (.tup [.tup [.int 0, .bl true]]), some (.int (-1)), some (.tup [.int 0, .bl true]), none, none] [] from by simp [e1, e3]]
    simp only []
    rw [s_sSeq, e4]
    simp [w1, w2]
  unfold B_is_dated_of
  rw [s_sSeq, show (sIf (tNo (tmOf (emCall isiTF (ac (vr 1) (ac (cst (.ty "tuple")) an))))) (sRet (cst (.bl false))) sNx) [some (trT lives loose), some (.tup [.tup [.int 0, .bl true]]), none, none, none, none] [] = .nx [some (trT lives loose), some (.tup [.tup [.int 0, .bl true]]), none, none, none, none] [] from by simp [e2]]
  simp only []
  rw [s_sSeq, show sSet 2 (em1 ngT (cst (.int 1))) [some (trT lives loose), some (.tup [.tup [.int 0, .bl true]]), none, none, none, none] [] = .nx [some (trT lives loose), some (.tup [.tup [.int 0, .bl true]]), some (.int (-1)), none, none, none] [] from rfl]
  simp only []
  rw [s_sSeq, s_sFor, show itE (vr 1) [some (trT lives loose), some (.tup [.tup [.int 0, .bl true]]), some (.int (-1)), none, none, none] [] = .ok ([.tup [.int 0, .bl true]], none) [] from rfl, s_liftok, s_forSn, show ([some (trT lives loose), some (.tup [.tup [.int 0, .bl true]]), some (.int (-1)), none, none, none] : Rho).set 3 (some (.tup [.int 0, .bl true])) = [some (trT lives loose), some (.tup [.tup [.int 0, .bl true]]), some (.int (-1)), some (.tup [.int 0, .bl true]), none, none] from rfl, turn]
/-- no more days than the offers live -/
def Fit (lives left : List Int) : Prop := ∀ k : Nat, left.getD k 0 ≤ lives.getD k 0
theorem datB_ok (hl : left.length = n) (f : Fit lives left) : ∀ (ps : List (Int × Int)) (last : Int), (∀ p ∈ ps, last < p.1) → ps.Pairwise (fun p q => p.1 < q.1) → (∀ p ∈ ps, p ∈ datA 0 left) → datB n lives last ps = true
  | [], _, _, _, _ => rfl
  | p :: ps, last, h1, h2, h3 => by
    obtain ⟨a, b⟩ := List.pairwise_cons.mp h2
    obtain ⟨m1, m2, m3, m4⟩ := datA_mem (h3 p List.mem_cons_self)
    have g := f p.1.toNat
    have e : left.getD p.1.toNat 0 = p.2 := by
      rw [List.getD_eq_getElem?_getD, show p.1.toNat = (p.1 - 0).toNat from by omega, m4]
      rfl
    rw [e] at g
    have q : (last < p.1 ∧ p.1 < n) ∧ 1 ≤ p.2 ∧ p.2 ≤ lives.getD p.1.toNat 0 := ⟨⟨h1 p List.mem_cons_self, by omega⟩, by omega, g⟩
    simp only [datB, decide_eq_true q, Bool.true_and]
    exact datB_ok hl f ps p.1 a b fun q hq => h3 q (List.mem_cons_of_mem _ hq)
theorem x_datedO (t : Tr n lives loose) (hX : IsD X left) (hl : left.length = n) (f : Fit lives left) : m_is_dated_of [trT lives loose, X] h = .ok (.bl true) h := by
  rw [x_dated t.len hX.low (hX.it []) (hX.ty []), datB_ok hl f _ _ (fun p hp => by have := (datA_mem hp).1; omega) (datA_lt _ _) fun _ z => z]
end
end K12
namespace K12
namespace L
open PySem PySem.Spec L2 TW TX
variable {h : MH}
theorem zip_un : ∀ l : List (Str × T), (l.map (·.1)).zip (l.map (·.2)) = l
  | [] => rfl
  | (a, b) :: l => by simp only [List.map_cons, List.zip_cons_cons, zip_un l]
theorem pur_exc {n : Nat} {b : SM} {xs : List T} {c : Str} {fs : List (Str × T)} {r : Rho} (hl : lows 0 xs = true) (e : b (startR n xs) [] = .ex c fs r []) (hf : lows 0 (fs.map (·.2)) = true) : pur (reg (fnB n b)) xs h = .exc c fs h := by
  rw [pur_nil _ _ _ hl]
  unfold reg fnB
  rw [e]
  show onH (match frWs (frL [] 0 frD) (fs.map (·.2)) with
    | some ys => if okH [] [] = true then Res.exc c ((fs.map (·.1)).zip ys) (List.take 0 []) else .bad
    | none => .bad) h = _
  rw [frWs_low _ _ hf]
  show Res.exc c ((fs.map (·.1)).zip (fs.map (·.2))) h = _
  rw [zip_un]
end L
end K12
namespace K12
open PySem PySem.Spec L2 TW TX
section
variable {n : Nat} {h : MH} {loose lives left : List Int} {o : Int} {X Y Z C : T} {S : List De} {c : Str} {f : List Int → List Int}
/-! ### stream_check -/
theorem x_checkO (hX : low 0 X = true) (hY : low 0 Y = true) (hA : ∀ h, m_is_dated_of [trT lives loose, X] h = .ok (.bl true) h) (hB : ∀ h, m_is_stream [trT lives loose, Y] h = .ok (.bl true) h) : m_stream_check [trT lives loose, Y, X] h = .ok .non h := by
  refine pur_wpN (by simp [lows, low_tr, hX, hY]) ⟨[some (trT lives loose), some Y, some X], [], ?_⟩
  show B_stream_check m_is_dated_of m_is_stream [some (trT lives loose), some Y, some X] [] = _
  generalize m_is_dated_of = A at *
  generalize m_is_stream = B at *
  unfold B_stream_check
  simp [hA, hB]
theorem x_checkD (hX : low 0 X = true) (hY : low 0 Y = true) (hA : ∀ h, m_is_dated_of [trT lives loose, X] h = .ok (.bl false) h) : m_stream_check [trT lives loose, Y, X] h = .exc "BadDated" [(("thing" : Str), X)] h := by
  refine L.pur_exc (r := [some (trT lives loose), some Y, some X]) (by simp [lows, low_tr, hX, hY]) ?_ (by simp [lows, hX])
  show B_stream_check m_is_dated_of m_is_stream [some (trT lives loose), some Y, some X] [] = _
  generalize m_is_dated_of = A at *
  generalize m_is_stream = B at *
  unfold B_stream_check sRaise
  simp [hA]
theorem x_checkS (hX : low 0 X = true) (hY : low 0 Y = true) (hA : ∀ h, m_is_dated_of [trT lives loose, X] h = .ok (.bl true) h) (hB : ∀ h, m_is_stream [trT lives loose, Y] h = .ok (.bl false) h) : m_stream_check [trT lives loose, Y, X] h = .exc "BadStream" [(("thing" : Str), Y)] h := by
  refine L.pur_exc (r := [some (trT lives loose), some Y, some X]) (by simp [lows, low_tr, hX, hY]) ?_ (by simp [lows, hY])
  show B_stream_check m_is_dated_of m_is_stream [some (trT lives loose), some Y, some X] [] = _
  generalize m_is_dated_of = A at *
  generalize m_is_stream = B at *
  unfold B_stream_check sRaise
  simp [hA, hB]
theorem x_strO (t : Tr n lives loose) (ho : Ok n loose S) : m_is_stream [trT lives loose, .tup (S.map deT)] h = .ok (.bl true) h := by
  rw [x_strT t.len t.lol (S.map deT) (fun x hx => by
    obtain ⟨d, _, rfl⟩ := List.mem_map.mp hx
    exact de_dd d), List.all_eq_true.mpr fun x hx => by
    obtain ⟨d, hd, rfl⟩ := List.mem_map.mp hx
    rw [de_b]
    exact ho d hd]
theorem low_str : low 0 (.tup (S.map deT)) = true := lows_de S
theorem x_chk (t : Tr n lives loose) (hX : IsD X left) (hl : left.length = n) (f : Fit lives left) (ho : Ok n loose S) : m_stream_check [trT lives loose, .tup (S.map deT), X] h = .ok .non h :=
  x_checkO hX.low low_str (fun _ => x_datedO t hX hl f) fun _ => x_strO t ho
/-! ### stands, moments -/
theorem x_stands (t : Tr n lives loose) (hX : IsD X left) (hl : left.length = n) (f : Fit lives left) (ho : Ok n loose S) : m_stands [trT lives loose, .tup (S.map deT), X] h = .ok (endX lives X left S) h := by
  refine pur_wp (by simp [lows, low_tr, hX.low, low_str]) (endX_is hX).low ⟨[], ?_⟩
  have e1 : ∀ h, m_stream_check [trT lives loose, .tup (S.map deT), X] h = .ok .non h := fun h => x_chk t hX hl f ho
  have e2 : ∀ h, m_stood_behind [trT lives loose, X, .tup (S.map deT)] h = .ok (endX lives X left S) h := fun h => x_stood t hX hl ho
  show B_stands m_stream_check m_stood_behind [some (trT lives loose), some (.tup (S.map deT)), some X] [] = _
  generalize m_stream_check = A at *
  generalize m_stood_behind = B at *
  generalize T.tup (S.map deT) = Y at *
  generalize endX lives X left S = E at *
  unfold B_stands
  simp [e1, e2]
theorem x_standsE (hX : low 0 X = true) (hY : low 0 Y = true) (hZ : low 0 Z = true) (e : ∀ h, m_stream_check [trT lives loose, Y, X] h = .exc c [(("thing" : Str), Z)] h) : m_stands [trT lives loose, Y, X] h = .exc c [(("thing" : Str), Z)] h := by
  refine L.pur_exc (r := [some (trT lives loose), some Y, some X]) (by simp [lows, low_tr, hX, hY]) ?_ (by simp [lows, hZ])
  show B_stands m_stream_check m_stood_behind [some (trT lives loose), some Y, some X] [] = _
  generalize m_stream_check = A at *
  generalize m_stood_behind = B at *
  unfold B_stands
  simp [e]
/-! ### picks_along -/
theorem len_by {ms : List (Str × FM)} {x : T} {F : FM} {c : Str} {fs : List (Str × T)} {i : Int} (hx : obOf h x = some (c, fs)) (hm : TW.lk c ms = some F) (e : F [x] h = .ok (.int i) h) (hi : 0 ≤ i ∧ i < 2 ^ 63) : lenOF ms [x] h = .ok (.int i) h := by
  unfold lenOF on1
  simp only [hx, hm, e, calm, s_bindok, -Int.reducePow]
  rw [if_pos hi]
end
end K12
namespace K12
open PySem PySem.Spec L2 TW TX
local macro_rules | `(tactic| simpa! [$ls,*]) => `(tactic| ((with_reducible apply TW.We.eq); · ((try simp only [TW.bind_assoc', TW.q_emMeth, TW.q_pSo', TW.q_pSoK, TW.q_emTix, TW.q_isKt, TW.q_emKt, TW.q_emOp, TW.q_emCh, TW.q_em1, TW.q_emCall, TW.q_an, TW.q_ac, TW.q_cst, TW.q_vr0, TW.q_vrS, TW.q_emT, TW.q_emL, TW.q_tmOf, TW.q_isBl, TW.q_tAn, TW.q_tOrr, TW.q_tNo, TW.q_tYes, TW.q_eAn, TW.q_eOr, TW.q_eNo, TW.q_eIf, TW.q_itE, TW.q_itOf_lst, TW.q_itOf_tup, TW.q_itOf_klst, TW.q_bindok, TW.q_onH, TW.q_lt, TW.q_le, TW.q_gt, TW.q_ge, TW.q_ng, TW.q_sub, TW.q_ad_int, TW.q_in_tp, TW.q_in_ls, TW.q_in_tts, TW.q_in_lts, TW.q_eq_int, TW.q_ne_int, TW.q_eq_tp, TW.q_ne_tp, TW.q_eq_tts, TW.q_ne_tts, TW.q_eq_lts, TW.q_ne_lts, TW.q_eq_ls0, TW.q_ne_ls0, TW.q_eq_lts0, TW.q_ne_lts0, TW.q_eq_tp0, TW.q_ne_tp0, TW.q_eq_tts0, TW.q_ne_tts0, TW.q_ne_bl, TW.q_eq_bl, TW.q_lst0, TW.q_tup0, TW.q_lst1, TW.q_lst2, TW.q_lst3, TW.q_tup1, TW.q_tup2, TW.q_tup3, TW.q_tup4, TW.q_tupF_lst, TW.q_ix0, TW.q_ix1, TW.q_ix2, TW.q_jx0, TW.q_jx1, TW.q_jx2, TW.q_tupF_ls, TW.q_tupF_lts, TW.q_itOf_ls, TW.q_itOf_tp, TW.q_itOf_lts, TW.q_itOf_tts, TW.q_itOf_lls, TW.q_emCallK, TW.q_isbl, TW.q_isnon, TW.q_emSl, TW.q_pNo, TW.q_emBm, TW.q_len_tp, TW.q_len_ls, TW.q_len_lst, TW.q_len_tup, TW.q_emL2, TW.q_ls0, TW.q_ls1, TW.q_ls2, TW.q_ls3, TW.q_ls4, TW.q_pF_loc0, TW.q__loc0, TW.q_istup, TW.q_dnV, TW.q_arg0, TW.q_arg1, TW.q_arg2, TW.q_arg3, TW.q_arg4, TW.q_arg5, TW.q_arg6, TW.q_wipe0, TW.q_wipe1, TW.q_wipe2, TW.q_wipe3, TW.q_int, TW.q_tupF_tup, TW.q_tupF_tp, TW.q_istupp, TW.q_istts, TW.q_isint, TW.q_bindexc, TW.q_lst4, TW.q_lst5, TW.q_tup5, TW.q_lst6, TW.q_tup6, TW.q_lst7, TW.q_tup7, TW.q_lst8, TW.q_tup8, TW.q_lst9, TW.q_tup9, TW.q_lst10, TW.q_tup10, TW.q_lst11, TW.q_tup11, TW.q_lst12, TW.q_tup12, TW.q_lst13, TW.q_lst14, TW.q_lst15, TW.q_lst16, TW.q_lst17, TW.q_lst18, TW.q_lst19, TW.q_lst20, TW.q_lst21, TW.q_lst22, TW.q_lst23, TW.q_lst24, if_true, if_false, ite_true, ite_false, reduceIte, Bool.not_true, Bool.not_false, Bool.true_and, Bool.and_true, Bool.false_and, Bool.and_false, Bool.true_or, Bool.or_true, Bool.false_or, Bool.or_false, decide_true, decide_false, Bool.false_eq_true, Bool.true_eq_false, Bool.not_not, List.length_cons, List.length_nil, Nat.zero_add, Nat.reduceAdd, and_self, true_and, and_true, List.set_cons_zero, List.set_cons_succ, List.map_cons, List.map_nil, List.nil_append, List.cons_append, TW.setS, $ls,*]); exact rfl)))
local macro_rules | `(tactic| simp_all! [$ls,*]) => `(tactic| ((try simp only [TW.bind_assoc', TW.q_emMeth, TW.q_pSo', TW.q_pSoK, TW.q_emTix, TW.q_isKt, TW.q_emKt, TW.q_emOp, TW.q_emCh, TW.q_em1, TW.q_emCall, TW.q_an, TW.q_ac, TW.q_cst, TW.q_vr0, TW.q_vrS, TW.q_emT, TW.q_emL, TW.q_tmOf, TW.q_isBl, TW.q_tAn, TW.q_tOrr, TW.q_tNo, TW.q_tYes, TW.q_eAn, TW.q_eOr, TW.q_eNo, TW.q_eIf, TW.q_itE, TW.q_itOf_lst, TW.q_itOf_tup, TW.q_itOf_klst, TW.q_bindok, TW.q_onH, TW.q_lt, TW.q_le, TW.q_gt, TW.q_ge, TW.q_ng, TW.q_sub, TW.q_ad_int, TW.q_in_tp, TW.q_in_ls, TW.q_in_tts, TW.q_in_lts, TW.q_eq_int, TW.q_ne_int, TW.q_eq_tp, TW.q_ne_tp, TW.q_eq_tts, TW.q_ne_tts, TW.q_eq_lts, TW.q_ne_lts, TW.q_eq_ls0, TW.q_ne_ls0, TW.q_eq_lts0, TW.q_ne_lts0, TW.q_eq_tp0, TW.q_ne_tp0, TW.q_eq_tts0, TW.q_ne_tts0, TW.q_ne_bl, TW.q_eq_bl, TW.q_lst0, TW.q_tup0, TW.q_lst1, TW.q_lst2, TW.q_lst3, TW.q_tup1, TW.q_tup2, TW.q_tup3, TW.q_tup4, TW.q_tupF_lst, TW.q_ix0, TW.q_ix1, TW.q_ix2, TW.q_jx0, TW.q_jx1, TW.q_jx2, TW.q_tupF_ls, TW.q_tupF_lts, TW.q_itOf_ls, TW.q_itOf_tp, TW.q_itOf_lts, TW.q_itOf_tts, TW.q_itOf_lls, TW.q_emCallK, TW.q_isbl, TW.q_isnon, TW.q_emSl, TW.q_pNo, TW.q_emBm, TW.q_len_tp, TW.q_len_ls, TW.q_len_lst, TW.q_len_tup, TW.q_emL2, TW.q_ls0, TW.q_ls1, TW.q_ls2, TW.q_ls3, TW.q_ls4, TW.q_pF_loc0, TW.q__loc0, TW.q_istup, TW.q_dnV, TW.q_arg0, TW.q_arg1, TW.q_arg2, TW.q_arg3, TW.q_arg4, TW.q_arg5, TW.q_arg6, TW.q_wipe0, TW.q_wipe1, TW.q_wipe2, TW.q_wipe3, TW.q_int, TW.q_tupF_tup, TW.q_tupF_tp, TW.q_istupp, TW.q_istts, TW.q_isint, TW.q_bindexc, TW.q_lst4, TW.q_lst5, TW.q_tup5, TW.q_lst6, TW.q_tup6, TW.q_lst7, TW.q_tup7, TW.q_lst8, TW.q_tup8, TW.q_lst9, TW.q_tup9, TW.q_lst10, TW.q_tup10, TW.q_lst11, TW.q_tup11, TW.q_lst12, TW.q_tup12, TW.q_lst13, TW.q_lst14, TW.q_lst15, TW.q_lst16, TW.q_lst17, TW.q_lst18, TW.q_lst19, TW.q_lst20, TW.q_lst21, TW.q_lst22, TW.q_lst23, TW.q_lst24, if_true, if_false, ite_true, ite_false, reduceIte, Bool.not_true, Bool.not_false, Bool.true_and, Bool.and_true, Bool.false_and, Bool.and_false, Bool.true_or, Bool.or_true, Bool.false_or, Bool.or_false, decide_true, decide_false, Bool.false_eq_true, Bool.true_eq_false, Bool.not_not, List.length_cons, List.length_nil, Nat.zero_add, Nat.reduceAdd, and_self, true_and, and_true, List.set_cons_zero, List.set_cons_succ, List.map_cons, List.map_nil, List.nil_append, List.cons_append, TW.setS, $ls,*]) <;> (try exact rfl)))
local macro_rules | `(tactic| simp! [$ls,*]) => `(tactic| repeat (first
  | (with_reducible first | refine TW.Wp.sq ?_ | refine TW.Wp.set_ ?_ | refine TW.Wp.drop_ ?_ | refine TW.Wp.ret_ ?_ | refine TW.Wp.ite_ ?_ | refine TW.Wp.asg_ ?_ | refine TW.Wp.par2_ ?_ | refine TW.Wp.par3_ ?_ | refine TW.Wp.raise0_ ?_ | refine TW.Wp.raise1_ ?_ | refine TW.Wp.raise2_ ?_ | refine TW.Wp.raise_ ?_ | refine TW.Wp.sub_ ?_ | refine TW.Wp.nx_ ?_ | refine TW.Wp.retN_ ?_ | refine TW.Wp.ct_ ?_ | refine TW.Wp.bk_ ?_ | refine TW.Sq.ret ?_ | refine TW.Sq.ex ?_ | refine TW.Sq.ct ?_ | refine TW.Sq.bk ?_ | (apply TW.Sq.nx; · (((try simp only [TW.setS, TW.startR, List.map_cons, List.map_nil, List.length_cons, List.length_nil, List.replicate, List.cons_append, List.nil_append, Nat.reduceSub, Nat.reduceAdd, Nat.zero_add, List.set_cons_zero, List.set_cons_succ, List.set_nil, List.replicate_succ, List.replicate_zero]); exact rfl))))
  | (with_reducible first | refine TW.We.ok ?_ | refine TW.We.bnd ?_ | refine TW.We.exc ?_)
  | ((with_reducible apply TW.We.eq); · (simp only [TW.bind_assoc', TW.q_emMeth, TW.q_pSo', TW.q_pSoK, TW.q_emTix, TW.q_isKt, TW.q_emKt, TW.q_emOp, TW.q_emCh, TW.q_em1, TW.q_emCall, TW.q_an, TW.q_ac, TW.q_cst, TW.q_vr0, TW.q_vrS, TW.q_emT, TW.q_emL, TW.q_tmOf, TW.q_isBl, TW.q_tAn, TW.q_tOrr, TW.q_tNo, TW.q_tYes, TW.q_eAn, TW.q_eOr, TW.q_eNo, TW.q_eIf, TW.q_itE, TW.q_itOf_lst, TW.q_itOf_tup, TW.q_itOf_klst, TW.q_bindok, TW.q_onH, TW.q_lt, TW.q_le, TW.q_gt, TW.q_ge, TW.q_ng, TW.q_sub, TW.q_ad_int, TW.q_in_tp, TW.q_in_ls, TW.q_in_tts, TW.q_in_lts, TW.q_eq_int, TW.q_ne_int, TW.q_eq_tp, TW.q_ne_tp, TW.q_eq_tts, TW.q_ne_tts, TW.q_eq_lts, TW.q_ne_lts, TW.q_eq_ls0, TW.q_ne_ls0, TW.q_eq_lts0, TW.q_ne_lts0, TW.q_eq_tp0, TW.q_ne_tp0, TW.q_eq_tts0, TW.q_ne_tts0, TW.q_ne_bl, TW.q_eq_bl, TW.q_lst0, TW.q_tup0, TW.q_lst1, TW.q_lst2, TW.q_lst3, TW.q_tup1, TW.q_tup2, TW.q_tup3, TW.q_tup4, TW.q_tupF_lst, TW.q_ix0, TW.q_ix1, TW.q_ix2, TW.q_jx0, TW.q_jx1, TW.q_jx2, TW.q_tupF_ls, TW.q_tupF_lts, TW.q_itOf_ls, TW.q_itOf_tp, TW.q_itOf_lts, TW.q_itOf_tts, TW.q_itOf_lls, TW.q_emCallK, TW.q_isbl, TW.q_isnon, TW.q_emSl, TW.q_pNo, TW.q_emBm, TW.q_len_tp, TW.q_len_ls, TW.q_len_lst, TW.q_len_tup, TW.q_emL2, TW.q_ls0, TW.q_ls1, TW.q_ls2, TW.q_ls3, TW.q_ls4, TW.q_pF_loc0, TW.q__loc0, TW.q_istup, TW.q_dnV, TW.q_arg0, TW.q_arg1, TW.q_arg2, TW.q_arg3, TW.q_arg4, TW.q_arg5, TW.q_arg6, TW.q_wipe0, TW.q_wipe1, TW.q_wipe2, TW.q_wipe3, TW.q_int, TW.q_tupF_tup, TW.q_tupF_tp, TW.q_istupp, TW.q_istts, TW.q_isint, TW.q_bindexc, TW.q_lst4, TW.q_lst5, TW.q_tup5, TW.q_lst6, TW.q_tup6, TW.q_lst7, TW.q_tup7, TW.q_lst8, TW.q_tup8, TW.q_lst9, TW.q_tup9, TW.q_lst10, TW.q_tup10, TW.q_lst11, TW.q_tup11, TW.q_lst12, TW.q_tup12, TW.q_lst13, TW.q_lst14, TW.q_lst15, TW.q_lst16, TW.q_lst17, TW.q_lst18, TW.q_lst19, TW.q_lst20, TW.q_lst21, TW.q_lst22, TW.q_lst23, TW.q_lst24, if_true, if_false, ite_true, ite_false, reduceIte, Bool.not_true, Bool.not_false, Bool.true_and, Bool.and_true, Bool.false_and, Bool.and_false, Bool.true_or, Bool.or_true, Bool.false_or, Bool.or_false, decide_true, decide_false, Bool.false_eq_true, Bool.true_eq_false, Bool.not_not, List.length_cons, List.length_nil, Nat.zero_add, Nat.reduceAdd, and_self, true_and, and_true, List.set_cons_zero, List.set_cons_succ, List.map_cons, List.map_nil, List.nil_append, List.cons_append, TW.setS, $ls,*]; exact rfl))
  | (with_reducible refine ⟨fun _ => ?_, fun z => Bool.noConfusion z⟩)
  | (with_reducible refine ⟨fun z => Bool.noConfusion z, fun _ => ?_⟩)
  | (with_reducible exact TW.Wp.done)
  | (with_reducible exact TW.Wp.doneX)
  | (with_reducible exact TW.Wp.doneN)
  | (with_reducible exact ⟨rfl, rfl⟩)
  | (with_reducible refine ⟨_, rfl, ?_⟩)
  | (with_reducible refine ⟨rfl, ?_⟩)
  | ((with_reducible apply TW.gm_ex); · exact rfl)
  | (with_reducible refine ⟨_, _, rfl, ?_⟩)))
local macro_rules | `(tactic| dsimp! [$ls,*]) => `(tactic| repeat (first
  | (with_reducible first | refine TW.Wp.sq ?_ | refine TW.Wp.set_ ?_ | refine TW.Wp.drop_ ?_ | refine TW.Wp.ret_ ?_ | refine TW.Wp.ite_ ?_ | refine TW.Wp.asg_ ?_ | refine TW.Wp.par2_ ?_ | refine TW.Wp.par3_ ?_ | refine TW.Wp.raise0_ ?_ | refine TW.Wp.raise1_ ?_ | refine TW.Wp.raise2_ ?_ | refine TW.Wp.raise_ ?_ | refine TW.Wp.sub_ ?_ | refine TW.Wp.nx_ ?_ | refine TW.Wp.retN_ ?_ | refine TW.Wp.ct_ ?_ | refine TW.Wp.bk_ ?_ | refine TW.Sq.ret ?_ | refine TW.Sq.ex ?_ | refine TW.Sq.ct ?_ | refine TW.Sq.bk ?_ | (apply TW.Sq.nx; · (((try simp only [TW.setS, TW.startR, List.map_cons, List.map_nil, List.length_cons, List.length_nil, List.replicate, List.cons_append, List.nil_append, Nat.reduceSub, Nat.reduceAdd, Nat.zero_add, List.set_cons_zero, List.set_cons_succ, List.set_nil, List.replicate_succ, List.replicate_zero]); exact rfl))))
  | (with_reducible refine TW.We.ok ?_)
  | ((with_reducible apply TW.We.full); · (simp only [TW.bind_assoc', TW.q_emMeth, TW.q_pSo', TW.q_pSoK, TW.q_emTix, TW.q_isKt, TW.q_emKt, TW.q_emOp, TW.q_emCh, TW.q_em1, TW.q_emCall, TW.q_an, TW.q_ac, TW.q_cst, TW.q_vr0, TW.q_vrS, TW.q_emT, TW.q_emL, TW.q_tmOf, TW.q_isBl, TW.q_tAn, TW.q_tOrr, TW.q_tNo, TW.q_tYes, TW.q_eAn, TW.q_eOr, TW.q_eNo, TW.q_eIf, TW.q_itE, TW.q_itOf_lst, TW.q_itOf_tup, TW.q_itOf_klst, TW.q_bindok, TW.q_onH, TW.q_lt, TW.q_le, TW.q_gt, TW.q_ge, TW.q_ng, TW.q_sub, TW.q_ad_int, TW.q_in_tp, TW.q_in_ls, TW.q_in_tts, TW.q_in_lts, TW.q_eq_int, TW.q_ne_int, TW.q_eq_tp, TW.q_ne_tp, TW.q_eq_tts, TW.q_ne_tts, TW.q_eq_lts, TW.q_ne_lts, TW.q_eq_ls0, TW.q_ne_ls0, TW.q_eq_lts0, TW.q_ne_lts0, TW.q_eq_tp0, TW.q_ne_tp0, TW.q_eq_tts0, TW.q_ne_tts0, TW.q_ne_bl, TW.q_eq_bl, TW.q_lst0, TW.q_tup0, TW.q_lst1, TW.q_lst2, TW.q_lst3, TW.q_tup1, TW.q_tup2, TW.q_tup3, TW.q_tup4, TW.q_tupF_lst, TW.q_ix0, TW.q_ix1, TW.q_ix2, TW.q_jx0, TW.q_jx1, TW.q_jx2, TW.q_tupF_ls, TW.q_tupF_lts, TW.q_itOf_ls, TW.q_itOf_tp, TW.q_itOf_lts, TW.q_itOf_tts, TW.q_itOf_lls, TW.q_emCallK, TW.q_isbl, TW.q_isnon, TW.q_emSl, TW.q_pNo, TW.q_emBm, TW.q_len_tp, TW.q_len_ls, TW.q_len_lst, TW.q_len_tup, TW.q_emL2, TW.q_ls0, TW.q_ls1, TW.q_ls2, TW.q_ls3, TW.q_ls4, TW.q_pF_loc0, TW.q__loc0, TW.q_istup, TW.q_dnV, TW.q_arg0, TW.q_arg1, TW.q_arg2, TW.q_arg3, TW.q_arg4, TW.q_arg5, TW.q_arg6, TW.q_wipe0, TW.q_wipe1, TW.q_wipe2, TW.q_wipe3, TW.q_int, TW.q_tupF_tup, TW.q_tupF_tp, TW.q_istupp, TW.q_istts, TW.q_isint, TW.q_bindexc, TW.q_lst4, TW.q_lst5, TW.q_tup5, TW.q_lst6, TW.q_tup6, TW.q_lst7, TW.q_tup7, TW.q_lst8, TW.q_tup8, TW.q_lst9, TW.q_tup9, TW.q_lst10, TW.q_tup10, TW.q_lst11, TW.q_tup11, TW.q_lst12, TW.q_tup12, TW.q_lst13, TW.q_lst14, TW.q_lst15, TW.q_lst16, TW.q_lst17, TW.q_lst18, TW.q_lst19, TW.q_lst20, TW.q_lst21, TW.q_lst22, TW.q_lst23, TW.q_lst24, if_true, if_false, ite_true, ite_false, reduceIte, Bool.not_true, Bool.not_false, Bool.true_and, Bool.and_true, Bool.false_and, Bool.and_false, Bool.true_or, Bool.or_true, Bool.false_or, Bool.or_false, decide_true, decide_false, Bool.false_eq_true, Bool.true_eq_false, Bool.not_not, List.length_cons, List.length_nil, Nat.zero_add, Nat.reduceAdd, and_self, true_and, and_true, List.set_cons_zero, List.set_cons_succ, List.map_cons, List.map_nil, List.nil_append, List.cons_append, TW.setS, $ls,*]; with_reducible exact rfl))
  | (with_reducible refine ⟨fun _ => ?_, fun z => Bool.noConfusion z⟩)
  | (with_reducible refine ⟨fun z => Bool.noConfusion z, fun _ => ?_⟩)
  | (with_reducible exact TW.Wp.done)
  | (with_reducible exact TW.Wp.doneX)
  | (with_reducible exact TW.Wp.doneN)
  | (with_reducible exact ⟨rfl, rfl⟩)
  | (with_reducible refine ⟨_, rfl, ?_⟩)
  | (with_reducible refine ⟨rfl, ?_⟩)
  | ((with_reducible apply TW.gm_ex); · exact rfl)
  | (with_reducible refine ⟨_, _, rfl, ?_⟩)))
section
variable {n : Nat} {h : MH} {loose lives left : List Int} {o : Int}
/-! ### the law's own behind -/
theorem ap_days (p : Int × Int) (r : Rho) : gmT 2 (gmCons (gmN 5) (gmCons (gmN 6) gmNil)) (pT p) r = some ((r.set 5 (some (.int p.1))).set 6 (some (.int p.2))) := rfl
theorem lb_rest {Y : T} (hX : itE (vr 1) [some (tp lives), some (datT left), some Y, none, none, none, none] h = .ok ((datA 0 left).map pT, none) h) (i1 : ∀ h, ixT Y (.int 1) h = .ok (.int o) h) (hl : left.length ≤ 1000) :
    lcM lstK (itE (vr 1)) (gmN 4) (tmOf (emOp neT (emOp ixT (vr 4) (cst (.int 0))) (emOp ixT (vr 2) (cst (.int 1))))) (vr 4) [4] [some (tp lives), some (datT left), some Y, none, none, none, none] h = .ok (.lst (((datA 0 left).filter fun p => !decide (p.1 = o)).map pT)) h := by
  have x0 : ∀ (p : Int × Int) h, ixT (pT p) (.int 0) h = .ok (.int p.1) h := fun p h => rfl
  refine We.get (We.lc 4 (enc := pT) (xs := datA 0 left) (fun p => !decide (p.1 = o)) pT hX (fun p _ => by simp! [x0, i1]) (fun p _ _ => by simp! []) ?_)
  exact We.at (w_lstKP (Nat.le_trans (List.length_filter_le _ _) (Nat.le_trans (datA_len _ _) hl))) ⟨rfl, rfl⟩
theorem adP {rest : List (Int × Int)} {o L : Int} (rl : rest.length ≤ 9) : adT lstK (.lst (rest.map pT)) (.lst [.tup [.int o, .int L]]) h = .ok (.lst ((rest ++ [(o, L)]).map pT)) h := by
  have e : (rest ++ [(o, L)]).map pT = rest.map pT ++ [.tup [.int o, .int L]] := by
    rw [List.map_append]
    rfl
  rw [e]
  exact w_lstK (by
    rw [List.length_append, List.length_map]
    exact Nat.le_trans (Nat.add_le_add_right rl 1) (by decide))
theorem srtP {ps qs : List (Int × Int)} (hp : ps.Perm qs) (hq : qs.Pairwise fun p q => leP p q = true) (hl : ps.length ≤ 1000) : sortPF lstK [.lst (ps.map pT)] h = .ok (.lst (qs.map pT)) h := by
  have es : sortP ps = qs := sortP_one (sortP_srt ps) hq ((sortP_perm ps).trans hp)
  unfold sortPF on1
  simp only [show lsOf h (.lst (ps.map pT)) = some (ps.map pT) from rfl, pr2_map]
  rw [es]
  exact w_lstKP (by rw [← hp.length_eq]; exact hl)
theorem x_lb (t : Tr n lives loose) (hll : left.length = n) (d : De) (hd : deG n loose d = true) : m__law_behind [tp lives, datT left, deT d] h = .ok (datT (stpD lives left d)) h := by
  have n5 := t.n5
  have e0 : ∀ (a b : Str) h, eqT (.str a) (.str b) h = .ok (.bl (decide (a = b))) h := fun a b h => eq_str
  have hl := t.len
  have it : ∀ h (r : Rho), itE (vr 1) (some (tp lives) :: some (datT left) :: r) h = .ok ((datA 0 left).map pT, none) h := fun h r => rfl
  refine pur_wp (by simp only [lows, low_tp, low_dat, low_de, Bool.and_self]) (low_dat _) ?_
  unfold b__law_behind B__law_behind
  refine Wp.start (by (((try simp only [TW.setS, TW.startR, List.map_cons, List.map_nil, List.length_cons, List.length_nil, List.replicate, List.cons_append, List.nil_append, Nat.reduceSub, Nat.reduceAdd, Nat.zero_add, List.set_cons_zero, List.set_cons_succ, List.set_nil, List.replicate_succ, List.replicate_zero]); exact rfl))) ?_
  cases d with
  | day =>
    have q : ∀ h, eqT (deT .day) (.tup [.str ("day" : Str)]) h = .ok (.bl true) h := fun h => pl_eq rfl rfl
    simp! [q]
    refine We.lcG (enc := pT) (xs := datA 0 left) (src := none) (fun p r => (r.set 5 (some (.int p.1))).set 6 (some (.int p.2))) (fun p => decide (1 < p.2)) (fun p => pT (p.1, p.2 - 1)) (it _ _) rfl (fun _ _ => rfl) (fun p _ => by simp! []) (fun p _ _ => by simp! []) ?_
    rw [show (fun p : Int × Int => pT (p.1, p.2 - 1)) = pT ∘ (fun p => (p.1, p.2 - 1)) from rfl, ← List.map_map, datA_day]
    refine We.at (w_lstKP (Nat.le_trans (datA_len _ _) (by rw [List.length_map]; omega))) ?_
    simp! []
    exact ⟨_, rfl⟩
  | come o =>
    have ho : 0 ≤ o ∧ o < n := by simpa [deG] using hd
    have ho2 : o.toNat < lives.length := by omega
    have L0 : 0 < lives.getD o.toNat 0 := by
      rw [List.getD_eq_getElem?_getD, List.getElem?_eq_getElem ho2]
      have := t.pos _ (List.getElem_mem ho2)
      show 0 < lives[o.toNat]
      omega
    have pm := datA_come L0 left 0 o.toNat (by omega)
    rw [show (0 : Int) + (o.toNat : Nat) = o from by omega] at pm
    have q : ∀ h, eqT (deT (.come o)) (.tup [.str ("day" : Str)]) h = .ok (.bl false) h := fun h => pl_eq rfl rfl
    have x0 : ∀ h, ixT (deT (.come o)) (.int 0) h = .ok (.str ("come" : Str)) h := fun h => rfl
    have x1 : ∀ h, ixT (deT (.come o)) (.int 1) h = .ok (.int o) h := fun h => rfl
    have x2 : ∀ h, ixT (tp lives) (.int o) h = .ok (.int (lives.getD o.toNat 0)) h := fun h => w_lives ho.1 (by omega)
    have q2 : ∀ h, eqT (.str ("come" : Str)) (.str ("come" : Str)) h = .ok (.bl true) h := fun h => by rw [e0]; rfl
    simp! [q]
    refine We.at (lb_rest (it _ _) x1 (by omega)) ?_
    have rl : ((datA 0 left).filter fun p => !decide (p.1 = o)).length ≤ 9 := Nat.le_trans (List.length_filter_le _ _) (Nat.le_trans (datA_len _ _) (by omega))
    generalize hL : lives.getD o.toNat 0 = L at pm x2
    generalize (datA 0 left).filter (fun p => !decide (p.1 = o)) = rest at pm rl ⊢
    have a1 : ∀ h, adT lstK (.lst (rest.map pT)) (.lst [.tup [.int o, .int L]]) h = .ok (.lst ((rest ++ [(o, L)]).map pT)) h := fun h => adP rl
    have a2 : ∀ h, sortPF lstK [.lst ((rest ++ [(o, L)]).map pT)] h = .ok (.lst ((datA 0 (left.set o.toNat L)).map pT)) h := fun h => srtP pm (datA_srt _ _) (by
      rw [List.length_append]
      simp
      omega)
    simp! [x0, x1, x2, q2, a1, a2]
    exact ⟨_, by show _ = Fr.ret (datT (left.set o.toNat (lives.getD o.toNat 0))) _; rw [hL]; rfl⟩
  | gone o =>
    have ho : (0 ≤ o ∧ o < n) ∧ o ∈ loose := by simpa [deG] using hd
    have pm := datA_gone left 0 o.toNat
    rw [show (0 : Int) + (o.toNat : Nat) = o from by omega] at pm
    have q : ∀ h, eqT (deT (.gone o)) (.tup [.str ("day" : Str)]) h = .ok (.bl false) h := fun h => pl_eq rfl rfl
    have x0 : ∀ h, ixT (deT (.gone o)) (.int 0) h = .ok (.str ("gone" : Str)) h := fun h => rfl
    have x1 : ∀ h, ixT (deT (.gone o)) (.int 1) h = .ok (.int o) h := fun h => rfl
    have q2 : ∀ h, eqT (.str ("gone" : Str)) (.str ("come" : Str)) h = .ok (.bl false) h := fun h => by rw [e0]; rfl
    simp! [q]
    refine We.at (lb_rest (it _ _) x1 (by omega)) ?_
    rw [pm]
    simp! [x0, q2]
    exact ⟨_, rfl⟩
end
end K12
namespace K12
open PySem PySem.Spec L2 TW TX
local macro_rules | `(tactic| simpa! [$ls,*]) => `(tactic| ((with_reducible apply TW.We.eq); · ((try simp only [TW.bind_assoc', TW.q_emMeth, TW.q_pSo', TW.q_pSoK, TW.q_emTix, TW.q_isKt, TW.q_emKt, TW.q_emOp, TW.q_emCh, TW.q_em1, TW.q_emCall, TW.q_an, TW.q_ac, TW.q_cst, TW.q_vr0, TW.q_vrS, TW.q_emT, TW.q_emL, TW.q_tmOf, TW.q_isBl, TW.q_tAn, TW.q_tOrr, TW.q_tNo, TW.q_tYes, TW.q_eAn, TW.q_eOr, TW.q_eNo, TW.q_eIf, TW.q_itE, TW.q_itOf_lst, TW.q_itOf_tup, TW.q_itOf_klst, TW.q_bindok, TW.q_onH, TW.q_lt, TW.q_le, TW.q_gt, TW.q_ge, TW.q_ng, TW.q_sub, TW.q_ad_int, TW.q_in_tp, TW.q_in_ls, TW.q_in_tts, TW.q_in_lts, TW.q_eq_int, TW.q_ne_int, TW.q_eq_tp, TW.q_ne_tp, TW.q_eq_tts, TW.q_ne_tts, TW.q_eq_lts, TW.q_ne_lts, TW.q_eq_ls0, TW.q_ne_ls0, TW.q_eq_lts0, TW.q_ne_lts0, TW.q_eq_tp0, TW.q_ne_tp0, TW.q_eq_tts0, TW.q_ne_tts0, TW.q_ne_bl, TW.q_eq_bl, TW.q_lst0, TW.q_tup0, TW.q_lst1, TW.q_lst2, TW.q_lst3, TW.q_tup1, TW.q_tup2, TW.q_tup3, TW.q_tup4, TW.q_tupF_lst, TW.q_ix0, TW.q_ix1, TW.q_ix2, TW.q_jx0, TW.q_jx1, TW.q_jx2, TW.q_tupF_ls, TW.q_tupF_lts, TW.q_itOf_ls, TW.q_itOf_tp, TW.q_itOf_lts, TW.q_itOf_tts, TW.q_itOf_lls, TW.q_emCallK, TW.q_isbl, TW.q_isnon, TW.q_emSl, TW.q_pNo, TW.q_emBm, TW.q_len_tp, TW.q_len_ls, TW.q_len_lst, TW.q_len_tup, TW.q_emL2, TW.q_ls0, TW.q_ls1, TW.q_ls2, TW.q_ls3, TW.q_ls4, TW.q_pF_loc0, TW.q__loc0, TW.q_istup, TW.q_dnV, TW.q_arg0, TW.q_arg1, TW.q_arg2, TW.q_arg3, TW.q_arg4, TW.q_arg5, TW.q_arg6, TW.q_wipe0, TW.q_wipe1, TW.q_wipe2, TW.q_wipe3, TW.q_int, TW.q_tupF_tup, TW.q_tupF_tp, TW.q_istupp, TW.q_istts, TW.q_isint, TW.q_bindexc, TW.q_lst4, TW.q_lst5, TW.q_tup5, TW.q_lst6, TW.q_tup6, TW.q_lst7, TW.q_tup7, TW.q_lst8, TW.q_tup8, TW.q_lst9, TW.q_tup9, TW.q_lst10, TW.q_tup10, TW.q_lst11, TW.q_tup11, TW.q_lst12, TW.q_tup12, TW.q_lst13, TW.q_lst14, TW.q_lst15, TW.q_lst16, TW.q_lst17, TW.q_lst18, TW.q_lst19, TW.q_lst20, TW.q_lst21, TW.q_lst22, TW.q_lst23, TW.q_lst24, if_true, if_false, ite_true, ite_false, reduceIte, Bool.not_true, Bool.not_false, Bool.true_and, Bool.and_true, Bool.false_and, Bool.and_false, Bool.true_or, Bool.or_true, Bool.false_or, Bool.or_false, decide_true, decide_false, Bool.false_eq_true, Bool.true_eq_false, Bool.not_not, List.length_cons, List.length_nil, Nat.zero_add, Nat.reduceAdd, and_self, true_and, and_true, List.set_cons_zero, List.set_cons_succ, List.map_cons, List.map_nil, List.nil_append, List.cons_append, TW.setS, $ls,*]); exact rfl)))
local macro_rules | `(tactic| simp_all! [$ls,*]) => `(tactic| ((try simp only [TW.bind_assoc', TW.q_emMeth, TW.q_pSo', TW.q_pSoK, TW.q_emTix, TW.q_isKt, TW.q_emKt, TW.q_emOp, TW.q_emCh, TW.q_em1, TW.q_emCall, TW.q_an, TW.q_ac, TW.q_cst, TW.q_vr0, TW.q_vrS, TW.q_emT, TW.q_emL, TW.q_tmOf, TW.q_isBl, TW.q_tAn, TW.q_tOrr, TW.q_tNo, TW.q_tYes, TW.q_eAn, TW.q_eOr, TW.q_eNo, TW.q_eIf, TW.q_itE, TW.q_itOf_lst, TW.q_itOf_tup, TW.q_itOf_klst, TW.q_bindok, TW.q_onH, TW.q_lt, TW.q_le, TW.q_gt, TW.q_ge, TW.q_ng, TW.q_sub, TW.q_ad_int, TW.q_in_tp, TW.q_in_ls, TW.q_in_tts, TW.q_in_lts, TW.q_eq_int, TW.q_ne_int, TW.q_eq_tp, TW.q_ne_tp, TW.q_eq_tts, TW.q_ne_tts, TW.q_eq_lts, TW.q_ne_lts, TW.q_eq_ls0, TW.q_ne_ls0, TW.q_eq_lts0, TW.q_ne_lts0, TW.q_eq_tp0, TW.q_ne_tp0, TW.q_eq_tts0, TW.q_ne_tts0, TW.q_ne_bl, TW.q_eq_bl, TW.q_lst0, TW.q_tup0, TW.q_lst1, TW.q_lst2, TW.q_lst3, TW.q_tup1, TW.q_tup2, TW.q_tup3, TW.q_tup4, TW.q_tupF_lst, TW.q_ix0, TW.q_ix1, TW.q_ix2, TW.q_jx0, TW.q_jx1, TW.q_jx2, TW.q_tupF_ls, TW.q_tupF_lts, TW.q_itOf_ls, TW.q_itOf_tp, TW.q_itOf_lts, TW.q_itOf_tts, TW.q_itOf_lls, TW.q_emCallK, TW.q_isbl, TW.q_isnon, TW.q_emSl, TW.q_pNo, TW.q_emBm, TW.q_len_tp, TW.q_len_ls, TW.q_len_lst, TW.q_len_tup, TW.q_emL2, TW.q_ls0, TW.q_ls1, TW.q_ls2, TW.q_ls3, TW.q_ls4, TW.q_pF_loc0, TW.q__loc0, TW.q_istup, TW.q_dnV, TW.q_arg0, TW.q_arg1, TW.q_arg2, TW.q_arg3, TW.q_arg4, TW.q_arg5, TW.q_arg6, TW.q_wipe0, TW.q_wipe1, TW.q_wipe2, TW.q_wipe3, TW.q_int, TW.q_tupF_tup, TW.q_tupF_tp, TW.q_istupp, TW.q_istts, TW.q_isint, TW.q_bindexc, TW.q_lst4, TW.q_lst5, TW.q_tup5, TW.q_lst6, TW.q_tup6, TW.q_lst7, TW.q_tup7, TW.q_lst8, TW.q_tup8, TW.q_lst9, TW.q_tup9, TW.q_lst10, TW.q_tup10, TW.q_lst11, TW.q_tup11, TW.q_lst12, TW.q_tup12, TW.q_lst13, TW.q_lst14, TW.q_lst15, TW.q_lst16, TW.q_lst17, TW.q_lst18, TW.q_lst19, TW.q_lst20, TW.q_lst21, TW.q_lst22, TW.q_lst23, TW.q_lst24, if_true, if_false, ite_true, ite_false, reduceIte, Bool.not_true, Bool.not_false, Bool.true_and, Bool.and_true, Bool.false_and, Bool.and_false, Bool.true_or, Bool.or_true, Bool.false_or, Bool.or_false, decide_true, decide_false, Bool.false_eq_true, Bool.true_eq_false, Bool.not_not, List.length_cons, List.length_nil, Nat.zero_add, Nat.reduceAdd, and_self, true_and, and_true, List.set_cons_zero, List.set_cons_succ, List.map_cons, List.map_nil, List.nil_append, List.cons_append, TW.setS, $ls,*]) <;> (try exact rfl)))
local macro_rules | `(tactic| simp! [$ls,*]) => `(tactic| repeat (first
  | (with_reducible first | refine TW.Wp.sq ?_ | refine TW.Wp.set_ ?_ | refine TW.Wp.drop_ ?_ | refine TW.Wp.ret_ ?_ | refine TW.Wp.ite_ ?_ | refine TW.Wp.asg_ ?_ | refine TW.Wp.par2_ ?_ | refine TW.Wp.par3_ ?_ | refine TW.Wp.raise0_ ?_ | refine TW.Wp.raise1_ ?_ | refine TW.Wp.raise2_ ?_ | refine TW.Wp.raise_ ?_ | refine TW.Wp.sub_ ?_ | refine TW.Wp.nx_ ?_ | refine TW.Wp.retN_ ?_ | refine TW.Wp.ct_ ?_ | refine TW.Wp.bk_ ?_ | refine TW.Sq.ret ?_ | refine TW.Sq.ex ?_ | refine TW.Sq.ct ?_ | refine TW.Sq.bk ?_ | (apply TW.Sq.nx; · (((try simp only [TW.setS, TW.startR, List.map_cons, List.map_nil, List.length_cons, List.length_nil, List.replicate, List.cons_append, List.nil_append, Nat.reduceSub, Nat.reduceAdd, Nat.zero_add, List.set_cons_zero, List.set_cons_succ, List.set_nil, List.replicate_succ, List.replicate_zero]); exact rfl))))
  | (with_reducible first | refine TW.We.ok ?_ | refine TW.We.bnd ?_ | refine TW.We.exc ?_)
  | ((with_reducible apply TW.We.eq); · (simp only [TW.bind_assoc', TW.q_emMeth, TW.q_pSo', TW.q_pSoK, TW.q_emTix, TW.q_isKt, TW.q_emKt, TW.q_emOp, TW.q_emCh, TW.q_em1, TW.q_emCall, TW.q_an, TW.q_ac, TW.q_cst, TW.q_vr0, TW.q_vrS, TW.q_emT, TW.q_emL, TW.q_tmOf, TW.q_isBl, TW.q_tAn, TW.q_tOrr, TW.q_tNo, TW.q_tYes, TW.q_eAn, TW.q_eOr, TW.q_eNo, TW.q_eIf, TW.q_itE, TW.q_itOf_lst, TW.q_itOf_tup, TW.q_itOf_klst, TW.q_bindok, TW.q_onH, TW.q_lt, TW.q_le, TW.q_gt, TW.q_ge, TW.q_ng, TW.q_sub, TW.q_ad_int, TW.q_in_tp, TW.q_in_ls, TW.q_in_tts, TW.q_in_lts, TW.q_eq_int, TW.q_ne_int, TW.q_eq_tp, TW.q_ne_tp, TW.q_eq_tts, TW.q_ne_tts, TW.q_eq_lts, TW.q_ne_lts, TW.q_eq_ls0, TW.q_ne_ls0, TW.q_eq_lts0, TW.q_ne_lts0, TW.q_eq_tp0, TW.q_ne_tp0, TW.q_eq_tts0, TW.q_ne_tts0, TW.q_ne_bl, TW.q_eq_bl, TW.q_lst0, TW.q_tup0, TW.q_lst1, TW.q_lst2, TW.q_lst3, TW.q_tup1, TW.q_tup2, TW.q_tup3, TW.q_tup4, TW.q_tupF_lst, TW.q_ix0, TW.q_ix1, TW.q_ix2, TW.q_jx0, TW.q_jx1, TW.q_jx2, TW.q_tupF_ls, TW.q_tupF_lts, TW.q_itOf_ls, TW.q_itOf_tp, TW.q_itOf_lts, TW.q_itOf_tts, TW.q_itOf_lls, TW.q_emCallK, TW.q_isbl, TW.q_isnon, TW.q_emSl, TW.q_pNo, TW.q_emBm, TW.q_len_tp, TW.q_len_ls, TW.q_len_lst, TW.q_len_tup, TW.q_emL2, TW.q_ls0, TW.q_ls1, TW.q_ls2, TW.q_ls3, TW.q_ls4, TW.q_pF_loc0, TW.q__loc0, TW.q_istup, TW.q_dnV, TW.q_arg0, TW.q_arg1, TW.q_arg2, TW.q_arg3, TW.q_arg4, TW.q_arg5, TW.q_arg6, TW.q_wipe0, TW.q_wipe1, TW.q_wipe2, TW.q_wipe3, TW.q_int, TW.q_tupF_tup, TW.q_tupF_tp, TW.q_istupp, TW.q_istts, TW.q_isint, TW.q_bindexc, TW.q_lst4, TW.q_lst5, TW.q_tup5, TW.q_lst6, TW.q_tup6, TW.q_lst7, TW.q_tup7, TW.q_lst8, TW.q_tup8, TW.q_lst9, TW.q_tup9, TW.q_lst10, TW.q_tup10, TW.q_lst11, TW.q_tup11, TW.q_lst12, TW.q_tup12, TW.q_lst13, TW.q_lst14, TW.q_lst15, TW.q_lst16, TW.q_lst17, TW.q_lst18, TW.q_lst19, TW.q_lst20, TW.q_lst21, TW.q_lst22, TW.q_lst23, TW.q_lst24, if_true, if_false, ite_true, ite_false, reduceIte, Bool.not_true, Bool.not_false, Bool.true_and, Bool.and_true, Bool.false_and, Bool.and_false, Bool.true_or, Bool.or_true, Bool.false_or, Bool.or_false, decide_true, decide_false, Bool.false_eq_true, Bool.true_eq_false, Bool.not_not, List.length_cons, List.length_nil, Nat.zero_add, Nat.reduceAdd, and_self, true_and, and_true, List.set_cons_zero, List.set_cons_succ, List.map_cons, List.map_nil, List.nil_append, List.cons_append, TW.setS, $ls,*]; exact rfl))
  | (with_reducible refine ⟨fun _ => ?_, fun z => Bool.noConfusion z⟩)
  | (with_reducible refine ⟨fun z => Bool.noConfusion z, fun _ => ?_⟩)
  | (with_reducible exact TW.Wp.done)
  | (with_reducible exact TW.Wp.doneX)
  | (with_reducible exact TW.Wp.doneN)
  | (with_reducible exact ⟨rfl, rfl⟩)
  | (with_reducible refine ⟨_, rfl, ?_⟩)
  | (with_reducible refine ⟨rfl, ?_⟩)
  | ((with_reducible apply TW.gm_ex); · exact rfl)
  | (with_reducible refine ⟨_, _, rfl, ?_⟩)))
local macro_rules | `(tactic| dsimp! [$ls,*]) => `(tactic| repeat (first
  | (with_reducible first | refine TW.Wp.sq ?_ | refine TW.Wp.set_ ?_ | refine TW.Wp.drop_ ?_ | refine TW.Wp.ret_ ?_ | refine TW.Wp.ite_ ?_ | refine TW.Wp.asg_ ?_ | refine TW.Wp.par2_ ?_ | refine TW.Wp.par3_ ?_ | refine TW.Wp.raise0_ ?_ | refine TW.Wp.raise1_ ?_ | refine TW.Wp.raise2_ ?_ | refine TW.Wp.raise_ ?_ | refine TW.Wp.sub_ ?_ | refine TW.Wp.nx_ ?_ | refine TW.Wp.retN_ ?_ | refine TW.Wp.ct_ ?_ | refine TW.Wp.bk_ ?_ | refine TW.Sq.ret ?_ | refine TW.Sq.ex ?_ | refine TW.Sq.ct ?_ | refine TW.Sq.bk ?_ | (apply TW.Sq.nx; · (((try simp only [TW.setS, TW.startR, List.map_cons, List.map_nil, List.length_cons, List.length_nil, List.replicate, List.cons_append, List.nil_append, Nat.reduceSub, Nat.reduceAdd, Nat.zero_add, List.set_cons_zero, List.set_cons_succ, List.set_nil, List.replicate_succ, List.replicate_zero]); exact rfl))))
  | (with_reducible refine TW.We.ok ?_)
  | ((with_reducible apply TW.We.full); · (simp only [TW.bind_assoc', TW.q_emMeth, TW.q_pSo', TW.q_pSoK, TW.q_emTix, TW.q_isKt, TW.q_emKt, TW.q_emOp, TW.q_emCh, TW.q_em1, TW.q_emCall, TW.q_an, TW.q_ac, TW.q_cst, TW.q_vr0, TW.q_vrS, TW.q_emT, TW.q_emL, TW.q_tmOf, TW.q_isBl, TW.q_tAn, TW.q_tOrr, TW.q_tNo, TW.q_tYes, TW.q_eAn, TW.q_eOr, TW.q_eNo, TW.q_eIf, TW.q_itE, TW.q_itOf_lst, TW.q_itOf_tup, TW.q_itOf_klst, TW.q_bindok, TW.q_onH, TW.q_lt, TW.q_le, TW.q_gt, TW.q_ge, TW.q_ng, TW.q_sub, TW.q_ad_int, TW.q_in_tp, TW.q_in_ls, TW.q_in_tts, TW.q_in_lts, TW.q_eq_int, TW.q_ne_int, TW.q_eq_tp, TW.q_ne_tp, TW.q_eq_tts, TW.q_ne_tts, TW.q_eq_lts, TW.q_ne_lts, TW.q_eq_ls0, TW.q_ne_ls0, TW.q_eq_lts0, TW.q_ne_lts0, TW.q_eq_tp0, TW.q_ne_tp0, TW.q_eq_tts0, TW.q_ne_tts0, TW.q_ne_bl, TW.q_eq_bl, TW.q_lst0, TW.q_tup0, TW.q_lst1, TW.q_lst2, TW.q_lst3, TW.q_tup1, TW.q_tup2, TW.q_tup3, TW.q_tup4, TW.q_tupF_lst, TW.q_ix0, TW.q_ix1, TW.q_ix2, TW.q_jx0, TW.q_jx1, TW.q_jx2, TW.q_tupF_ls, TW.q_tupF_lts, TW.q_itOf_ls, TW.q_itOf_tp, TW.q_itOf_lts, TW.q_itOf_tts, TW.q_itOf_lls, TW.q_emCallK, TW.q_isbl, TW.q_isnon, TW.q_emSl, TW.q_pNo, TW.q_emBm, TW.q_len_tp, TW.q_len_ls, TW.q_len_lst, TW.q_len_tup, TW.q_emL2, TW.q_ls0, TW.q_ls1, TW.q_ls2, TW.q_ls3, TW.q_ls4, TW.q_pF_loc0, TW.q__loc0, TW.q_istup, TW.q_dnV, TW.q_arg0, TW.q_arg1, TW.q_arg2, TW.q_arg3, TW.q_arg4, TW.q_arg5, TW.q_arg6, TW.q_wipe0, TW.q_wipe1, TW.q_wipe2, TW.q_wipe3, TW.q_int, TW.q_tupF_tup, TW.q_tupF_tp, TW.q_istupp, TW.q_istts, TW.q_isint, TW.q_bindexc, TW.q_lst4, TW.q_lst5, TW.q_tup5, TW.q_lst6, TW.q_tup6, TW.q_lst7, TW.q_tup7, TW.q_lst8, TW.q_tup8, TW.q_lst9, TW.q_tup9, TW.q_lst10, TW.q_tup10, TW.q_lst11, TW.q_tup11, TW.q_lst12, TW.q_tup12, TW.q_lst13, TW.q_lst14, TW.q_lst15, TW.q_lst16, TW.q_lst17, TW.q_lst18, TW.q_lst19, TW.q_lst20, TW.q_lst21, TW.q_lst22, TW.q_lst23, TW.q_lst24, if_true, if_false, ite_true, ite_false, reduceIte, Bool.not_true, Bool.not_false, Bool.true_and, Bool.and_true, Bool.false_and, Bool.and_false, Bool.true_or, Bool.or_true, Bool.false_or, Bool.or_false, decide_true, decide_false, Bool.false_eq_true, Bool.true_eq_false, Bool.not_not, List.length_cons, List.length_nil, Nat.zero_add, Nat.reduceAdd, and_self, true_and, and_true, List.set_cons_zero, List.set_cons_succ, List.map_cons, List.map_nil, List.nil_append, List.cons_append, TW.setS, $ls,*]; with_reducible exact rfl))
  | (with_reducible refine ⟨fun _ => ?_, fun z => Bool.noConfusion z⟩)
  | (with_reducible refine ⟨fun z => Bool.noConfusion z, fun _ => ?_⟩)
  | (with_reducible exact TW.Wp.done)
  | (with_reducible exact TW.Wp.doneX)
  | (with_reducible exact TW.Wp.doneN)
  | (with_reducible exact ⟨rfl, rfl⟩)
  | (with_reducible refine ⟨_, rfl, ?_⟩)
  | (with_reducible refine ⟨rfl, ?_⟩)
  | ((with_reducible apply TW.gm_ex); · exact rfl)
  | (with_reducible refine ⟨_, _, rfl, ?_⟩)))
section
variable {n : Nat} {h : MH} {loose lives left : List Int} {o : Int} {X : T} {A : List (Int × Int)} {r : Rho}
/-! ### bringing -/
def brA (lives left : List Int) : List (Int × Int) := (datA 0 left).map fun p => (lives.getD p.1.toNat 0 - p.2, p.1)
def cms (A : List (Int × Int)) (k : Int) : List De := (A.filter fun p => decide (p.1 = k)).map fun p => .come p.2
def brS (A : List (Int × Int)) : Nat → List De
  | 0 => cms A 0
  | k + 1 => cms A ((k + 1 : Nat) : Int) ++ .day :: brS A k
def mxA (A : List (Int × Int)) : Int := gtI 0 (A.map (·.1))
def brO (lives left : List Int) : List De := brS (brA lives left) (mxA (brA lives left)).toNat
theorem gtI_le : ∀ (l : List Int) (a : Int), a ≤ gtI a l
  | [], a => Int.le_refl _
  | b :: l, a => by
    have := gtI_le l (if a < b then b else a)
    show a ≤ gtI (if a < b then b else a) l
    refine Int.le_trans ?_ this
    split <;> omega
theorem gtI_top {K : Int} : ∀ (l : List Int) (a : Int), a ≤ K → (∀ b ∈ l, b ≤ K) → gtI a l ≤ K
  | [], a, h, _ => h
  | b :: l, a, h, hl => by
    show gtI (if a < b then b else a) l ≤ K
    refine gtI_top l _ ?_ fun c hc => hl c (List.mem_cons_of_mem _ hc)
    have := hl b List.mem_cons_self
    split <;> omega
theorem ints_in (ns : List Int) : mapO inOf (ns.map T.int) = some ns := by
  induction ns with
  | nil => rfl
  | cons a ns ih => simp only [List.map_cons, mapO, ih]; rfl
theorem w_mx (A : List (Int × Int)) : maxF [ls (0 :: A.map (·.1))] h = .ok (.int (mxA A)) h := by
  have e := ints_in (0 :: A.map (·.1))
  show (match mapO inOf ((0 :: A.map (·.1)).map T.int) with
      | some (n :: ns) => Res.ok (T.int (gtI n ns)) h
      | _ => .bad) = _
  rw [e]
  rfl
theorem cms_len (A : List (Int × Int)) (k : Int) : (cms A k).length ≤ A.length := by
  unfold cms
  rw [List.length_map]
  exact List.length_filter_le _ _
theorem brS_len (A : List (Int × Int)) : ∀ k, (brS A k).length ≤ (k + 1) * (A.length + 1)
  | 0 => by
    have := cms_len A 0
    show (cms A 0).length ≤ _
    omega
  | k + 1 => by
    have := cms_len A ((k + 1 : Nat) : Int)
    have ih := brS_len A k
    show (cms A _ ++ .day :: brS A k).length ≤ _
    rw [List.length_append, List.length_cons, Nat.add_mul]
    omega
theorem ex_de {xs ys : List De} (hl : xs.length + ys.length ≤ 1000) : TW.exT (.loc 0) [.lst (ys.map deT)] [.lst (xs.map deT)] = .ok .non [.lst ((xs ++ ys).map deT)] := by
  show (if (xs.map deT).length + (ys.map deT).length ≤ sizeLine then Res.ok T.non [.lst (xs.map deT ++ ys.map deT)] else .bad) = _
  rw [if_pos (by rw [List.length_map, List.length_map]; exact Nat.le_trans hl (by decide)), ← List.map_append]
theorem x_br (t : Tr n lives loose) (hll : left.length = n) (f : Fit lives left) (h0 : ∀ k : Nat, 0 ≤ left.getD k 0) : m_bringing [trT lives loose, datT left] h = .ok (.tup ((brO lives left).map deT)) h := by
  have n5 := t.n5
  have hl := t.len
  have mem : ∀ p ∈ datA 0 left, 0 ≤ p.1 ∧ p.1 < n ∧ 0 < p.2 := fun p hp => by
    obtain ⟨a, b, c, _⟩ := datA_mem hp
    exact ⟨a, by omega, c⟩
  have lvs : ∀ p ∈ datA 0 left, ∀ h, ixT (tp lives) (.int p.1) h = .ok (.int (lives.getD p.1.toNat 0)) h := fun p hp h => by
    have := mem p hp
    exact w_lives this.1 (by omega)
  have dl : (datA 0 left).length ≤ 5 := by
    have := datA_len left 0
    omega
  refine pur_wp (by simp only [lows, low_tr, low_dat, Bool.and_self]) low_str ?_
  unfold b_bringing B_bringing
  refine Wp.start (by (((try simp only [TW.setS, TW.startR, List.map_cons, List.map_nil, List.length_cons, List.length_nil, List.replicate, List.cons_append, List.nil_append, Nat.reduceSub, Nat.reduceAdd, Nat.zero_add, List.set_cons_zero, List.set_cons_succ, List.set_nil, List.replicate_succ, List.replicate_zero]); exact rfl))) ?_
  simp! [show ∀ h, m_is_dated_of [trT lives loose, datT left] h = .ok (.bl true) h from fun h => x_datedO t (isD left) hll f]
  refine We.lcG (enc := pT) (xs := datA 0 left) (src := none) (fun p r => (r.set 5 (some (.int p.1))).set 6 (some (.int p.2))) (fun _ => true) (fun p => pT (lives.getD p.1.toNat 0 - p.2, p.1)) rfl rfl (fun _ _ => rfl) (fun _ _ => We.at rfl ⟨rfl, rfl⟩) (fun p hp _ => by simp! [at_lives, lvs p hp]) ?_
  have e1 : (List.filter (fun _ => true) (datA 0 left)).map (fun p => pT (lives.getD p.1.toNat 0 - p.2, p.1)) = (brA lives left).map pT := by
    rw [List.filter_eq_self.mpr fun _ _ => rfl]
    unfold brA
    rw [List.map_map]
    rfl
  have al : (brA lives left).length ≤ 5 := by
    unfold brA
    rw [List.length_map]
    exact dl
  have atop : ∀ p ∈ brA lives left, p.1 ≤ 3 := fun p hp => by
    obtain ⟨q, hq, rfl⟩ := List.mem_map.mp hp
    have := mem q hq
    have lt : q.1.toNat < lives.length := by omega
    have l3 := t.top _ (List.getElem_mem lt)
    rw [List.getD_eq_getElem?_getD, List.getElem?_eq_getElem lt]
    show lives[q.1.toNat] - q.2 ≤ 3
    omega
  rw [e1]
  show We _ _ _
  unfold brO
  generalize brA lives left = A at al atop ⊢
  have m0 : 0 ≤ mxA A := gtI_le _ 0
  have m3 : mxA A ≤ 3 := gtI_top _ 0 (by omega) fun b hb => by
    obtain ⟨p, hp, rfl⟩ := List.mem_map.mp hb
    exact atop p hp
  refine We.at (w_lstKP (by omega)) ?_
  simp! []
  refine We.lcG (enc := pT) (xs := A) (src := none) (fun p r => (r.set 6 (some (.int p.1))).set 5 (some (.int p.2))) (fun _ => true) (fun p => .int p.1) rfl rfl (fun _ _ => rfl) (fun _ _ => We.at rfl ⟨rfl, rfl⟩) (fun p hp _ => by simp! []) ?_
  have e2 : (List.filter (fun _ => true) A).map (fun p => T.int p.1) = (A.map (·.1)).map T.int := by
    rw [List.filter_eq_self.mpr fun _ _ => rfl, List.map_map]
    rfl
  have e3 : ∀ h, adT lstK (.lst [.int 0]) (.lst ((A.map (·.1)).map T.int)) h = .ok (.lst ((0 :: A.map (·.1)).map T.int)) h := fun h => w_lstK (by
    rw [List.length_append, List.length_map, List.length_map]
    exact Nat.le_trans (Nat.add_le_add_left al 1) (by decide))
  have e4 : ∀ h, maxF [.lst (.int 0 :: (A.map (·.1)).map T.int)] h = .ok (.int (mxA A)) h := fun h => w_mx A
  rw [e2]
  refine We.at (w_lstK (by rw [List.length_map, List.length_map]; exact Nat.le_trans al (by decide))) ?_
  simp! [e3, e4]
  generalize hK : mxA A = K at m0 m3
  refine Wp.whI [4] (fun k y h => ∃ (j : Int) (acc : List De), y 4 = some (.int j) ∧ h = [.lst (acc.map deT)] ∧ k = (j + 1).toNat ∧ -1 ≤ j ∧ j ≤ 3 ∧ acc ++ (if 0 ≤ j then brS A j.toNat else []) = brS A K.toNat) (K + 1).toNat (by omega) ⟨K, [], rfl, rfl, rfl, by omega, m3, by rw [if_pos m0]; rfl⟩ ?_
  rintro k y h ⟨j, acc, ey, rfl, ek, j1, j3, ea⟩
  have er : setS [some (trT lives loose), some (datT left), some (.lst (A.map pT)), some (.loc 0), some (.int K), none, none] [4] y = [some (trT lives loose), some (datT left), some (.lst (A.map pT)), some (.loc 0), some (.int j), none, none] := by
    simp only [setS, List.set_cons_succ, List.set_cons_zero, ey]
  rw [er]
  by_cases q : 0 ≤ j
  · obtain ⟨i, rfl⟩ : ∃ i : Nat, j = (i : Int) := ⟨j.toNat, by omega⟩
    rw [if_pos q] at ea
    refine .inr ⟨[.lst (acc.map deT)], ?_, ?_⟩
    · unfold L_bringing_2
      exact We.get (by simp! [])
    · unfold L_bringing_1
      have ty : ∀ (l : List De), isTy "list" [MO.lst (l.map deT)] (.loc 0) = true := fun _ => rfl
      have al2 : acc.length ≤ 100 := by
        have e := congrArg List.length ea
        rw [List.length_append] at e
        have := brS_len A K.toNat
        have : (K.toNat + 1) * (A.length + 1) ≤ 4 * 6 := Nat.mul_le_mul (by omega) (by omega)
        omega
      have cl := cms_len A (i : Int)
      simp! [ty]
      refine We.lcG (enc := pT) (xs := A) (src := none) (fun p r => (r.set 6 (some (.int p.1))).set 5 (some (.int p.2))) (fun p => decide (p.1 = (i : Int))) (fun p => deT (.come p.2)) rfl rfl (fun _ _ => rfl) (fun p hp => by simp! []) (fun p hp _ => by simp! []) ?_
      have e5 : (List.filter (fun p => decide (p.1 = (i : Int))) A).map (fun p => deT (.come p.2)) = (cms A (i : Int)).map deT := by
        unfold cms
        rw [List.map_map]
        rfl
      rw [e5]
      refine We.at (w_lstK (by rw [List.length_map]; exact Nat.le_trans (Nat.le_trans cl al) (by decide))) ?_
      refine We.at (ex_de (by omega)) ?_
      by_cases q2 : (0 : Int) < (i : Int)
      · obtain ⟨l, rfl⟩ : ∃ l : Nat, i = l + 1 := ⟨i - 1, by omega⟩
        have ap : ∀ y, apT (.loc 0) [y] [.lst ((acc ++ cms A ((l + 1 : Nat) : Int)).map deT)] = .ok .non [.lst ((acc ++ cms A ((l + 1 : Nat) : Int)).map deT ++ [y])] := fun y => ap0 (by
          rw [List.length_map, List.length_append]
          omega)
        simp! [q2, ty, ap]
        refine Wp.fin (.inl ⟨fun i => if i = 4 then some (.int ((l : Nat) : Int)) else none, [.lst ((acc ++ cms A ((l + 1 : Nat) : Int) ++ [De.day]).map deT)], (l + 1), ?_, by omega, (l : Int), acc ++ cms A ((l + 1 : Nat) : Int) ++ [.day], rfl, rfl, by omega, by omega, by omega, ?_⟩)
        · have e6 : ((l + 1 : Nat) : Int) - 1 = (l : Int) := by omega
          simp only [setS, List.set_cons_succ, List.set_cons_zero, e6, if_true]
          rw [List.map_append (l₂ := [De.day])]
          rfl
        · rw [if_pos (by omega), ← ea, Int.toNat_natCast, Int.toNat_natCast, List.append_assoc, List.append_assoc]
          rfl
      · obtain rfl : i = 0 := by omega
        simp! [q2]
        refine Wp.fin (.inl ⟨fun i => if i = 4 then some (.int (-1)) else none, [.lst ((acc ++ cms A ((0 : Nat) : Int)).map deT)], 0, ?_, by omega, -1, acc ++ cms A ((0 : Nat) : Int), rfl, rfl, rfl, by omega, by omega, ?_⟩)
        · simp only [setS, List.set_cons_succ, List.set_cons_zero, if_true]
          rfl
        · rw [if_neg (by omega), ← ea, List.append_nil]
          rfl
  · refine .inl ⟨[.lst (acc.map deT)], ?_, ?_⟩
    · unfold L_bringing_2
      exact We.get (by
        simp! []
        simpa using q)
    · rw [if_neg q, List.append_nil] at ea
      rw [← ea]
      simp! []
end
end K12
namespace K12
open PySem PySem.Spec L2 TW TX
instance : DecidableEq De := fun a b => match a, b with
  | .day, .day => .isTrue rfl
  | .gone x, .gone y => if h : x = y then .isTrue (by rw [h]) else .isFalse fun z => h (by cases z; rfl)
  | .come x, .come y => if h : x = y then .isTrue (by rw [h]) else .isFalse fun z => h (by cases z; rfl)
  | .day, .gone _ | .day, .come _ | .gone _, .day | .gone _, .come _ | .come _, .day | .come _, .gone _ => .isFalse fun z => by cases z
/-! ### the law's own search, in plain lists -/
abbrev Dt := List (List Int × List De)
def lkL (l : List Int) : Dt → Option (List De)
  | [] => none
  | p :: D => if p.1 = l then some p.2 else lkL l D
def dds (n : Nat) (loose : List Int) : List De := (rng n).map De.come ++ [.day] ++ loose.map De.gone
def turnB (lives l : List Int) (st : Dt × List (List Int)) (d : De) : Dt × List (List Int) := match lkL (stpD lives l d) st.1 with
  | some _ => st
  | none => (st.1 ++ [(stpD lives l d, (lkL l st.1).getD [] ++ [d])], st.2 ++ [stpD lives l d])
def roundB (lives : List Int) (deeds : List De) (D : Dt) (edge : List (List Int)) : Dt × List (List Int) := edge.foldl (fun st l => deeds.foldl (turnB lives l) st) (D, [])
def goB (lives : List Int) (deeds : List De) : Nat → Dt → List (List Int) → Dt
  | 0, D, _ => D
  | _ + 1, D, [] => D
  | f + 1, D, l :: edge => goB lives deeds f (roundB lives deeds D (l :: edge)).1 (roundB lives deeds D (l :: edge)).2
def zerB (n : Nat) : List Int := List.replicate n 0
def bfs (n : Nat) (lives loose : List Int) : Dt := goB lives (dds n loose) 30 [(zerB n, [])] [zerB n]
def livs : Nat → List (List Int)
  | 1 => [[1], [2], [3]]
  | 2 => [1, 2, 3].flatMap fun a => [1, 2, 3].map fun b => [a, b]
  | 3 => [1, 2].flatMap fun a => [1, 2].flatMap fun b => [1, 2].map fun c => [a, b, c]
  | _ => []
def many (lives : List Int) : Int := lives.foldl (fun m l => m * (l + 1)) 1
def kP (p : Int × Int) : NestedKey := .tup [.num p.1, .num p.2]
def kN (l : List Int) : NestedKey := .tup ((datA 0 l).map kP)
def goodB (n : Nat) (lives loose : List Int) : Bool := decide (((bfs n lives loose).length : Int) = many lives) && (bfs n lives loose).all fun p => decide (p.1.length = n) && (p.2.all (deG n loose)) && (decide (brO lives p.1 = p.2) && (decide (dRun lives (zerB n) p.2 = p.1) && ((List.range n).all fun k => decide (0 ≤ p.1.getD k 0) && decide (p.1.getD k 0 ≤ lives.getD k 0)) && (match lkN (kN p.1) ((bfs n lives loose).map fun q => (kN q.1, q.2)) with | some s => decide (s = p.2) | none => false) && decide ((p.2.length : Int) = (datA 0 p.1).length + mxA (brA lives p.1))))
theorem all_good : ([1, 2, 3].all fun n => (livs n).all fun lives => (sets n).all fun loose => goodB n lives loose) = true := by decide +kernel
end K12
namespace K12
open PySem PySem.Spec L2 TW TX
def insP (p : Int × Int) : List (Int × Int) → List (Int × Int)
  | [] => [p]
  | q :: l => if leP p q = true then p :: q :: l else q :: insP p l
def isrt : List (Int × Int) → List (Int × Int)
  | [] => []
  | p :: l => insP p (isrt l)
def sortPI (k : List T → MH → Res T) : FM := on1 fun x h => match lsOf h x with
  | some xs => (match mapO pr2 xs with
    | some ps => k ((isrt ps).map pT) h
    | none => .bad)
  | none => .bad
def BI_behind : SM := (sSeq (sIf (tmOf (emOp eqT (vr 2) (emT (ac (cst (.str ("day" : Str))) an))))
 (sRet (emCall tupF (ac (lcM lstK (itE (vr 1)) (gmT 2 (gmCons (gmN 5) (gmCons (gmN 6) gmNil))) (tmOf (emOp gtT (vr 6) (cst (.int 1)))) (emT (ac (vr 5) (ac (emOp subT (vr 6) (cst (.int 1))) an))) [5, 6]) an)))
 sNx)
 (sSeq (sSet 3 (lcM lstK (itE (vr 1)) (gmN 4) (tmOf (emOp neT (emOp ixT (vr 4) (cst (.int 0))) (emOp ixT (vr 2) (cst (.int 1))))) (vr 4) [4]))
 (sRet (eIf (tmOf (emOp eqT (emOp ixT (vr 2) (cst (.int 0))) (cst (.str ("come" : Str))))) (emCall tupF (ac (emCall (sortPI lstK) (ac (emOp (adT lstK) (vr 3) (emL lstK (ac (emT (ac (emOp ixT (vr 2) (cst (.int 1))) (ac (emOp ixT (vr 0) (emOp ixT (vr 2) (cst (.int 1)))) an))) an))) an)) an)) (emCall tupF (ac (vr 3) an))))))

def mLB : FM := pur (reg (fnB 7 BI_behind))
def mAF : FM := pur (reg (fnB 11 (B__law_all_first mLB)))
def strT (s : List De) : T := .tup (s.map deT)
def dnB (D : Dt) : T := .dN (D.map fun p => kN p.1) (D.map fun p => strT p.2)
theorem insP_perm (p : Int × Int) : ∀ l, (insP p l).Perm (p :: l)
  | [] => .refl _
  | q :: l => by
    unfold insP
    split
    · exact .refl _
    · exact ((insP_perm p l).cons q).trans (.swap p q l)
theorem isrt_perm : ∀ l, (isrt l).Perm l
  | [] => .refl _
  | p :: l => (insP_perm p _).trans ((isrt_perm l).cons p)
theorem insP_srt (p : Int × Int) : ∀ l : List (Int × Int), l.Pairwise (fun a b => leP a b = true) → (insP p l).Pairwise fun a b => leP a b = true
  | [], _ => List.pairwise_singleton _ _
  | q :: l, h => by
    obtain ⟨h1, h2⟩ := List.pairwise_cons.mp h
    unfold insP
    split
    · rename_i hq
      refine List.pairwise_cons.mpr ⟨fun a ha => ?_, h⟩
      rcases List.mem_cons.mp ha with rfl | ha
      · exact hq
      · have z := leP_iff.mp (h1 a ha)
        have y := leP_iff.mp hq
        exact leP_iff.mpr (by omega)
    · rename_i hq
      refine List.pairwise_cons.mpr ⟨fun a ha => ?_, insP_srt p l h2⟩
      rcases List.mem_cons.mp ((insP_perm p l).mem_iff.mp ha) with rfl | ha
      · have z : ¬ (a.1 < q.1 ∨ (a.1 = q.1 ∧ a.2 ≤ q.2)) := fun y => hq (leP_iff.mpr y)
        exact leP_iff.mpr (by omega)
      · exact h1 a ha
theorem isrt_srt : ∀ l, (isrt l).Pairwise fun a b => leP a b = true
  | [] => .nil
  | p :: l => insP_srt p _ (isrt_srt l)
theorem sortPI_eq (k : List T → MH → Res T) : sortPF k = sortPI k := by
  have e : ∀ ps, sortP ps = isrt ps := fun ps => sortP_one (sortP_srt ps) (isrt_srt ps) ((sortP_perm ps).trans (isrt_perm ps).symm)
  unfold sortPF sortPI
  simp only [e]
  all_goals rfl
theorem mLB_eq : m__law_behind = mLB := by
  unfold m__law_behind mLB b__law_behind B__law_behind BI_behind
  rw [sortPI_eq]
theorem mAF_eq : m__law_all_first = mAF := by
  unfold m__law_all_first mAF b__law_all_first
  rw [mLB_eq]
end K12
namespace K12
open PySem PySem.Spec L2 TW TX
/-! ### the deck and the cells behind it, asked -/
section
variable {b : Int} {tl h : MH} {k : Nat} {o : MO} {l : List T} {Q : T → MH → Prop} {X : Str → List (Str × T) → MH → Prop} {v : T}
theorem Dk.at (d : Dk b tl h) (k : Nat) : h[k + 2]? = tl[k]? := by
  obtain ⟨R, m, z, rfl, -, -, -⟩ := d
  rfl
theorem Dk.len (d : Dk b tl h) : h.length = tl.length + 2 := by
  obtain ⟨R, m, z, rfl, -, -, -⟩ := d
  rfl
theorem Dk.put (d : Dk b tl h) (k : Nat) (o : MO) : Dk b (tl.set k o) (h.set (k + 2) o) := by
  obtain ⟨R, m, z, rfl, e2, e3, e4⟩ := d
  exact ⟨R, m, z, rfl, e2, e3, e4⟩
theorem Dk.app (d : Dk b tl h) (o : MO) : Dk b (tl ++ [o]) (h ++ [o]) := by
  obtain ⟨R, m, z, rfl, e2, e3, e4⟩ := d
  exact ⟨R, m, z, rfl, e2, e3, e4⟩
theorem Dk.lsAt (d : Dk b tl h) (e : tl[k]? = some (.lst l)) : lstAt h (k + 2) = some l := by
  unfold lstAt
  rw [d.at, e]
theorem Dk.lsOf (d : Dk b tl h) (e : tl[k]? = some (.lst l)) : lsOf h (.loc (k + 2)) = some l := d.lsAt e
theorem Dk.isl (d : Dk b tl h) (e : tl[k]? = some (.lst l)) : isTy "list" h (.loc (k + 2)) = true := t_lsn ((d.at k).trans e)
theorem Dk.lenF (d : Dk b tl h) (e : tl[k]? = some (.lst l)) : lenF [.loc (k + 2)] h = .ok (.int l.length) h := by
  have : lnOf h (.loc (k + 2)) = some l.length := by
    unfold lnOf
    rw [d.lsOf e]
  unfold TW.lenF on1
  simp only [this]
theorem Dk.tupF (d : Dk b tl h) (e : tl[k]? = some (.lst l)) : tupF [.loc (k + 2)] h = .ok (.tup l) h := by
  unfold TW.tupF on1
  simp only [d.lsOf e]
theorem Dk.ixF (d : Dk b tl h) (e : tl[k]? = some (.lst l)) {i : Int} {z : T} (ei : atI l i = some z) : ixT (.loc (k + 2)) (.int i) h = .ok z h := by
  unfold ixT
  simp only [d.lsOf e, ei]
theorem We.draw {D : FM} {n : Int} (hD : Dr D) (n0 : 0 < n) (n1 : n < 1000000) (hb : b ≤ 900) (ht : tlOk tl) (d : Dk b tl h) (q : ∀ v h1, 0 ≤ v → v < n → Dk (b + 1) tl h1 → Q (.int v) h1) : We (D [.loc 1, .int n] h) Q X := by
  obtain ⟨h1, v, e, d1, v0, v1⟩ := hD n b tl h n0 n1 hb ht d
  rw [e]
  exact We.ok (q v h1 v0 v1 d1)
theorem We.lstLd {xs : List T} (d : Dk b tl h) (hl : xs.length ≤ 100000) (q : ∀ h1, Dk b (tl ++ [.lst xs]) h1 → Q (.loc (tl.length + 2)) h1) : We (lstL xs h) Q X := by
  refine We.lstL hl ?_
  rw [d.len]
  exact q _ (d.app _)
theorem We.apd (d : Dk b tl h) (e : tl[k]? = some (.lst l)) (hl : l.length ≤ 100000) (q : ∀ h1, Dk b (tl.set k (.lst (l ++ [v]))) h1 → Q .non h1) : We (apT (.loc (k + 2)) [v] h) Q X :=
  We.eq (apn ((d.at k).trans e) hl) (We.ok (q _ (d.put k _)))
theorem pa_at {n : Nat} {i : Int} (e : lstAt h n = some l) (i0 : 0 ≤ i) (i1 : i < l.length) (hl : l.length ≤ 100000) : paT (.loc n) [.int i] h = .ok (l[i.toNat]'(by omega)) (h.set n (.lst (l.eraseIdx i.toNat))) := by
  have hi : i.toNat < l.length := by omega
  unfold paT
  simp only [e]
  have r : seqIndex? i l.length = some i.toNat := by
    unfold seqIndex?
    have n0 : ¬ i < 0 := by omega
    have n1 : ¬ ((l.length : Int) ≤ i) := by omega
    simp [n0, hi, i0, i1]
  rw [if_pos (by omega), r]
  simp only []
  rw [List.getElem?_eq_getElem hi]
theorem We.pop {i : Int} (d : Dk b tl h) (e : tl[k]? = some (.lst l)) (i0 : 0 ≤ i) (i1 : i < l.length) (hl : l.length ≤ 100000) (q : ∀ h1, Dk b (tl.set k (.lst (l.eraseIdx i.toNat))) h1 → Q (l[i.toNat]'(by omega)) h1) : We (paT (.loc (k + 2)) [.int i] h) Q X :=
  We.eq (pa_at (d.lsAt e) i0 i1 hl) (We.ok (q _ (d.put k _)))
/-- a def that was given the deck -/
theorem dk_wp {B : SM} {N : Nat} {xs : List T} {b b' : Int} {P : T → Prop} (hl : lows 0 xs = false) (ht : tlOk tl) (d : Dk b tl h) (w : Wp (B (startR N xs) h) (fun fr => ∃ x h1 ex, fr = .ret x h1 ∧ Dk b' (tl ++ ex) h1 ∧ low 0 x = true ∧ P x)) : ∃ h1 x, pur (reg (fnB N B)) xs h = .ok x h1 ∧ Dk b' tl h1 ∧ P x :=
  dk_run hl ht d w
theorem dk_fin {x : T} {ex : MH} {b' : Int} {P : T → Prop} (d : Dk b' (tl ++ ex) h) (l : low 0 x = true) (p : P x) : Wp (.ret x h) (fun fr => ∃ x h1 ex, fr = .ret x h1 ∧ Dk b' (tl ++ ex) h1 ∧ low 0 x = true ∧ P x) := ⟨x, h, ex, rfl, d, l, p⟩
end
section
variable {α β : Type} {r : Rho} {h h1 : MH} {enc : α → T} {f : β → T} {it : IM} {te : EM} {tt : TM} {vs : List Nat} {xs : List α} {tl : MH} {b : Int} {kk : List T → MH → Res T} {Q : T → MH → Prop} {X : Str → List (Str × T) → MH → Prop}
theorem lcS_all {xs' : List T} {k : Nat} {r0 : Rho} (R : α → β → Prop) (f : β → T) (c B : Int) (hc : 0 ≤ c) : ∀ (xs : List α) (b : Int) (h : MH), b + c * xs.length ≤ B → Dk b tl h → (∀ x ∈ xs, ∀ (b : Int) (h : MH), b + c ≤ B → Dk b tl h → We (te (r0.set k (some (enc x))) h) (fun v h1 => ∃ y, v = f y ∧ Dk (b + c) tl h1 ∧ R x y) NX) →
    ∃ (h' : MH) (ys : List β), lcS none xs' (gmN k) tYes te r0 (xs.map enc) h = .ok (ys.map f) h' ∧ Dk (b + c * xs.length) tl h' ∧ All2 R xs ys
  | [], b, h, hb, hd, he => ⟨h, [], rfl, hd.up (by simp), .nil⟩
  | x :: xs, b, h, hb, hd, he => by
    have hl : c * ((x :: xs).length : Nat) = c + c * xs.length := by
      rw [List.length_cons]
      push_cast
      rw [Int.mul_add, Int.mul_one, Int.add_comm]
    have h0 : 0 ≤ c * (xs.length : Int) := Int.mul_nonneg hc (by omega)
    have w := he x List.mem_cons_self b h (by omega) hd
    have : ∃ h1 y, te (r0.set k (some (enc x))) h = .ok (f y) h1 ∧ Dk (b + c) tl h1 ∧ R x y := by
      generalize te (r0.set k (some (enc x))) h = z at w
      cases z with
      | ok v h1 =>
        unfold We at w
        obtain ⟨y, rfl, d1, r1⟩ := w
        exact ⟨h1, y, rfl, d1, r1⟩
      | exc c fs h1 =>
        unfold We at w
        exact w.elim
      | bad =>
        unfold We at w
        exact w.elim
    obtain ⟨h1, y, e1, d1, q1⟩ := this
    obtain ⟨h2, ys, e2, d2, f2⟩ := lcS_all R f c B hc xs (b + c) h1 (by omega) d1 fun z hz => he z (List.mem_cons_of_mem _ hz)
    refine ⟨h2, y :: ys, ?_, d2.up (by omega), .cons q1 f2⟩
    rw [List.map_cons]
    unfold lcS
    rw [if_pos (chk_none h)]
    show (calm (te (r0.set k (some (enc x))) h)).bind _ = _
    rw [e1]
    show (lcS none xs' (gmN k) tYes te r0 (xs.map enc) h1).bind _ = _
    rw [e2]
    rfl
/-- a comprehension whose values draw -/
theorem We.lcD (k : Nat) (R : α → β → Prop) (f : β → T) (c B : Int) (hc : 0 ≤ c) (e : it r h = .ok (xs.map enc, none) h1) (d : Dk b tl h1) (hB : b + c * xs.length ≤ B)
    (he : ∀ x ∈ xs, ∀ (b : Int) (h : MH), b + c ≤ B → Dk b tl h → We (te ((wipeR r vs).set k (some (enc x))) h) (fun v h1 => ∃ y, v = f y ∧ Dk (b + c) tl h1 ∧ R x y) NX)
    (q : ∀ (ys : List β) h1, Dk (b + c * xs.length) tl h1 → All2 R xs ys → We (kk (ys.map f) h1) Q X) : We (lcM kk it (gmN k) tYes te vs r h) Q X := by
  obtain ⟨h2, ys, e1, d1, f1⟩ := lcS_all (xs' := xs.map enc) (r0 := wipeR r vs) R f c B hc xs b h1 hB d he
  refine We.eq (b := kk (ys.map f) h2) ?_ (q ys h2 d1 f1)
  rw [s_lcM, e, s_bindok]
  show (lcS none (xs.map enc) (gmN k) tYes te (wipeR r vs) (xs.map enc) h1).bind kk = _
  rw [e1]
  rfl
theorem fun_of {R : α → β → Prop} [DecidableEq α] : ∀ {xs : List α} {ys : List β}, All2 R xs ys → xs.Nodup → ∀ y0 : β, ∃ F : α → β, xs.map F = ys ∧ ∀ x ∈ xs, R x (F x)
  | [], [], _, _, y0 => ⟨fun _ => y0, rfl, fun _ z => absurd z List.not_mem_nil⟩
  | x :: xs, y :: ys, .cons h t, nd, y0 => by
    obtain ⟨n1, n2⟩ := List.nodup_cons.mp nd
    obtain ⟨F, e, q⟩ := fun_of t n2 y0
    refine ⟨fun z => if z = x then y else F z, ?_, fun z hz => ?_⟩
    · rw [List.map_cons, if_pos rfl, ← e]
      congr 1
      refine List.map_congr_left fun z hz => if_neg ?_
      rintro rfl
      exact n1 hz
    · rcases List.mem_cons.mp hz with rfl | hz2
      · simp only [if_true]
        exact h
      · have : z ≠ x := fun e => n1 (e ▸ hz2)
        simp only [this, if_false]
        exact q z hz2
/-- a comprehension whose test draws -/
theorem We.lcF (k : Nat) (c B : Int) (hc : 0 ≤ c) (hk : k < (wipeR r vs).length) (e : it r h = .ok (xs.map enc, none) h) (d : Dk b tl h) (hB : b + c * xs.length ≤ B)
    (he : ∀ x ∈ xs, ∀ (b : Int) (h : MH), b + c ≤ B → Dk b tl h → We (tt ((wipeR r vs).set k (some (enc x))) h) (fun _ h1 => Dk (b + c) tl h1) NX)
    (q : ∀ (ys : List α) h1, Dk (b + c * xs.length) tl h1 → ys.Sublist xs → We (kk (ys.map enc) h1) Q X) : We (lcM kk it (gmN k) tt (vr k) vs r h) Q X := by
  obtain ⟨h2, ys, e1, d1, l1⟩ := lc_drawF (xs' := xs.map enc) (k := k) (tt := tt) (r0 := wipeR r vs) (enc := enc) c B hc hk xs b h hB d (fun x hx b h hb d => by
    have := he x hx b h hb d
    generalize tt ((wipeR r vs).set k (some (enc x))) h = z at this
    cases z with
    | ok v h1 =>
      unfold We at this
      exact ⟨h1, v, rfl, this⟩
    | exc c fs h1 =>
      unfold We at this
      exact this.elim
    | bad =>
      unfold We at this
      exact this.elim)
  refine We.eq (b := kk (ys.map enc) h2) ?_ (q ys h2 d1 l1)
  rw [s_lcM, e, s_bindok]
  show (lcS none (xs.map enc) (gmN k) tt (vr k) (wipeR r vs) (xs.map enc) h).bind kk = _
  rw [e1]
  rfl
end
end K12
namespace K12
open PySem PySem.Spec L2 TW TX
section
variable {n : Nat} {h : MH} {loose lives left : List Int} {o : Int} {X Y Z x : T} {S : List De} {r : Rho} {te : EM}
/-! ### plain things -/
def pdB : Nat → T → Bool
  | _, .non => true
  | _, .int _ => true
  | _, .str _ => true
  | _, .bl _ => true
  | k + 1, .tup xs => xs.all (pdB k)
  | k + 1, .lst xs => xs.all (pdB k)
  | _, _ => false
theorem pd_low : ∀ (k : Nat) (x : T), pdB k x = true → low 0 x = true ∧ noC callK x = true := by
  have rows : ∀ (k : Nat) (xs : List T), (∀ x ∈ xs, low 0 x = true ∧ noC callK x = true) → lows 0 xs = true ∧ noCs callK xs = true := by
    intro k xs
    induction xs with
    | nil => exact fun _ => ⟨rfl, rfl⟩
    | cons x xs ih =>
      intro a
      obtain ⟨a1, a2⟩ := a x List.mem_cons_self
      obtain ⟨b1, b2⟩ := ih fun y hy => a y (List.mem_cons_of_mem _ hy)
      exact ⟨by simp only [lows, a1, b1, Bool.and_self], by simp only [noCs, a2, b2, Bool.and_self]⟩
  intro k
  induction k with
  | zero => intro x e; cases x <;> first | exact ⟨rfl, rfl⟩ | cases e
  | succ k ih =>
    intro x e
    cases x with
    | tup xs => exact rows k xs fun y hy => ih y (List.all_eq_true.mp e y hy)
    | lst xs => exact rows k xs fun y hy => ih y (List.all_eq_true.mp e y hy)
    | _ => first | exact ⟨rfl, rfl⟩ | cases e
theorem SDs.of {k : Nat} : ∀ {xs : List T}, (∀ x ∈ xs, SD k x x) → SDs k xs xs
  | [], _ => .nil
  | x :: xs, h => .cons (h x List.mem_cons_self) (SDs.of fun y hy => h y (List.mem_cons_of_mem _ hy))
theorem pd_sd : ∀ (k : Nat) (x : T), pdB k x = true → SD k x x := by
  intro k
  induction k with
  | zero => intro x e; cases x <;> first | exact SD.int | exact SD.str | exact SD.bl | exact SD.non | cases e
  | succ k ih =>
    intro x e
    cases x with
    | tup xs => exact SDs.tup (.of fun y hy => ih y (List.all_eq_true.mp e y hy))
    | lst xs => exact SDs.lst (.of fun y hy => ih y (List.all_eq_true.mp e y hy))
    | _ => first | exact SD.int | exact SD.str | exact SD.bl | exact SD.non | cases e
theorem pd_pT {k : Nat} (p : Int × Int) : pdB (k + 2) (pT p) = true := rfl
theorem pd_map {α : Type} {k : Nat} {f : α → T} {l : List α} (e : ∀ a ∈ l, pdB k (f a) = true) : (l.map f).all (pdB k) = true := List.all_eq_true.mpr fun x hx => by
  obtain ⟨a, ha, rfl⟩ := List.mem_map.mp hx
  exact e a ha
theorem pd_de {k : Nat} (d : De) : pdB (k + 2) (deT d) = true := by cases d <;> rfl
theorem endX_sd (hX : IsD X left) : SD deep (endX lives X left S) (datT (dRun lives left S)) := (endX_is hX).sd 12
def zer (n : Nat) : List Int := List.replicate n 0
theorem datA_zer : ∀ (n : Nat) (i : Int), datA i (zer n) = []
  | 0, _ => rfl
  | n + 1, i => by
    show (if (0 : Int) < 0 then _ else datA (i + 1) (zer n)) = []
    rw [if_neg (by omega), datA_zer n]
theorem zer_len : (zer n).length = n := List.length_replicate
theorem zer_kt : IsD (.ktup []) (zer n) := isD0 (datA_zer n 0)
theorem zer_fit (t : Tr n lives loose) : Fit lives (zer n) := fun k => by
  have a : (zer n).getD k 0 = 0 := by
    unfold zer
    rw [List.getD_eq_getElem?_getD, List.getElem?_replicate]
    split <;> rfl
  rw [a]
  by_cases q : k < lives.length
  · rw [List.getD_eq_getElem?_getD, List.getElem?_eq_getElem q]
    have := t.pos _ (List.getElem_mem q)
    show (0 : Int) ≤ lives[k]
    omega
  · rw [List.getD_eq_getElem?_getD, List.getElem?_eq_none (by omega)]
    exact Int.le_refl 0

/-! ### the dict that the law's search leaves -/
theorem nk_ps : ∀ ps : List (Int × Int), nksOf (ps.map pT) = some (ps.map kP)
  | [] => rfl
  | p :: ps => by
    have e : nkOf (pT p) = some (kP p) := rfl
    rw [List.map_cons, nksOf, e, nk_ps ps]
    rfl
theorem dep_ps : ∀ ps : List (Int × Int), NestedKey.depthAll (ps.map kP) ≤ 1
  | [] => Nat.zero_le _
  | p :: ps => by
    have := dep_ps ps
    show max 1 _ ≤ 1
    omega
theorem nk_dat (l : List Int) : nkT (datT l) = some (kN l) := by
  have e : nkOf (.tup ((datA 0 l).map pT)) = some (kN l) := by
    show (nksOf ((datA 0 l).map pT)).map NestedKey.tup = _
    rw [nk_ps]
    rfl
  have d : (kN l).depth ≤ 8 := by
    have := dep_ps (datA 0 l)
    show NestedKey.depthAll _ + 1 ≤ 8
    omega
  show (match nkOf (.tup ((datA 0 l).map pT)) with
    | some k => if k.depth ≤ 8 then some k else none
    | none => none) = _
  rw [e]
  exact if_pos d
theorem key_ps : ∀ ps : List (Int × Int), keyTs (ps.map kP) = ps.map pT
  | [] => rfl
  | p :: ps => by
    rw [List.map_cons, keyTs, key_ps ps]
    rfl
theorem key_dat (l : List Int) : keyT (kN l) = datT l := by
  show T.tup (keyTs _) = _
  rw [key_ps]
  rfl
abbrev entB (D : Dt) : List (NestedKey × T) := D.map fun p => (kN p.1, strT p.2)
theorem dn_B (D : Dt) : dnOf h (dnB D) = some (entB D) := by
  show some ((D.map fun p => kN p.1).zip (D.map fun p => strT p.2)) = _
  rw [List.zip_map']
theorem len_B (D : Dt) : lenNF lenF [dnB D] h = .ok (.int D.length) h := by
  show (match dnOf h (dnB D) with
    | some kvs => Res.ok (T.int kvs.length) h
    | none => lenF [dnB D] h) = _
  rw [dn_B]
  show Res.ok (T.int ((entB D).length : Nat)) h = _
  rw [List.length_map]
theorem lk_map (k : NestedKey) : ∀ D : Dt, lkN k (entB D) = (lkN k (D.map fun q => (kN q.1, q.2))).map strT
  | [] => rfl
  | p :: D => by
    have ih := lk_map k D
    show lkN k ((kN p.1, strT p.2) :: entB D) = (lkN k ((kN p.1, p.2) :: D.map fun q => (kN q.1, q.2))).map strT
    unfold lkN
    by_cases e : kN p.1 = k
    · rw [if_pos e, if_pos e]
      rfl
    · rw [if_neg e, if_neg e]
      exact ih
theorem ix_B {D : Dt} {l : List Int} {s : List De} (e : lkN (kN l) (D.map fun q => (kN q.1, q.2)) = some s) : ixNF (dnB D) (datT l) h = .ok (strT s) h := by
  show (match dnOf h (dnB D), nkT (datT l) with
    | some kvs, some k => (match lkN k kvs with
      | some z => Res.ok z h
      | none => .bad)
    | _, _ => .bad) = _
  rw [dn_B, nk_dat]
  show (match lkN (kN l) (entB D) with
      | some z => Res.ok z h
      | none => .bad) = _
  rw [lk_map, e]
  rfl
/-- data of dated sets -/
def pdD (p : Int × Int) : PyData := .tuple [.int p.1, .int p.2]
theorem toD_ps (k : Nat) : ∀ ps : List (Int × Int), mapO (toD h (k + 1)) (ps.map pT) = some (ps.map pdD)
  | [] => rfl
  | p :: ps => by
    have e : toD h (k + 1) (pT p) = some (pdD p) := by cases k <;> rfl
    rw [List.map_cons, mapO, e]
    dsimp only
    rw [toD_ps k ps]
    rfl
theorem toD_dat (l : List Int) : toD h deep (datT l) = some (.tuple ((datA 0 l).map pdD)) := by
  show (mapO (toD h 13) ((datA 0 l).map pT)).map PyData.tuple = _
  rw [toD_ps 12]
  rfl
theorem alike_ps : ∀ ps qs : List (Int × Int), PySem.W.alikeAll (ps.map pdD) (qs.map pdD) = true
  | [], _ => by cases ‹List (Int × Int)› <;> rfl
  | p :: ps, [] => rfl
  | p :: ps, q :: qs => by
    have ih := alike_ps ps qs
    have e : PySem.W.alike (pdD p) (pdD q) = true := rfl
    simp only [List.map_cons, PySem.W.alikeAll, e, ih, Bool.and_self]
theorem sort_B (D : Dt) (hl : D.length ≤ 1000) : ∃ L : List (List Int), L.Perm (D.map (·.1)) ∧ ∀ h, sortNF lstK [dnB D] h = .ok (.lst (L.map datT)) h := by
  have keys : ((entB D).map (·.1)).map keyT = (D.map (·.1)).map datT := by
    rw [List.map_map, List.map_map, List.map_map]
    exact List.map_congr_left fun p _ => key_dat p.1
  have dd : ∀ (h : MH) (l : List Int), datD h (datT l) = .tuple ((datA 0 l).map pdD) := fun h l => by
    unfold datD
    rw [toD_dat]
    rfl
  refine ⟨(D.map (·.1)).mergeSort fun a b => !PySem.W.dataLt (.tuple ((datA 0 b).map pdD)) (.tuple ((datA 0 a).map pdD)), List.mergeSort_perm _ _, fun h => ?_⟩
  show (match dnOf h (dnB D) with
    | some kvs => if (((kvs.map fun q : NestedKey × T => q.1).map keyT).all (fun x => (toD h deep x).isSome) && srtB (((kvs.map fun q : NestedKey × T => q.1).map keyT).map (datD h))) = true then lstK (((kvs.map fun q : NestedKey × T => q.1).map keyT).mergeSort (PySem.W.dataLe false (datD h))) h else .bad
    | none => sortDF lstK [dnB D] h) = _
  rw [dn_B]
  dsimp only
  rw [keys, if_pos]
  · have m := List.map_mergeSort (r := fun a b => !PySem.W.dataLt (.tuple ((datA 0 b).map pdD)) (.tuple ((datA 0 a).map pdD))) (s := PySem.W.dataLe false (datD h)) (f := datT) (l := D.map (·.1)) fun a _ b _ => by
      rw [PySem.W.dataLe_eq]
      show _ = !PySem.W.dataLt (datD h (datT b)) (datD h (datT a))
      rw [dd, dd]
    rw [← m]
    exact w_lstK (by
      rw [List.length_map, List.length_mergeSort, List.length_map]
      exact Nat.le_trans hl (by decide))
  · rw [Bool.and_eq_true]
    refine ⟨List.all_eq_true.mpr fun x hx => ?_, ?_⟩
    · obtain ⟨l, _, rfl⟩ := List.mem_map.mp hx
      rw [toD_dat]
      rfl
    · unfold srtB
      rw [Bool.and_eq_true, Bool.or_eq_true]
      refine ⟨List.all_eq_true.mpr fun d hd => List.all_eq_true.mpr fun e he => ?_, .inl (List.all_eq_true.mpr fun d hd => ?_)⟩
      · obtain ⟨x, hx, rfl⟩ := List.mem_map.mp hd
        obtain ⟨y, hy, rfl⟩ := List.mem_map.mp he
        obtain ⟨a, _, rfl⟩ := List.mem_map.mp hx
        obtain ⟨b, _, rfl⟩ := List.mem_map.mp hy
        rw [dd, dd]
        exact alike_ps _ _
      · obtain ⟨x, hx, rfl⟩ := List.mem_map.mp hd
        obtain ⟨a, _, rfl⟩ := List.mem_map.mp hx
        rw [dd]
end
end K12
namespace K12
open PySem PySem.Spec L2 TW TX
local macro_rules | `(tactic| simpa! [$ls,*]) => `(tactic| ((with_reducible apply TW.We.eq); · ((try simp only [TW.bind_assoc', TW.q_emMeth, TW.q_pSo', TW.q_pSoK, TW.q_emTix, TW.q_isKt, TW.q_emKt, TW.q_emOp, TW.q_emCh, TW.q_em1, TW.q_emCall, TW.q_an, TW.q_ac, TW.q_cst, TW.q_vr0, TW.q_vrS, TW.q_emT, TW.q_emL, TW.q_tmOf, TW.q_isBl, TW.q_tAn, TW.q_tOrr, TW.q_tNo, TW.q_tYes, TW.q_eAn, TW.q_eOr, TW.q_eNo, TW.q_eIf, TW.q_itE, TW.q_itOf_lst, TW.q_itOf_tup, TW.q_itOf_klst, TW.q_bindok, TW.q_onH, TW.q_lt, TW.q_le, TW.q_gt, TW.q_ge, TW.q_ng, TW.q_sub, TW.q_ad_int, TW.q_in_tp, TW.q_in_ls, TW.q_in_tts, TW.q_in_lts, TW.q_eq_int, TW.q_ne_int, TW.q_eq_tp, TW.q_ne_tp, TW.q_eq_tts, TW.q_ne_tts, TW.q_eq_lts, TW.q_ne_lts, TW.q_eq_ls0, TW.q_ne_ls0, TW.q_eq_lts0, TW.q_ne_lts0, TW.q_eq_tp0, TW.q_ne_tp0, TW.q_eq_tts0, TW.q_ne_tts0, TW.q_ne_bl, TW.q_eq_bl, TW.q_lst0, TW.q_tup0, TW.q_lst1, TW.q_lst2, TW.q_lst3, TW.q_tup1, TW.q_tup2, TW.q_tup3, TW.q_tup4, TW.q_tupF_lst, TW.q_ix0, TW.q_ix1, TW.q_ix2, TW.q_jx0, TW.q_jx1, TW.q_jx2, TW.q_tupF_ls, TW.q_tupF_lts, TW.q_itOf_ls, TW.q_itOf_tp, TW.q_itOf_lts, TW.q_itOf_tts, TW.q_itOf_lls, TW.q_emCallK, TW.q_isbl, TW.q_isnon, TW.q_emSl, TW.q_pNo, TW.q_emBm, TW.q_len_tp, TW.q_len_ls, TW.q_len_lst, TW.q_len_tup, TW.q_emL2, TW.q_ls0, TW.q_ls1, TW.q_ls2, TW.q_ls3, TW.q_ls4, TW.q_pF_loc0, TW.q__loc0, TW.q_istup, TW.q_dnV, TW.q_arg0, TW.q_arg1, TW.q_arg2, TW.q_arg3, TW.q_arg4, TW.q_arg5, TW.q_arg6, TW.q_wipe0, TW.q_wipe1, TW.q_wipe2, TW.q_wipe3, TW.q_int, TW.q_tupF_tup, TW.q_tupF_tp, TW.q_istupp, TW.q_istts, TW.q_isint, TW.q_bindexc, TW.q_lst4, TW.q_lst5, TW.q_tup5, TW.q_lst6, TW.q_tup6, TW.q_lst7, TW.q_tup7, TW.q_lst8, TW.q_tup8, TW.q_lst9, TW.q_tup9, TW.q_lst10, TW.q_tup10, TW.q_lst11, TW.q_tup11, TW.q_lst12, TW.q_tup12, TW.q_lst13, TW.q_lst14, TW.q_lst15, TW.q_lst16, TW.q_lst17, TW.q_lst18, TW.q_lst19, TW.q_lst20, TW.q_lst21, TW.q_lst22, TW.q_lst23, TW.q_lst24, if_true, if_false, ite_true, ite_false, reduceIte, Bool.not_true, Bool.not_false, Bool.true_and, Bool.and_true, Bool.false_and, Bool.and_false, Bool.true_or, Bool.or_true, Bool.false_or, Bool.or_false, decide_true, decide_false, Bool.false_eq_true, Bool.true_eq_false, Bool.not_not, List.length_cons, List.length_nil, Nat.zero_add, Nat.reduceAdd, and_self, true_and, and_true, List.set_cons_zero, List.set_cons_succ, List.map_cons, List.map_nil, List.nil_append, List.cons_append, TW.setS, $ls,*]); exact rfl)))
local macro_rules | `(tactic| simp_all! [$ls,*]) => `(tactic| ((try simp only [TW.bind_assoc', TW.q_emMeth, TW.q_pSo', TW.q_pSoK, TW.q_emTix, TW.q_isKt, TW.q_emKt, TW.q_emOp, TW.q_emCh, TW.q_em1, TW.q_emCall, TW.q_an, TW.q_ac, TW.q_cst, TW.q_vr0, TW.q_vrS, TW.q_emT, TW.q_emL, TW.q_tmOf, TW.q_isBl, TW.q_tAn, TW.q_tOrr, TW.q_tNo, TW.q_tYes, TW.q_eAn, TW.q_eOr, TW.q_eNo, TW.q_eIf, TW.q_itE, TW.q_itOf_lst, TW.q_itOf_tup, TW.q_itOf_klst, TW.q_bindok, TW.q_onH, TW.q_lt, TW.q_le, TW.q_gt, TW.q_ge, TW.q_ng, TW.q_sub, TW.q_ad_int, TW.q_in_tp, TW.q_in_ls, TW.q_in_tts, TW.q_in_lts, TW.q_eq_int, TW.q_ne_int, TW.q_eq_tp, TW.q_ne_tp, TW.q_eq_tts, TW.q_ne_tts, TW.q_eq_lts, TW.q_ne_lts, TW.q_eq_ls0, TW.q_ne_ls0, TW.q_eq_lts0, TW.q_ne_lts0, TW.q_eq_tp0, TW.q_ne_tp0, TW.q_eq_tts0, TW.q_ne_tts0, TW.q_ne_bl, TW.q_eq_bl, TW.q_lst0, TW.q_tup0, TW.q_lst1, TW.q_lst2, TW.q_lst3, TW.q_tup1, TW.q_tup2, TW.q_tup3, TW.q_tup4, TW.q_tupF_lst, TW.q_ix0, TW.q_ix1, TW.q_ix2, TW.q_jx0, TW.q_jx1, TW.q_jx2, TW.q_tupF_ls, TW.q_tupF_lts, TW.q_itOf_ls, TW.q_itOf_tp, TW.q_itOf_lts, TW.q_itOf_tts, TW.q_itOf_lls, TW.q_emCallK, TW.q_isbl, TW.q_isnon, TW.q_emSl, TW.q_pNo, TW.q_emBm, TW.q_len_tp, TW.q_len_ls, TW.q_len_lst, TW.q_len_tup, TW.q_emL2, TW.q_ls0, TW.q_ls1, TW.q_ls2, TW.q_ls3, TW.q_ls4, TW.q_pF_loc0, TW.q__loc0, TW.q_istup, TW.q_dnV, TW.q_arg0, TW.q_arg1, TW.q_arg2, TW.q_arg3, TW.q_arg4, TW.q_arg5, TW.q_arg6, TW.q_wipe0, TW.q_wipe1, TW.q_wipe2, TW.q_wipe3, TW.q_int, TW.q_tupF_tup, TW.q_tupF_tp, TW.q_istupp, TW.q_istts, TW.q_isint, TW.q_bindexc, TW.q_lst4, TW.q_lst5, TW.q_tup5, TW.q_lst6, TW.q_tup6, TW.q_lst7, TW.q_tup7, TW.q_lst8, TW.q_tup8, TW.q_lst9, TW.q_tup9, TW.q_lst10, TW.q_tup10, TW.q_lst11, TW.q_tup11, TW.q_lst12, TW.q_tup12, TW.q_lst13, TW.q_lst14, TW.q_lst15, TW.q_lst16, TW.q_lst17, TW.q_lst18, TW.q_lst19, TW.q_lst20, TW.q_lst21, TW.q_lst22, TW.q_lst23, TW.q_lst24, if_true, if_false, ite_true, ite_false, reduceIte, Bool.not_true, Bool.not_false, Bool.true_and, Bool.and_true, Bool.false_and, Bool.and_false, Bool.true_or, Bool.or_true, Bool.false_or, Bool.or_false, decide_true, decide_false, Bool.false_eq_true, Bool.true_eq_false, Bool.not_not, List.length_cons, List.length_nil, Nat.zero_add, Nat.reduceAdd, and_self, true_and, and_true, List.set_cons_zero, List.set_cons_succ, List.map_cons, List.map_nil, List.nil_append, List.cons_append, TW.setS, $ls,*]) <;> (try exact rfl)))
local macro_rules | `(tactic| simp! [$ls,*]) => `(tactic| repeat (first
  | (with_reducible first | refine TW.Wp.sq ?_ | refine TW.Wp.set_ ?_ | refine TW.Wp.drop_ ?_ | refine TW.Wp.ret_ ?_ | refine TW.Wp.ite_ ?_ | refine TW.Wp.asg_ ?_ | refine TW.Wp.par2_ ?_ | refine TW.Wp.par3_ ?_ | refine TW.Wp.raise0_ ?_ | refine TW.Wp.raise1_ ?_ | refine TW.Wp.raise2_ ?_ | refine TW.Wp.raise_ ?_ | refine TW.Wp.sub_ ?_ | refine TW.Wp.nx_ ?_ | refine TW.Wp.retN_ ?_ | refine TW.Wp.ct_ ?_ | refine TW.Wp.bk_ ?_ | refine TW.Sq.ret ?_ | refine TW.Sq.ex ?_ | refine TW.Sq.ct ?_ | refine TW.Sq.bk ?_ | (apply TW.Sq.nx; · (((try simp only [TW.setS, TW.startR, List.map_cons, List.map_nil, List.length_cons, List.length_nil, List.replicate, List.cons_append, List.nil_append, Nat.reduceSub, Nat.reduceAdd, Nat.zero_add, List.set_cons_zero, List.set_cons_succ, List.set_nil, List.replicate_succ, List.replicate_zero]); exact rfl))))
  | (with_reducible first | refine TW.We.ok ?_ | refine TW.We.bnd ?_ | refine TW.We.exc ?_)
  | ((with_reducible apply TW.We.eq); · (simp only [TW.bind_assoc', TW.q_emMeth, TW.q_pSo', TW.q_pSoK, TW.q_emTix, TW.q_isKt, TW.q_emKt, TW.q_emOp, TW.q_emCh, TW.q_em1, TW.q_emCall, TW.q_an, TW.q_ac, TW.q_cst, TW.q_vr0, TW.q_vrS, TW.q_emT, TW.q_emL, TW.q_tmOf, TW.q_isBl, TW.q_tAn, TW.q_tOrr, TW.q_tNo, TW.q_tYes, TW.q_eAn, TW.q_eOr, TW.q_eNo, TW.q_eIf, TW.q_itE, TW.q_itOf_lst, TW.q_itOf_tup, TW.q_itOf_klst, TW.q_bindok, TW.q_onH, TW.q_lt, TW.q_le, TW.q_gt, TW.q_ge, TW.q_ng, TW.q_sub, TW.q_ad_int, TW.q_in_tp, TW.q_in_ls, TW.q_in_tts, TW.q_in_lts, TW.q_eq_int, TW.q_ne_int, TW.q_eq_tp, TW.q_ne_tp, TW.q_eq_tts, TW.q_ne_tts, TW.q_eq_lts, TW.q_ne_lts, TW.q_eq_ls0, TW.q_ne_ls0, TW.q_eq_lts0, TW.q_ne_lts0, TW.q_eq_tp0, TW.q_ne_tp0, TW.q_eq_tts0, TW.q_ne_tts0, TW.q_ne_bl, TW.q_eq_bl, TW.q_lst0, TW.q_tup0, TW.q_lst1, TW.q_lst2, TW.q_lst3, TW.q_tup1, TW.q_tup2, TW.q_tup3, TW.q_tup4, TW.q_tupF_lst, TW.q_ix0, TW.q_ix1, TW.q_ix2, TW.q_jx0, TW.q_jx1, TW.q_jx2, TW.q_tupF_ls, TW.q_tupF_lts, TW.q_itOf_ls, TW.q_itOf_tp, TW.q_itOf_lts, TW.q_itOf_tts, TW.q_itOf_lls, TW.q_emCallK, TW.q_isbl, TW.q_isnon, TW.q_emSl, TW.q_pNo, TW.q_emBm, TW.q_len_tp, TW.q_len_ls, TW.q_len_lst, TW.q_len_tup, TW.q_emL2, TW.q_ls0, TW.q_ls1, TW.q_ls2, TW.q_ls3, TW.q_ls4, TW.q_pF_loc0, TW.q__loc0, TW.q_istup, TW.q_dnV, TW.q_arg0, TW.q_arg1, TW.q_arg2, TW.q_arg3, TW.q_arg4, TW.q_arg5, TW.q_arg6, TW.q_wipe0, TW.q_wipe1, TW.q_wipe2, TW.q_wipe3, TW.q_int, TW.q_tupF_tup, TW.q_tupF_tp, TW.q_istupp, TW.q_istts, TW.q_isint, TW.q_bindexc, TW.q_lst4, TW.q_lst5, TW.q_tup5, TW.q_lst6, TW.q_tup6, TW.q_lst7, TW.q_tup7, TW.q_lst8, TW.q_tup8, TW.q_lst9, TW.q_tup9, TW.q_lst10, TW.q_tup10, TW.q_lst11, TW.q_tup11, TW.q_lst12, TW.q_tup12, TW.q_lst13, TW.q_lst14, TW.q_lst15, TW.q_lst16, TW.q_lst17, TW.q_lst18, TW.q_lst19, TW.q_lst20, TW.q_lst21, TW.q_lst22, TW.q_lst23, TW.q_lst24, if_true, if_false, ite_true, ite_false, reduceIte, Bool.not_true, Bool.not_false, Bool.true_and, Bool.and_true, Bool.false_and, Bool.and_false, Bool.true_or, Bool.or_true, Bool.false_or, Bool.or_false, decide_true, decide_false, Bool.false_eq_true, Bool.true_eq_false, Bool.not_not, List.length_cons, List.length_nil, Nat.zero_add, Nat.reduceAdd, and_self, true_and, and_true, List.set_cons_zero, List.set_cons_succ, List.map_cons, List.map_nil, List.nil_append, List.cons_append, TW.setS, $ls,*]; exact rfl))
  | (with_reducible refine ⟨fun _ => ?_, fun z => Bool.noConfusion z⟩)
  | (with_reducible refine ⟨fun z => Bool.noConfusion z, fun _ => ?_⟩)
  | (with_reducible exact TW.Wp.done)
  | (with_reducible exact TW.Wp.doneX)
  | (with_reducible exact TW.Wp.doneN)
  | (with_reducible exact ⟨rfl, rfl⟩)
  | (with_reducible refine ⟨_, rfl, ?_⟩)
  | (with_reducible refine ⟨rfl, ?_⟩)
  | ((with_reducible apply TW.gm_ex); · exact rfl)
  | (with_reducible refine ⟨_, _, rfl, ?_⟩)))
local macro_rules | `(tactic| dsimp! [$ls,*]) => `(tactic| repeat (first
  | (with_reducible first | refine TW.Wp.sq ?_ | refine TW.Wp.set_ ?_ | refine TW.Wp.drop_ ?_ | refine TW.Wp.ret_ ?_ | refine TW.Wp.ite_ ?_ | refine TW.Wp.asg_ ?_ | refine TW.Wp.par2_ ?_ | refine TW.Wp.par3_ ?_ | refine TW.Wp.raise0_ ?_ | refine TW.Wp.raise1_ ?_ | refine TW.Wp.raise2_ ?_ | refine TW.Wp.raise_ ?_ | refine TW.Wp.sub_ ?_ | refine TW.Wp.nx_ ?_ | refine TW.Wp.retN_ ?_ | refine TW.Wp.ct_ ?_ | refine TW.Wp.bk_ ?_ | refine TW.Sq.ret ?_ | refine TW.Sq.ex ?_ | refine TW.Sq.ct ?_ | refine TW.Sq.bk ?_ | (apply TW.Sq.nx; · (((try simp only [TW.setS, TW.startR, List.map_cons, List.map_nil, List.length_cons, List.length_nil, List.replicate, List.cons_append, List.nil_append, Nat.reduceSub, Nat.reduceAdd, Nat.zero_add, List.set_cons_zero, List.set_cons_succ, List.set_nil, List.replicate_succ, List.replicate_zero]); exact rfl))))
  | (with_reducible refine TW.We.ok ?_)
  | ((with_reducible apply TW.We.full); · (simp only [TW.bind_assoc', TW.q_emMeth, TW.q_pSo', TW.q_pSoK, TW.q_emTix, TW.q_isKt, TW.q_emKt, TW.q_emOp, TW.q_emCh, TW.q_em1, TW.q_emCall, TW.q_an, TW.q_ac, TW.q_cst, TW.q_vr0, TW.q_vrS, TW.q_emT, TW.q_emL, TW.q_tmOf, TW.q_isBl, TW.q_tAn, TW.q_tOrr, TW.q_tNo, TW.q_tYes, TW.q_eAn, TW.q_eOr, TW.q_eNo, TW.q_eIf, TW.q_itE, TW.q_itOf_lst, TW.q_itOf_tup, TW.q_itOf_klst, TW.q_bindok, TW.q_onH, TW.q_lt, TW.q_le, TW.q_gt, TW.q_ge, TW.q_ng, TW.q_sub, TW.q_ad_int, TW.q_in_tp, TW.q_in_ls, TW.q_in_tts, TW.q_in_lts, TW.q_eq_int, TW.q_ne_int, TW.q_eq_tp, TW.q_ne_tp, TW.q_eq_tts, TW.q_ne_tts, TW.q_eq_lts, TW.q_ne_lts, TW.q_eq_ls0, TW.q_ne_ls0, TW.q_eq_lts0, TW.q_ne_lts0, TW.q_eq_tp0, TW.q_ne_tp0, TW.q_eq_tts0, TW.q_ne_tts0, TW.q_ne_bl, TW.q_eq_bl, TW.q_lst0, TW.q_tup0, TW.q_lst1, TW.q_lst2, TW.q_lst3, TW.q_tup1, TW.q_tup2, TW.q_tup3, TW.q_tup4, TW.q_tupF_lst, TW.q_ix0, TW.q_ix1, TW.q_ix2, TW.q_jx0, TW.q_jx1, TW.q_jx2, TW.q_tupF_ls, TW.q_tupF_lts, TW.q_itOf_ls, TW.q_itOf_tp, TW.q_itOf_lts, TW.q_itOf_tts, TW.q_itOf_lls, TW.q_emCallK, TW.q_isbl, TW.q_isnon, TW.q_emSl, TW.q_pNo, TW.q_emBm, TW.q_len_tp, TW.q_len_ls, TW.q_len_lst, TW.q_len_tup, TW.q_emL2, TW.q_ls0, TW.q_ls1, TW.q_ls2, TW.q_ls3, TW.q_ls4, TW.q_pF_loc0, TW.q__loc0, TW.q_istup, TW.q_dnV, TW.q_arg0, TW.q_arg1, TW.q_arg2, TW.q_arg3, TW.q_arg4, TW.q_arg5, TW.q_arg6, TW.q_wipe0, TW.q_wipe1, TW.q_wipe2, TW.q_wipe3, TW.q_int, TW.q_tupF_tup, TW.q_tupF_tp, TW.q_istupp, TW.q_istts, TW.q_isint, TW.q_bindexc, TW.q_lst4, TW.q_lst5, TW.q_tup5, TW.q_lst6, TW.q_tup6, TW.q_lst7, TW.q_tup7, TW.q_lst8, TW.q_tup8, TW.q_lst9, TW.q_tup9, TW.q_lst10, TW.q_tup10, TW.q_lst11, TW.q_tup11, TW.q_lst12, TW.q_tup12, TW.q_lst13, TW.q_lst14, TW.q_lst15, TW.q_lst16, TW.q_lst17, TW.q_lst18, TW.q_lst19, TW.q_lst20, TW.q_lst21, TW.q_lst22, TW.q_lst23, TW.q_lst24, if_true, if_false, ite_true, ite_false, reduceIte, Bool.not_true, Bool.not_false, Bool.true_and, Bool.and_true, Bool.false_and, Bool.and_false, Bool.true_or, Bool.or_true, Bool.false_or, Bool.or_false, decide_true, decide_false, Bool.false_eq_true, Bool.true_eq_false, Bool.not_not, List.length_cons, List.length_nil, Nat.zero_add, Nat.reduceAdd, and_self, true_and, and_true, List.set_cons_zero, List.set_cons_succ, List.map_cons, List.map_nil, List.nil_append, List.cons_append, TW.setS, $ls,*]; with_reducible exact rfl))
  | (with_reducible refine ⟨fun _ => ?_, fun z => Bool.noConfusion z⟩)
  | (with_reducible refine ⟨fun z => Bool.noConfusion z, fun _ => ?_⟩)
  | (with_reducible exact TW.Wp.done)
  | (with_reducible exact TW.Wp.doneX)
  | (with_reducible exact TW.Wp.doneN)
  | (with_reducible exact ⟨rfl, rfl⟩)
  | (with_reducible refine ⟨_, rfl, ?_⟩)
  | (with_reducible refine ⟨rfl, ?_⟩)
  | ((with_reducible apply TW.gm_ex); · exact rfl)
  | (with_reducible refine ⟨_, _, rfl, ?_⟩)))
section
variable {n : Nat} {h : MH} {loose lives left : List Int} {o : Int} {X Y Z x : T} {S : List De} {r : Rho} {te : EM}
/-! ### what is no dated set -/
theorem x_datedI (a b : Int) : m_is_dated_of [trT lives loose, .tup [.int a, .int b]] h = .ok (.bl false) h := by
  refine pur_wp (by simp only [lows, low, low_tr, Bool.and_self]) rfl ?_
  have i1 : ∀ h, isiTF [.tup [.int a, .int b], .ty "tuple"] h = .ok (.bl true) h := fun h => isi_t (x := .tup [.int a, .int b]) rfl
  have i2 : ∀ (c : Int) h, isiTF [.int c, .ty "tuple"] h = .ok (.bl false) h := fun c h => isi_t (x := .int c) rfl
  unfold b_is_dated_of B_is_dated_of
  refine Wp.start (by (((try simp only [TW.setS, TW.startR, List.map_cons, List.map_nil, List.length_cons, List.length_nil, List.replicate, List.cons_append, List.nil_append, Nat.reduceSub, Nat.reduceAdd, Nat.zero_add, List.set_cons_zero, List.set_cons_succ, List.set_nil, List.replicate_succ, List.replicate_zero]); exact rfl))) ?_
  simp! [i1]
  refine Wp.forF_ (α := Int) (β := Unit) (enc := T.int) (xs := [a, b]) [2, 4, 5] (fun _ => some ()) (fun _ => .bl false) rfl (fun c _ y => ?_) (fun z => nomatch z) fun _ _ => ?_
  · unfold L_is_dated_of_1
    refine Wp.frame (by (((try simp only [TW.setS, TW.startR, List.map_cons, List.map_nil, List.length_cons, List.length_nil, List.replicate, List.cons_append, List.nil_append, Nat.reduceSub, Nat.reduceAdd, Nat.zero_add, List.set_cons_zero, List.set_cons_succ, List.set_nil, List.replicate_succ, List.replicate_zero]); exact rfl))) ?_
    simp! [i2]
    exact Wp.fin (.inr ⟨(), rfl, rfl⟩)
  · simp! []
structure OddD (lives loose : List Int) (X : T) : Prop where
  pd : pdB 13 X = true
  no : ∀ h, m_is_dated_of [trT lives loose, X] h = .ok (.bl false) h
theorem OddD.nt (z : NT X) (p : pdB 13 X = true) : OddD lives loose X := ⟨p, fun _ => x_datedN z⟩
theorem OddD.ps (t : Tr n lives loose) (ps : List (Int × Int)) (e : datB n lives (-1) ps = false) : OddD lives loose (.tup (ps.map pT)) := ⟨pd_map fun p _ => pd_pT p, fun h => by
  rw [x_dated t.len (X := .tup (ps.map pT)) (low_pT ps) rfl (isi_t (x := .tup (ps.map pT)) rfl), e]⟩
def oddL (n : Nat) (lives : List Int) : List T := [.tup [pT (0, lives.getD 0 0 + 1)], .tup [pT (n, 1)], .non, .int 7, .tup [.tup [.int 0, .bl true]], .lst [], .tup [pT (0, 0)], .tup [.int 0, .int 1], .tup [pT (0, 1), pT (0, 1)], .str ("()" : Str)]
theorem odd_all (t : Tr n lives loose) : ∀ x ∈ oddL n lives, OddD lives loose x := by
  intro x hx
  simp only [oddL, List.mem_cons, List.not_mem_nil, or_false] at hx
  rcases hx with rfl | rfl | rfl | rfl | rfl | rfl | rfl | rfl | rfl | rfl
  · refine .ps t [(0, lives.getD 0 0 + 1)] ?_
    simp only [datB, Bool.and_true, decide_eq_false_iff_not]
    rintro ⟨_, _, z⟩
    have z : lives.getD 0 0 + 1 ≤ lives.getD 0 0 := z
    omega
  · refine .ps t [((n : Int), 1)] ?_
    simp only [datB, Bool.and_true, decide_eq_false_iff_not]
    rintro ⟨⟨_, z⟩, _⟩
    have z : (n : Int) < n := z
    omega
  · exact .nt ⟨rfl, _, rfl, by decide⟩ rfl
  · exact .nt ⟨rfl, _, rfl, by decide⟩ rfl
  · exact ⟨rfl, fun _ => x_datedB⟩
  · exact .nt ⟨rfl, _, rfl, by decide⟩ rfl
  · refine .ps t [(0, 0)] ?_
    simp only [datB, Bool.and_true, decide_eq_false_iff_not]
    rintro ⟨_, z, _⟩
    have z : (1 : Int) ≤ 0 := z
    omega
  · exact ⟨rfl, fun _ => x_datedI 0 1⟩
  · refine .ps t [(0, 1), (0, 1)] ?_
    have : ¬ (((0 : Int) < 0 ∧ (0 : Int) < n) ∧ (1 : Int) ≤ 1 ∧ (1 : Int) ≤ lives.getD (0 : Int).toNat 0) := by omega
    simp only [datB, decide_eq_false this, Bool.false_and, Bool.and_false]
  · exact .nt ⟨rfl, _, rfl, by decide⟩ rfl
theorem x_brX (z : OddD lives loose X) : m_bringing [trT lives loose, X] h = .exc "BadDated" [(("thing" : Str), X)] h := by
  have l := (pd_low 13 X z.pd).1
  refine pur_wpX (by simp only [lows, low_tr, l, Bool.and_self]) (by simp only [List.map, lows, l, Bool.and_self]) ?_
  unfold b_bringing B_bringing
  refine Wp.start (by (((try simp only [TW.setS, TW.startR, List.map_cons, List.map_nil, List.length_cons, List.length_nil, List.replicate, List.cons_append, List.nil_append, Nat.reduceSub, Nat.reduceAdd, Nat.zero_add, List.set_cons_zero, List.set_cons_succ, List.set_nil, List.replicate_succ, List.replicate_zero]); exact rfl))) ?_
  simp! [z.no]
theorem told_D (hz : noC callK Z = true) (e : te (lowR r) [] = .exc "BadDated" [(("thing" : Str), Z)] []) : emTold 3 tb__law_told te r h = .ok (.lst [Z]) h :=
  told_exc e (by decide) (by simp only [List.map, noCs, hz, Bool.and_self]) (fun A hA => by
    show B__law_told A [some (.cls callK), none, none] [] = _
    unfold B__law_told
    rw [s_sSeq, show sSet 1 (cst .non) [some (.cls callK), none, none] [] = .nx [some (.cls callK), some .non, none] [] from rfl]
    simp only []
    rw [s_sSeq]
    unfold sTry L__law_told_1
    rw [s_sDrop, hA]
    rfl) (by simp only [noC, noCs, hz, Bool.and_self])
/-! ### the greatest wait -/
theorem gtI_in : ∀ (l : List Int) (a : Int), gtI a l ∈ a :: l
  | [], a => List.mem_cons_self
  | b :: l, a => by
    have := gtI_in l (if a < b then b else a)
    show gtI (if a < b then b else a) l ∈ _
    rcases List.mem_cons.mp this with e | e
    · rw [e]
      split
      · exact List.mem_cons_of_mem _ List.mem_cons_self
      · exact List.mem_cons_self
    · exact List.mem_cons_of_mem _ (List.mem_cons_of_mem _ e)
theorem gtI_ub : ∀ (l : List Int) (a b : Int), b ∈ a :: l → b ≤ gtI a l
  | l, a, b, hb => by
    rcases List.mem_cons.mp hb with rfl | hb
    · exact gtI_le l b
    · induction l generalizing a with
      | nil => exact nomatch hb
      | cons c l ih =>
        show b ≤ gtI (if a < c then c else a) l
        rcases List.mem_cons.mp hb with rfl | hb
        · refine Int.le_trans ?_ (gtI_le l _)
          split <;> omega
        · exact ih _ (by exact List.mem_cons_of_mem _ hb) hb
theorem gtI_last (ws : List Int) (a : Int) (rest : List Int) (e : ws ++ [0] = a :: rest) : gtI a rest = gtI 0 ws := by
  have m : ∀ y, y ∈ a :: rest ↔ y ∈ 0 :: ws := fun y => by
    rw [← e, List.mem_append, List.mem_singleton, List.mem_cons]
    exact ⟨fun z => z.symm, fun z => z.symm⟩
  have h1 := gtI_ub ws 0 _ ((m _).mp (gtI_in rest a))
  have h2 := gtI_ub rest a _ ((m _).mpr (gtI_in ws 0))
  omega
theorem w_mxL (A : List (Int × Int)) : maxF [.lst ((A.map (fun p : Int × Int => p.1) ++ [0]).map T.int)] h = .ok (.int (mxA A)) h := by
  have e := ints_in (A.map (fun p : Int × Int => p.1) ++ [0])
  show (match mapO inOf ((A.map (fun p : Int × Int => p.1) ++ [0]).map T.int) with
      | some (n :: ns) => Res.ok (T.int (gtI n ns)) h
      | _ => .bad) = _
  rw [e]
  obtain ⟨a, rest, q⟩ : ∃ a rest, A.map (fun p : Int × Int => p.1) ++ [0] = a :: rest := by
    cases A with
    | nil => exact ⟨0, [], rfl⟩
    | cons p A => exact ⟨p.1, A.map (fun p : Int × Int => p.1) ++ [0], rfl⟩
  rw [q]
  show Res.ok (T.int (gtI a rest)) h = _
  rw [gtI_last _ a rest q]
  rfl
end
end K12
namespace K12
open PySem PySem.Spec L2 TW TX
theorem af_1 : ([1, 2].all fun n => (livs n).all fun lives => (sets n).all fun loose => isOk (mAF [tp lives, tp loose] []) (dnB (bfs n lives loose))) = true := by decide +kernel
theorem af_3 : ((livs 3).all fun lives => (sets 3).all fun loose => isOk (mAF [tp lives, tp loose] []) (dnB (bfs 3 lives loose))) = true := by decide +kernel
theorem x_af {n : Nat} {lives loose : List Int} {h : MH} (hn : n ∈ [1, 2, 3]) (hl : lives ∈ livs n) (ho : loose ∈ sets n) : m__law_all_first [tp lives, tp loose] h = .ok (dnB (bfs n lives loose)) h := by
  rw [mAF_eq]
  refine pur_is ?_ (by simp only [lows, low_tp, Bool.and_self])
  simp only [List.mem_cons, List.not_mem_nil, or_false] at hn
  rcases hn with rfl | rfl | rfl
  · exact List.all_eq_true.mp (List.all_eq_true.mp (List.all_eq_true.mp af_1 1 (by decide)) _ hl) _ ho
  · exact List.all_eq_true.mp (List.all_eq_true.mp (List.all_eq_true.mp af_1 2 (by decide)) _ hl) _ ho
  · exact List.all_eq_true.mp (List.all_eq_true.mp af_3 _ hl) _ ho
end K12
namespace K12
open PySem PySem.Spec L2 TW TX
local macro_rules | `(tactic| simpa! [$ls,*]) => `(tactic| ((with_reducible apply TW.We.eq); · ((try simp only [TW.bind_assoc', TW.q_emMeth, TW.q_pSo', TW.q_pSoK, TW.q_emTix, TW.q_isKt, TW.q_emKt, TW.q_emOp, TW.q_emCh, TW.q_em1, TW.q_emCall, TW.q_an, TW.q_ac, TW.q_cst, TW.q_vr0, TW.q_vrS, TW.q_emT, TW.q_emL, TW.q_tmOf, TW.q_isBl, TW.q_tAn, TW.q_tOrr, TW.q_tNo, TW.q_tYes, TW.q_eAn, TW.q_eOr, TW.q_eNo, TW.q_eIf, TW.q_itE, TW.q_itOf_lst, TW.q_itOf_tup, TW.q_itOf_klst, TW.q_bindok, TW.q_onH, TW.q_lt, TW.q_le, TW.q_gt, TW.q_ge, TW.q_ng, TW.q_sub, TW.q_ad_int, TW.q_in_tp, TW.q_in_ls, TW.q_in_tts, TW.q_in_lts, TW.q_eq_int, TW.q_ne_int, TW.q_eq_tp, TW.q_ne_tp, TW.q_eq_tts, TW.q_ne_tts, TW.q_eq_lts, TW.q_ne_lts, TW.q_eq_ls0, TW.q_ne_ls0, TW.q_eq_lts0, TW.q_ne_lts0, TW.q_eq_tp0, TW.q_ne_tp0, TW.q_eq_tts0, TW.q_ne_tts0, TW.q_ne_bl, TW.q_eq_bl, TW.q_lst0, TW.q_tup0, TW.q_lst1, TW.q_lst2, TW.q_lst3, TW.q_tup1, TW.q_tup2, TW.q_tup3, TW.q_tup4, TW.q_tupF_lst, TW.q_ix0, TW.q_ix1, TW.q_ix2, TW.q_jx0, TW.q_jx1, TW.q_jx2, TW.q_tupF_ls, TW.q_tupF_lts, TW.q_itOf_ls, TW.q_itOf_tp, TW.q_itOf_lts, TW.q_itOf_tts, TW.q_itOf_lls, TW.q_emCallK, TW.q_isbl, TW.q_isnon, TW.q_emSl, TW.q_pNo, TW.q_emBm, TW.q_len_tp, TW.q_len_ls, TW.q_len_lst, TW.q_len_tup, TW.q_emL2, TW.q_ls0, TW.q_ls1, TW.q_ls2, TW.q_ls3, TW.q_ls4, TW.q_pF_loc0, TW.q__loc0, TW.q_istup, TW.q_dnV, TW.q_arg0, TW.q_arg1, TW.q_arg2, TW.q_arg3, TW.q_arg4, TW.q_arg5, TW.q_arg6, TW.q_wipe0, TW.q_wipe1, TW.q_wipe2, TW.q_wipe3, TW.q_int, TW.q_tupF_tup, TW.q_tupF_tp, TW.q_istupp, TW.q_istts, TW.q_isint, TW.q_bindexc, TW.q_lst4, TW.q_lst5, TW.q_tup5, TW.q_lst6, TW.q_tup6, TW.q_lst7, TW.q_tup7, TW.q_lst8, TW.q_tup8, TW.q_lst9, TW.q_tup9, TW.q_lst10, TW.q_tup10, TW.q_lst11, TW.q_tup11, TW.q_lst12, TW.q_tup12, TW.q_lst13, TW.q_lst14, TW.q_lst15, TW.q_lst16, TW.q_lst17, TW.q_lst18, TW.q_lst19, TW.q_lst20, TW.q_lst21, TW.q_lst22, TW.q_lst23, TW.q_lst24, if_true, if_false, ite_true, ite_false, reduceIte, Bool.not_true, Bool.not_false, Bool.true_and, Bool.and_true, Bool.false_and, Bool.and_false, Bool.true_or, Bool.or_true, Bool.false_or, Bool.or_false, decide_true, decide_false, Bool.false_eq_true, Bool.true_eq_false, Bool.not_not, List.length_cons, List.length_nil, Nat.zero_add, Nat.reduceAdd, and_self, true_and, and_true, List.set_cons_zero, List.set_cons_succ, List.map_cons, List.map_nil, List.nil_append, List.cons_append, TW.setS, $ls,*]); exact rfl)))
local macro_rules | `(tactic| simp_all! [$ls,*]) => `(tactic| ((try simp only [TW.bind_assoc', TW.q_emMeth, TW.q_pSo', TW.q_pSoK, TW.q_emTix, TW.q_isKt, TW.q_emKt, TW.q_emOp, TW.q_emCh, TW.q_em1, TW.q_emCall, TW.q_an, TW.q_ac, TW.q_cst, TW.q_vr0, TW.q_vrS, TW.q_emT, TW.q_emL, TW.q_tmOf, TW.q_isBl, TW.q_tAn, TW.q_tOrr, TW.q_tNo, TW.q_tYes, TW.q_eAn, TW.q_eOr, TW.q_eNo, TW.q_eIf, TW.q_itE, TW.q_itOf_lst, TW.q_itOf_tup, TW.q_itOf_klst, TW.q_bindok, TW.q_onH, TW.q_lt, TW.q_le, TW.q_gt, TW.q_ge, TW.q_ng, TW.q_sub, TW.q_ad_int, TW.q_in_tp, TW.q_in_ls, TW.q_in_tts, TW.q_in_lts, TW.q_eq_int, TW.q_ne_int, TW.q_eq_tp, TW.q_ne_tp, TW.q_eq_tts, TW.q_ne_tts, TW.q_eq_lts, TW.q_ne_lts, TW.q_eq_ls0, TW.q_ne_ls0, TW.q_eq_lts0, TW.q_ne_lts0, TW.q_eq_tp0, TW.q_ne_tp0, TW.q_eq_tts0, TW.q_ne_tts0, TW.q_ne_bl, TW.q_eq_bl, TW.q_lst0, TW.q_tup0, TW.q_lst1, TW.q_lst2, TW.q_lst3, TW.q_tup1, TW.q_tup2, TW.q_tup3, TW.q_tup4, TW.q_tupF_lst, TW.q_ix0, TW.q_ix1, TW.q_ix2, TW.q_jx0, TW.q_jx1, TW.q_jx2, TW.q_tupF_ls, TW.q_tupF_lts, TW.q_itOf_ls, TW.q_itOf_tp, TW.q_itOf_lts, TW.q_itOf_tts, TW.q_itOf_lls, TW.q_emCallK, TW.q_isbl, TW.q_isnon, TW.q_emSl, TW.q_pNo, TW.q_emBm, TW.q_len_tp, TW.q_len_ls, TW.q_len_lst, TW.q_len_tup, TW.q_emL2, TW.q_ls0, TW.q_ls1, TW.q_ls2, TW.q_ls3, TW.q_ls4, TW.q_pF_loc0, TW.q__loc0, TW.q_istup, TW.q_dnV, TW.q_arg0, TW.q_arg1, TW.q_arg2, TW.q_arg3, TW.q_arg4, TW.q_arg5, TW.q_arg6, TW.q_wipe0, TW.q_wipe1, TW.q_wipe2, TW.q_wipe3, TW.q_int, TW.q_tupF_tup, TW.q_tupF_tp, TW.q_istupp, TW.q_istts, TW.q_isint, TW.q_bindexc, TW.q_lst4, TW.q_lst5, TW.q_tup5, TW.q_lst6, TW.q_tup6, TW.q_lst7, TW.q_tup7, TW.q_lst8, TW.q_tup8, TW.q_lst9, TW.q_tup9, TW.q_lst10, TW.q_tup10, TW.q_lst11, TW.q_tup11, TW.q_lst12, TW.q_tup12, TW.q_lst13, TW.q_lst14, TW.q_lst15, TW.q_lst16, TW.q_lst17, TW.q_lst18, TW.q_lst19, TW.q_lst20, TW.q_lst21, TW.q_lst22, TW.q_lst23, TW.q_lst24, if_true, if_false, ite_true, ite_false, reduceIte, Bool.not_true, Bool.not_false, Bool.true_and, Bool.and_true, Bool.false_and, Bool.and_false, Bool.true_or, Bool.or_true, Bool.false_or, Bool.or_false, decide_true, decide_false, Bool.false_eq_true, Bool.true_eq_false, Bool.not_not, List.length_cons, List.length_nil, Nat.zero_add, Nat.reduceAdd, and_self, true_and, and_true, List.set_cons_zero, List.set_cons_succ, List.map_cons, List.map_nil, List.nil_append, List.cons_append, TW.setS, $ls,*]) <;> (try exact rfl)))
local macro_rules | `(tactic| simp! [$ls,*]) => `(tactic| repeat (first
  | (with_reducible first | refine TW.Wp.sq ?_ | refine TW.Wp.set_ ?_ | refine TW.Wp.drop_ ?_ | refine TW.Wp.ret_ ?_ | refine TW.Wp.ite_ ?_ | refine TW.Wp.asg_ ?_ | refine TW.Wp.par2_ ?_ | refine TW.Wp.par3_ ?_ | refine TW.Wp.raise0_ ?_ | refine TW.Wp.raise1_ ?_ | refine TW.Wp.raise2_ ?_ | refine TW.Wp.raise_ ?_ | refine TW.Wp.sub_ ?_ | refine TW.Wp.nx_ ?_ | refine TW.Wp.retN_ ?_ | refine TW.Wp.ct_ ?_ | refine TW.Wp.bk_ ?_ | refine TW.Sq.ret ?_ | refine TW.Sq.ex ?_ | refine TW.Sq.ct ?_ | refine TW.Sq.bk ?_ | (apply TW.Sq.nx; · (((try simp only [TW.setS, TW.startR, List.map_cons, List.map_nil, List.length_cons, List.length_nil, List.replicate, List.cons_append, List.nil_append, Nat.reduceSub, Nat.reduceAdd, Nat.zero_add, List.set_cons_zero, List.set_cons_succ, List.set_nil, List.replicate_succ, List.replicate_zero]); exact rfl))))
  | (with_reducible first | refine TW.We.ok ?_ | refine TW.We.bnd ?_ | refine TW.We.exc ?_)
  | ((with_reducible apply TW.We.eq); · (simp only [TW.bind_assoc', TW.q_emMeth, TW.q_pSo', TW.q_pSoK, TW.q_emTix, TW.q_isKt, TW.q_emKt, TW.q_emOp, TW.q_emCh, TW.q_em1, TW.q_emCall, TW.q_an, TW.q_ac, TW.q_cst, TW.q_vr0, TW.q_vrS, TW.q_emT, TW.q_emL, TW.q_tmOf, TW.q_isBl, TW.q_tAn, TW.q_tOrr, TW.q_tNo, TW.q_tYes, TW.q_eAn, TW.q_eOr, TW.q_eNo, TW.q_eIf, TW.q_itE, TW.q_itOf_lst, TW.q_itOf_tup, TW.q_itOf_klst, TW.q_bindok, TW.q_onH, TW.q_lt, TW.q_le, TW.q_gt, TW.q_ge, TW.q_ng, TW.q_sub, TW.q_ad_int, TW.q_in_tp, TW.q_in_ls, TW.q_in_tts, TW.q_in_lts, TW.q_eq_int, TW.q_ne_int, TW.q_eq_tp, TW.q_ne_tp, TW.q_eq_tts, TW.q_ne_tts, TW.q_eq_lts, TW.q_ne_lts, TW.q_eq_ls0, TW.q_ne_ls0, TW.q_eq_lts0, TW.q_ne_lts0, TW.q_eq_tp0, TW.q_ne_tp0, TW.q_eq_tts0, TW.q_ne_tts0, TW.q_ne_bl, TW.q_eq_bl, TW.q_lst0, TW.q_tup0, TW.q_lst1, TW.q_lst2, TW.q_lst3, TW.q_tup1, TW.q_tup2, TW.q_tup3, TW.q_tup4, TW.q_tupF_lst, TW.q_ix0, TW.q_ix1, TW.q_ix2, TW.q_jx0, TW.q_jx1, TW.q_jx2, TW.q_tupF_ls, TW.q_tupF_lts, TW.q_itOf_ls, TW.q_itOf_tp, TW.q_itOf_lts, TW.q_itOf_tts, TW.q_itOf_lls, TW.q_emCallK, TW.q_isbl, TW.q_isnon, TW.q_emSl, TW.q_pNo, TW.q_emBm, TW.q_len_tp, TW.q_len_ls, TW.q_len_lst, TW.q_len_tup, TW.q_emL2, TW.q_ls0, TW.q_ls1, TW.q_ls2, TW.q_ls3, TW.q_ls4, TW.q_pF_loc0, TW.q__loc0, TW.q_istup, TW.q_dnV, TW.q_arg0, TW.q_arg1, TW.q_arg2, TW.q_arg3, TW.q_arg4, TW.q_arg5, TW.q_arg6, TW.q_wipe0, TW.q_wipe1, TW.q_wipe2, TW.q_wipe3, TW.q_int, TW.q_tupF_tup, TW.q_tupF_tp, TW.q_istupp, TW.q_istts, TW.q_isint, TW.q_bindexc, TW.q_lst4, TW.q_lst5, TW.q_tup5, TW.q_lst6, TW.q_tup6, TW.q_lst7, TW.q_tup7, TW.q_lst8, TW.q_tup8, TW.q_lst9, TW.q_tup9, TW.q_lst10, TW.q_tup10, TW.q_lst11, TW.q_tup11, TW.q_lst12, TW.q_tup12, TW.q_lst13, TW.q_lst14, TW.q_lst15, TW.q_lst16, TW.q_lst17, TW.q_lst18, TW.q_lst19, TW.q_lst20, TW.q_lst21, TW.q_lst22, TW.q_lst23, TW.q_lst24, if_true, if_false, ite_true, ite_false, reduceIte, Bool.not_true, Bool.not_false, Bool.true_and, Bool.and_true, Bool.false_and, Bool.and_false, Bool.true_or, Bool.or_true, Bool.false_or, Bool.or_false, decide_true, decide_false, Bool.false_eq_true, Bool.true_eq_false, Bool.not_not, List.length_cons, List.length_nil, Nat.zero_add, Nat.reduceAdd, and_self, true_and, and_true, List.set_cons_zero, List.set_cons_succ, List.map_cons, List.map_nil, List.nil_append, List.cons_append, TW.setS, $ls,*]; exact rfl))
  | (with_reducible refine ⟨fun _ => ?_, fun z => Bool.noConfusion z⟩)
  | (with_reducible refine ⟨fun z => Bool.noConfusion z, fun _ => ?_⟩)
  | (with_reducible exact TW.Wp.done)
  | (with_reducible exact TW.Wp.doneX)
  | (with_reducible exact TW.Wp.doneN)
  | (with_reducible exact ⟨rfl, rfl⟩)
  | (with_reducible refine ⟨_, rfl, ?_⟩)
  | (with_reducible refine ⟨rfl, ?_⟩)
  | ((with_reducible apply TW.gm_ex); · exact rfl)
  | (with_reducible refine ⟨_, _, rfl, ?_⟩)))
local macro_rules | `(tactic| dsimp! [$ls,*]) => `(tactic| repeat (first
  | (with_reducible first | refine TW.Wp.sq ?_ | refine TW.Wp.set_ ?_ | refine TW.Wp.drop_ ?_ | refine TW.Wp.ret_ ?_ | refine TW.Wp.ite_ ?_ | refine TW.Wp.asg_ ?_ | refine TW.Wp.par2_ ?_ | refine TW.Wp.par3_ ?_ | refine TW.Wp.raise0_ ?_ | refine TW.Wp.raise1_ ?_ | refine TW.Wp.raise2_ ?_ | refine TW.Wp.raise_ ?_ | refine TW.Wp.sub_ ?_ | refine TW.Wp.nx_ ?_ | refine TW.Wp.retN_ ?_ | refine TW.Wp.ct_ ?_ | refine TW.Wp.bk_ ?_ | refine TW.Sq.ret ?_ | refine TW.Sq.ex ?_ | refine TW.Sq.ct ?_ | refine TW.Sq.bk ?_ | (apply TW.Sq.nx; · (((try simp only [TW.setS, TW.startR, List.map_cons, List.map_nil, List.length_cons, List.length_nil, List.replicate, List.cons_append, List.nil_append, Nat.reduceSub, Nat.reduceAdd, Nat.zero_add, List.set_cons_zero, List.set_cons_succ, List.set_nil, List.replicate_succ, List.replicate_zero]); exact rfl))))
  | (with_reducible refine TW.We.ok ?_)
  | ((with_reducible apply TW.We.full); · (simp only [TW.bind_assoc', TW.q_emMeth, TW.q_pSo', TW.q_pSoK, TW.q_emTix, TW.q_isKt, TW.q_emKt, TW.q_emOp, TW.q_emCh, TW.q_em1, TW.q_emCall, TW.q_an, TW.q_ac, TW.q_cst, TW.q_vr0, TW.q_vrS, TW.q_emT, TW.q_emL, TW.q_tmOf, TW.q_isBl, TW.q_tAn, TW.q_tOrr, TW.q_tNo, TW.q_tYes, TW.q_eAn, TW.q_eOr, TW.q_eNo, TW.q_eIf, TW.q_itE, TW.q_itOf_lst, TW.q_itOf_tup, TW.q_itOf_klst, TW.q_bindok, TW.q_onH, TW.q_lt, TW.q_le, TW.q_gt, TW.q_ge, TW.q_ng, TW.q_sub, TW.q_ad_int, TW.q_in_tp, TW.q_in_ls, TW.q_in_tts, TW.q_in_lts, TW.q_eq_int, TW.q_ne_int, TW.q_eq_tp, TW.q_ne_tp, TW.q_eq_tts, TW.q_ne_tts, TW.q_eq_lts, TW.q_ne_lts, TW.q_eq_ls0, TW.q_ne_ls0, TW.q_eq_lts0, TW.q_ne_lts0, TW.q_eq_tp0, TW.q_ne_tp0, TW.q_eq_tts0, TW.q_ne_tts0, TW.q_ne_bl, TW.q_eq_bl, TW.q_lst0, TW.q_tup0, TW.q_lst1, TW.q_lst2, TW.q_lst3, TW.q_tup1, TW.q_tup2, TW.q_tup3, TW.q_tup4, TW.q_tupF_lst, TW.q_ix0, TW.q_ix1, TW.q_ix2, TW.q_jx0, TW.q_jx1, TW.q_jx2, TW.q_tupF_ls, TW.q_tupF_lts, TW.q_itOf_ls, TW.q_itOf_tp, TW.q_itOf_lts, TW.q_itOf_tts, TW.q_itOf_lls, TW.q_emCallK, TW.q_isbl, TW.q_isnon, TW.q_emSl, TW.q_pNo, TW.q_emBm, TW.q_len_tp, TW.q_len_ls, TW.q_len_lst, TW.q_len_tup, TW.q_emL2, TW.q_ls0, TW.q_ls1, TW.q_ls2, TW.q_ls3, TW.q_ls4, TW.q_pF_loc0, TW.q__loc0, TW.q_istup, TW.q_dnV, TW.q_arg0, TW.q_arg1, TW.q_arg2, TW.q_arg3, TW.q_arg4, TW.q_arg5, TW.q_arg6, TW.q_wipe0, TW.q_wipe1, TW.q_wipe2, TW.q_wipe3, TW.q_int, TW.q_tupF_tup, TW.q_tupF_tp, TW.q_istupp, TW.q_istts, TW.q_isint, TW.q_bindexc, TW.q_lst4, TW.q_lst5, TW.q_tup5, TW.q_lst6, TW.q_tup6, TW.q_lst7, TW.q_tup7, TW.q_lst8, TW.q_tup8, TW.q_lst9, TW.q_tup9, TW.q_lst10, TW.q_tup10, TW.q_lst11, TW.q_tup11, TW.q_lst12, TW.q_tup12, TW.q_lst13, TW.q_lst14, TW.q_lst15, TW.q_lst16, TW.q_lst17, TW.q_lst18, TW.q_lst19, TW.q_lst20, TW.q_lst21, TW.q_lst22, TW.q_lst23, TW.q_lst24, if_true, if_false, ite_true, ite_false, reduceIte, Bool.not_true, Bool.not_false, Bool.true_and, Bool.and_true, Bool.false_and, Bool.and_false, Bool.true_or, Bool.or_true, Bool.false_or, Bool.or_false, decide_true, decide_false, Bool.false_eq_true, Bool.true_eq_false, Bool.not_not, List.length_cons, List.length_nil, Nat.zero_add, Nat.reduceAdd, and_self, true_and, and_true, List.set_cons_zero, List.set_cons_succ, List.map_cons, List.map_nil, List.nil_append, List.cons_append, TW.setS, $ls,*]; with_reducible exact rfl))
  | (with_reducible refine ⟨fun _ => ?_, fun z => Bool.noConfusion z⟩)
  | (with_reducible refine ⟨fun z => Bool.noConfusion z, fun _ => ?_⟩)
  | (with_reducible exact TW.Wp.done)
  | (with_reducible exact TW.Wp.doneX)
  | (with_reducible exact TW.Wp.doneN)
  | (with_reducible exact ⟨rfl, rfl⟩)
  | (with_reducible refine ⟨_, rfl, ?_⟩)
  | (with_reducible refine ⟨rfl, ?_⟩)
  | ((with_reducible apply TW.gm_ex); · exact rfl)
  | (with_reducible refine ⟨_, _, rfl, ?_⟩)))
section
variable {n : Nat} {h : MH} {loose lives left : List Int} {o : Int} {X Y Z x : T} {S : List De} {r : Rho} {te : EM}
theorem itn (hn : n ∈ [1, 2, 3]) (v2 : vr 2 r h = .ok (.int (n : Nat)) h) : itR1 (ac (vr 2) an) r h = .ok ((rng n).map .int, none) h := by
  simp only [List.mem_cons, List.not_mem_nil, or_false] at hn
  unfold itR1 ac
  rw [v2]
  rcases hn with rfl | rfl | rfl <;> rfl
theorem livs_tr (hn : n ∈ [1, 2, 3]) (hl : lives ∈ livs n) (ho : loose ∈ sets n) : Tr n lives loose := by
  have f : ([1, 2, 3].all fun n => (livs n).all fun l => decide (l.length = n) && l.all fun x => decide (1 ≤ x) && decide (x ≤ 3)) = true := by decide +kernel
  have q := List.all_eq_true.mp (List.all_eq_true.mp f n hn) lives hl
  rw [Bool.and_eq_true, decide_eq_true_eq, List.all_eq_true] at q
  refine ⟨?_, q.1, fun x hx => ?_, fun x hx => ?_, ho⟩
  · simp only [List.mem_cons, List.not_mem_nil, or_false] at hn
    rcases hn with rfl | rfl | rfl <;> decide
  · have := q.2 x hx
    rw [Bool.and_eq_true, decide_eq_true_eq] at this
    exact this.1
  · have := q.2 x hx
    rw [Bool.and_eq_true, decide_eq_true_eq, decide_eq_true_eq] at this
    exact this.2
theorem livs_of {ys : List Int} (hn : n ∈ [1, 2, 3]) (a : All2 (fun (_ y : Int) => (n < 3 → y = 1 ∨ y = 2 ∨ y = 3) ∧ (¬ n < 3 → y = 1 ∨ y = 2)) (rng n) ys) : ys ∈ livs n := by
  simp only [List.mem_cons, List.not_mem_nil, or_false] at hn
  rcases hn with rfl | rfl | rfl
  · cases a with
    | cons h1 t =>
      cases t
      rcases h1.1 (by omega) with rfl | rfl | rfl <;> decide
  · cases a with
    | cons h1 t =>
      cases t with
      | cons h2 t =>
        cases t
        rcases h1.1 (by omega) with rfl | rfl | rfl <;> rcases h2.1 (by omega) with rfl | rfl | rfl <;> decide
  · cases a with
    | cons h1 t =>
      cases t with
      | cons h2 t =>
        cases t with
        | cons h3 t =>
          cases t
          rcases h1.2 (by omega) with rfl | rfl <;> rcases h2.2 (by omega) with rfl | rfl <;> rcases h3.2 (by omega) with rfl | rfl <;> decide
theorem many_app (pre : List Int) (x : Int) : many (pre ++ [x]) = many pre * (x + 1) := by
  unfold many
  rw [List.foldl_append]
  rfl
theorem livs_many (hn : n ∈ [1, 2, 3]) (hl : lives ∈ livs n) : many lives ≤ 64 := by
  have f : ([1, 2, 3].all fun n => (livs n).all fun l => decide (many l ≤ 64)) = true := by decide +kernel
  exact of_decide_eq_true (List.all_eq_true.mp (List.all_eq_true.mp f n hn) lives hl)
/-- what an entry of the search keeps -/
structure Ent (n : Nat) (lives loose : List Int) (D : Dt) (l : List Int) (s : List De) : Prop where
  len : l.length = n
  ok : Ok n loose s
  br : brO lives l = s
  run : dRun lives (zer n) s = l
  low : ∀ k : Nat, 0 ≤ l.getD k 0
  fit : Fit lives l
  lk : lkN (kN l) (D.map fun q => (kN q.1, q.2)) = some s
  sz : (s.length : Int) = (datA 0 l).length + mxA (brA lives l)
theorem k02 {F : FM} (v10 : ∀ h, vr 10 r h = .ok X h) (v9 : ∀ h, vr 9 r h = .ok Y h) : emCallK 0 2 o_bringing_0_trade_dated (arg 2 F) an (ac (vr 10) (ac (vr 9) an)) r h = F [X, Y] h := by
  unfold emCallK
  rw [s_an, s_bindok, s_ac, v10, s_bindok, s_ac, v9, s_bindok, s_an, s_bindok, s_bindok, s_bindok]
  rfl
theorem law_true : LawT m_law 63 := law_of (B := b_law) rfl fun ns hl => by
  obtain ⟨h0, e0, d0⟩ := deck_ok ns hl
  unfold b_law B_law
  refine Wp.start (by (((try simp only [TW.setS, TW.startR, List.map_cons, List.map_nil, List.length_cons, List.length_nil, List.replicate, List.cons_append, List.nil_append, Nat.reduceSub, Nat.reduceAdd, Nat.zero_add, List.set_cons_zero, List.set_cons_succ, List.set_nil, List.replicate_succ, List.replicate_zero]); exact rfl))) ?_
  simp! [e0]
  refine We.draw dr_ok (by omega) (by omega) (by omega) tl_nil d0 fun v h1 v0 v1 d1 => ?_
  obtain ⟨n, ev, hn⟩ : ∃ n : Nat, 1 + v = (n : Nat) ∧ n ∈ [1, 2, 3] := by
    refine ⟨(1 + v).toNat, by omega, ?_⟩
    simp only [List.mem_cons, List.not_mem_nil, or_false]
    omega
  have n3 : n ≤ 3 := by
    simp only [List.mem_cons, List.not_mem_nil, or_false] at hn
    omega
  have hn4 : n ∈ ns4 := by
    simp only [List.mem_cons, List.not_mem_nil, or_false] at hn
    rcases hn with rfl | rfl | rfl <;> decide
  have rl : (rng n).length = n := rng_len n
  refine We.at (x := .int (n : Nat)) (by rw [w_ad_int, ev]) ?_
  simp! []
  refine We.lcD 14 (enc := T.int) (xs := rng n) (fun (_ y : Int) => (n < 3 → y = 1 ∨ y = 2 ∨ y = 3) ∧ (¬ n < 3 → y = 1 ∨ y = 2)) T.int 1 900 (by omega) (itn hn rfl) d1 (by omega) (fun x hx b3 h3 hb3 d3 => ?_) fun lives h3 d3 al => ?_
  · by_cases q : (n : Int) < 3
    · simp! [q]
      refine We.draw dr_ok (by omega) (by omega) (by omega) tl_nil d3 fun v h1 v0 v1 d1 => ?_
      obtain rfl | rfl | rfl | rfl : v = 0 ∨ v = 1 ∨ v = 2 ∨ v = 3 := by omega
      · refine We.at (x := .int 1) rfl ⟨1, rfl, d1, fun _ => .inl rfl, fun _ => .inl rfl⟩
      · refine We.at (x := .int 2) rfl ⟨2, rfl, d1, fun _ => .inr (.inl rfl), fun _ => .inr rfl⟩
      · refine We.at (x := .int 2) rfl ⟨2, rfl, d1, fun _ => .inr (.inl rfl), fun _ => .inr rfl⟩
      · refine We.at (x := .int 3) rfl ⟨3, rfl, d1, fun _ => .inr (.inr rfl), fun z => absurd (show n < 3 by omega) z⟩
    · simp! [q]
      refine We.draw dr_ok (by omega) (by omega) (by omega) tl_nil d3 fun v h1 v0 v1 d1 => ?_
      simp! []
      exact ⟨d1, fun z => absurd (show (n : Int) < 3 by omega) q, fun _ => by omega⟩
  have hlv := livs_of hn al
  have ll : lives.length = n := (All2.len al).symm.trans rl
  refine We.lstK (by rw [List.length_map]; omega) ?_
  simp! []
  refine We.lcF 14 (enc := T.int) (xs := rng n) 1 900 (by omega) (by simp [wipeR]) (itn hn rfl) d3 (by omega) (fun x hx b3 h4 hb3 d4 => ?_) fun loose h4 d4 sb => ?_
  · simp! []
    refine We.draw dr_ok (by omega) (by omega) (by omega) tl_nil d4 fun v h1 v0 v1 d1 => ?_
    simp! []
    exact d1
  have hlo := sub_sets hn4 sb
  have lo5 := sb.length_le
  have t := livs_tr hn hlv hlo
  refine We.lstK (by rw [List.length_map]; omega) ?_
  simp! []
  refine We.at (x_mk hn4 ll (fun x hx => ⟨t.pos x hx, by have := t.top x hx; omega⟩) hlo d4 d4 rfl) ?_
  simp! [show ∀ h, m__law_all_first [.tup (lives.map T.int), .tup (loose.map T.int)] h = .ok (dnB (bfs n lives loose)) h from fun h => x_af hn hlv hlo]
  have good : goodB n lives loose = true := List.all_eq_true.mp (List.all_eq_true.mp (List.all_eq_true.mp all_good n hn) lives hlv) loose hlo
  unfold goodB at good
  rw [Bool.and_eq_true, decide_eq_true_eq, List.all_eq_true] at good
  obtain ⟨gl, gp⟩ := good
  generalize hD : bfs n lives loose = D at gl gp ⊢
  have g64 := livs_many hn hlv
  refine Wp.forI (enc := T.int) (xs := lives) [5, 6] (fun pre y h => y 5 = some (.int (many pre)) ∧ h = h4) (fun a r => r.set 6 (some (.int a))) rfl (fun _ _ => rfl) ⟨rfl, rfl⟩ ?_ ?_
  · rintro pre x post y h5 ex ⟨ey, rfl⟩
    have xm : x ∈ lives := by rw [ex]; simp
    have x1 := t.pos x xm
    have x3 := t.top x xm
    unfold L_law_1
    refine Wp.frame (r1 := [some (.klst (ns.map .int)), some (.loc 1), some (.int n), some (.tup (lives.map .int)), some (.tup (loose.map .int)), some (.int (many pre)), some (.int x), none, none, none, some (trT lives loose), some (dnB D), none, none, none, none]) (by simp only [setS, List.set_cons_succ, List.set_cons_zero, ey]) ?_
    have mu : ∀ h, mulT (.int (many pre)) (.int (x + 1)) h = .ok (.int (many pre * (x + 1))) h := fun h => w_mul (.inr ⟨by omega, by omega⟩)
    simp! [mu]
    refine Wp.fin (.inl ⟨fun i => if i = 5 then some (.int (many pre * (x + 1))) else some (.int x), h5, ?_, by rw [many_app]; rfl, rfl⟩)
    simp only [setS, List.set_cons_succ, List.set_cons_zero]
    rfl
  rintro y h5 ⟨ey, rfl⟩
  obtain ⟨L, pm, es⟩ := sort_B D (by omega)
  have lb : ∀ h, lenNF lenF [dnB D] h = .ok (.int (many lives)) h := fun h => by rw [len_B, gl]
  refine Wp.eq (u := .nx _ h5) (w := .nx [some (.klst (ns.map .int)), some (.loc 1), some (.int n), some (.tup (lives.map .int)), some (.tup (loose.map .int)), some (.int (many lives)), y 6, none, none, none, some (trT lives loose), some (dnB D), none, none, none, none] h5) (by simp only [setS, List.set_cons_succ, List.set_cons_zero, ey]) ?_
  simp! [lb]
  have ent : ∀ l ∈ L, ∃ s, Ent n lives loose D l s := fun l hl => by
    obtain ⟨p, hp, rfl⟩ := List.mem_map.mp (pm.mem_iff.mp hl)
    have g := gp p hp
    simp only [Bool.and_eq_true] at g
    obtain ⟨⟨g1, g2⟩, g3, ⟨⟨g4, g5⟩, g6⟩, g7⟩ := g
    have g1 := of_decide_eq_true g1
    have rg : ∀ k : Nat, 0 ≤ p.1.getD k 0 ∧ p.1.getD k 0 ≤ lives.getD k 0 := fun k => by
      by_cases hk : k < n
      · have := List.all_eq_true.mp g5 k (List.mem_range.mpr hk)
        rw [Bool.and_eq_true] at this
        exact ⟨of_decide_eq_true this.1, of_decide_eq_true this.2⟩
      · have dz : ∀ m : List Int, m.length = n → m.getD k 0 = 0 := fun m hm => by
          rw [List.getD_eq_getElem?_getD, List.getElem?_eq_none (by omega)]
          rfl
        rw [dz _ g1, dz _ ll]
        exact ⟨by omega, by omega⟩
    refine ⟨p.2, g1, fun d hd => List.all_eq_true.mp g2 d hd, of_decide_eq_true g3, of_decide_eq_true g4, fun k => (rg k).1, fun k => (rg k).2, ?_, of_decide_eq_true g7⟩
    split at g6
    · rename_i s es
      rw [es, of_decide_eq_true g6]
    · exact absurd g6 Bool.false_ne_true
  have srt : ∀ h, sortNF lstK [dnB D] h = .ok (.lst (L.map datT)) h := es
  refine Wp.forN (enc := datT) (xs := L) (k := 7) [7, 12, 13] (by simp_all! [srt]) (fun l hl y => ?_) (fun y => ?_)
  · obtain ⟨s, E⟩ := ent l hl
    have br : ∀ h, m_bringing [trT lives loose, datT l] h = .ok (strT s) h := fun h => by
      have := x_br (h := h) t E.len E.fit E.low
      rw [E.br] at this
      exact this
    have dl : (datA 0 l).length ≤ 5 := by
      have := datA_len l 0
      have := E.len
      omega
    unfold L_law_2
    refine Wp.frame (by (((try simp only [TW.setS, TW.startR, List.map_cons, List.map_nil, List.length_cons, List.length_nil, List.replicate, List.cons_append, List.nil_append, Nat.reduceSub, Nat.reduceAdd, Nat.zero_add, List.set_cons_zero, List.set_cons_succ, List.set_nil, List.replicate_succ, List.replicate_zero]); exact rfl))) ?_
    simp! [br]
    refine We.lcG (enc := pT) (xs := datA 0 l) (src := none) (fun p r => (r.set 14 (some (.int p.1))).set 15 (some (.int p.2))) (fun _ => true) (fun p => .int (lives.getD p.1.toNat 0 - p.2)) rfl rfl (fun _ _ => rfl) (fun _ _ => We.at rfl ⟨rfl, rfl⟩) (fun p hp _ => ?_) ?_
    · have lv : ∀ h, ixT (.tup (lives.map T.int)) (.int p.1) h = .ok (.int (lives.getD p.1.toNat 0)) h := fun h => by
        obtain ⟨a, b, _, _⟩ := datA_mem hp
        exact w_lives a (by
          have := E.len
          omega)
      simp! [lv]
    have e1 : (List.filter (fun _ => true) (datA 0 l)).map (fun p => T.int (lives.getD p.1.toNat 0 - p.2)) = ((brA lives l).map fun p : Int × Int => p.1).map T.int := by
      rw [List.filter_eq_self.mpr fun _ _ => rfl]
      unfold brA
      rw [List.map_map, List.map_map]
      rfl
    have al : (brA lives l).length ≤ 5 := by
      unfold brA
      rw [List.length_map]
      exact dl
    rw [e1]
    refine We.at (w_lstK (by rw [List.length_map, List.length_map]; exact Nat.le_trans al (by decide))) ?_
    have l1 : ∀ h, lenF [strT s] h = .ok (.int s.length) h := fun h => by
      have := W_len_tup (xs := s.map deT) (h := h)
      rw [List.length_map] at this
      exact this
    have l2 : ∀ h, lenF [datT l] h = .ok (.int (datA 0 l).length) h := fun h => by
      have := W_len_tup (xs := (datA 0 l).map pT) (h := h)
      rw [List.length_map] at this
      exact this
    have ad : ∀ h, adT lstK (.lst (((brA lives l).map fun p : Int × Int => p.1).map T.int)) (.lst [.int 0]) h = .ok (.lst (((brA lives l).map fun p : Int × Int => p.1) ++ [0] |>.map T.int)) h := fun h => by
      rw [List.map_append]
      exact w_lstK (by
        rw [List.length_append, List.length_map, List.length_map]
        exact Nat.le_trans (Nat.add_le_add_right al 1) (by decide))
    have mx : ∀ h, maxF [.lst (((brA lives l).map fun p : Int × Int => p.1) ++ [0] |>.map T.int)] h = .ok (.int (mxA (brA lives l))) h := fun h => w_mxL _
    have sz : ((s.length : Nat) : Int) = ((datA 0 l).length : Nat) + mxA (brA lives l) := E.sz
    have ixf : ∀ h, ixNF (dnB D) (datT l) h = .ok (strT s) h := fun h => ix_B E.lk
    have n1 : ∀ h, neT (strT s) (strT s) h = .ok (.bl false) h := fun h => (pd_sd 14 (strT s) (pd_map fun d _ => pd_de d)).ne
    have sd : ∀ h, m_stands [trT lives loose, strT s, .ktup []] h = .ok (endX lives (.ktup []) (zer n) s) h := fun h => x_stands t zer_kt zer_len (zer_fit t) E.ok
    have n2 : ∀ h, neT (endX lives (.ktup []) (zer n) s) (datT l) h = .ok (.bl false) h := fun h => by
      have := endX_sd (lives := lives) (S := s) (zer_kt (n := n))
      rw [E.run] at this
      exact this.ne
    generalize brA lives l = A at *
    simp! [l1, l2, ad, mx, sz, ixf, n1]
    have k20 : ∀ h, arg 3 m_stands (o_stands_2_ [trT lives loose, strT s] []) h = .ok (endX lives (.ktup []) (zer n) s) h := fun h => by
      have e : o_stands_2_ [trT lives loose, strT s] [] = [trT lives loose, strT s, .ktup []] := rfl
      rw [e, q_arg3]
      exact sd h
    simp! [k20, n2]
    exact Wp.trn rfl rfl
  · have iL : ∀ h, ixT (.tup (lives.map T.int)) (.int 0) h = .ok (.int (lives.getD 0 0)) h := fun h => w_lives (by omega) (by
      have := t.n5
      omega)
    refine Wp.frame (by (((try simp only [TW.setS, TW.startR, List.map_cons, List.map_nil, List.length_cons, List.length_nil, List.replicate, List.cons_append, List.nil_append, Nat.reduceSub, Nat.reduceAdd, Nat.zero_add, List.set_cons_zero, List.set_cons_succ, List.set_nil, List.replicate_succ, List.replicate_zero]); exact rfl))) ?_
    simp! [iL]
    refine We.draw dr_ok (by omega) (by omega) (by omega) tl_nil d4 fun v h6 v0 v1 d6 => ?_
    obtain ⟨k, rfl⟩ : ∃ k : Nat, v = (k : Int) := ⟨v.toNat, by omega⟩
    have kl : k < (oddL n lives).length := by
      show k < 10
      omega
    have O := odd_all t _ (List.getElem_mem kl)
    have ez : ∀ h, ixT (.lst (oddL n lives)) (.int (k : Int)) h = .ok (oddL n lives)[k] h := fun h => w_ix_lst (List.getElem?_eq_getElem kl)
    generalize (oddL n lives)[k] = Z at O ez
    refine We.at (ez h6) ?_
    simp! []
    obtain ⟨lz, nz⟩ := pd_low 13 Z O.pd
    refine We.at (told_D nz ?_) ?_
    · rw [k02 (fun h => low_at rfl low_tr) (fun h => low_at rfl lz)]
      exact x_brX O
    have eq1 : ∀ h, eqT (.lst [Z]) (.lst [Z]) h = .ok (.bl true) h := fun h => (SDs.lst (.cons (pd_sd 13 Z O.pd) .nil)).eq
    simp! [eq1]
end
end K12
open PySem PySem.W PySem.Calls PyProof.Rows
theorem PySem.Challenge.cw_offerstands_k12_streams_that_bring_holds : PySem.Challenge.rw_offerstands_k12_streams_that_bring.Holds := by
  w_on; o_law
  refine HandSHeadRun.head_any (r := OpenLaw.row PySem.Challenge.rw_offerstands_k12_streams_that_bring) (q := view (OpenLaw.row PySem.Challenge.rw_offerstands_k12_streams_that_bring).prog [32]) (H := K12.hk) (ob := K12.ob) (M := 8000) (loose := K12.loose) (d := HandSHeadRun.topDef (OpenLaw.row PySem.Challenge.rw_offerstands_k12_streams_that_bring).prog 32) (kwd := []) K12.ob_eq
    (by kernel_rfl) (fun s => by kernel_rfl) K12.run (by kernel_rfl) (by kernel_rfl) (by kernel_rfl) (by rfl) (by first | assumption | decide +kernel) (by decide +kernel) ⟨rfl, rfl, rfl, rfl, rfl, by decide +kernel⟩ ?hw ?hc
  case hw => w_witness2
  case hc =>
    refine LamX.walk_ofTsE (l := PySem.Challenge.rw_offerstands_k12_streams_that_bring) (n := 63) (k := 6) (x := "_law_script") (CX := fun w => L2.CX (PySem.Challenge.rw_offerstands_k12_streams_that_bring).prog w) rfl (by decide) (by kernel_rfl) ⟨rfl, by decide, by decide⟩ ?F ?hC
    case hC =>
      intro w H s e s' h
      obtain ⟨_, _, _, _, _, _, _, _, _, _, _, _, z⟩ := h
      exact z.elim
    intro w mg fa h Y G hmg0
    obtain ⟨K, KX, c⟩ := Y
    have hmg : mg ("law" : PySem.Str) = some (.ref fa) := by
      have e : (HandSHeadRun.topDef (OpenLaw.row PySem.Challenge.rw_offerstands_k12_streams_that_bring).prog 32).name = ("law" : PySem.Str) := by kernel_rfl
      rw [← e]
      exact hmg0
    exact ⟨K, KX, K12.facts KX G hmg c K12.law_true⟩
