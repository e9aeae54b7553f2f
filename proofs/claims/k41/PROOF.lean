import PyProof.Rows.All
import Wide.All
import OpenK.AllK
import Wide.FinOn
import HandS.Base
import HandS.Call
import HandS.List
import HandS.Dict
import HandS.Iter
import HandS.Comp
import HandS.Walk
import HandS.Exc
import HandS.ExcOwn
import HandS.Words
import HandS.WordsExc
import HandS.Defaults
import HandS.TupAny
import HandS.Deep
import HandS.CallSlots
import HandS.Strs
import HandS.Set
import HandS.SetFor
import HandS.Lambda
import KE.DataEq
import HandS.TupMul
import HandS.Style
import HandS.TupLe
import HandS.Text
import HandS.IsInst
import HandS.Conv
import PyProof.Rows.SortShellAny
import KE.GoesMore
import KE.GoesEnum
import HandS.OwnEq
import OpenK.KOps
import KE.SortKeyHeap
import HandS.Head0
import HandS.Head1
import HandS.Head2
import HandS.HeadEnd
import HandS.HeadHook1
import HandS.HeadHook2
import HandS.HeadHook3
import HandS.HeadHook4
import HandS.HeadWalk
import HandS.EndTab
import KE.Datum
import HandS.Zip
import PySem.Challenge.RW_offerstands_k41_whole_two_sides_renamed
import KE.GoesNew
set_option Elab.async false
set_option linter.all false
set_option maxRecDepth 100000
set_option maxHeartbeats 4000000
set_option autoImplicit false
namespace TW
open PySem PySem.Spec L2

/-- tree values: tuples (and lists, dicts, objects that nobody writes any more) as trees; loc n: the n-th cell of the mirror's heap; ty, cls: a built-in type, an own class -/
inductive T where
  | non | bl (b : Bool) | int (i : Int) | str (s : Str)
  | tup (xs : List T) | ktup (xs : List T) | lst (xs : List T) | klst (xs : List T) | set (xs : List Int)
  | dK (ks : List Key) (vs : List T) | dT (ks : List (List Key)) (vs : List T)
  | obj (c : Str) (ns : List Str) (vs : List T)
  | loc (n : Nat)
  | ty (n : String) | cls (c : Str)
/-- cells -/
inductive MO where
  | lst (xs : List T) | set (xs : List Int) | dK (kvs : List (Key × T)) | dT (kvs : List (List Key × T)) | ins (c : Str) (fs : List (Str × T))
abbrev MH := List MO
inductive Res (α : Type) where
  | ok (a : α) (h : MH) | exc (c : Str) (fs : List (Str × T)) (h : MH) | bad
namespace Res
@[simp] def bind {α β : Type} (r : Res α) (k : α → MH → Res β) : Res β := match r with
  | .ok a h => k a h
  | .exc c fs h => .exc c fs h
  | .bad => .bad
end Res
abbrev Rho := List (Option T)
abbrev EM := Rho → MH → Res T
abbrev TM := Rho → MH → Res Bool
abbrev AM := Rho → MH → Res (List T)


/-- names of classes to addresses; the tables of code objects, each with the name that its code objects bear -/
structure Cln where
  of : Str → Option Addr
  tabs : List (Addr × Str)
instance : CoeFun Cln (fun _ => Str → Option Addr) := ⟨Cln.of⟩
abbrev NT (o : HO) : Prop := ∀ ps, o ≠ .tbl ps
/-- what a mirror leans on: the program, the world, the written part, the classes by names -/
structure Gx where
  P : Program
  w : World
  K : PySem.W.Frag
  cl : Cln
/-- of a context -/
abbrev gx (X : Cx) (cl : Cln) : Gx := ⟨X.prog, X.w, X.K, cl⟩

/-- the cells' addresses, in the mirror's order; z: what is under way and no value names yet -/
structure Ml where
  c : List Addr
  z : List Addr
def Ml.no (m : Ml) (a : Addr) : Prop := a ∉ m.c ∧ a ∉ m.z
section
variable (G : Gx) (m : Ml) (H : Hp)
def KTup (K : PySem.W.Frag) (a : Addr) (xs : List V) : Prop := ∃ (o : Obj) (its : Array Value) (n : Nat), K.lookup a = some o ∧ o.cls = .type "tuple" ∧ o.data = .seq its n ∧ its.size ≤ sizeLine ∧ Vals xs its.toList
/-- a set of ints (as a list that holds each member once or more) -/
def FzS (a : Addr) (xs : List Int) : Prop := ∃ S n, H a = some (SetO G.w a S n) ∧ (∀ k, S k = decide (k ∈ xs)) ∧ n ≤ xs.length
def KLst (K : PySem.W.Frag) (a : Addr) (xs : List V) : Prop := ∃ (o : Obj) (its : Array Value) (n : Nat), K.lookup a = some o ∧ o.cls = .type "list" ∧ o.dict = none ∧ o.data = .seq its n ∧ its.size ≤ sizeLine ∧ Vals xs its.toList
def Fz (a : Addr) (o : HO) : Prop := Rd H a o ∧ m.no a
mutual
def R : T → V → Prop
  | .non, v => v = .non
  | .bl b, v => v = .bl b
  | .int i, v => v = .int i
  | .str s, v => v = .str s
  | .tup xs, v => ∃ a vs, v = .ref a ∧ (H a = some (.tup vs) ∧ m.no a) ∧ Rs xs vs
  | .ktup xs, v => ∃ a vs, v = .ref a ∧ KTup G.K a vs ∧ Rs xs vs
  | .set xs, v => ∃ a, v = .ref a ∧ FzS G H a xs ∧ m.no a
  | .lst xs, v => ∃ a vs, v = .ref a ∧ (H a = some (.lst vs) ∧ m.no a) ∧ Rs xs vs
  | .klst xs, v => ∃ a vs, v = .ref a ∧ (Fz m H a (.lst vs) ∨ KLst G.K a vs) ∧ Rs xs vs
  | .dK ks xs, v => ∃ a vs, v = .ref a ∧ Fz m H a (.dK (ks.zip vs)) ∧ ks.length = vs.length ∧ Rs xs vs
  | .dT ks xs, v => ∃ a vs, v = .ref a ∧ Fz m H a (.dT (ks.zip vs)) ∧ ks.length = vs.length ∧ Rs xs vs
  | .obj c ns xs, v => ∃ a C dx vs, v = .ref a ∧ G.cl c = some C ∧ (H a = some (.ins C dx (ns.zip vs)) ∧ m.no a) ∧ ns.length = vs.length ∧ Rs xs vs
  | .loc n, v => ∃ a, m.c[n]? = some a ∧ v = .ref a
  | .ty n, v => v = .ty n
  | .cls c, v => ∃ C, G.cl c = some C ∧ v = .ref C
def Rs : List T → List V → Prop
  | [], vs => vs = []
  | x :: xs, vs => ∃ v r, vs = v :: r ∧ R x v ∧ Rs xs r
end
/-- pairs with keys -/
def Rk {k : Type} (kvs : List (k × T)) (q : List (k × V)) : Prop := kvs.map (·.1) = q.map (·.1) ∧ Rs G m H (kvs.map (·.2)) (q.map (·.2))
def RO (a : Addr) : MO → Prop
  | .lst xs => ∃ vs, H a = some (.lst vs) ∧ Rs G m H xs vs
  | .set xs => FzS G H a xs
  | .dK kvs => ∃ q, H a = some (.dK q) ∧ Rk G m H kvs q
  | .dT kvs => ∃ q, H a = some (.dT q) ∧ Rk G m H kvs q
  | .ins c fs => ∃ C dx q, G.cl c = some C ∧ H a = some (.ins C dx q) ∧ Rk G m H fs q
/-- the tables of code objects -/
def TabM : Prop := ∀ p ∈ G.cl.tabs, ∃ ps : Array Value, H p.1 = some (.tbl ps) ∧ m.no p.1 ∧ TriplesOk ps.toList ∧ ∀ (pos : Pos) (cv : Value), codeAmong pos ps.toList = some cv → ∃ c, cv = .ref c ∧ H c = some (LamX.CodeO c p.2) ∧ m.no c
/-- the mirror's heap is held -/
structure Rel (hp : MH) : Prop where
  len : m.c.length = hp.length
  nd : m.c.Nodup
  ob : ∀ (n : Nat) (a : Addr) (o : MO), m.c[n]? = some a → hp[n]? = some o → RO G m H a o
  zs : ∀ a ∈ m.z, ∃ o, NT o ∧ H a = some o
  zd : ∀ a ∈ m.z, a ∉ m.c
  tb : TabM G m H
/-- the names' values -/
structure RE (r : Rho) (σ : St) : Prop where
  len : r.length = σ.length
  at_ : ∀ (i : Nat) (x : T), r[i]? = some (some x) → ∃ v, σ[i]? = some (some v) ∧ R G m H x v
end
/-- what holds of values stays: the cells stand where they stood, what is tracked and no cell, nor under way, stands -/
structure Wk (m m' : Ml) (H H' : Hp) : Prop where
  pre : ∃ n, m'.c = m.c ++ n
  fr : ∀ a o, NT o → H a = some o → m.no a → H' a = some o ∧ m'.no a
/-- later: more cells, and what is tracked and no cell stands -/
structure Stp (m m' : Ml) (H H' : Hp) : Prop where
  pz : m'.z = m.z
  pre : ∃ n, m'.c = m.c ++ n
  fr : ∀ a o, NT o → H a = some o → a ∉ m.c → H' a = some o ∧ a ∉ m'.c
section
variable {G : Gx} {m m' m'' : Ml} {H H' H'' : Hp}
theorem Stp.wk (s : Stp m m' H H') : Wk m m' H H' := ⟨s.pre, fun a o t e n => ⟨(s.fr a o t e n.1).1, (s.fr a o t e n.1).2, by rw [s.pz]; exact n.2⟩⟩
theorem Stp.refl : Stp m m H H := ⟨rfl, ⟨[], by simp⟩, fun _ _ _ h n => ⟨h, n⟩⟩
theorem Stp.trans (a : Stp m m' H H') (b : Stp m' m'' H' H'') : Stp m m'' H H'' := by
  obtain ⟨n, e⟩ := a.pre
  obtain ⟨n', e'⟩ := b.pre
  refine ⟨b.pz.trans a.pz, ⟨n ++ n', by rw [e', e, List.append_assoc]⟩, fun c o t h k => ?_⟩
  obtain ⟨h1, k1⟩ := a.fr c o t h k
  exact b.fr c o t h1 k1
theorem Wk.cell (s : Wk m m' H H') {n : Nat} {a : Addr} (h : m.c[n]? = some a) : m'.c[n]? = some a := by
  obtain ⟨k, e⟩ := s.pre
  rw [e, List.getElem?_append_left (List.getElem?_eq_some_iff.mp h).1]
  exact h
theorem Stp.cell (s : Stp m m' H H') {n : Nat} {a : Addr} (h : m.c[n]? = some a) : m'.c[n]? = some a := s.wk.cell h
theorem Fz.wk {a : Addr} {o : HO} (f : Fz m H a o) (s : Wk m m' H H') (t : NT o := by intro _ z; cases z) : Fz m' H' a o := by
  obtain ⟨r, n⟩ := f
  rcases r with r | ⟨ob, r⟩
  · obtain ⟨h, k⟩ := s.fr a _ t r n
    exact ⟨.inl h, k⟩
  · obtain ⟨h, k⟩ := s.fr a _ (by intro _ z; cases z) r n
    exact ⟨.inr ⟨ob, h⟩, k⟩
theorem Fz.step {a : Addr} {o : HO} (f : Fz m H a o) (s : Stp m m' H H') (t : NT o := by intro _ z; cases z) : Fz m' H' a o := f.wk s.wk t
theorem Fz.sq {K : PySem.W.Frag} {a : Addr} {xs : List V} (f : Fz m H a (.lst xs)) : SqL K H a xs := .inl f.1
mutual
theorem R.wk (s : Wk m m' H H') : ∀ (x : T) (v : V), R G m H x v → R G m' H' x v
  | .non, _, h => h
  | .bl _, _, h => h
  | .int _, _, h => h
  | .str _, _, h => h
  | .ty _, _, h => h
  | .cls _, _, h => by
    simp only [R] at h ⊢
    exact h
  | .tup xs, _, h => by
    simp only [R] at h ⊢
    obtain ⟨a, vs, e, f, r⟩ := h
    exact ⟨a, vs, e, s.fr a _ (by intro _ z; cases z) f.1 f.2, Rs.wk s xs vs r⟩
  | .ktup xs, _, h => by
    simp only [R] at h ⊢
    obtain ⟨a, vs, e, f, r⟩ := h
    exact ⟨a, vs, e, f, Rs.wk s xs vs r⟩
  | .set xs, _, h => by
    simp only [R] at h ⊢
    obtain ⟨a, e, ⟨S, c, h1, h2, h5⟩, n⟩ := h
    obtain ⟨h3, n'⟩ := s.fr a _ (by intro _ z; unfold SetO at z; cases z) h1 n
    exact ⟨a, e, ⟨S, c, h3, h2, h5⟩, n'⟩
  | .lst xs, _, h => by
    simp only [R] at h ⊢
    obtain ⟨a, vs, e, f, r⟩ := h
    exact ⟨a, vs, e, s.fr a _ (by intro _ z; cases z) f.1 f.2, Rs.wk s xs vs r⟩
  | .klst xs, _, h => by
    simp only [R] at h ⊢
    obtain ⟨a, vs, e, f, r⟩ := h
    exact ⟨a, vs, e, f.elim (fun f => .inl (f.wk s)) .inr, Rs.wk s xs vs r⟩
  | .dK ks xs, _, h => by
    simp only [R] at h ⊢
    obtain ⟨a, vs, e, f, l, r⟩ := h
    exact ⟨a, vs, e, f.wk s, l, Rs.wk s xs vs r⟩
  | .dT ks xs, _, h => by
    simp only [R] at h ⊢
    obtain ⟨a, vs, e, f, l, r⟩ := h
    exact ⟨a, vs, e, f.wk s, l, Rs.wk s xs vs r⟩
  | .obj c ns xs, _, h => by
    simp only [R] at h ⊢
    obtain ⟨a, C, dx, vs, e, hc, f, l, r⟩ := h
    exact ⟨a, C, dx, vs, e, hc, s.fr a _ (by intro _ z; cases z) f.1 f.2, l, Rs.wk s xs vs r⟩
  | .loc n, _, h => by
    simp only [R] at h ⊢
    obtain ⟨a, e, q⟩ := h
    exact ⟨a, s.cell e, q⟩
theorem Rs.wk (s : Wk m m' H H') : ∀ (xs : List T) (vs : List V), Rs G m H xs vs → Rs G m' H' xs vs
  | [], _, h => h
  | x :: xs, _, h => by
    simp only [Rs] at h ⊢
    obtain ⟨v, r, e, h1, h2⟩ := h
    exact ⟨v, r, e, R.wk s x v h1, Rs.wk s xs r h2⟩
end
theorem R.step (s : Stp m m' H H') (x : T) (v : V) (h : R G m H x v) : R G m' H' x v := R.wk s.wk x v h
theorem Rs.step (s : Stp m m' H H') (xs : List T) (vs : List V) (h : Rs G m H xs vs) : Rs G m' H' xs vs := Rs.wk s.wk xs vs h
theorem Rk.wk {k : Type} {kvs : List (k × T)} {q : List (k × V)} (s : Wk m m' H H') (h : Rk G m H kvs q) : Rk G m' H' kvs q := ⟨h.1, Rs.wk s _ _ h.2⟩
theorem RE.wk {r : Rho} {σ : St} (s : Wk m m' H H') (h : RE G m H r σ) : RE G m' H' r σ :=
  ⟨h.len, fun i x e => let ⟨v, e1, q⟩ := h.at_ i x e; ⟨v, e1, R.wk s x v q⟩⟩
theorem Rk.step {k : Type} {kvs : List (k × T)} {q : List (k × V)} (s : Stp m m' H H') (h : Rk G m H kvs q) : Rk G m' H' kvs q := ⟨h.1, Rs.step s _ _ h.2⟩
theorem RE.step {r : Rho} {σ : St} (s : Stp m m' H H') (h : RE G m H r σ) : RE G m' H' r σ :=
  ⟨h.len, fun i x e => let ⟨v, e1, q⟩ := h.at_ i x e; ⟨v, e1, R.step s x v q⟩⟩
theorem RE.set {r : Rho} {σ : St} {i : Nat} {x : T} {v : V} (h : RE G m H r σ) (q : R G m H x v) : RE G m H (r.set i (some x)) (σ.set i (some v)) := by
  refine ⟨by simp [h.len], fun j y e => ?_⟩
  by_cases hj : i = j
  · subst hj
    have hl : i < r.length := by
      have := (List.getElem?_eq_some_iff.mp e).1
      simpa using this
    rw [List.getElem?_set_self hl] at e
    cases e
    exact ⟨v, List.getElem?_set_self (by rw [← h.len]; exact hl), q⟩
  · rw [List.getElem?_set_ne hj] at e ⊢
    exact h.at_ j y e
theorem RE.unset {r : Rho} {σ : St} {i : Nat} (h : RE G m H r σ) : RE G m H (r.set i none) (σ.set i none) := by
  refine ⟨by simp [h.len], fun j y e => ?_⟩
  by_cases hj : i = j
  · subst hj
    have hl : i < r.length := by
      have := (List.getElem?_eq_some_iff.mp e).1
      simpa using this
    rw [List.getElem?_set_self hl] at e
    cases e
  · rw [List.getElem?_set_ne hj] at e ⊢
    exact h.at_ j y e
theorem Rs.len : ∀ {xs : List T} {vs : List V}, Rs G m H xs vs → xs.length = vs.length
  | [], _, h => by simp only [Rs] at h; subst h; rfl
  | x :: xs, _, h => by
    simp only [Rs] at h
    obtain ⟨v, r, rfl, _, h2⟩ := h
    simp [Rs.len h2]
theorem Rs.nil_iff {vs : List V} : Rs G m H [] vs ↔ vs = [] := by simp [Rs]
theorem Rs.cons_iff {x : T} {xs : List T} {vs : List V} : Rs G m H (x :: xs) vs ↔ ∃ v r, vs = v :: r ∧ R G m H x v ∧ Rs G m H xs r := by simp [Rs]
theorem Rs.cons {x : T} {xs : List T} {v : V} {vs : List V} (h : R G m H x v) (t : Rs G m H xs vs) : Rs G m H (x :: xs) (v :: vs) := Rs.cons_iff.mpr ⟨v, vs, rfl, h, t⟩
theorem Rs.nil : Rs G m H [] [] := Rs.nil_iff.mpr rfl
theorem Rs.app : ∀ {xs ys : List T} {vs ws : List V}, Rs G m H xs vs → Rs G m H ys ws → Rs G m H (xs ++ ys) (vs ++ ws)
  | [], _, _, _, h, t => by rw [Rs.nil_iff.mp h]; exact t
  | x :: xs, _, _, _, h, t => by
    obtain ⟨v, r, rfl, h1, h2⟩ := Rs.cons_iff.mp h
    exact Rs.cons h1 (Rs.app h2 t)
theorem Rs.get : ∀ {xs : List T} {vs : List V} {i : Nat} {x : T}, Rs G m H xs vs → xs[i]? = some x → ∃ v, vs[i]? = some v ∧ R G m H x v
  | [], _, _, _, _, e => by simp at e
  | y :: xs, _, 0, x, h, e => by
    obtain ⟨v, r, rfl, h1, _⟩ := Rs.cons_iff.mp h
    simp at e; subst e
    exact ⟨v, rfl, h1⟩
  | y :: xs, _, i + 1, x, h, e => by
    obtain ⟨v, r, rfl, _, h2⟩ := Rs.cons_iff.mp h
    obtain ⟨w, e1, q⟩ := Rs.get (i := i) (x := x) h2 (by simpa using e)
    exact ⟨w, by simpa using e1, q⟩
theorem Rs.getV {xs : List T} {vs : List V} {i : Nat} {v : V} (h : Rs G m H xs vs) (e : vs[i]? = some v) : ∃ x, xs[i]? = some x ∧ R G m H x v := by
  have hl := Rs.len h
  have hi : i < xs.length := by rw [hl]; exact (List.getElem?_eq_some_iff.mp e).1
  obtain ⟨w, e2, q⟩ := Rs.get h (List.getElem?_eq_getElem hi)
  rw [e] at e2; cases e2
  exact ⟨_, List.getElem?_eq_getElem hi, q⟩
theorem Rs.take : ∀ {xs : List T} {vs : List V} (n : Nat), Rs G m H xs vs → Rs G m H (xs.take n) (vs.take n)
  | [], _, n, h => by rw [Rs.nil_iff.mp h]; simp; exact Rs.nil
  | x :: xs, _, 0, h => by simp; exact Rs.nil
  | x :: xs, _, n + 1, h => by
    obtain ⟨v, r, rfl, h1, h2⟩ := Rs.cons_iff.mp h
    exact Rs.cons h1 (Rs.take n h2)
theorem Rs.drop : ∀ {xs : List T} {vs : List V} (n : Nat), Rs G m H xs vs → Rs G m H (xs.drop n) (vs.drop n)
  | [], _, n, h => by rw [Rs.nil_iff.mp h]; simp; exact Rs.nil
  | x :: xs, _, 0, h => h
  | x :: xs, _, n + 1, h => by
    obtain ⟨v, r, rfl, h1, h2⟩ := Rs.cons_iff.mp h
    exact Rs.drop n h2
theorem Rs.set : ∀ {xs : List T} {vs : List V} {x : T} {v : V} (n : Nat), Rs G m H xs vs → R G m H x v → Rs G m H (xs.set n x) (vs.set n v)
  | [], _, _, _, n, h, q => by rw [Rs.nil_iff.mp h]; simp; exact Rs.nil
  | y :: xs, _, x, v, 0, h, q => by
    obtain ⟨w, r, rfl, h1, h2⟩ := Rs.cons_iff.mp h
    exact Rs.cons q h2
  | y :: xs, _, x, v, n + 1, h, q => by
    obtain ⟨w, r, rfl, h1, h2⟩ := Rs.cons_iff.mp h
    exact Rs.cons h1 (Rs.set n h2 q)
theorem Rs.eraseIdx : ∀ {xs : List T} {vs : List V} (n : Nat), Rs G m H xs vs → Rs G m H (xs.eraseIdx n) (vs.eraseIdx n)
  | [], _, n, h => by rw [Rs.nil_iff.mp h]; simp; exact Rs.nil
  | y :: xs, _, 0, h => by
    obtain ⟨w, r, rfl, h1, h2⟩ := Rs.cons_iff.mp h
    exact h2
  | y :: xs, _, n + 1, h => by
    obtain ⟨w, r, rfl, h1, h2⟩ := Rs.cons_iff.mp h
    exact Rs.cons h1 (Rs.eraseIdx n h2)
theorem Rs.dropLast {xs : List T} {vs : List V} (h : Rs G m H xs vs) : Rs G m H xs.dropLast vs.dropLast := by
  rw [List.dropLast_eq_take, List.dropLast_eq_take, Rs.len h]
  exact Rs.take _ h
theorem Rs.reverse : ∀ {xs : List T} {vs : List V}, Rs G m H xs vs → Rs G m H xs.reverse vs.reverse
  | [], _, h => by rw [Rs.nil_iff.mp h]; exact Rs.nil
  | x :: xs, _, h => by
    obtain ⟨w, r, rfl, h1, h2⟩ := Rs.cons_iff.mp h
    rw [List.reverse_cons, List.reverse_cons]
    exact Rs.app (Rs.reverse h2) (Rs.cons h1 Rs.nil)

/-- what is wanted behind a mirror's step -/
def Pst {α : Type} (G : Gx) (m : Ml) (H : Hp) (r : Res α) (Q : α → Ml → MH → Hp → Prop) (W : XK) : Prop := match r with
  | .ok a h => ∀ m' H', Stp m m' H H' → Rel G m' H' h → Q a m' h H'
  | .exc c fs h => ∀ m' H', Stp m m' H H' → Rel G m' H' h → ∀ C d, G.cl c = some C → ((fs = [] ∧ d = none) ∨ ∃ dx q, d = some dx ∧ Fz m' H' dx (.xd q) ∧ Rk G m' H' fs q) → W (.ref C) d H'
  | .bad => False
theorem Pst.mono {α : Type} {r : Res α} {Q Q' : α → Ml → MH → Hp → Prop} {W W' : XK} (p : Pst G m H r Q W) (h : ∀ a m' hp H', Stp m m' H H' → Q a m' hp H' → Q' a m' hp H') (hw : ∀ c d H', W c d H' → W' c d H') : Pst G m H r Q' W' := by
  cases r with
  | ok a hp => exact fun m' H' s rel => h a m' hp H' s (p m' H' s rel)
  | exc c fs hp => exact fun m' H' s rel C d e q => hw _ _ _ (p m' H' s rel C d e q)
  | bad => exact p
theorem Pst.step {α : Type} {r : Res α} {Q : α → Ml → MH → Hp → Prop} {W : XK} (p : Pst G m H r Q W) (s : Stp m m' H H') : Pst G m' H' r Q W := by
  cases r with
  | ok a hp => exact fun m'' H'' s' rel => p m'' H'' (s.trans s') rel
  | exc c fs hp => exact fun m'' H'' s' rel C d e q => p m'' H'' (s.trans s') rel C d e q
  | bad => exact p
/-- one after the other -/
theorem Pst.bind {α β : Type} {r : Res α} {k : α → MH → Res β} {Q : β → Ml → MH → Hp → Prop} {W : XK} (p : Pst G m H (r.bind k) Q W) :
    Pst G m H r (fun a m1 h1 H1 => Rel G m1 H1 h1 ∧ Pst G m1 H1 (k a h1) Q W) W := by
  cases r with
  | ok a hp => exact fun m' H' s rel => ⟨rel, Pst.step (by exact p) s⟩
  | exc c fs hp => exact p
  | bad => exact p
theorem Pst.ok_ {α : Type} {a : α} {hp : MH} {Q : α → Ml → MH → Hp → Prop} {W : XK} (p : Pst G m H (.ok a hp) Q W) (rel : Rel G m H hp) : Q a m hp H := p m H .refl rel
end

/-! ### the readings -/
/-- of an expression -/
def tM (G : Gx) (W : WX) (f : EM) : TE := fun σ H Q => ∃ r hp m, RE G m H r σ ∧ Rel G m H hp ∧ Pst G m H (f r hp) (fun x m' _ H' => ∀ v, R G m' H' x v → Q v H') (fun c d H' => W c d σ H')
/-- of a test -/
def tMT (G : Gx) (W : WX) (f : TM) : TT := fun σ H Q => ∃ r hp m, RE G m H r σ ∧ Rel G m H hp ∧ Pst G m H (f r hp) (fun b _ _ H' => Q b H') (fun c d H' => W c d σ H')
/-- of arguments -/
def tMA (G : Gx) (W : WX) (f : AM) : TA := fun σ H Q => ∃ r hp m, RE G m H r σ ∧ Rel G m H hp ∧ Pst G m H (f r hp) (fun xs m' _ H' => ∀ vs, Rs G m' H' xs vs → Q vs H') (fun c d H' => W c d σ H')
structure ME (X : Cx) (cl : Cln) (W : WX) (e : Expr) (f : EM) : Prop where
  pe : PE X e (tM (gx X cl) W f)
structure MT (X : Cx) (cl : Cln) (W : WX) (e : Expr) (f : TM) : Prop where
  pt : PT X e (tMT (gx X cl) W f)
structure MA (X : Cx) (cl : Cln) (W : WX) (es : List Expr) (f : AM) : Prop where
  pa : PA X es (tMA (gx X cl) W f)
theorem PE.imp {X : Cx} {e : Expr} {t t' : TE} (h : PE X e t) (i : ∀ σ H Q, t' σ H Q → t σ H Q) : PE X e t' := ⟨fun pins s σ H Q I q => h.run pins s σ H Q I (i σ H Q q)⟩
theorem PT.imp {X : Cx} {e : Expr} {t t' : TT} (h : PT X e t) (i : ∀ σ H Q, t' σ H Q → t σ H Q) : PT X e t' := ⟨fun pins s σ H Q I q => h.run pins s σ H Q I (i σ H Q q)⟩
theorem PA.imp {X : Cx} {e : List Expr} {t t' : TA} (h : PA X e t) (i : ∀ σ H Q, t' σ H Q → t σ H Q) : PA X e t' := ⟨fun pos pins s σ H Q I q => h.run pos pins s σ H Q I (i σ H Q q)⟩
theorem OpR.imp {X : Cx} {f : Value → Value → Sem Value} {r r' : R2} (h : OpR X f r) (i : ∀ x y H Q, r' x y H Q → r x y H Q) : OpR X f r' := fun pins s σ H x y v u Q I rx ry q => h pins s σ H x y v u Q I rx ry (i x y H Q q)
theorem CallR.imp {X : Cx} {f : Value} {r r' : List V → Hp → VK → Prop} (h : CallR X f r) (i : ∀ xs H Q, r' xs H Q → r xs H Q) : CallR X f r' := fun pins s σ H xs us Q I rx q => h pins s σ H xs us Q I rx (i xs H Q q)
abbrev W0 : XK := fun _ _ _ => False
/-- an operation on two values by its mirror -/
def rM (G : Gx) (g : T → T → MH → Res T) : R2 := fun v w H Q => ∃ m hp x y, Rel G m H hp ∧ R G m H x v ∧ R G m H y w ∧ Pst G m H (g x y hp) (fun z m' _ H' => ∀ u, R G m' H' z u → Q u H') W0
/-- a call of a known value by its mirror -/
def rMC (G : Gx) (g : List T → MH → Res T) : List V → Hp → VK → Prop := fun vs H Q => ∃ m hp xs, Rel G m H hp ∧ Rs G m H xs vs ∧ Pst G m H (g xs hp) (fun z m' _ H' => ∀ u, R G m' H' z u → Q u H') W0

section
variable {X : Cx} {cl : Cln} {W : WX} {a b c e : Expr} {es : List Expr} {f g : EM} {pos : Pos}
/-- two in a row, then k -/
theorem two_ok {σ : St} {H : Hp} {Q : VK} {k : T → T → MH → Res T} (h : tM (gx X cl) W (fun r hp => (f r hp).bind fun x h1 => (g r h1).bind fun y h2 => k x y h2) σ H Q) :
    tM (gx X cl) W f σ H fun v H1 => tM (gx X cl) W g σ H1 fun w H2 => ∃ m hp x y, Rel (gx X cl) m H2 hp ∧ R (gx X cl) m H2 x v ∧ R (gx X cl) m H2 y w ∧ Pst (gx X cl) m H2 (k x y hp) (fun z m' _ H' => ∀ u, R (gx X cl) m' H' z u → Q u H') (fun c d H' => W c d σ H') := by
  obtain ⟨r, hp, m, re, rel, p⟩ := h
  refine ⟨r, hp, m, re, rel, p.bind.mono (fun x m1 h1 H1 s1 q v rv => ?_) fun _ _ _ z => z⟩
  obtain ⟨rel1, p1⟩ := q
  refine ⟨r, h1, m1, re.step s1, rel1, p1.bind.mono (fun y m2 h2 H2 s2 q2 w rw' => ?_) fun _ _ _ z => z⟩
  exact ⟨m2, h2, x, y, q2.1, R.step s2 x v rv, rw', q2.2⟩
/-- the operation raises nothing -/
def NoX (g : T → T → MH → Res T) : Prop := ∀ x y h c fs h', g x y h ≠ .exc c fs h'
theorem Pst.nox {G : Gx} {m : Ml} {H : Hp} {α : Type} {r : Res α} {Q : α → Ml → MH → Hp → Prop} {W W' : XK} (n : ∀ c fs h', r ≠ .exc c fs h') (p : Pst G m H r Q W) : Pst G m H r Q W' := by
  cases r with
  | ok a hp => exact p
  | exc c fs hp => exact absurd rfl (n c fs hp)
  | bad => exact p
def emOp (k : T → T → MH → Res T) (f g : EM) : EM := fun r hp => (f r hp).bind fun x h1 => (g r h1).bind fun y h2 => k x y h2
theorem me_op {op : Operator} {k : T → T → MH → Res T} (ho : OpR X (binaryOp op) (rM (gx X cl) k)) (hn : NoX k) (ha : ME X cl W a f) (hb : ME X cl W b g) : ME X cl W (.BinOp a op b pos) (emOp k f g) := by
  refine ⟨PE.imp (pe_op ho ha.pe hb.pe) fun σ H Q h => ?_⟩
  obtain ⟨r, hp, m, re, rel, p⟩ := two_ok h
  refine ⟨r, hp, m, re, rel, p.mono (fun x m' h' H' s q v rv => ?_) fun _ _ _ z => z⟩
  obtain ⟨r2, hp2, m2, re2, rel2, p2⟩ := q v rv
  refine ⟨r2, hp2, m2, re2, rel2, p2.mono (fun y m3 h3 H3 s3 q3 w rw' => ?_) fun _ _ _ z => z⟩
  obtain ⟨m4, hp4, x4, y4, rel4, rx, ry, p4⟩ := q3 w rw'
  exact ⟨m4, hp4, x4, y4, rel4, rx, ry, p4.nox (hn _ _ _)⟩
theorem me_cmp {op : CmpOp} {k : T → T → MH → Res T} (ho : OpR X (compareOp op) (rM (gx X cl) k)) (hn : NoX k) (ha : ME X cl W a f) (hb : ME X cl W b g) (hm : behindInMarks op b = false) : ME X cl W (.Compare a [op] [b] pos) (emOp k f g) := by
  refine ⟨PE.imp (pe_cmpR ho ha.pe hb.pe hm) fun σ H Q h => ?_⟩
  obtain ⟨r, hp, m, re, rel, p⟩ := two_ok h
  refine ⟨r, hp, m, re, rel, p.mono (fun x m' h' H' s q v rv => ?_) fun _ _ _ z => z⟩
  obtain ⟨r2, hp2, m2, re2, rel2, p2⟩ := q v rv
  refine ⟨r2, hp2, m2, re2, rel2, p2.mono (fun y m3 h3 H3 s3 q3 w rw' => ?_) fun _ _ _ z => z⟩
  obtain ⟨m4, hp4, x4, y4, rel4, rx, ry, p4⟩ := q3 w rw'
  exact ⟨m4, hp4, x4, y4, rel4, rx, ry, p4.nox (hn _ _ _)⟩
/-- a value that must be a truth value -/
def isBl : T → MH → Res Bool
  | .bl b, h => .ok b h
  | _, _ => .bad
theorem isBl_ok {G : Gx} {m : Ml} {H : Hp} {x : T} {hp : MH} {v : V} {Q : Bool → Ml → MH → Hp → Prop} {W : XK} (rv : R G m H x v) (rel : Rel G m H hp) (p : Pst G m H (isBl x hp) Q W) : ∃ k, v = .bl k ∧ Q k m hp H := by
  cases x with
  | bl k =>
    simp only [R] at rv
    exact ⟨k, rv, p.ok_ rel⟩
  | _ => exact p.elim
def tmOf (f : EM) : TM := fun r hp => (f r hp).bind isBl
theorem mt_cmp {op : CmpOp} {k : T → T → MH → Res T} (ho : OpR X (compareOp op) (rM (gx X cl) k)) (hn : NoX k) (ha : ME X cl W a f) (hb : ME X cl W b g) (hm : behindInMarks op b = false) : MT X cl W (.Compare a [op] [b] pos) (tmOf (emOp k f g)) := by
  refine ⟨PT.imp (pt_cmpR ho ha.pe hb.pe hm) fun σ H Q h => ?_⟩
  have h' : tM (gx X cl) W (emOp k f g) σ H fun x H' => ∃ b, x = .bl b ∧ Q b H' := by
    obtain ⟨r, hp, m, re, rel, p⟩ := h
    refine ⟨r, hp, m, re, rel, p.bind.mono (fun x m' h' H' s q v rv => ?_) fun _ _ _ z => z⟩
    obtain ⟨b, e, q⟩ := isBl_ok rv q.1 q.2
    exact ⟨b, e, q⟩
  obtain ⟨r, hp, m, re, rel, p⟩ := two_ok h'
  refine ⟨r, hp, m, re, rel, p.mono (fun x m' h' H' s q v rv => ?_) fun _ _ _ z => z⟩
  obtain ⟨r2, hp2, m2, re2, rel2, p2⟩ := q v rv
  refine ⟨r2, hp2, m2, re2, rel2, p2.mono (fun y m3 h3 H3 s3 q3 w rw' => ?_) fun _ _ _ z => z⟩
  obtain ⟨m4, hp4, x4, y4, rel4, rx, ry, p4⟩ := q3 w rw'
  exact ⟨m4, hp4, x4, y4, rel4, rx, ry, p4.nox (hn _ _ _)⟩
end
end TW
namespace TW
open PySem PySem.Spec L2

/-! ### cells and new objects -/
section
variable {G : Gx} {m m' : Ml} {H H' : Hp} {hp : MH} {p a : Addr} {o : HO}
theorem RO.there {mo : MO} (h : RO G m H a mo) : ∃ o, H a = some o := by
  cases mo with
  | lst xs => obtain ⟨vs, e, _⟩ := h; exact ⟨_, e⟩
  | set xs => obtain ⟨S, c, e, _⟩ := h; exact ⟨_, e⟩
  | dK xs => obtain ⟨vs, e, _⟩ := h; exact ⟨_, e⟩
  | dT xs => obtain ⟨vs, e, _⟩ := h; exact ⟨_, e⟩
  | ins c fs => obtain ⟨_, _, vs, _, e, _⟩ := h; exact ⟨_, e⟩
/-- one more cell -/
def Ml.add (m : Ml) (p : Addr) : Ml := ⟨m.c ++ [p], m.z⟩
theorem Rel.at_mem (rel : Rel G m H hp) (h : p ∈ m.c) : ∃ (n : Nat) (mo : MO), m.c[n]? = some p ∧ hp[n]? = some mo ∧ RO G m H p mo := by
  obtain ⟨n, hn, e⟩ := List.mem_iff_getElem.mp h
  have h1 : m.c[n]? = some p := by rw [List.getElem?_eq_getElem hn, e]
  have h2 : n < hp.length := by rw [← rel.len]; exact hn
  exact ⟨n, hp[n], h1, List.getElem?_eq_getElem h2, rel.ob n p _ h1 (List.getElem?_eq_getElem h2)⟩
theorem Rel.free (rel : Rel G m H hp) (h : H p = none) : p ∉ m.c := fun hm => by
  obtain ⟨n, mo, _, _, ro⟩ := rel.at_mem hm
  obtain ⟨o, e⟩ := ro.there
  rw [h] at e; cases e
theorem Rel.freeZ (rel : Rel G m H hp) (h : H p = none) : m.no p := ⟨rel.free h, fun hz => by
  obtain ⟨o, _, e⟩ := rel.zs p hz
  rw [h] at e; cases e⟩
/-- the tables stand where no table, no code object is changed -/
theorem TabM.to (tb : TabM G m H) (e : ∀ b, (∃ o, H b = some o) → m.no b → H' b = H b ∧ m'.no b) : TabM G m' H' := fun q hq => by
  obtain ⟨ps, h1, n1, h2, h3⟩ := tb q hq
  obtain ⟨e1, n2⟩ := e q.1 ⟨_, h1⟩ n1
  refine ⟨ps, by rw [e1]; exact h1, n2, h2, fun pos cv hc => ?_⟩
  obtain ⟨c, e2, h4, n3⟩ := h3 pos cv hc
  obtain ⟨e3, n4⟩ := e c ⟨_, h4⟩ n3
  exact ⟨c, e2, by rw [e3]; exact h4, n4⟩
theorem Stp.new (h : H p = none) : Stp m m H (upd H p o) := ⟨rfl, ⟨[], by simp⟩, fun a u _ e n => ⟨by rw [upd_ne (ne_of_none e h)]; exact e, n⟩⟩
theorem Stp.newc (h : H p = none) : Stp m (m.add p) H (upd H p o) := ⟨rfl, ⟨[p], rfl⟩, fun a u _ e n => ⟨by rw [upd_ne (ne_of_none e h)]; exact e, by
  show a ∉ m.c ++ [p]
  rw [List.mem_append, List.mem_singleton]
  rintro (z | z)
  · exact n z
  · exact ne_of_none e h z⟩⟩
theorem Stp.wr (h : a ∈ m.c) : Stp m m H (upd H a o) := ⟨rfl, ⟨[], by simp⟩, fun b u _ e n => ⟨by rw [upd_ne (fun z : b = a => n (by rw [z]; exact h))]; exact e, n⟩⟩
theorem RO.wk {mo : MO} (h : RO G m H a mo) (s : Wk m m' H H') (e : H' a = H a) : RO G m' H' a mo := by
  cases mo with
  | lst xs => obtain ⟨vs, e1, q⟩ := h; exact ⟨vs, by rw [e]; exact e1, Rs.wk s _ _ q⟩
  | set xs => obtain ⟨S, c, e1, q⟩ := h; exact ⟨S, c, by rw [e]; exact e1, q⟩
  | dK xs => obtain ⟨vs, e1, q⟩ := h; exact ⟨vs, by rw [e]; exact e1, q.wk s⟩
  | dT xs => obtain ⟨vs, e1, q⟩ := h; exact ⟨vs, by rw [e]; exact e1, q.wk s⟩
  | ins c fs => obtain ⟨C, dx, vs, hc, e1, q⟩ := h; exact ⟨C, dx, vs, hc, by rw [e]; exact e1, q.wk s⟩
theorem RO.step {mo : MO} (h : RO G m H a mo) (s : Stp m m' H H') (e : H' a = H a) : RO G m' H' a mo := h.wk s.wk e
theorem upd_there {b : Addr} (h : ∃ u, H b = some u) : ∃ u, upd H p o b = some u := by
  unfold upd
  split
  · exact ⟨_, rfl⟩
  · exact h
theorem zs_ne {b : Addr} (h : ∃ u, NT u ∧ H b = some u) (hne : b ≠ p) : ∃ u, NT u ∧ upd H p o b = some u := by
  obtain ⟨u, t, e⟩ := h
  exact ⟨u, t, by rw [upd_ne hne]; exact e⟩
theorem zs_new {b : Addr} (h : ∃ u, NT u ∧ H b = some u) (hp : H p = none) : ∃ u, NT u ∧ upd H p o b = some u := by
  obtain ⟨u, t, e⟩ := id h
  exact zs_ne h (ne_of_none e hp)
theorem zs_any {b : Addr} (h : ∃ u, NT u ∧ H b = some u) (t : NT o) : ∃ u, NT u ∧ upd H p o b = some u := by
  by_cases e : b = p
  · rw [e]
    exact ⟨o, t, upd_same⟩
  · exact zs_ne h e
theorem Rel.new (rel : Rel G m H hp) (h : H p = none) : Rel G m (upd H p o) hp := ⟨rel.len, rel.nd, fun n a mo e1 e2 => by
  have ro := rel.ob n a mo e1 e2
  obtain ⟨u, e⟩ := ro.there
  exact ro.step (Stp.new h) (by rw [upd_ne (ne_of_none e h)]), fun a ha => zs_new (rel.zs a ha) h, rel.zd, rel.tb.to fun b hb n => ⟨by obtain ⟨o, q⟩ := hb; rw [upd_ne (ne_of_none q h)], n⟩⟩
theorem Rel.newc (rel : Rel G m H hp) (h : H p = none) {mo : MO} (new : RO G (m.add p) (upd H p o) p mo) : Rel G (m.add p) (upd H p o) (hp ++ [mo]) := by
  have np := rel.free h
  refine ⟨by simp [Ml.add, rel.len], ?_, fun n a mo' e1 e2 => ?_, fun a ha => zs_new (rel.zs a ha) h, fun a ha hc => ?_, rel.tb.to fun b hb n => ?_⟩
  · show (m.c ++ [p]).Nodup
    rw [List.nodup_append]
    refine ⟨rel.nd, by simp, fun x hx y hy => ?_⟩
    rw [List.mem_singleton] at hy
    subst hy
    exact fun z => np (z ▸ hx)
  · have e1 : (m.c ++ [p])[n]? = some a := e1
    by_cases hn : n < m.c.length
    · rw [List.getElem?_append_left hn] at e1
      rw [List.getElem?_append_left (by rw [← rel.len]; exact hn)] at e2
      have ro := rel.ob n a mo' e1 e2
      obtain ⟨u, e⟩ := ro.there
      exact ro.step (Stp.newc h) (by rw [upd_ne (ne_of_none e h)])
    · have hn' : n = m.c.length := by
        have := (List.getElem?_eq_some_iff.mp e1).1
        simp at this
        omega
      subst hn'
      rw [List.getElem?_append_right (Nat.le_refl _)] at e1
      rw [rel.len, List.getElem?_append_right (Nat.le_refl _)] at e2
      simp at e1 e2
      subst e1 e2
      exact new
  · have hc : a ∈ m.c ++ [p] := hc
    rw [List.mem_append, List.mem_singleton] at hc
    rcases hc with hc | rfl
    · exact rel.zd a ha hc
    · exact (rel.freeZ h).2 ha
  · obtain ⟨o, q⟩ := hb
    refine ⟨by rw [upd_ne (ne_of_none q h)], fun z => ?_, n.2⟩
    rcases List.mem_append.mp z with z | z
    · exact n.1 z
    · rw [List.mem_singleton] at z
      exact ne_of_none q h z
theorem Rel.wr (rel : Rel G m H hp) {n : Nat} (h : m.c[n]? = some a) {mo : MO} (new : RO G m (upd H a o) a mo) : Rel G m (upd H a o) (hp.set n mo) := by
  have ha : a ∈ m.c := List.mem_of_getElem? h
  refine ⟨by simp [rel.len], rel.nd, fun k b mo' e1 e2 => ?_, fun b hb => zs_ne (rel.zs b hb) (fun z => rel.zd b hb (by rw [z]; exact ha)), rel.zd, rel.tb.to fun b _ n => ⟨by rw [upd_ne (fun z : b = a => n.1 (by rw [z]; exact ha))], n⟩⟩
  by_cases hk : n = k
  · subst hk
    rw [h] at e1; cases e1
    have hl : n < hp.length := by rw [← rel.len]; exact (List.getElem?_eq_some_iff.mp h).1
    rw [List.getElem?_set_self hl] at e2
    cases e2
    exact new
  · rw [List.getElem?_set_ne hk] at e2
    have ro := rel.ob k b mo' e1 e2
    have hb : b ≠ a := by
      intro z
      subst z
      exact hk ((List.getElem_inj rel.nd).mp ((List.getElem?_eq_some_iff.mp h).2.trans (List.getElem?_eq_some_iff.mp e1).2.symm))
    exact ro.step (Stp.wr ha) (by rw [upd_ne hb])
/-- what is under way is changed -/
theorem Wk.pr {D : Addr} (h : D ∈ m.z) : Wk m m H (upd H D o) := ⟨⟨[], by simp⟩, fun b u _ e n => ⟨by rw [upd_ne (fun z : b = D => n.2 (by rw [z]; exact h))]; exact e, n⟩⟩
theorem Rel.pr (rel : Rel G m H hp) {D : Addr} (h : D ∈ m.z) (t : NT o := by intro _ z; cases z) : Rel G m (upd H D o) hp := ⟨rel.len, rel.nd, fun n a mo e1 e2 => by
  have hne : a ≠ D := fun z => rel.zd D h (by rw [← z]; exact List.mem_of_getElem? e1)
  exact (rel.ob n a mo e1 e2).wk (Wk.pr h) (by rw [upd_ne hne]), fun a ha => zs_any (rel.zs a ha) t, rel.zd, rel.tb.to fun b _ n => ⟨by rw [upd_ne (fun z : b = D => n.2 (by rw [z]; exact h))], n⟩⟩
/-- it is laid -/
def Ml.lay (m : Ml) (D : Addr) : Ml := ⟨m.c, D :: m.z⟩
theorem Wk.lay {D : Addr} (h : H D = none) : Wk m (m.lay D) H (upd H D o) := ⟨⟨[], by simp [Ml.lay]⟩, fun b u _ e n => ⟨by rw [upd_ne (ne_of_none e h)]; exact e, n.1, fun z => by
  rcases List.mem_cons.mp z with z | z
  · exact ne_of_none e h z
  · exact n.2 z⟩⟩
theorem Rel.lay (rel : Rel G m H hp) {D : Addr} (h : H D = none) (t : NT o := by intro _ z; cases z) : Rel G (m.lay D) (upd H D o) hp := ⟨rel.len, rel.nd, fun n a mo e1 e2 => by
  have ro := rel.ob n a mo e1 e2
  obtain ⟨u, e⟩ := ro.there
  exact ro.wk (Wk.lay h) (by rw [upd_ne (ne_of_none e h)]), fun a ha => by
  rcases List.mem_cons.mp ha with rfl | ha
  · exact ⟨_, t, upd_same⟩
  · exact zs_new (rel.zs a ha) h, fun a ha hc => by
  rcases List.mem_cons.mp ha with rfl | ha
  · exact rel.free h hc
  · exact rel.zd a ha hc, rel.tb.to fun b hb n => by
  obtain ⟨o, q⟩ := hb
  refine ⟨by rw [upd_ne (ne_of_none q h)], n.1, fun z => ?_⟩
  rcases List.mem_cons.mp z with z | z
  · exact ne_of_none q h z
  · exact n.2 z⟩
/-- it is handed out -/
theorem Wk.out {D : Addr} {z : List Addr} (h : m.z = D :: z) : Wk m ⟨m.c, z⟩ H H := ⟨⟨[], by simp⟩, fun b u _ e n => ⟨e, n.1, fun q => n.2 (by rw [h]; exact List.mem_cons_of_mem _ q)⟩⟩
theorem Rel.out (rel : Rel G m H hp) {D : Addr} {z : List Addr} (h : m.z = D :: z) : Rel G ⟨m.c, z⟩ H hp := ⟨rel.len, rel.nd, fun n a mo e1 e2 => (rel.ob n a mo e1 e2).wk (Wk.out h) rfl, fun a ha => rel.zs a (by rw [h]; exact List.mem_cons_of_mem _ ha), fun a ha => rel.zd a (by rw [h]; exact List.mem_cons_of_mem _ ha), rel.tb.to fun b _ n => ⟨rfl, n.1, fun q => n.2 (by rw [h]; exact List.mem_cons_of_mem _ q)⟩⟩
theorem Rel.cell (rel : Rel G m H hp) {n : Nat} {v : V} {mo : MO} (h : R G m H (.loc n) v) (e : hp[n]? = some mo) : ∃ a, m.c[n]? = some a ∧ v = .ref a ∧ RO G m H a mo := by
  simp only [R] at h
  obtain ⟨a, e1, e2⟩ := h
  exact ⟨a, e1, e2, rel.ob n a mo e1 e⟩
/-- a value handed out at once -/
theorem Pst.done {α : Type} {x : α} {Q : α → Ml → MH → Hp → Prop} {W : XK} (h : ∀ m' H', Stp m m' H H' → Rel G m' H' hp → Q x m' hp H') : Pst G m H (.ok x hp) Q W := h
end

/-! ### readings by one value, by arguments -/
section
variable {X : Cx} {cl : Cln} {W : WX} {a b c e : Expr} {es : List Expr} {f g : EM} {fa : AM} {pos : Pos}
theorem one_ok {σ : L2.St} {H : Hp} {Q : VK} {k : T → MH → Res T} (h : tM (gx X cl) W (fun r hp => (f r hp).bind k) σ H Q) :
    tM (gx X cl) W f σ H fun v H1 => ∃ m hp x, Rel (gx X cl) m H1 hp ∧ R (gx X cl) m H1 x v ∧ Pst (gx X cl) m H1 (k x hp) (fun z m' _ H' => ∀ u, R (gx X cl) m' H' z u → Q u H') (fun c d H' => W c d σ H') := by
  obtain ⟨r, hp, m, re, rel, p⟩ := h
  exact ⟨r, hp, m, re, rel, p.bind.mono (fun x m1 h1 H1 s1 q v rv => ⟨m1, h1, x, q.1, rv, q.2⟩) fun _ _ _ z => z⟩
theorem args_ok {σ : L2.St} {H : Hp} {Q : VK} {k : List T → MH → Res T} (h : tM (gx X cl) W (fun r hp => (fa r hp).bind k) σ H Q) :
    tMA (gx X cl) W fa σ H fun vs H1 => ∃ m hp xs, Rel (gx X cl) m H1 hp ∧ Rs (gx X cl) m H1 xs vs ∧ Pst (gx X cl) m H1 (k xs hp) (fun z m' _ H' => ∀ u, R (gx X cl) m' H' z u → Q u H') (fun c d H' => W c d σ H') := by
  obtain ⟨r, hp, m, re, rel, p⟩ := h
  exact ⟨r, hp, m, re, rel, p.bind.mono (fun x m1 h1 H1 s1 q v rv => ⟨m1, h1, x, q.1, rv, q.2⟩) fun _ _ _ z => z⟩
theorem tM.mono {G : Gx} {σ : L2.St} {H : Hp} {Q Q' : VK} (h : tM G W f σ H Q) (i : ∀ v H', Q v H' → Q' v H') : tM G W f σ H Q' := by
  obtain ⟨r, hp, m, re, rel, p⟩ := h
  exact ⟨r, hp, m, re, rel, p.mono (fun x m1 h1 H1 s1 q v rv => i _ _ (q v rv)) fun _ _ _ z => z⟩

/-! ### names, constants -/
def vr (i : Nat) : EM := fun r hp => match r[i]? with
  | some (some x) => .ok x hp
  | _ => .bad
theorem me_v (i : Nat) {x : Str} (hN : X.N[i]? = some x := by rfl) (hv : Vis X.env.scope x := by first | exact Or.inl rfl | exact Or.inr (Or.inl rfl) | exact Or.inr (Or.inr rfl)) (hd : (x == ("__debug__" : Str)) = false := by decide)
    (hcd : (x == ("__classdict__" : Str)) = false := by decide) : ME X cl W (.Name x pos) (vr i) := by
  refine ⟨PE.imp (pe_var hN hv hd hcd) fun σ H Q h => ?_⟩
  obtain ⟨r, hp, m, re, rel, p⟩ := h
  unfold vr at p
  split at p
  · rename_i x e
    obtain ⟨v, e1, q⟩ := re.at_ i x e
    exact ⟨v, e1, p.ok_ rel v q⟩
  · exact p.elim
def cst (x : T) : EM := fun _ hp => .ok x hp
theorem me_c {x : T} {v : V} (h : PE X e (tC v)) (hR : ∀ m H, R (gx X cl) m H x v := by intro _ _; exact rfl) : ME X cl W e (cst x) := by
  refine ⟨PE.imp h fun σ H Q h => ?_⟩
  obtain ⟨r, hp, m, re, rel, p⟩ := h
  exact p.ok_ rel v (hR _ _)
theorem me_int {i : Int} {j : Nat} : ME X cl W (.Constant (.int i) j pos) (cst (.int i)) := me_c pe_int fun m H => by simp only [R]
theorem me_bl {i : Bool} {j : Nat} : ME X cl W (.Constant (.bool i) j pos) (cst (.bl i)) := me_c pe_bl fun m H => by simp only [R]
theorem me_non {j : Nat} : ME X cl W (.Constant .none j pos) (cst .non) := me_c pe_non fun m H => by simp only [R]
theorem me_str {s : Str} {j : Nat} : ME X cl W (.Constant (.str s) j pos) (cst (.str s)) := me_c pe_str fun m H => by simp only [R]
/-- a module's constant -/
theorem me_gint {x : Str} {i : Int} (hg : Gl X x) (hm : ∃ t, X.mg x = some (.int i t)) (hd : (x == ("__debug__" : Str)) = false := by decide) : ME X cl W (.Name x pos) (cst (.int i)) := by
  obtain ⟨t, hm⟩ := hm
  exact me_c (v := .int i) (pe_glob hg hm ⟨t, rfl⟩ hd) fun m H => by simp only [R]
theorem me_gstr {x : Str} {i : Str} (hg : Gl X x) (hm : ∃ t, X.mg x = some (.str i t)) (hd : (x == ("__debug__" : Str)) = false := by decide) : ME X cl W (.Name x pos) (cst (.str i)) := by
  obtain ⟨t, hm⟩ := hm
  exact me_c (v := .str i) (pe_glob hg hm ⟨t, rfl⟩ hd) fun m H => by simp only [R]

/-! ### arguments, displays -/
def an : AM := fun _ hp => .ok [] hp
def ac (f : EM) (g : AM) : AM := fun r hp => (f r hp).bind fun x h1 => (g r h1).bind fun xs h2 => .ok (x :: xs) h2
theorem ma_n : MA X cl W [] an := ⟨PA.imp pa_nil fun σ H Q h => by
  obtain ⟨r, hp, m, re, rel, p⟩ := h
  exact p.ok_ rel [] Rs.nil⟩
theorem ma_c {g : AM} (ha : ME X cl W e f) (hr : MA X cl W es g) (hs : starEach (e :: es) X.env = (false, eval e X.env) :: starEach es X.env := by rfl) : MA X cl W (e :: es) (ac f g) := by
  refine ⟨PA.imp (pa_cons ha.pe hr.pa hs) fun σ H Q h => ?_⟩
  obtain ⟨r, hp, m, re, rel, p⟩ := h
  refine ⟨r, hp, m, re, rel, p.bind.mono (fun x m1 h1 H1 s1 q v rv => ?_) fun _ _ _ z => z⟩
  refine ⟨r, h1, m1, re.step s1, q.1, q.2.bind.mono (fun xs m2 h2 H2 s2 q2 vs rvs => ?_) fun _ _ _ z => z⟩
  exact q2.2.ok_ q2.1 _ (Rs.cons (R.step s2 _ _ rv) rvs)
def tupK (xs : List T) (hp : MH) : Res T := if xs.length ≤ sizeLine then .ok (.tup xs) hp else .bad
def emT (g : AM) : EM := fun r hp => (g r hp).bind tupK
theorem tup_new {G : Gx} {m : Ml} {H : Hp} {hp : MH} {xs : List T} {vs : List V} {p : Addr} (rel : Rel G m H hp) (rs : Rs G m H xs vs) (h : H p = none) : R G m (upd H p (.tup vs)) (.tup xs) (.ref p) := by
  simp only [R]
  exact ⟨p, vs, rfl, ⟨upd_same, rel.freeZ h⟩, Rs.step (Stp.new h) _ _ rs⟩
theorem lst_new {G : Gx} {m : Ml} {H : Hp} {hp : MH} {xs : List T} {vs : List V} {p : Addr} (rel : Rel G m H hp) (rs : Rs G m H xs vs) (h : H p = none) : R G m (upd H p (.lst vs)) (.lst xs) (.ref p) := by
  simp only [R]
  exact ⟨p, vs, rfl, ⟨upd_same, rel.freeZ h⟩, Rs.step (Stp.new h) _ _ rs⟩
theorem me_tup {g : AM} {x1} (h : MA X cl W es g) : ME X cl W (.Tuple es x1 pos) (emT g) := by
  refine ⟨PE.imp (pe_tup h.pa) fun σ H Q h => ?_⟩
  obtain ⟨r, hp, m, re, rel, p⟩ := args_ok h
  refine ⟨r, hp, m, re, rel, p.mono (fun xs m' h' H' s q vs rv => ?_) fun _ _ _ z => z⟩
  obtain ⟨m2, hp2, ys, rel2, rs, p2⟩ := q vs rv
  unfold tupK at p2
  split at p2
  · rename_i hl
    refine ⟨by rw [← Rs.len rs]; exact hl, fun a ha => ?_⟩
    exact p2 m2 _ (Stp.new ha) (rel2.new ha) _ (tup_new rel2 rs ha)
  · exact p2.elim
/-- a list that nobody writes -/
def lstK (xs : List T) (hp : MH) : Res T := if xs.length ≤ sizeLine then .ok (.lst xs) hp else .bad
/-- a list in a cell -/
def lstL (xs : List T) (hp : MH) : Res T := if xs.length ≤ sizeLine then .ok (.loc hp.length) (hp ++ [.lst xs]) else .bad
def emL (k : List T → MH → Res T) (g : AM) : EM := fun r hp => (g r hp).bind k
theorem cell_new {G : Gx} {m : Ml} {H : Hp} {hp : MH} {xs : List T} {vs : List V} {p : Addr} (rel : Rel G m H hp) (rs : Rs G m H xs vs) (h : H p = none) :
    Stp m (m.add p) H (upd H p (.lst vs)) ∧ Rel G (m.add p) (upd H p (.lst vs)) (hp ++ [.lst xs]) ∧ R G (m.add p) (upd H p (.lst vs)) (.loc hp.length) (.ref p) := by
  have s : Stp m (m.add p) H (upd H p (.lst vs)) := Stp.newc h
  refine ⟨s, rel.newc h ⟨vs, upd_same, Rs.step s _ _ rs⟩, ?_⟩
  simp only [R]
  refine ⟨p, ?_, rfl⟩
  show (m.c ++ [p])[_]? = _
  rw [← rel.len, List.getElem?_append_right (Nat.le_refl _)]
  simp
/-- what makes a new list of values: either way -/
theorem lst_two {G : Gx} {k : List T → MH → Res T} (hk : k = lstK ∨ k = lstL) {m : Ml} {H : Hp} {hp : MH} {xs : List T} {vs : List V} {Q : VK} {W : XK} (rel : Rel G m H hp) (rs : Rs G m H xs vs)
    (p : Pst G m H (k xs hp) (fun z m' _ H' => ∀ u, R G m' H' z u → Q u H') W) : xs.length ≤ sizeLine ∧ ∀ a, H a = none → Q (.ref a) (upd H a (.lst vs)) := by
  rcases hk with rfl | rfl
  · unfold lstK at p
    split at p
    · rename_i hl
      exact ⟨hl, fun a ha => p m _ (Stp.new ha) (rel.new ha) _ (lst_new rel rs ha)⟩
    · exact p.elim
  · unfold lstL at p
    split at p
    · rename_i hl
      refine ⟨hl, fun a ha => ?_⟩
      obtain ⟨s, r2, q⟩ := cell_new rel rs ha
      exact p _ _ s r2 _ q
    · exact p.elim
theorem me_lst {g : AM} {k : List T → MH → Res T} (hk : k = lstK ∨ k = lstL) (h : MA X cl W es g) : ME X cl W (.List es pos) (emL k g) := by
  refine ⟨PE.imp (pe_lst h.pa) fun σ H Q h => ?_⟩
  obtain ⟨r, hp, m, re, rel, p⟩ := args_ok h
  refine ⟨r, hp, m, re, rel, p.mono (fun xs m' h' H' s q vs rv => ?_) fun _ _ _ z => z⟩
  obtain ⟨m2, hp2, ys, rel2, rs, p2⟩ := q vs rv
  obtain ⟨hl, q2⟩ := lst_two hk rel2 rs p2
  exact ⟨by rw [← Rs.len rs]; exact hl, q2⟩

/-! ### tests -/
def tAn (f g : TM) : TM := fun r hp => (f r hp).bind fun c h1 => if c = true then g r h1 else .ok false h1
def tOrr (f g : TM) : TM := fun r hp => (f r hp).bind fun c h1 => if c = true then .ok true h1 else g r h1
def tNo (f : TM) : TM := fun r hp => (f r hp).bind fun c h1 => .ok (!c) h1
structure MW (X : Cx) (cl : Cln) (W : WX) (e : Expr) (f : TM) : Prop where
  pw : PW X e (tMT (gx X cl) W f)
theorem MW.mt {f : TM} (h : MW X cl W e f) : MT X cl W e f := ⟨h.pw.pt⟩
theorem PW.imp {t t' : TT} (h : PW X e t) (i : ∀ σ H Q, t' σ H Q → t σ H Q) : PW X e t' := ⟨fun wh pins s σ H Q I q => h.run wh pins s σ H Q I (i σ H Q q)⟩
variable {F F' : TM} {rest : List Expr}
theorem mw_a1 (h : MT X cl W a F) : MW X cl W (.BoolOp .And [a] pos) F := ⟨pw_and1 h.pt⟩
theorem mw_o1 (h : MT X cl W a F) : MW X cl W (.BoolOp .Or [a] pos) F := ⟨pw_or1 h.pt⟩
theorem mw_and (ha : MT X cl W a F) (hb : MW X cl W (.BoolOp .And (b :: rest) pos) F') : MW X cl W (.BoolOp .And (a :: b :: rest) pos) (tAn F F') := by
  refine ⟨PW.imp (pw_and ha.pt hb.pw) fun σ H Q h => ?_⟩
  obtain ⟨r, hp, m, re, rel, p⟩ := h
  refine ⟨r, hp, m, re, rel, p.bind.mono (fun b m1 h1 H1 s1 q => ?_) fun _ _ _ z => z⟩
  cases b with
  | true => exact ⟨r, h1, m1, re.step s1, q.1, q.2⟩
  | false => exact q.2.ok_ q.1
theorem mw_or (ha : MT X cl W a F) (hb : MW X cl W (.BoolOp .Or (b :: rest) pos) F') : MW X cl W (.BoolOp .Or (a :: b :: rest) pos) (tOrr F F') := by
  refine ⟨PW.imp (pw_or ha.pt hb.pw) fun σ H Q h => ?_⟩
  obtain ⟨r, hp, m, re, rel, p⟩ := h
  refine ⟨r, hp, m, re, rel, p.bind.mono (fun b m1 h1 H1 s1 q => ?_) fun _ _ _ z => z⟩
  cases b with
  | false => exact ⟨r, h1, m1, re.step s1, q.1, q.2⟩
  | true => exact q.2.ok_ q.1
theorem mt_not (ha : MT X cl W a F) : MT X cl W (.UnaryOp .Not a pos) (tNo F) := by
  refine ⟨PT.imp (pt_not ha.pt) fun σ H Q h => ?_⟩
  obtain ⟨r, hp, m, re, rel, p⟩ := h
  refine ⟨r, hp, m, re, rel, p.bind.mono (fun b m1 h1 H1 s1 q => ?_) fun _ _ _ z => z⟩
  exact q.2.ok_ q.1
/-- as values -/
def eAn (f g : EM) : EM := fun r hp => (f r hp).bind fun x h1 => match x with
  | .bl true => g r h1
  | .bl false => .ok (.bl false) h1
  | _ => .bad
def eOr (f g : EM) : EM := fun r hp => (f r hp).bind fun x h1 => match x with
  | .bl false => g r h1
  | .bl true => .ok (.bl true) h1
  | _ => .bad
def eNo (f : EM) : EM := fun r hp => (f r hp).bind fun x h1 => match x with
  | .bl b => .ok (.bl (!b)) h1
  | _ => .bad
theorem me_b1 {op : BoolOp} (h : ME X cl W a f) : ME X cl W (.BoolOp op [a] pos) f := ⟨pe_one h.pe⟩
theorem me_and (ha : ME X cl W a f) (hb : ME X cl W (.BoolOp .And (b :: rest) pos) g) : ME X cl W (.BoolOp .And (a :: b :: rest) pos) (eAn f g) := by
  refine ⟨PE.imp (pe_and ha.pe hb.pe) fun σ H Q h => ?_⟩
  obtain ⟨r, hp, m, re, rel, p⟩ := h
  refine ⟨r, hp, m, re, rel, p.bind.mono (fun x m1 h1 H1 s1 q v rv => ?_) fun _ _ _ z => z⟩
  cases x with
  | bl c =>
    simp only [R] at rv
    refine ⟨c, rv, ?_⟩
    cases c with
    | true => exact ⟨r, h1, m1, re.step s1, q.1, q.2⟩
    | false => exact q.2.ok_ q.1 _ (by simp only [R])
  | _ => exact q.2.elim
theorem me_or (ha : ME X cl W a f) (hb : ME X cl W (.BoolOp .Or (b :: rest) pos) g) : ME X cl W (.BoolOp .Or (a :: b :: rest) pos) (eOr f g) := by
  refine ⟨PE.imp (pe_or ha.pe hb.pe) fun σ H Q h => ?_⟩
  obtain ⟨r, hp, m, re, rel, p⟩ := h
  refine ⟨r, hp, m, re, rel, p.bind.mono (fun x m1 h1 H1 s1 q v rv => ?_) fun _ _ _ z => z⟩
  cases x with
  | bl c =>
    simp only [R] at rv
    refine ⟨c, rv, ?_⟩
    cases c with
    | false => exact ⟨r, h1, m1, re.step s1, q.1, q.2⟩
    | true => exact q.2.ok_ q.1 _ (by simp only [R])
  | _ => exact q.2.elim
theorem me_not (ha : ME X cl W a f) : ME X cl W (.UnaryOp .Not a pos) (eNo f) := by
  refine ⟨PE.imp (pe_not ha.pe) fun σ H Q h => ?_⟩
  obtain ⟨r, hp, m, re, rel, p⟩ := h
  refine ⟨r, hp, m, re, rel, p.bind.mono (fun x m1 h1 H1 s1 q v rv => ?_) fun _ _ _ z => z⟩
  cases x with
  | bl c =>
    simp only [R] at rv
    exact ⟨c, rv, q.2.ok_ q.1 _ (by simp only [R])⟩
  | _ => exact q.2.elim
def eIf (t : TM) (f g : EM) : EM := fun r hp => (t r hp).bind fun c h1 => if c = true then f r h1 else g r h1
theorem me_if {c : Expr} (hc : MT X cl W c F) (ha : ME X cl W a f) (hb : ME X cl W b g) : ME X cl W (.IfExp c a b pos) (eIf F f g) := by
  refine ⟨PE.imp (pe_ifExp hc.pt ha.pe hb.pe) fun σ H Q h => ?_⟩
  obtain ⟨r, hp, m, re, rel, p⟩ := h
  refine ⟨r, hp, m, re, rel, p.bind.mono (fun b m1 h1 H1 s1 q => ?_) fun _ _ _ z => z⟩
  cases b with
  | true => exact ⟨r, h1, m1, re.step s1, q.1, q.2⟩
  | false => exact ⟨r, h1, m1, re.step s1, q.1, q.2⟩
/-- a value whose truth is asked: it must be a truth value (mt_tru: any) -/
theorem mt_val (h : ME X cl W a f) (he : ∀ whole, isTrue a X.env whole = (do let v ← whole; standAt a.pos; holding [v] (truthy v)) := by intro _; rfl) : MT X cl W a (tmOf f) := by
  refine ⟨PT.imp (pt_val h.pe he) fun σ H Q h => ?_⟩
  obtain ⟨r, hp, m, re, rel, p⟩ := h
  refine ⟨r, hp, m, re, rel, p.bind.mono (fun x m1 h1 H1 s1 q v rv => ?_) fun _ _ _ z => z⟩
  exact isBl_ok rv q.1 q.2
end
end TW
namespace TW
open PySem PySem.Spec L2

/-! ### what a sequence holds -/
def lstAt (hp : MH) (n : Nat) : Option (List T) := match hp[n]? with
  | some (.lst xs) => some xs
  | _ => none
/-- a list's items (read) -/
def lsOf (hp : MH) : T → Option (List T)
  | .lst xs => some xs
  | .klst xs => some xs
  | .loc n => lstAt hp n
  | _ => none
/-- a list's items, the list no locked one -/
def lsW (hp : MH) : T → Option (List T)
  | .lst xs => some xs
  | .loc n => lstAt hp n
  | _ => none
/-- a tuple's items -/
def tpOf : T → Option (List T)
  | .tup xs => some xs
  | .ktup xs => some xs
  | _ => none
section
variable {G : Gx} {m : Ml} {H : Hp} {hp : MH} {x : T} {v : V} {xs : List T}
theorem lstAt_ok (rel : Rel G m H hp) {n : Nat} (h : R G m H (.loc n) v) (e : lstAt hp n = some xs) : ∃ a vs, m.c[n]? = some a ∧ v = .ref a ∧ H a = some (.lst vs) ∧ Rs G m H xs vs := by
  unfold lstAt at e
  split at e
  · rename_i ys q
    cases e
    obtain ⟨a, e1, e2, vs, e3, rs⟩ := rel.cell h q
    exact ⟨a, vs, e1, e2, e3, rs⟩
  · cases e
theorem lsOf_ok (rel : Rel G m H hp) (h : R G m H x v) (e : lsOf hp x = some xs) : ∃ a vs, v = .ref a ∧ SqL G.K H a vs ∧ Rs G m H xs vs := by
  cases x with
  | lst ys =>
    cases e
    simp only [R] at h
    obtain ⟨a, vs, rfl, f, rs⟩ := h
    exact ⟨a, vs, rfl, SqL.of f.1, rs⟩
  | klst ys =>
    cases e
    simp only [R] at h
    obtain ⟨a, vs, rfl, f, rs⟩ := h
    exact ⟨a, vs, rfl, f.elim (fun f => .inl f.1) .inr, rs⟩
  | loc n =>
    obtain ⟨a, vs, _, e2, e3, rs⟩ := lstAt_ok rel h e
    exact ⟨a, vs, e2, SqL.of e3, rs⟩
  | _ => cases e
theorem lsW_ok (rel : Rel G m H hp) (h : R G m H x v) (e : lsW hp x = some xs) : ∃ a vs, v = .ref a ∧ H a = some (.lst vs) ∧ Rs G m H xs vs := by
  cases x with
  | lst ys =>
    cases e
    simp only [R] at h
    obtain ⟨a, vs, rfl, f, rs⟩ := h
    exact ⟨a, vs, rfl, f.1, rs⟩
  | loc n =>
    obtain ⟨a, vs, _, e2, e3, rs⟩ := lstAt_ok rel h e
    exact ⟨a, vs, e2, e3, rs⟩
  | _ => cases e
theorem tpOf_ok (h : R G m H x v) (e : tpOf x = some xs) : ∃ a vs, v = .ref a ∧ SqT G.K H a vs ∧ Rs G m H xs vs := by
  cases x with
  | tup ys =>
    cases e
    simp only [R] at h
    obtain ⟨a, vs, rfl, f, rs⟩ := h
    exact ⟨a, vs, rfl, SqT.of f.1, rs⟩
  | ktup ys =>
    cases e
    simp only [R] at h
    obtain ⟨a, vs, rfl, f, rs⟩ := h
    exact ⟨a, vs, rfl, .inr f, rs⟩
  | _ => cases e
end

/-! ### values as data -/
def mapO {α β : Type} (f : α → Option β) : List α → Option (List β)
  | [] => some []
  | x :: xs => match f x with
    | some y => (match mapO f xs with
      | some ys => some (y :: ys)
      | none => none)
    | none => none
def toD (hp : MH) : Nat → T → Option PyData
  | _, .non => some .none
  | _, .bl b => some (.bool b)
  | _, .int i => some (.int i)
  | _, .str s => some (.str s)
  | k + 1, .tup xs => (mapO (toD hp k) xs).map .tuple
  | k + 1, .ktup xs => (mapO (toD hp k) xs).map .tuple
  | k + 1, .lst xs => (mapO (toD hp k) xs).map .list
  | k + 1, .klst xs => (mapO (toD hp k) xs).map .list
  | k + 1, .loc n => (match lstAt hp n with
    | some xs => (mapO (toD hp k) xs).map .list
    | none => none)
  | _, _ => none
/-- how deep data may lie -/
abbrev deep : Nat := 14
section
variable {G : Gx} {m : Ml} {H : Hp} {hp : MH}
theorem mapO_some {α β : Type} {f : α → Option β} {x : α} {xs : List α} {zs : List β} (h : mapO f (x :: xs) = some zs) : ∃ y ys, f x = some y ∧ mapO f xs = some ys ∧ zs = y :: ys := by
  simp only [mapO] at h
  split at h
  · rename_i y e
    split at h
    · rename_i ys e2
      cases h
      exact ⟨y, ys, e, e2, rfl⟩
    · cases h
  · cases h
theorem mapO_len {α β : Type} {f : α → Option β} : ∀ {xs : List α} {zs : List β}, mapO f xs = some zs → xs.length = zs.length
  | [], _, h => by cases h; rfl
  | x :: xs, _, h => by
    obtain ⟨y, ys, _, e, rfl⟩ := mapO_some h
    simp [mapO_len e]
theorem toDs_ok {f : T → Option PyData} (h : ∀ x v d, R G m H x v → f x = some d → Dp G.K H v d) : ∀ (xs : List T) (vs : List V) (ds : List PyData), Rs G m H xs vs → mapO f xs = some ds → DpAll G.K H vs ds
  | [], vs, ds, rs, e => by
    rw [Rs.nil_iff.mp rs]
    cases e
    exact .nil
  | x :: xs, vs, ds, rs, e => by
    obtain ⟨v, r, rfl, h1, h2⟩ := Rs.cons_iff.mp rs
    obtain ⟨y, ys, e1, e2, rfl⟩ := mapO_some e
    exact .cons (h x v y h1 e1) (toDs_ok h xs r ys h2 e2)
theorem toD_ok (rel : Rel G m H hp) : ∀ (k : Nat) (x : T) (v : V) (d : PyData), R G m H x v → toD hp k x = some d → Dp G.K H v d := by
  intro k
  induction k with
  | zero =>
    intro x v d h e
    cases x <;> first
      | (cases e; done)
      | (simp only [R] at h; subst h; cases e; constructor)
  | succ k ih =>
    intro x v d h e
    cases x with
    | non => simp only [R] at h; subst h; cases e; constructor
    | bl b => simp only [R] at h; subst h; cases e; constructor
    | int b => simp only [R] at h; subst h; cases e; constructor
    | str b => simp only [R] at h; subst h; cases e; constructor
    | tup xs =>
      obtain ⟨a, vs, rfl, sq, rs⟩ := tpOf_ok (xs := xs) h rfl
      obtain ⟨ds, e1, rfl⟩ := Option.map_eq_some_iff.mp (show (mapO (toD hp k) xs).map PyData.tuple = some d from e)
      exact .tup sq (toDs_ok ih xs vs ds rs e1)
    | ktup xs =>
      obtain ⟨a, vs, rfl, sq, rs⟩ := tpOf_ok (xs := xs) h rfl
      obtain ⟨ds, e1, rfl⟩ := Option.map_eq_some_iff.mp (show (mapO (toD hp k) xs).map PyData.tuple = some d from e)
      exact .tup sq (toDs_ok ih xs vs ds rs e1)
    | lst xs =>
      obtain ⟨a, vs, rfl, sq, rs⟩ := lsOf_ok (xs := xs) rel h rfl
      obtain ⟨ds, e1, rfl⟩ := Option.map_eq_some_iff.mp (show (mapO (toD hp k) xs).map PyData.list = some d from e)
      exact .lst sq (toDs_ok ih xs vs ds rs e1)
    | klst xs =>
      obtain ⟨a, vs, rfl, sq, rs⟩ := lsOf_ok (xs := xs) rel h rfl
      obtain ⟨ds, e1, rfl⟩ := Option.map_eq_some_iff.mp (show (mapO (toD hp k) xs).map PyData.list = some d from e)
      exact .lst sq (toDs_ok ih xs vs ds rs e1)
    | loc n =>
      have e0 : (match lstAt hp n with
        | some xs => (mapO (toD hp k) xs).map PyData.list
        | none => none) = some d := e
      split at e0
      · rename_i xs q
        obtain ⟨a, vs, rfl, sq, rs⟩ := lsOf_ok (xs := xs) rel h q
        obtain ⟨ds, e1, rfl⟩ := Option.map_eq_some_iff.mp e0
        exact .lst sq (toDs_ok ih xs vs ds rs e1)
      · cases e0
    | _ => cases e
theorem toD_plain : ∀ (k : Nat) (x : T) (d : PyData), toD hp k x = some d → d.plain = true ∧ d.depth ≤ k := by
  have all : ∀ (f : T → Option PyData) (k : Nat), (∀ x d, f x = some d → d.plain = true ∧ d.depth ≤ k) → ∀ (xs : List T) (ds : List PyData), mapO f xs = some ds → PyData.plainAll ds = true ∧ PyData.depthAll ds ≤ k := by
    intro f k hf xs
    induction xs with
    | nil => intro ds e; cases e; exact ⟨rfl, Nat.zero_le _⟩
    | cons x xs ih =>
      intro ds e
      obtain ⟨y, ys, e1, e2, rfl⟩ := mapO_some e
      obtain ⟨h1, h2⟩ := hf x y e1
      obtain ⟨h3, h4⟩ := ih ys e2
      exact ⟨by simp only [PyData.plainAll, h1, h3]; rfl, by simp only [PyData.depthAll]; omega⟩
  intro k
  induction k with
  | zero =>
    intro x d e
    cases x <;> first
      | (cases e; done)
      | (cases e; exact ⟨rfl, Nat.le_refl _⟩)
  | succ k ih =>
    intro x d e
    have seqT : ∀ xs, (mapO (toD hp k) xs).map PyData.tuple = some d → d.plain = true ∧ d.depth ≤ k + 1 := fun xs e => by
      obtain ⟨ds, e1, rfl⟩ := Option.map_eq_some_iff.mp e
      obtain ⟨h1, h2⟩ := all _ k ih xs ds e1
      exact ⟨by simp only [PyData.plain]; exact h1, by simp only [PyData.depth]; omega⟩
    have seqL : ∀ xs, (mapO (toD hp k) xs).map PyData.list = some d → d.plain = true ∧ d.depth ≤ k + 1 := fun xs e => by
      obtain ⟨ds, e1, rfl⟩ := Option.map_eq_some_iff.mp e
      obtain ⟨h1, h2⟩ := all _ k ih xs ds e1
      exact ⟨by simp only [PyData.plain]; exact h1, by simp only [PyData.depth]; omega⟩
    cases x with
    | tup xs => exact seqT xs e
    | ktup xs => exact seqT xs e
    | lst xs => exact seqL xs e
    | klst xs => exact seqL xs e
    | loc n =>
      have e0 : (match lstAt hp n with
        | some xs => (mapO (toD hp k) xs).map PyData.list
        | none => none) = some d := e
      split at e0
      · exact seqL _ e0
      · cases e0
    | _ => first
      | (cases e; done)
      | (cases e; exact ⟨rfl, Nat.zero_le _⟩)
end

/-! ### operators -/
section
variable {X : Cx} {cl : Cln}
/-- ints in, under C -/
def iT (C : Int → Int → Bool) (g : Int → Int → T) (x y : T) (hp : MH) : Res T := match x, y with
  | .int i, .int j => if C i j = true then .ok (g i j) hp else .bad
  | _, _ => .bad
theorem iT_nox {C : Int → Int → Bool} {g : Int → Int → T} : NoX (iT C g) := fun x y h c fs h' e => by
  unfold iT at e
  split at e
  · split at e <;> cases e
  · cases e
theorem op_iT {f : Value → Value → Sem Value} {C : Int → Int → Prop} {Cb : Int → Int → Bool} {gv : Int → Int → V} {g : Int → Int → T} (h : OpR X f (rI C gv)) (hc : ∀ i j, Cb i j = true → C i j) (hr : ∀ i j m H, R (gx X cl) m H (g i j) (gv i j)) :
    OpR X f (rM (gx X cl) (iT Cb g)) := OpR.imp h fun v w H Q q => by
  obtain ⟨m, hp, x, y, rel, rx, ry, p⟩ := q
  unfold iT at p
  split at p
  · rename_i i j
    simp only [R] at rx ry
    split at p
    · rename_i hcc
      exact ⟨i, j, rx, ry, hc i j hcc, p.ok_ rel _ (hr i j m H)⟩
    · exact p.elim
  · exact p.elim
theorem rI0_of {f : Value → Value → Sem Value} {gv : Int → Int → V} (h : OpR X f (rI0 gv)) : OpR X f (rI (fun _ _ => True) gv) := OpR.imp h fun v w H Q q => by
  obtain ⟨i, j, e1, e2, _, q⟩ := q
  exact ⟨i, j, e1, e2, q⟩
instance decCMul (i j : Int) : Decidable (CMul i j) := by unfold CMul; infer_instance
instance decCDiv (i j : Int) : Decidable (CDiv i j) := by unfold CDiv; infer_instance
instance decCPow (i j : Int) : Decidable (CPow i j) := by unfold CPow; infer_instance
abbrev yes : Int → Int → Bool := fun _ _ => true
def subT := iT yes fun i j => .int (i - j)
def mulI := iT (fun i j => decide (CMul i j)) fun i j => .int (i * j)
def modT := iT (fun _ j => decide (0 < j)) fun i j => .int (i % j)
def fdvT := iT (fun i j => decide (CDiv i j)) fun i j => .int (i / j)
def powT := iT (fun i j => decide (CPow i j)) fun i j => .int (i ^ j.toNat)
def shlT := iT (fun i j => decide (CPow i j)) fun i j => .int (i * 2 ^ j.toNat)
def shrT := iT (fun _ j => decide (0 ≤ j)) fun i j => .int (i / 2 ^ j.toNat)
def andT := iT yes fun i j => .int (Builtin.bitAnd i j)
def orT := iT yes fun i j => .int (Builtin.bitOr i j)
def ltT := iT yes fun i j => .bl (decide (i < j))
def leT := iT yes fun i j => .bl (decide (i ≤ j))
def gtT := iT yes fun i j => .bl (decide (j < i))
def geT := iT yes fun i j => .bl (decide (j ≤ i))
theorem o_sub : OpR X (binaryOp .Sub) (rM (gx X cl) subT) := op_iT (rI0_of op_sub) (fun _ _ _ => trivial) fun _ _ _ _ => by simp only [R]
theorem o_mod : OpR X (binaryOp .Mod) (rM (gx X cl) modT) := op_iT op_mod (fun _ _ h => of_decide_eq_true h) fun _ _ _ _ => by simp only [R]
theorem o_and : OpR X (binaryOp .BitAnd) (rM (gx X cl) andT) := op_iT (rI0_of op_and) (fun _ _ _ => trivial) fun _ _ _ _ => by simp only [R]
theorem o_or : OpR X (binaryOp .BitOr) (rM (gx X cl) orT) := op_iT (rI0_of op_or) (fun _ _ _ => trivial) fun _ _ _ _ => by simp only [R]
theorem o_shr : OpR X (binaryOp .RShift) (rM (gx X cl) shrT) := op_iT op_shr (fun _ _ h => of_decide_eq_true h) fun _ _ _ _ => by simp only [R]
theorem o_lt : OpR X (compareOp .Lt) (rM (gx X cl) ltT) := op_iT (rI0_of op_lt) (fun _ _ _ => trivial) fun _ _ _ _ => by simp only [R]
theorem o_le : OpR X (compareOp .LtE) (rM (gx X cl) leT) := op_iT (rI0_of op_le) (fun _ _ _ => trivial) fun _ _ _ _ => by simp only [R]
theorem o_gt : OpR X (compareOp .Gt) (rM (gx X cl) gtT) := op_iT (rI0_of op_gt) (fun _ _ _ => trivial) fun _ _ _ _ => by simp only [R]
theorem o_ge : OpR X (compareOp .GtE) (rM (gx X cl) geT) := op_iT (rI0_of op_ge) (fun _ _ _ => trivial) fun _ _ _ _ => by simp only [R]
end
end TW
namespace TW
open PySem PySem.Spec L2

section
variable {X : Cx} {cl : Cln} {W : WX} {a b c e : Expr} {es : List Expr} {f g : EM} {pos : Pos}
/-! ### + and * -/
def addT (x y : T) (hp : MH) : Res T := match x, y with
  | .int i, .int j => .ok (.int (i + j)) hp
  | .str s, .str t => if s.length + t.length ≤ sizeLine then .ok (.str (s ++ t)) hp else .bad
  | .tup xs, .tup ys => if xs.length + ys.length ≤ sizeLine then .ok (.tup (xs ++ ys)) hp else .bad
  | _, _ => .bad
theorem n_add : NoX addT := fun x y h c fs h' e => by
  unfold addT at e
  split at e
  · cases e
  · split at e <;> cases e
  · split at e <;> cases e
  · cases e
theorem o_add : OpR X (binaryOp .Add) (rM (gx X cl) addT) := by
  refine OpR.imp (OpR.or (OpR.or op_add op_add_str) op_catA) fun v w H Q q => ?_
  obtain ⟨m, hp, x, y, rel, rx, ry, p⟩ := q
  unfold addT at p
  split at p
  · simp only [R] at rx ry
    exact .inl (.inl ⟨_, _, rx, ry, p.ok_ rel _ (by simp only [R])⟩)
  · simp only [R] at rx ry
    split at p
    · rename_i hl
      exact .inl (.inr ⟨_, _, rx, ry, hl, p.ok_ rel _ (by simp only [R])⟩)
    · exact p.elim
  · rename_i xs ys
    have rx0 := rx
    have ry0 := ry
    simp only [R] at rx ry
    obtain ⟨a, vs, rfl, f, rs⟩ := rx
    obtain ⟨b, ws, rfl, f2, rs2⟩ := ry
    split at p
    · rename_i hl
      refine .inr ⟨a, b, vs, ws, rfl, rfl, SqT.of f.1, SqT.of f2.1, by rw [← Rs.len rs, ← Rs.len rs2]; exact hl, fun z => ?_, fun _ z => ?_, fun _ _ q hq => ?_⟩
      · have e : xs = [] := List.eq_nil_of_length_eq_zero (by rw [Rs.len rs, z]; rfl)
        subst e
        exact p.ok_ rel _ (by simpa using ry0)
      · have e : ys = [] := List.eq_nil_of_length_eq_zero (by rw [Rs.len rs2, z]; rfl)
        subst e
        exact p.ok_ rel _ (by simpa using rx0)
      · exact p m _ (Stp.new hq) (rel.new hq) _ (tup_new rel (Rs.app rs rs2) hq)
    · exact p.elim
  · exact p.elim
/-- lists together: a new list, told how -/
def catT (k : List T → MH → Res T) (x y : T) (hp : MH) : Res T := match lsW hp x, lsW hp y with
  | some xs, some ys => k (xs ++ ys) hp
  | _, _ => .bad
theorem lst_two_nox {k : List T → MH → Res T} (hk : k = lstK ∨ k = lstL) (xs : List T) (hp : MH) : ∀ c fs h', k xs hp ≠ .exc c fs h' := by
  rcases hk with rfl | rfl
  · intro c fs h' e; unfold lstK at e; split at e <;> cases e
  · intro c fs h' e; unfold lstL at e; split at e <;> cases e
theorem n_cat {k : List T → MH → Res T} (hk : k = lstK ∨ k = lstL) : NoX (catT k) := fun x y h c fs h' e => by
  unfold catT at e
  split at e
  · exact lst_two_nox hk _ _ _ _ _ e
  · cases e
theorem o_cat {k : List T → MH → Res T} (hk : k = lstK ∨ k = lstL) : OpR X (binaryOp .Add) (rM (gx X cl) (catT k)) := by
  refine OpR.imp op_cat fun v w H Q q => ?_
  obtain ⟨m, hp, x, y, rel, rx, ry, p⟩ := q
  unfold catT at p
  split at p
  · rename_i xs ys e1 e2
    obtain ⟨a, vs, rfl, ha, rs⟩ := lsW_ok rel rx e1
    obtain ⟨b, ws, rfl, hb, rs2⟩ := lsW_ok rel ry e2
    obtain ⟨hl, q2⟩ := lst_two hk rel (Rs.app rs rs2) p
    refine ⟨a, b, vs, ws, rfl, rfl, ha, hb, ?_, q2⟩
    rw [List.length_append, Rs.len rs, Rs.len rs2] at hl
    exact hl
  · exact p.elim
def mulT (x y : T) (hp : MH) : Res T := match x, y with
  | .int i, .int j => if CMul i j then .ok (.int (i * j)) hp else .bad
  | .tup xs, .int k => if xs.length ≤ 1000 ∧ xs ≠ [] ∧ 2 ≤ k ∧ k ≤ 1000 then .ok (.tup (List.replicate k.toNat xs).flatten) hp else .bad
  | _, _ => .bad
theorem n_mul : NoX mulT := fun x y h c fs h' e => by
  unfold mulT at e
  split at e
  · split at e <;> cases e
  · split at e <;> cases e
  · cases e
theorem Rs.rep {G : Gx} {m : Ml} {H : Hp} {xs : List T} {vs : List V} (h : Rs G m H xs vs) : ∀ k : Nat, Rs G m H (List.replicate k xs).flatten (List.replicate k vs).flatten
  | 0 => Rs.nil
  | k + 1 => by
    rw [List.replicate_succ, List.replicate_succ, List.flatten_cons, List.flatten_cons]
    exact Rs.app h (Rs.rep h k)
theorem o_mul : OpR X (binaryOp .Mult) (rM (gx X cl) mulT) := by
  refine OpR.imp (OpR.or op_mul op_repT) fun v w H Q q => ?_
  obtain ⟨m, hp, x, y, rel, rx, ry, p⟩ := q
  unfold mulT at p
  split at p
  · simp only [R] at rx ry
    split at p
    · rename_i hc
      exact .inl ⟨_, _, rx, ry, hc, p.ok_ rel _ (by simp only [R])⟩
    · exact p.elim
  · rename_i xs k
    simp only [R] at rx ry
    obtain ⟨a, vs, rfl, f, rs⟩ := rx
    split at p
    · rename_i hc
      obtain ⟨h1, h2, h3, h4⟩ := hc
      refine .inr ⟨a, k, vs, rfl, ry, SqT.of f.1, fun z => h2 (List.eq_nil_of_length_eq_zero (by rw [Rs.len rs, z]; rfl)), h3, h4, by rw [← Rs.len rs]; exact h1, fun q hq => ?_⟩
      exact p m _ (Stp.new hq) (rel.new hq) _ (tup_new rel (Rs.rep rs _) hq)
    · exact p.elim
  · exact p.elim

/-! ### == and != of data -/
def eqT (x y : T) (hp : MH) : Res T := match toD hp deep x, toD hp deep y with
  | some d, some e => .ok (.bl (PyData.eqv d e)) hp
  | _, _ => .bad
def neT (x y : T) (hp : MH) : Res T := match toD hp deep x, toD hp deep y with
  | some d, some e => .ok (.bl (!PyData.eqv d e)) hp
  | _, _ => .bad
theorem n_eq : NoX eqT := fun x y h c fs h' e => by
  unfold eqT at e
  split at e <;> cases e
theorem n_ne : NoX neT := fun x y h c fs h' e => by
  unfold neT at e
  split at e <;> cases e
theorem room_deep {A : Around} (hu : A.units + 66 < cLine) {d e : PyData} (h : d.depth ≤ deep) : A.units + min d.depth e.depth < cLine := by
  have h1 : min d.depth e.depth ≤ d.depth := Nat.min_le_left _ _
  have h2 : deep = 14 := rfl
  omega
theorem o_eq (hu : X.A.units + 66 < cLine) : OpR X (compareOp .Eq) (rM (gx X cl) eqT) := by
  intro pins s σ H v w u u' Q I rv rw' q
  obtain ⟨m, hp, x, y, rel, rx, ry, p⟩ := q
  unfold eqT at p
  split at p
  · rename_i d e h1 h2
    obtain ⟨as, r1⟩ := Dp.reads I d v u (toD_ok rel _ x v d rx h1) rv
    obtain ⟨bs, r2⟩ := Dp.reads I e w u' (toD_ok rel _ y w e ry h2) rw'
    obtain ⟨p1, l1⟩ := toD_plain _ x d h1
    obtain ⟨p2, l2⟩ := toD_plain _ y e h2
    exact SeqAt.eq_plain r1 r2 p1 p2 (room_deep hu l1) ⟨.bl _, H, I, rfl, p.ok_ rel _ (by simp only [R])⟩
  · exact p.elim
theorem o_ne (hu : X.A.units + 66 < cLine) : OpR X (compareOp .NotEq) (rM (gx X cl) neT) := by
  intro pins s σ H v w u u' Q I rv rw' q
  obtain ⟨m, hp, x, y, rel, rx, ry, p⟩ := q
  unfold neT at p
  split at p
  · rename_i d e h1 h2
    obtain ⟨as, r1⟩ := Dp.reads I d v u (toD_ok rel _ x v d rx h1) rv
    obtain ⟨bs, r2⟩ := Dp.reads I e w u' (toD_ok rel _ y w e ry h2) rw'
    obtain ⟨p1, l1⟩ := toD_plain _ x d h1
    obtain ⟨p2, l2⟩ := toD_plain _ y e h2
    exact SeqAt.ne_plain r1 r2 p1 p2 (room_deep hu l1) ⟨.bl _, H, I, rfl, p.ok_ rel _ (by simp only [R])⟩
  · exact p.elim

/-! ### is None, is not None, is of truth values -/
def isNT (neg : Bool) (x y : T) (hp : MH) : Res T := match x, y with
  | .non, .non => .ok (.bl (!neg)) hp
  | .bl i, .bl j => .ok (.bl (if neg then !decide (i = j) else decide (i = j))) hp
  | _, .non => .ok (.bl neg) hp
  | _, _ => .bad
theorem n_is {neg : Bool} : NoX (isNT neg) := fun x y h c fs h' e => by
  unfold isNT at e
  split at e <;> cases e
theorem R.non_iff {G : Gx} {m : Ml} {H : Hp} {x : T} {v : V} (h : R G m H x v) : decide (v = V.non) = (match x with
    | .non => true
    | _ => false) := by
  cases x with
  | non => simp only [R] at h; subst h; rfl
  | bl i => simp only [R] at h; subst h; rfl
  | int i => simp only [R] at h; subst h; rfl
  | str i => simp only [R] at h; subst h; rfl
  | tup xs => simp only [R] at h; obtain ⟨a, vs, rfl, _⟩ := h; rfl
  | ktup xs => simp only [R] at h; obtain ⟨a, vs, rfl, _⟩ := h; rfl
  | lst xs => simp only [R] at h; obtain ⟨a, vs, rfl, _⟩ := h; rfl
  | klst xs => simp only [R] at h; obtain ⟨a, vs, rfl, _⟩ := h; rfl
  | set xs => simp only [R] at h; obtain ⟨a, rfl, _⟩ := h; rfl
  | dK ks xs => simp only [R] at h; obtain ⟨a, vs, rfl, _⟩ := h; rfl
  | dT ks xs => simp only [R] at h; obtain ⟨a, vs, rfl, _⟩ := h; rfl
  | obj c ns xs => simp only [R] at h; obtain ⟨a, C, dx, vs, rfl, _⟩ := h; rfl
  | loc n => simp only [R] at h; obtain ⟨a, _, rfl⟩ := h; rfl
  | ty n => simp only [R] at h; subst h; rfl
  | cls n => simp only [R] at h; obtain ⟨a, _, rfl⟩ := h; rfl
theorem o_is : OpR X (compareOp .Is) (rM (gx X cl) (isNT false)) := by
  refine OpR.imp (OpR.or op_isN op_is_bl) fun v w H Q q => ?_
  obtain ⟨m, hp, x, y, rel, rx, ry, p⟩ := q
  cases y with
  | non =>
    have e := R.non_iff rx
    simp only [R] at ry
    refine .inl ⟨ry, ?_⟩
    rw [e]
    cases x <;> exact p.ok_ rel _ (by simp only [R]; try rfl)
  | bl j =>
    cases x with
    | bl i =>
      simp only [R] at rx ry
      exact .inr ⟨i, j, rx, ry, p.ok_ rel _ (by simp [R])⟩
    | _ => exact p.elim
  | _ => cases x <;> exact p.elim
theorem o_isnot : OpR X (compareOp .IsNot) (rM (gx X cl) (isNT true)) := by
  refine OpR.imp (OpR.or op_notN op_isnot_bl) fun v w H Q q => ?_
  obtain ⟨m, hp, x, y, rel, rx, ry, p⟩ := q
  cases y with
  | non =>
    have e := R.non_iff rx
    simp only [R] at ry
    refine .inl ⟨ry, ?_⟩
    rw [e]
    cases x <;> exact p.ok_ rel _ (by simp only [R]; try rfl)
  | bl j =>
    cases x with
    | bl i =>
      simp only [R] at rx ry
      exact .inr ⟨i, j, rx, ry, p.ok_ rel _ (by simp [R])⟩
    | _ => exact p.elim
  | _ => cases x <;> exact p.elim
end
end TW
namespace TW
open PySem PySem.Spec L2

/-! ### dicts -/
def kyOf : T → Option Key
  | .int i => some (.inl i)
  | .str s => some (.inr s)
  | _ => none
def kysOf : T → Option (List Key)
  | .tup xs => mapO kyOf xs
  | _ => none
def dkOf (hp : MH) : T → Option (List (Key × T))
  | .dK ks vs => some (ks.zip vs)
  | .loc n => (match hp[n]? with
    | some (.dK kvs) => some kvs
    | _ => none)
  | _ => none
def dtOf (hp : MH) : T → Option (List (List Key × T))
  | .dT ks vs => some (ks.zip vs)
  | .loc n => (match hp[n]? with
    | some (.dT kvs) => some kvs
    | _ => none)
  | _ => none
section
variable {κ : Type} [DecidableEq κ]
def look : List (κ × T) → κ → Option T
  | [], _ => none
  | (j, x) :: r, k => if j = k then some x else look r k
def putT (kvs : List (κ × T)) (k : κ) (y : T) : List (κ × T) :=
  if (kvs.any fun z => decide (z.1 = k)) = true then kvs.map (fun z => if z.1 = k then (z.1, y) else z) else kvs ++ [(k, y)]
end
section
variable {G : Gx} {m : Ml} {H : Hp} {hp : MH} {x : T} {v : V} {κ : Type} [DecidableEq κ]
theorem Rk.nil_iff {q : List (κ × V)} : Rk G m H ([] : List (κ × T)) q ↔ q = [] := by
  unfold Rk
  constructor
  · intro h
    have := h.1
    simp at this
    exact this
  · rintro rfl
    exact ⟨rfl, Rs.nil⟩
theorem Rk.cons_iff {k : κ} {y : T} {r : List (κ × T)} {q : List (κ × V)} : Rk G m H ((k, y) :: r) q ↔ ∃ w t, q = (k, w) :: t ∧ R G m H y w ∧ Rk G m H r t := by
  unfold Rk
  constructor
  · rintro ⟨h1, h2⟩
    obtain ⟨w, t, e, h3, h4⟩ := Rs.cons_iff.mp h2
    cases q with
    | nil => simp at e
    | cons p q =>
      obtain ⟨k', w'⟩ := p
      simp only [List.map_cons, List.cons.injEq] at h1 e
      obtain ⟨rfl, h1⟩ := h1
      obtain ⟨rfl, rfl⟩ := e
      exact ⟨w', q, rfl, h3, h1, h4⟩
  · rintro ⟨w, t, rfl, h1, h2, h3⟩
    exact ⟨by simp [h2], Rs.cons h1 h3⟩
theorem Rk.look : ∀ {kvs : List (κ × T)} {q : List (κ × V)} (k : κ), Rk G m H kvs q → (TW.look kvs k = none ∧ valV q k = none) ∨ ∃ y w, TW.look kvs k = some y ∧ valV q k = some w ∧ R G m H y w
  | [], q, k, h => by
    rw [Rk.nil_iff.mp h]
    exact .inl ⟨rfl, rfl⟩
  | (j, y) :: r, q, k, h => by
    obtain ⟨w, t, rfl, h1, h2⟩ := Rk.cons_iff.mp h
    by_cases e : j = k
    · exact .inr ⟨y, w, by simp [TW.look, e], by rw [valV_pos (p := (j, w)) e], h1⟩
    · rcases Rk.look k h2 with ⟨a, b⟩ | ⟨y', w', a, b, c⟩
      · exact .inl ⟨by simp [TW.look, e, a], by rw [valV_neg (p := (j, w)) e]; exact b⟩
      · exact .inr ⟨y', w', by simp [TW.look, e, a], by rw [valV_neg (p := (j, w)) e]; exact b, c⟩
theorem Rk.any (k : κ) : ∀ {kvs : List (κ × T)} {q : List (κ × V)}, Rk G m H kvs q → (kvs.any fun z => decide (z.1 = k)) = q.any fun z => decide (z.1 = k)
  | [], q, h => by rw [Rk.nil_iff.mp h]; rfl
  | (j, y) :: r, q, h => by
    obtain ⟨w, t, rfl, h1, h2⟩ := Rk.cons_iff.mp h
    rw [List.any_cons, List.any_cons, Rk.any k h2]
theorem Rk.repl (k : κ) {y : T} {w : V} (hy : R G m H y w) : ∀ {kvs : List (κ × T)} {q : List (κ × V)}, Rk G m H kvs q → Rk G m H (kvs.map fun z => if z.1 = k then (z.1, y) else z) (q.map fun z => if z.1 = k then (z.1, w) else z)
  | [], q, h => by rw [Rk.nil_iff.mp h]; exact Rk.nil_iff.mpr rfl
  | (j, z) :: r, q, h => by
    obtain ⟨u, t, rfl, h1, h2⟩ := Rk.cons_iff.mp h
    rw [List.map_cons, List.map_cons]
    by_cases e : j = k
    · rw [if_pos e, if_pos e]
      exact Rk.cons_iff.mpr ⟨w, _, rfl, hy, Rk.repl k hy h2⟩
    · rw [if_neg e, if_neg e]
      exact Rk.cons_iff.mpr ⟨u, _, rfl, h1, Rk.repl k hy h2⟩
theorem Rk.app {a b : List (κ × T)} {p q : List (κ × V)} (h : Rk G m H a p) (h2 : Rk G m H b q) : Rk G m H (a ++ b) (p ++ q) := ⟨by rw [List.map_append, List.map_append, h.1, h2.1], by rw [List.map_append, List.map_append]; exact Rs.app h.2 h2.2⟩
theorem Rk.put (k : κ) {y : T} {w : V} (hy : R G m H y w) {kvs : List (κ × T)} {q : List (κ × V)} (h : Rk G m H kvs q) : Rk G m H (putT kvs k y) (putK q k w) := by
  unfold putT putK
  rw [h.any k]
  split
  · exact Rk.repl k hy h
  · exact h.app (Rk.cons_iff.mpr ⟨w, [], rfl, hy, Rk.nil_iff.mpr rfl⟩)
theorem Rk.len {kvs : List (κ × T)} {q : List (κ × V)} (h : Rk G m H kvs q) : kvs.length = q.length := by
  have := congrArg List.length h.1
  simpa using this
theorem rk_zip {ks : List κ} {xs : List T} {vs : List V} (hl : ks.length = vs.length) (rs : Rs G m H xs vs) : Rk G m H (ks.zip xs) (ks.zip vs) := by
  have e := Rs.len rs
  refine ⟨?_, ?_⟩
  · rw [List.map_fst_zip (by omega), List.map_fst_zip (by omega)]
  · rw [List.map_snd_zip (by omega), List.map_snd_zip (by omega)]
    exact rs
end
section
variable {G : Gx} {m : Ml} {H : Hp} {hp : MH} {x : T} {v : V}
theorem kyOf_ok {k : Key} (h : R G m H x v) (e : kyOf x = some k) : v = kV k := by
  cases x <;> first
    | (cases e; done)
    | (simp only [R] at h; subst h; cases e; rfl)
theorem kys_ok {ks : List Key} : ∀ {xs : List T} {vs : List V} {ks : List Key}, Rs G m H xs vs → mapO kyOf xs = some ks → vs = ks.map kV
  | [], vs, ks, rs, e => by
    cases e
    rw [Rs.nil_iff.mp rs]
    rfl
  | x :: xs, vs, ks, rs, e => by
    obtain ⟨v, r, rfl, h1, h2⟩ := Rs.cons_iff.mp rs
    obtain ⟨y, ys, e1, e2, rfl⟩ := mapO_some e
    rw [kyOf_ok h1 e1, kys_ok (ks := ks) h2 e2]
    rfl
theorem kysOf_ok {ks : List Key} (h : R G m H x v) (e : kysOf x = some ks) : ∃ a, v = .ref a ∧ H a = some (.tup (ks.map kV)) := by
  cases x with
  | tup xs =>
    simp only [R] at h
    obtain ⟨a, vs, rfl, f, rs⟩ := h
    rw [kys_ok (ks := ks) rs e] at f
    exact ⟨a, rfl, f.1⟩
  | _ => cases e
theorem dkOf_ok {kvs : List (Key × T)} (rel : Rel G m H hp) (h : R G m H x v) (e : dkOf hp x = some kvs) : ∃ a q, v = .ref a ∧ Rd H a (.dK q) ∧ Rk G m H kvs q := by
  cases x with
  | dK ks xs =>
    cases e
    simp only [R] at h
    obtain ⟨a, vs, rfl, f, hl, rs⟩ := h
    exact ⟨a, _, rfl, f.1, rk_zip hl rs⟩
  | loc n =>
    simp only [dkOf] at e
    split at e
    · rename_i q z
      cases e
      obtain ⟨a, e1, e2, w, e3, rk⟩ := rel.cell h z
      exact ⟨a, w, e2, .inl e3, rk⟩
    · cases e
  | _ => cases e
theorem dtOf_ok {kvs : List (List Key × T)} (rel : Rel G m H hp) (h : R G m H x v) (e : dtOf hp x = some kvs) : ∃ a q, v = .ref a ∧ Rd H a (.dT q) ∧ Rk G m H kvs q := by
  cases x with
  | dT ks xs =>
    cases e
    simp only [R] at h
    obtain ⟨a, vs, rfl, f, hl, rs⟩ := h
    exact ⟨a, _, rfl, f.1, rk_zip hl rs⟩
  | loc n =>
    simp only [dtOf] at e
    split at e
    · rename_i q z
      cases e
      obtain ⟨a, e1, e2, w, e3, rk⟩ := rel.cell h z
      exact ⟨a, w, e2, .inl e3, rk⟩
    · cases e
  | _ => cases e
end
/-- what a dict holds at a key: none: no dict, or no key of its kind -/
def dGet (hp : MH) (d k : T) : Option (Option T) := match dkOf hp d, kyOf k with
  | some kvs, some j => some (look kvs j)
  | _, _ => (match dtOf hp d, kysOf k with
    | some kvs, some j => some (look kvs j)
    | _, _ => none)
section
variable {G : Gx} {m : Ml} {H : Hp} {hp : MH}
theorem dGet_ok (rel : Rel G m H hp) {d k : T} {v w : V} {o : Option T} (hd : R G m H d v) (hk : R G m H k w) (e : dGet hp d k = some o) :
    ∃ a q, v = .ref a ∧ DGet H a w q ∧ ((o = none ∧ q = none) ∨ ∃ y u, o = some y ∧ q = some u ∧ R G m H y u) := by
  unfold dGet at e
  split at e
  · rename_i kvs j e1 e2
    cases e
    obtain ⟨a, q, rfl, rd, rk⟩ := dkOf_ok rel hd e1
    have ew := kyOf_ok hk e2
    exact ⟨a, valV q j, rfl, .inl ⟨q, j, rd, ew, rfl⟩, rk.look j⟩
  · split at e
    · rename_i kvs j e1 e2
      cases e
      obtain ⟨a, q, rfl, rd, rk⟩ := dtOf_ok rel hd e1
      obtain ⟨b, rfl, hb⟩ := kysOf_ok hk e2
      exact ⟨a, valV q j, rfl, .inr ⟨q, j, b, rd, rfl, hb, rfl⟩, rk.look j⟩
    · cases e
end

/-! ### x in y -/
def inB (hp : MH) (x y : T) : Option Bool := match dGet hp y x with
  | some o => some o.isSome
  | none => (match toD hp deep x, toD hp deep y with
    | some d, some (.list ds) => some (ds.any fun z => PyData.eqv z d)
    | some d, some (.tuple ds) => some (ds.any fun z => PyData.eqv z d)
    | some (.str i), some (.str j) => some (!(Builtin.Str.occurrences j i 0 j.length 1).isEmpty)
    | _, _ => none)
def inT (neg : Bool) (x y : T) (hp : MH) : Res T := match inB hp x y with
  | some b => .ok (.bl (if neg = true then !b else b)) hp
  | none => .bad
theorem n_in {neg : Bool} : NoX (inT neg) := fun x y h c fs h' e => by
  unfold inT at e
  split at e <;> cases e
section
variable {X : Cx} {cl : Cln}
theorem toD_str {hp : MH} {k : Nat} {x : T} {s : Str} (h : toD hp k x = some (.str s)) : x = .str s := by
  have no : ∀ (xs : List T) (j : Nat), (mapO (toD hp j) xs).map PyData.tuple ≠ some (.str s) ∧ (mapO (toD hp j) xs).map PyData.list ≠ some (.str s) := fun xs j => by
    cases mapO (toD hp j) xs with
    | none => exact ⟨fun e => (by cases e), fun e => (by cases e)⟩
    | some ds => exact ⟨fun e => (by cases e), fun e => (by cases e)⟩
  cases k with
  | zero => cases x <;> first
    | (cases h; done)
    | (cases h; rfl)
  | succ k =>
    cases x with
    | tup xs => exact absurd h (no xs k).1
    | ktup xs => exact absurd h (no xs k).1
    | lst xs => exact absurd h (no xs k).2
    | klst xs => exact absurd h (no xs k).2
    | loc n =>
      have e0 : (match lstAt hp n with
        | some xs => (mapO (toD hp k) xs).map PyData.list
        | none => none) = some (.str s) := h
      split at e0
      · exact absurd e0 (no _ k).2
      · cases e0
    | _ => first
      | (cases h; done)
      | (cases h; rfl)
theorem room_deep2 {A : Around} (hu : A.units + 66 < cLine) {d : PyData} {ds : List PyData} (h : d.depth ≤ deep) : A.units + 1 + min (PyData.depthAll ds) d.depth < cLine := by
  have h1 : min (PyData.depthAll ds) d.depth ≤ d.depth := Nat.min_le_right _ _
  have h2 : deep = 14 := rfl
  omega
theorem o_inb {op : CmpOp} {neg : Bool} (hop : (op = .In ∧ neg = false) ∨ (op = .NotIn ∧ neg = true)) (hu : X.A.units + 66 < cLine) : OpR X (compareOp op) (rM (gx X cl) (inT neg)) := by
  intro pins s σ H v w u u' Q I rv rw' q
  obtain ⟨m, hp, x, y, rel, rx, ry, p⟩ := q
  unfold inT at p
  split at p
  · rename_i b e
    have fin : ∀ c, c = (if neg = true then !b else b) → EP X pins σ Q (.bool c) s := fun c ec => ⟨.bl c, H, I, rfl, p.ok_ rel _ (by simp only [R, ec])⟩
    have finT : ∀ c s', Inv X pins σ H s' → c = (if neg = true then !b else b) → EP X pins σ Q (.bool c) s' := fun c s' I' ec => ⟨.bl c, H, I', rfl, p.ok_ rel _ (by simp only [R, ec])⟩
    unfold inB at e
    split at e
    · rename_i o eo
      obtain ⟨a, q, rfl, g, ro⟩ := dGet_ok rel ry rx eo
      have ei : q.isSome = o.isSome := by
        rcases ro with ⟨rfl, rfl⟩ | ⟨_, _, rfl, rfl, _⟩ <;> rfl
      cases e
      cases rw'
      rcases hop with ⟨rfl, rfl⟩ | ⟨rfl, rfl⟩
      · exact d_in (by omega) I g rv fun s' I' => finT _ s' I' (by simp [ei])
      · exact d_notIn (by omega) I g rv fun s' I' => finT _ s' I' (by simp [ei])
    · split at e
      · rename_i d ds h1 h2
        cases e
        obtain ⟨as, r1⟩ := Dp.reads I d v u (toD_ok rel _ x v d rx h1) rv
        obtain ⟨bs, r2⟩ := Dp.reads I _ w u' (toD_ok rel _ y w _ ry h2) rw'
        obtain ⟨p1, l1⟩ := toD_plain _ x d h1
        obtain ⟨p2, l2⟩ := toD_plain _ y _ h2
        rcases hop with ⟨rfl, rfl⟩ | ⟨rfl, rfl⟩
        · exact SeqAt.in_list_data r2 r1 (by simpa only [PyData.plain] using p2) p1 (room_deep2 hu l1) (fin _ (by simp))
        · exact SeqAt.notIn_list_data r2 r1 (by simpa only [PyData.plain] using p2) p1 (room_deep2 hu l1) (fin _ (by simp))
      · rename_i d ds h1 h2
        cases e
        obtain ⟨as, r1⟩ := Dp.reads I d v u (toD_ok rel _ x v d rx h1) rv
        obtain ⟨bs, r2⟩ := Dp.reads I _ w u' (toD_ok rel _ y w _ ry h2) rw'
        obtain ⟨p1, l1⟩ := toD_plain _ x d h1
        obtain ⟨p2, l2⟩ := toD_plain _ y _ h2
        rcases hop with ⟨rfl, rfl⟩ | ⟨rfl, rfl⟩
        · exact SeqAt.in_tuple_data r2 r1 (by simpa only [PyData.plain] using p2) p1 (room_deep2 hu l1) (fin _ (by simp))
        · exact SeqAt.notIn_tuple_data r2 r1 (by simpa only [PyData.plain] using p2) p1 (room_deep2 hu l1) (fin _ (by simp))
      · rename_i i j h1 h2
        cases e
        obtain rfl := toD_str h1
        obtain rfl := toD_str h2
        simp only [R] at rx ry
        subst rx ry
        rcases hop with ⟨rfl, rfl⟩ | ⟨rfl, rfl⟩
        · exact op_in_str pins s σ H _ _ u u' Q I rv rw' ⟨i, j, rfl, rfl, p.ok_ rel _ (by simp [R])⟩
        · exact op_notin_str pins s σ H _ _ u u' Q I rv rw' ⟨i, j, rfl, rfl, p.ok_ rel _ (by simp [R])⟩
      · cases e
  · exact p.elim
theorem o_in (hu : X.A.units + 66 < cLine) : OpR X (compareOp .In) (rM (gx X cl) (inT false)) := o_inb (.inl ⟨rfl, rfl⟩) hu
theorem o_notin (hu : X.A.units + 66 < cLine) : OpR X (compareOp .NotIn) (rM (gx X cl) (inT true)) := o_inb (.inr ⟨rfl, rfl⟩) hu
end
end TW
namespace TW
open PySem PySem.Spec L2

/-! ### x[i] -/
def ixT (x y : T) (hp : MH) : Res T := match y with
  | .int i => (match lsOf hp x with
    | some xs => (match atI xs i with
      | some z => .ok z hp
      | none => .bad)
    | none => (match tpOf x with
      | some xs => (match atI xs i with
        | some z => .ok z hp
        | none => .bad)
      | none => (match x with
        | .str z => if z.length ≤ sizeLine then (match atI z.cps.toList i with
          | some c => .ok (.str ⟨#[c]⟩) hp
          | none => .bad) else .bad
        | _ => (match dGet hp x y with
          | some (some z) => .ok z hp
          | _ => .bad))))
  | _ => (match dGet hp x y with
    | some (some z) => .ok z hp
    | _ => .bad)
section
variable {G : Gx} {m : Ml} {H : Hp} {hp : MH}
theorem atI_ok {xs : List T} {vs : List V} {i : Int} {z : T} (rs : Rs G m H xs vs) (e : atI xs i = some z) : ∃ v, atI vs i = some v ∧ R G m H z v := by
  unfold atI at e ⊢
  rw [← Rs.len rs]
  obtain ⟨j, e1, e2⟩ := Option.bind_eq_some_iff.mp e
  obtain ⟨v, e3, q⟩ := Rs.get rs e2
  exact ⟨v, by rw [e1]; exact e3, q⟩
end
section
variable {X : Cx} {cl : Cln} {W : WX} {a b c e : Expr} {es : List Expr} {f g : EM} {pos : Pos}
theorem ix_dict (hu : X.A.units + 1 < cLine) : IxR X (fun x y H Q => ∃ a v, x = .ref a ∧ DGet H a y (some v) ∧ Q v H) := by
  intro value slice pins s σ H x y v u Q I rx ry h hs
  obtain ⟨a, z, rfl, gt, q⟩ := h
  cases rx
  have hT := dict_typeIs I gt
  unfold PyProof.Rows.subscriptTail
  refine wpAny_bind ?_
  rw [getitemInPython_of_ne hT.not_modules]
  refine wpAny_bind (wpAny_specialOf hT PySem.F.slot_dict_getitem.lookup ?_)
  have go : wpAny (model X.prog X.w) X.A (subscripted slice false (.ref a) u) (fun r s3 => wpAny (model X.prog X.w) X.A (letTemporaryGo value (.ref a) r >>= fun _ => pure r) (EP X pins σ Q) X.xe s3) X.xe s := by
    rw [hs]
    exact wpAny_operating (d_getItem hu I gt ry fun w' s' I' rw' => wpAny_bind (wpAny_letTemporaryGo (wpAny_pure ⟨z, H, I', rw', q⟩)))
  first
    | exact wpAny_pure (wpAny_bind go)
    | exact wpAny_bind (wpAny_pure (wpAny_bind go))
    | exact wpAny_bind go
theorem IxR.imp {r r' : R2} (h : IxR X r) (i : ∀ x y H Q, r' x y H Q → r x y H Q) : IxR X r' := fun value slice pins s σ H x y v u Q I rx ry q hs => h value slice pins s σ H x y v u Q I rx ry (i _ _ _ _ q) hs
theorem o_ix (hu : X.A.units + 66 < cLine) : IxR X (rM (gx X cl) ixT) := by
  refine IxR.imp (ix_seq.or (ix_dict (by omega))) fun v w H Q q => ?_
  obtain ⟨m, hp, x, y, rel, rx, ry, p⟩ := q
  have dct : Pst (gx X cl) m H (match dGet hp x y with
      | some (some z) => Res.ok z hp
      | _ => .bad) (fun z m' _ H' => ∀ u, R (gx X cl) m' H' z u → Q u H') W0 → ∃ a z, v = .ref a ∧ DGet H a w (some z) ∧ Q z H := fun p => by
    split at p
    · rename_i z ez
      obtain ⟨a, q, rfl, g, ro⟩ := dGet_ok rel rx ry ez
      rcases ro with ⟨e1, _⟩ | ⟨y', u, e1, rfl, r⟩
      · cases e1
      · cases e1
        exact ⟨a, u, rfl, g, p.ok_ rel _ r⟩
    · exact p.elim
  cases y with
  | int i =>
    have ei : w = .int i := by simpa only [R] using ry
    simp only [ixT] at p
    split at p
    · rename_i xs e1
      obtain ⟨a, vs, rfl, sq, rs⟩ := lsOf_ok rel rx e1
      split at p
      · rename_i z ez
        obtain ⟨u, e2, r⟩ := atI_ok rs ez
        exact .inl (.inl ⟨a, vs, i, u, rfl, ei, sq, e2, p.ok_ rel _ r⟩)
      · exact p.elim
    · split at p
      · rename_i xs e1
        obtain ⟨a, vs, rfl, sq, rs⟩ := tpOf_ok rx e1
        split at p
        · rename_i z ez
          obtain ⟨u, e2, r⟩ := atI_ok rs ez
          exact .inl (.inr (.inl ⟨a, vs, i, u, rfl, ei, sq, e2, p.ok_ rel _ r⟩))
        · exact p.elim
      · split at p
        · rename_i z _ _
          simp only [R] at rx
          split at p
          · rename_i hl
            split at p
            · rename_i ch ec
              exact .inl (.inr (.inr ⟨z, i, ch, rx, ei, hl, ec, p.ok_ rel _ (by simp only [R])⟩))
            · exact p.elim
          · exact p.elim
        · exact .inr (dct p)
  | _ => exact .inr (dct p)
theorem n_ix : NoX ixT := fun x y h c fs h' e => by
  unfold ixT at e
  repeat' (split at e)
  all_goals cases e
theorem me_ix (hu : X.A.units + 66 < cLine) (ha : ME X cl W a f) (hb : ME X cl W b g) (hs : PlainIx b := by exact fun _ _ => rfl) : ME X cl W (.Subscript a b pos) (emOp ixT f g) := by
  refine ⟨PE.imp (pe_ix (o_ix (cl := cl) hu) ha.pe hb.pe hs) fun σ H Q h => ?_⟩
  obtain ⟨r, hp, m, re, rel, p⟩ := two_ok h
  refine ⟨r, hp, m, re, rel, p.mono (fun x m' h' H' s q v rv => ?_) fun _ _ _ z => z⟩
  obtain ⟨r2, hp2, m2, re2, rel2, p2⟩ := q v rv
  refine ⟨r2, hp2, m2, re2, rel2, p2.mono (fun y m3 h3 H3 s3 q3 w rw' => ?_) fun _ _ _ z => z⟩
  obtain ⟨m4, hp4, x4, y4, rel4, rx, ry, p4⟩ := q3 w rw'
  exact ⟨m4, hp4, x4, y4, rel4, rx, ry, p4.nox (n_ix _ _ _)⟩

/-! ### slices -/
def cutX {α : Type} (xs : List α) (lo hi : Option Int) : List α := (xs.drop (HT.sIx xs.length 0 lo)).take (HT.sIx xs.length xs.length hi - HT.sIx xs.length 0 lo)
theorem Rs.cut {G : Gx} {m : Ml} {H : Hp} {xs : List T} {vs : List V} (rs : Rs G m H xs vs) (lo hi : Option Int) : Rs G m H (cutX xs lo hi) (cutV vs lo hi) := by
  unfold cutX cutV
  rw [Rs.len rs]
  exact Rs.take _ (Rs.drop _ rs)
/-- x[lo:hi], a list's told how -/
def slT (k : List T → MH → Res T) (x : T) (lo hi : Option Int) (hp : MH) : Res T := match lsOf hp x with
  | some xs => k (cutX xs lo hi) hp
  | none => (match x with
    | .tup xs => .ok (.tup (cutX xs lo hi)) hp
    | _ => .bad)
abbrev PM := Rho → MH → Res (Option Int)
def pNo : PM := fun _ hp => .ok none hp
def pSo (f : EM) : PM := fun r hp => (f r hp).bind fun x h1 => match x with
  | .int i => .ok (some i) h1
  | _ => .bad
def tMO (G : Gx) (W : WX) (f : PM) : TO := fun σ H Q => ∃ r hp m, RE G m H r σ ∧ Rel G m H hp ∧ Pst G m H (f r hp) (fun b _ _ H' => Q b H') (fun c d H' => W c d σ H')
structure MP (X : Cx) (cl : Cln) (W : WX) (e : Option Expr) (f : PM) : Prop where
  po : PO X e (tMO (gx X cl) W f)
theorem mp_no : MP X cl W none pNo := ⟨⟨fun pins s σ H Q I h => po_none.run pins s σ H Q I (by
  obtain ⟨r, hp, m, re, rel, p⟩ := h
  exact p.ok_ rel)⟩⟩
theorem mp_so (ha : ME X cl W e f) : MP X cl W (some e) (pSo f) := ⟨⟨fun pins s σ H Q I h => (po_some ha.pe).run pins s σ H Q I (by
  obtain ⟨r, hp, m, re, rel, p⟩ := h
  refine ⟨r, hp, m, re, rel, p.bind.mono (fun x m1 h1 H1 s1 q v rv => ?_) fun _ _ _ z => z⟩
  obtain ⟨rel1, p1⟩ := q
  split at p1
  · rename_i i
    simp only [R] at rv
    exact ⟨i, rv, p1.ok_ rel1⟩
  · exact p1.elim)⟩⟩
def emSl (k : List T → MH → Res T) (f : EM) (lo hi : PM) : EM := fun r hp => (f r hp).bind fun x h1 => (lo r h1).bind fun l h2 => (hi r h2).bind fun u h3 => slT k x l u h3
theorem sl_any : SlR X (fun x lo hi H Q => rSlL X.K x lo hi H Q ∨ rSlA X.K x lo hi H Q) := sl_list.or sl_tupA
theorem me_sl {k : List T → MH → Res T} (hk : k = lstK ∨ k = lstL) {lo hi : Option Expr} {pl ph : PM} {p2 : Pos} (ha : ME X cl W a f) (hl : MP X cl W lo pl) (hh : MP X cl W hi ph) : ME X cl W (.Subscript a (.Slice lo hi none p2) pos) (emSl k f pl ph) := by
  refine ⟨PE.imp (pe_slice sl_any ha.pe hl.po hh.po) fun σ H Q h => ?_⟩
  obtain ⟨r, hp, m, re, rel, p⟩ := h
  refine ⟨r, hp, m, re, rel, p.bind.mono (fun x m1 h1 H1 s1 q v rv => ?_) fun _ _ _ z => z⟩
  refine ⟨r, h1, m1, re.step s1, q.1, q.2.bind.mono (fun l m2 h2 H2 s2 q2 => ?_) fun _ _ _ z => z⟩
  refine ⟨r, h2, m2, (re.step s1).step s2, q2.1, q2.2.bind.mono (fun u m3 h3 H3 s3 q3 => ?_) fun _ _ _ z => z⟩
  obtain ⟨rel3, p3⟩ := q3
  have rx := R.step s3 _ _ (R.step s2 _ _ rv)
  unfold slT at p3
  split at p3
  · rename_i xs e1
    obtain ⟨a, vs, rfl, sq, rs⟩ := lsOf_ok rel3 rx e1
    obtain ⟨_, q4⟩ := lst_two hk rel3 (rs.cut l u) p3
    exact .inl ⟨a, vs, rfl, sq, q4⟩
  · split at p3
    · rename_i xs _
      have rx0 := rx
      simp only [R] at rx
      obtain ⟨a, vs, rfl, f, rs⟩ := rx
      refine .inr ⟨a, vs, rfl, SqT.of f.1, fun z => ?_, fun _ p hp => ?_⟩
      · have e : cutX xs l u = xs := by
          unfold cutX
          rw [Rs.len rs, z.1, z.2, List.drop_zero, Nat.sub_zero, List.take_of_length_le (by rw [Rs.len rs]; exact Nat.le_refl _)]
        refine p3.ok_ rel3 _ ?_
        rw [e]
        exact rx0
      · exact p3 m3 _ (Stp.new hp) (rel3.new hp) _ (tup_new rel3 (rs.cut l u) hp)
    · exact p3.elim
/-- xs[::-1] of a list -/
def rvT (k : List T → MH → Res T) (x : T) (hp : MH) : Res T := match lsOf hp x with
  | some xs => k xs.reverse hp
  | none => .bad
def em1 (k : T → MH → Res T) (f : EM) : EM := fun r hp => (f r hp).bind k
theorem me_rev {k : List T → MH → Res T} (hk : k = lstK ∨ k = lstL) {j : Nat} {p1 p2 p3 : Pos} (ha : ME X cl W e f) : ME X cl W (.Subscript e (.Slice none none (some (.UnaryOp .USub (.Constant (.int 1) j p1) p2)) p3) pos) (em1 (rvT k) f) := by
  refine ⟨PE.imp (pe_revL ha.pe) fun σ H Q h => ?_⟩
  obtain ⟨r, hp, m, re, rel, p⟩ := one_ok h
  refine ⟨r, hp, m, re, rel, p.mono (fun x m1 h1 H1 s1 q v rv => ?_) fun _ _ _ z => z⟩
  obtain ⟨m2, hp2, y, rel2, ry, p2⟩ := q v rv
  unfold rvT at p2
  split at p2
  · rename_i xs e1
    obtain ⟨a, vs, rfl, sq, rs⟩ := lsOf_ok rel2 ry e1
    obtain ⟨_, q4⟩ := lst_two hk rel2 rs.reverse p2
    exact ⟨a, vs, rfl, sq, q4⟩
  · exact p2.elim

/-! ### e.f, an attribute of an object -/
def lk {β : Type} (f : Str) : List (Str × β) → Option β
  | [] => none
  | (g, x) :: r => if f = g then some x else lk f r
theorem lk_lookup {β : Type} (f : Str) : ∀ l : List (Str × β), l.lookup f = lk f l
  | [] => rfl
  | (g, x) :: r => by
    rw [List.lookup_cons]
    simp only [lk]
    by_cases h : f = g
    · rw [if_pos h, beq_iff_eq.mpr h]
    · rw [if_neg h, beq_eq_false_iff_ne.mpr h, lk_lookup f r]
theorem Rk.lk {G : Gx} {m : Ml} {H : Hp} {f : Str} {z : T} : ∀ {kvs : List (Str × T)} {q : List (Str × V)}, Rk G m H kvs q → lk f kvs = some z → ∃ v, q.lookup f = some v ∧ R G m H z v
  | [], q, h, e => by cases e
  | (g, x) :: r, q, h, e => by
    obtain ⟨w, t, rfl, h1, h2⟩ := Rk.cons_iff.mp h
    rw [lk_lookup]
    simp only [TW.lk] at e ⊢
    split at e
    · rename_i hfg
      cases e
      exact ⟨w, by rw [if_pos hfg], h1⟩
    · rename_i hfg
      rw [if_neg hfg, ← lk_lookup]
      exact Rk.lk h2 e
/-- oc: the classes whose objects have attributes -/
def atT (oc : List Str) (f : Str) (x : T) (hp : MH) : Res T := match x with
  | .obj c ns vs => if c ∈ oc then (match lk f (ns.zip vs) with
    | some z => .ok z hp
    | none => .bad) else .bad
  | .loc n => (match hp[n]? with
    | some (.ins c fs) => if c ∈ oc then (match lk f fs with
      | some z => .ok z hp
      | none => .bad) else .bad
    | _ => .bad)
  | _ => .bad
/-- what is known of these classes' attribute f -/
def AtOk (K : PySem.W.Frag) (cl : Cln) (oc : List Str) (f : Str) : Prop := ∀ c ∈ oc, ∀ C, cl c = some C → Cls K C ∧ NoAttr K C f
theorem me_at {oc : List Str} {nm : Str} (hc : AtOk X.K cl oc nm) (ha : ME X cl W e f) (hb : attributeBase e nm X.env (eval e X.env) = eval e X.env := by rfl) : ME X cl W (.Attribute e nm pos) (em1 (atT oc nm) f) := by
  refine ⟨PE.imp (pe_fld ha.pe hb) fun σ H Q h => ?_⟩
  obtain ⟨r, hp, m, re, rel, p⟩ := one_ok h
  refine ⟨r, hp, m, re, rel, p.mono (fun x m1 h1 H1 s1 q v rv => ?_) fun _ _ _ z => z⟩
  obtain ⟨m2, hp2, y, rel2, ry, p2⟩ := q v rv
  unfold atT at p2
  split at p2
  · rename_i c ns vs
    simp only [R] at ry
    obtain ⟨a, C, dx, us, rfl, hC, f, hl, rs⟩ := ry
    split at p2
    · rename_i hmem
      obtain ⟨k1, k2⟩ := hc c hmem C hC
      split at p2
      · rename_i z ez
        obtain ⟨u, eu, ru⟩ := (rk_zip hl rs).lk ez
        exact ⟨a, C, dx, _, u, rfl, f.1, k1, k2, eu, p2.ok_ rel2 _ ru⟩
      · exact p2.elim
    · exact p2.elim
  · rename_i n
    split at p2
    · rename_i c fs ec
      obtain ⟨a, e1, rfl, C, dx, qv, hC, hH, rk⟩ := rel2.cell ry ec
      split at p2
      · rename_i hmem
        obtain ⟨k1, k2⟩ := hc c hmem C hC
        split at p2
        · rename_i z ez
          obtain ⟨u, eu, ru⟩ := rk.lk ez
          exact ⟨a, C, dx, _, u, rfl, hH, k1, k2, eu, p2.ok_ rel2 _ ru⟩
        · exact p2.elim
      · exact p2.elim
    · exact p2.elim
  · exact p2.elim
end
end TW
namespace TW
open PySem PySem.Spec L2

mutual
def beqT : T → T → Bool
  | .non, .non => true
  | .bl a, .bl b => decide (a = b)
  | .int a, .int b => decide (a = b)
  | .str a, .str b => decide (a = b)
  | .tup a, .tup b => beqTs a b
  | .ktup a, .ktup b => beqTs a b
  | .lst a, .lst b => beqTs a b
  | .klst a, .klst b => beqTs a b
  | .set a, .set b => decide (a = b)
  | .dK k a, .dK j b => decide (k = j) && beqTs a b
  | .dT k a, .dT j b => decide (k = j) && beqTs a b
  | .obj c k a, .obj d j b => decide (c = d) && (decide (k = j) && beqTs a b)
  | .loc a, .loc b => decide (a = b)
  | .ty a, .ty b => decide (a = b)
  | .cls a, .cls b => decide (a = b)
  | _, _ => false
def beqTs : List T → List T → Bool
  | [], [] => true
  | a :: x, b :: y => beqT a b && beqTs x y
  | _, _ => false
end
mutual
theorem beqT_ok : ∀ a b : T, beqT a b = true → a = b
  | .non, b, h => by cases b <;> first | rfl | (simp [beqT] at h; done)
  | .bl x, b, h => by cases b <;> first | (simp [beqT] at h; rw [h]; done) | (simp [beqT] at h; done)
  | .int x, b, h => by cases b <;> first | (simp [beqT] at h; rw [h]; done) | (simp [beqT] at h; done)
  | .str x, b, h => by cases b <;> first | (simp [beqT] at h; rw [h]; done) | (simp [beqT] at h; done)
  | .set x, b, h => by cases b <;> first | (simp [beqT] at h; rw [h]; done) | (simp [beqT] at h; done)
  | .loc x, b, h => by cases b <;> first | (simp [beqT] at h; rw [h]; done) | (simp [beqT] at h; done)
  | .ty x, b, h => by cases b <;> first | (simp [beqT] at h; rw [h]; done) | (simp [beqT] at h; done)
  | .cls x, b, h => by cases b <;> first | (simp [beqT] at h; rw [h]; done) | (simp [beqT] at h; done)
  | .tup x, b, h => by
    cases b with
    | tup y => simp only [beqT] at h; rw [beqTs_ok x y h]
    | _ => simp [beqT] at h
  | .ktup x, b, h => by
    cases b with
    | ktup y => simp only [beqT] at h; rw [beqTs_ok x y h]
    | _ => simp [beqT] at h
  | .lst x, b, h => by
    cases b with
    | lst y => simp only [beqT] at h; rw [beqTs_ok x y h]
    | _ => simp [beqT] at h
  | .klst x, b, h => by
    cases b with
    | klst y => simp only [beqT] at h; rw [beqTs_ok x y h]
    | _ => simp [beqT] at h
  | .dK k x, b, h => by
    cases b with
    | dK j y => simp only [beqT, Bool.and_eq_true, decide_eq_true_eq] at h; rw [h.1, beqTs_ok x y h.2]
    | _ => simp [beqT] at h
  | .dT k x, b, h => by
    cases b with
    | dT j y => simp only [beqT, Bool.and_eq_true, decide_eq_true_eq] at h; rw [h.1, beqTs_ok x y h.2]
    | _ => simp [beqT] at h
  | .obj c k x, b, h => by
    cases b with
    | obj d j y => simp only [beqT, Bool.and_eq_true, decide_eq_true_eq] at h; rw [h.1, h.2.1, beqTs_ok x y h.2.2]
    | _ => simp [beqT] at h
theorem beqTs_ok : ∀ a b : List T, beqTs a b = true → a = b
  | [], b, h => by cases b <;> first | rfl | (simp [beqTs] at h; done)
  | x :: a, b, h => by
    cases b with
    | nil => simp [beqTs] at h
    | cons y b => simp only [beqTs, Bool.and_eq_true] at h; rw [beqT_ok x y h.1, beqTs_ok a b h.2]
end
mutual
theorem beqT_self : ∀ a : T, beqT a a = true
  | .non | .bl _ | .int _ | .str _ | .set _ | .loc _ | .ty _ | .cls _ => by simp [beqT]
  | .tup x | .ktup x | .lst x | .klst x => by simp only [beqT]; exact beqTs_self x
  | .dK k x | .dT k x => by simp only [beqT, decide_true, Bool.true_and]; exact beqTs_self x
  | .obj c k x => by simp only [beqT, decide_true, Bool.true_and]; exact beqTs_self x
theorem beqTs_self : ∀ a : List T, beqTs a a = true
  | [] => by simp [beqTs]
  | x :: a => by simp only [beqTs, beqT_self x, beqTs_self a, Bool.and_self]
end

/-! ### heaps compared -/
def beqMO : MO → MO → Bool
  | .lst a, .lst b => beqTs a b
  | .set a, .set b => decide (a = b)
  | .dK a, .dK b => decide (a.map (·.1) = b.map (·.1)) && beqTs (a.map (·.2)) (b.map (·.2))
  | .dT a, .dT b => decide (a.map (·.1) = b.map (·.1)) && beqTs (a.map (·.2)) (b.map (·.2))
  | .ins c a, .ins d b => decide (c = d) && (decide (a.map (·.1) = b.map (·.1)) && beqTs (a.map (·.2)) (b.map (·.2)))
  | _, _ => false
def beqH : MH → MH → Bool
  | [], [] => true
  | a :: x, b :: y => beqMO a b && beqH x y
  | _, _ => false
theorem pairs_eq {κ : Type} : ∀ {a b : List (κ × T)}, a.map (·.1) = b.map (·.1) → a.map (·.2) = b.map (·.2) → a = b
  | [], [], _, _ => rfl
  | [], _ :: _, h, _ => by simp at h
  | _ :: _, [], h, _ => by simp at h
  | (x, y) :: a, (z, w) :: b, h1, h2 => by
    simp only [List.map_cons, List.cons.injEq] at h1 h2
    rw [pairs_eq h1.2 h2.2, h1.1, h2.1]
theorem beqMO_ok : ∀ a b : MO, beqMO a b = true → a = b := by
  intro a b h
  cases a <;> cases b <;> simp only [beqMO, Bool.and_eq_true, decide_eq_true_eq, Bool.false_eq_true] at h
  · rw [beqTs_ok _ _ h]
  · rw [h]
  · rw [pairs_eq h.1 (beqTs_ok _ _ h.2)]
  · rw [pairs_eq h.1 (beqTs_ok _ _ h.2)]
  · rw [h.1, pairs_eq h.2.1 (beqTs_ok _ _ h.2.2)]
theorem beqH_ok : ∀ a b : MH, beqH a b = true → a = b
  | [], [], _ => rfl
  | [], _ :: _, h => by simp [beqH] at h
  | _ :: _, [], h => by simp [beqH] at h
  | x :: a, y :: b, h => by
    simp only [beqH, Bool.and_eq_true] at h
    rw [beqMO_ok x y h.1, beqH_ok a b h.2]
theorem beqMO_self (a : MO) : beqMO a a = true := by
  cases a <;> simp [beqMO, beqTs_self]
theorem beqH_self : ∀ a : MH, beqH a a = true
  | [] => rfl
  | x :: a => by simp [beqH, beqMO_self, beqH_self a]

/-! ### a region: what was made within is handed out as trees, its cells are forgotten -/
mutual
/-- no cell from n on is named -/
def low (n : Nat) : T → Bool
  | .tup xs => lows n xs
  | .ktup xs => lows n xs
  | .lst xs => lows n xs
  | .klst xs => lows n xs
  | .dK _ xs => lows n xs
  | .dT _ xs => lows n xs
  | .obj _ _ xs => lows n xs
  | .loc k => Nat.blt k n
  | _ => true
def lows (n : Nat) : List T → Bool
  | [] => true
  | x :: xs => low n x && lows n xs
end
def lowO (n : Nat) : MO → Bool
  | .lst xs => lows n xs
  | .set _ => true
  | .dK kvs => lows n (kvs.map (·.2))
  | .dT kvs => lows n (kvs.map (·.2))
  | .ins _ fs => lows n (fs.map (·.2))
mutual
/-- cells by g -/
def frW (g : Nat → Option T) : T → Option T
  | .tup xs => (frWs g xs).map .tup
  | .ktup xs => (frWs g xs).map .ktup
  | .lst xs => (frWs g xs).map .lst
  | .klst xs => (frWs g xs).map .klst
  | .dK ks xs => (frWs g xs).map (.dK ks)
  | .dT ks xs => (frWs g xs).map (.dT ks)
  | .obj c ns xs => (frWs g xs).map (.obj c ns)
  | .loc k => g k
  | .non => some .non
  | .bl b => some (.bl b)
  | .int i => some (.int i)
  | .str s => some (.str s)
  | .set xs => some (.set xs)
  | .ty n => some (.ty n)
  | .cls c => some (.cls c)
def frWs (g : Nat → Option T) : List T → Option (List T)
  | [] => some []
  | x :: xs => match frW g x with
    | some y => (match frWs g xs with
      | some ys => some (y :: ys)
      | none => none)
    | none => none
end
/-- a cell as a tree; cells below n stay -/
def frL (hp : MH) (n : Nat) : Nat → Nat → Option T
  | 0, k => if k < n then some (.loc k) else none
  | d + 1, k => if k < n then some (.loc k) else match hp[k]? with
    | some (.lst xs) => (frWs (frL hp n d) xs).map .lst
    | some (.set xs) => some (.set xs)
    | some (.dK kvs) => (frWs (frL hp n d) (kvs.map (·.2))).map (.dK (kvs.map (·.1)))
    | some (.dT kvs) => (frWs (frL hp n d) (kvs.map (·.2))).map (.dT (kvs.map (·.1)))
    | some (.ins c fs) => (frWs (frL hp n d) (fs.map (·.2))).map (.obj c (fs.map (·.1)))
    | none => none
abbrev frD : Nat := 5
def frz (hp : MH) (n : Nat) : T → Option T := frW (frL hp n frD)
/-- the cells below n name none from n on -/
def lowH (n : Nat) (hp : MH) : Bool := (hp.take n).all (lowO n)

section
variable {G : Gx} {m : Ml} {l : List Addr} {H : Hp} {hp : MH}
def Ml.more (m : Ml) (l : List Addr) : Ml := ⟨m.c ++ l, m.z⟩
theorem Ml.less {a : Addr} (h : (m.more l).no a) : m.no a := ⟨fun z => h.1 (List.mem_append_left _ z), h.2⟩
theorem zip_unzip {κ : Type} {kvs : List (κ × T)} {q : List (κ × V)} (h : Rk G m H kvs q) : (kvs.map (·.1)).zip (q.map (·.2)) = q := by
  rw [h.1]
  have : ∀ z : List (κ × V), (z.map (·.1)).zip (z.map (·.2)) = z := fun z => by
    induction z with
    | nil => rfl
    | cons a z ih => simp [ih]
  exact this q
mutual
theorem R.keep : ∀ (x : T) (v : V), low m.c.length x = true → R G (m.more l) H x v → R G m H x v
  | .non, _, _, h => h
  | .bl _, _, _, h => h
  | .int _, _, _, h => h
  | .str _, _, _, h => h
  | .ty _, _, _, h => h
  | .cls _, _, _, h => by
    simp only [R] at h ⊢
    exact h
  | .tup xs, _, hl, h => by
    simp only [R] at h ⊢
    obtain ⟨a, vs, e, f, r⟩ := h
    exact ⟨a, vs, e, ⟨f.1, Ml.less f.2⟩, Rs.keep xs vs hl r⟩
  | .ktup xs, _, hl, h => by
    simp only [R] at h ⊢
    obtain ⟨a, vs, e, f, r⟩ := h
    exact ⟨a, vs, e, f, Rs.keep xs vs hl r⟩
  | .lst xs, _, hl, h => by
    simp only [R] at h ⊢
    obtain ⟨a, vs, e, f, r⟩ := h
    exact ⟨a, vs, e, ⟨f.1, Ml.less f.2⟩, Rs.keep xs vs hl r⟩
  | .klst xs, _, hl, h => by
    simp only [R] at h ⊢
    obtain ⟨a, vs, e, f, r⟩ := h
    exact ⟨a, vs, e, f.elim (fun f => .inl ⟨f.1, Ml.less f.2⟩) .inr, Rs.keep xs vs hl r⟩
  | .set xs, _, hl, h => by
    simp only [R] at h ⊢
    obtain ⟨a, e, f, n⟩ := h
    exact ⟨a, e, f, Ml.less n⟩
  | .dK ks xs, _, hl, h => by
    simp only [R] at h ⊢
    obtain ⟨a, vs, e, f, q, r⟩ := h
    exact ⟨a, vs, e, ⟨f.1, Ml.less f.2⟩, q, Rs.keep xs vs hl r⟩
  | .dT ks xs, _, hl, h => by
    simp only [R] at h ⊢
    obtain ⟨a, vs, e, f, q, r⟩ := h
    exact ⟨a, vs, e, ⟨f.1, Ml.less f.2⟩, q, Rs.keep xs vs hl r⟩
  | .obj c ns xs, _, hl, h => by
    simp only [R] at h ⊢
    obtain ⟨a, C, dx, vs, e, hc, f, q, r⟩ := h
    exact ⟨a, C, dx, vs, e, hc, ⟨f.1, Ml.less f.2⟩, q, Rs.keep xs vs hl r⟩
  | .loc n, _, hl, h => by
    simp only [R] at h ⊢
    obtain ⟨a, e, q⟩ := h
    refine ⟨a, ?_, q⟩
    have hn : n < m.c.length := Nat.le_of_ble_eq_true hl
    have e : (m.c ++ l)[n]? = some a := e
    rw [List.getElem?_append_left hn] at e
    exact e
theorem Rs.keep : ∀ (xs : List T) (vs : List V), lows m.c.length xs = true → Rs G (m.more l) H xs vs → Rs G m H xs vs
  | [], _, _, h => h
  | x :: xs, _, hl, h => by
    simp only [lows, Bool.and_eq_true] at hl
    obtain ⟨v, r, e, h1, h2⟩ := Rs.cons_iff.mp h
    subst e
    exact Rs.cons (R.keep x v hl.1 h1) (Rs.keep xs r hl.2 h2)
end
theorem RO.keep {a : Addr} {mo : MO} (hl : lowO m.c.length mo = true) (h : RO G (m.more l) H a mo) : RO G m H a mo := by
  cases mo with
  | lst xs => obtain ⟨vs, e, q⟩ := h; exact ⟨vs, e, Rs.keep _ _ hl q⟩
  | set xs => exact h
  | dK xs => obtain ⟨vs, e, q⟩ := h; exact ⟨vs, e, q.1, Rs.keep _ _ hl q.2⟩
  | dT xs => obtain ⟨vs, e, q⟩ := h; exact ⟨vs, e, q.1, Rs.keep _ _ hl q.2⟩
  | ins c fs => obtain ⟨C, dx, vs, hc, e, q⟩ := h; exact ⟨C, dx, vs, hc, e, q.1, Rs.keep _ _ hl q.2⟩
theorem Rel.keep (rel : Rel G (m.more l) H hp) (hl : lowH m.c.length hp = true) : Rel G m H (hp.take m.c.length) := by
  have hlen : (m.c ++ l).length = hp.length := rel.len
  rw [List.length_append] at hlen
  refine ⟨by rw [List.length_take]; omega, (List.nodup_append.mp rel.nd).1, fun n a o e1 e2 => ?_, rel.zs, fun a ha hc => rel.zd a ha (List.mem_append_left _ hc), rel.tb.to fun b _ n => ⟨rfl, Ml.less n⟩⟩
  have hn : n < m.c.length := (List.getElem?_eq_some_iff.mp e1).1
  have e3 : hp[n]? = some o := by rw [List.getElem?_take_of_lt hn] at e2; exact e2
  refine RO.keep ?_ (rel.ob n a o (by show (m.c ++ l)[n]? = _; rw [List.getElem?_append_left hn]; exact e1) e3)
  exact List.all_eq_true.mp hl o (List.mem_of_getElem? e2)
/-- g tells of each cell's tree -/
def FrOk (G : Gx) (m : Ml) (l : List Addr) (H : Hp) (g : Nat → Option T) : Prop := ∀ k a y, (m.more l).c[k]? = some a → g k = some y → R G m H y (.ref a)
mutual
theorem frW_ok {g : Nat → Option T} (hg : FrOk G m l H g) : ∀ (x : T) (v : V) (y : T), R G (m.more l) H x v → frW g x = some y → R G m H y v
  | .non, _, _, h, e => by cases e; exact h
  | .bl _, _, _, h, e => by cases e; exact h
  | .int _, _, _, h, e => by cases e; exact h
  | .str _, _, _, h, e => by cases e; exact h
  | .ty _, _, _, h, e => by cases e; exact h
  | .cls _, _, _, h, e => by
    cases e
    simp only [R] at h ⊢
    exact h
  | .tup xs, _, _, h, e => by
    obtain ⟨ys, e1, rfl⟩ := Option.map_eq_some_iff.mp e
    simp only [R] at h ⊢
    obtain ⟨a, vs, e, f, r⟩ := h
    exact ⟨a, vs, e, ⟨f.1, Ml.less f.2⟩, frWs_ok hg xs vs ys r e1⟩
  | .ktup xs, _, _, h, e => by
    obtain ⟨ys, e1, rfl⟩ := Option.map_eq_some_iff.mp e
    simp only [R] at h ⊢
    obtain ⟨a, vs, e, f, r⟩ := h
    exact ⟨a, vs, e, f, frWs_ok hg xs vs ys r e1⟩
  | .lst xs, _, _, h, e => by
    obtain ⟨ys, e1, rfl⟩ := Option.map_eq_some_iff.mp e
    simp only [R] at h ⊢
    obtain ⟨a, vs, e, f, r⟩ := h
    exact ⟨a, vs, e, ⟨f.1, Ml.less f.2⟩, frWs_ok hg xs vs ys r e1⟩
  | .klst xs, _, _, h, e => by
    obtain ⟨ys, e1, rfl⟩ := Option.map_eq_some_iff.mp e
    simp only [R] at h ⊢
    obtain ⟨a, vs, e, f, r⟩ := h
    exact ⟨a, vs, e, f.elim (fun f => .inl ⟨f.1, Ml.less f.2⟩) .inr, frWs_ok hg xs vs ys r e1⟩
  | .set xs, _, _, h, e => by
    cases e
    simp only [R] at h ⊢
    obtain ⟨a, e, f, n⟩ := h
    exact ⟨a, e, f, Ml.less n⟩
  | .dK ks xs, _, _, h, e => by
    obtain ⟨ys, e1, rfl⟩ := Option.map_eq_some_iff.mp e
    simp only [R] at h ⊢
    obtain ⟨a, vs, e, f, q, r⟩ := h
    exact ⟨a, vs, e, ⟨f.1, Ml.less f.2⟩, q, frWs_ok hg xs vs ys r e1⟩
  | .dT ks xs, _, _, h, e => by
    obtain ⟨ys, e1, rfl⟩ := Option.map_eq_some_iff.mp e
    simp only [R] at h ⊢
    obtain ⟨a, vs, e, f, q, r⟩ := h
    exact ⟨a, vs, e, ⟨f.1, Ml.less f.2⟩, q, frWs_ok hg xs vs ys r e1⟩
  | .obj c ns xs, _, _, h, e => by
    obtain ⟨ys, e1, rfl⟩ := Option.map_eq_some_iff.mp e
    simp only [R] at h ⊢
    obtain ⟨a, C, dx, vs, e, hc, f, q, r⟩ := h
    exact ⟨a, C, dx, vs, e, hc, ⟨f.1, Ml.less f.2⟩, q, frWs_ok hg xs vs ys r e1⟩
  | .loc n, _, _, h, e => by
    simp only [R] at h
    obtain ⟨a, e1, rfl⟩ := h
    exact hg n a _ e1 e
theorem frWs_ok {g : Nat → Option T} (hg : FrOk G m l H g) : ∀ (xs : List T) (vs : List V) (ys : List T), Rs G (m.more l) H xs vs → frWs g xs = some ys → Rs G m H ys vs
  | [], _, _, h, e => by cases e; exact h
  | x :: xs, _, _, h, e => by
    obtain ⟨v, r, rfl, h1, h2⟩ := Rs.cons_iff.mp h
    simp only [frWs] at e
    split at e
    · rename_i y ey
      split at e
      · rename_i ys eys
        cases e
        exact Rs.cons (frW_ok hg x v y h1 ey) (frWs_ok hg xs r ys h2 eys)
      · cases e
    · cases e
end
theorem frL_ok (rel : Rel G (m.more l) H hp) : ∀ d, FrOk G m l H (frL hp m.c.length d) := by
  have below : ∀ k a, k < m.c.length → (m.more l).c[k]? = some a → R G m H (.loc k) (.ref a) := fun k a hk e => by
    simp only [R]
    have e : (m.c ++ l)[k]? = some a := e
    rw [List.getElem?_append_left hk] at e
    exact ⟨a, e, rfl⟩
  have away : ∀ k a, ¬ k < m.c.length → (m.more l).c[k]? = some a → m.no a := fun k a hk e => by
    have e : (m.c ++ l)[k]? = some a := e
    refine ⟨fun hm => ?_, fun hz => rel.zd a hz (List.mem_of_getElem? e)⟩
    rw [List.getElem?_append_right (by omega)] at e
    exact (List.nodup_append.mp rel.nd).2.2 a hm a (List.mem_of_getElem? e) rfl
  intro d
  induction d with
  | zero =>
    intro k a y e1 e
    simp only [frL] at e
    split at e
    · rename_i hk
      cases e
      exact below k a hk e1
    · cases e
  | succ d ih =>
    intro k a y e1 e
    simp only [frL] at e
    split at e
    · rename_i hk
      cases e
      exact below k a hk e1
    · rename_i hk
      have na := away k a hk e1
      split at e
      · rename_i xs eo
        obtain ⟨ys, e2, rfl⟩ := Option.map_eq_some_iff.mp e
        obtain ⟨vs, h1, rs⟩ := rel.ob k a _ e1 eo
        simp only [R]
        exact ⟨a, vs, rfl, ⟨h1, na⟩, frWs_ok ih xs vs ys rs e2⟩
      · rename_i xs eo
        cases e
        have h1 : FzS G H a xs := rel.ob k a _ e1 eo
        simp only [R]
        exact ⟨a, rfl, h1, na⟩
      · rename_i xs eo
        obtain ⟨ys, e2, rfl⟩ := Option.map_eq_some_iff.mp e
        obtain ⟨q, h1, rk⟩ := rel.ob k a _ e1 eo
        simp only [R]
        exact ⟨a, q.map (·.2), rfl, ⟨.inl (by rw [zip_unzip rk]; exact h1), na⟩, by simpa using rk.len, frWs_ok ih _ _ ys rk.2 e2⟩
      · rename_i xs eo
        obtain ⟨ys, e2, rfl⟩ := Option.map_eq_some_iff.mp e
        obtain ⟨q, h1, rk⟩ := rel.ob k a _ e1 eo
        simp only [R]
        exact ⟨a, q.map (·.2), rfl, ⟨.inl (by rw [zip_unzip rk]; exact h1), na⟩, by simpa using rk.len, frWs_ok ih _ _ ys rk.2 e2⟩
      · rename_i c xs eo
        obtain ⟨ys, e2, rfl⟩ := Option.map_eq_some_iff.mp e
        obtain ⟨C, dx, q, hc, h1, rk⟩ := rel.ob k a _ e1 eo
        simp only [R]
        exact ⟨a, C, dx, q.map (·.2), rfl, hc, ⟨by rw [zip_unzip rk]; exact h1, na⟩, by simpa using rk.len, frWs_ok ih _ _ ys rk.2 e2⟩
      · cases e
theorem frz_ok (rel : Rel G (m.more l) H hp) {x y : T} {v : V} (h : R G (m.more l) H x v) (e : frz hp m.c.length x = some y) : R G m H y v := frW_ok (frL_ok rel frD) x v y h e
mutual
/-- what is told names no cell that isn't there -/
theorem R.lows : ∀ (x : T) (v : V), R G m H x v → low m.c.length x = true
  | .non, _, _ => rfl
  | .bl _, _, _ => rfl
  | .int _, _, _ => rfl
  | .str _, _, _ => rfl
  | .ty _, _, _ => rfl
  | .cls _, _, _ => rfl
  | .set _, _, _ => rfl
  | .tup xs, _, h => by
    simp only [R] at h
    obtain ⟨a, vs, e, f, r⟩ := h
    exact Rs.lows xs vs r
  | .ktup xs, _, h => by
    simp only [R] at h
    obtain ⟨a, vs, e, f, r⟩ := h
    exact Rs.lows xs vs r
  | .lst xs, _, h => by
    simp only [R] at h
    obtain ⟨a, vs, e, f, r⟩ := h
    exact Rs.lows xs vs r
  | .klst xs, _, h => by
    simp only [R] at h
    obtain ⟨a, vs, e, f, r⟩ := h
    exact Rs.lows xs vs r
  | .dK ks xs, _, h => by
    simp only [R] at h
    obtain ⟨a, vs, e, f, q, r⟩ := h
    exact Rs.lows xs vs r
  | .dT ks xs, _, h => by
    simp only [R] at h
    obtain ⟨a, vs, e, f, q, r⟩ := h
    exact Rs.lows xs vs r
  | .obj c ns xs, _, h => by
    simp only [R] at h
    obtain ⟨a, C, dx, vs, e, hc, f, q, r⟩ := h
    exact Rs.lows xs vs r
  | .loc n, _, h => by
    simp only [R] at h
    obtain ⟨a, e, q⟩ := h
    exact Nat.ble_eq_true_of_le (List.getElem?_eq_some_iff.mp e).1
theorem Rs.lows : ∀ (xs : List T) (vs : List V), Rs G m H xs vs → TW.lows m.c.length xs = true
  | [], _, _ => rfl
  | x :: xs, _, h => by
    obtain ⟨v, r, e, h1, h2⟩ := Rs.cons_iff.mp h
    simp only [TW.lows, R.lows x v h1, Rs.lows xs r h2, Bool.and_self]
end
theorem RO.lows {a : Addr} {mo : MO} (h : RO G m H a mo) : lowO m.c.length mo = true := by
  cases mo with
  | lst xs => obtain ⟨vs, e, q⟩ := h; exact Rs.lows _ _ q
  | set xs => rfl
  | dK xs => obtain ⟨vs, e, q⟩ := h; exact Rs.lows _ _ q.2
  | dT xs => obtain ⟨vs, e, q⟩ := h; exact Rs.lows _ _ q.2
  | ins c fs => obtain ⟨C, dx, vs, hc, e, q⟩ := h; exact Rs.lows _ _ q.2
theorem Rel.lows (rel : Rel G m H hp) : lowH m.c.length hp = true := by
  unfold lowH
  rw [List.all_eq_true]
  intro o ho
  have ho : o ∈ hp := List.mem_of_mem_take ho
  obtain ⟨n, hn, e⟩ := List.mem_iff_getElem.mp ho
  have h1 : n < m.c.length := by rw [rel.len]; exact hn
  exact (rel.ob n m.c[n] o (List.getElem?_eq_getElem h1) (by rw [List.getElem?_eq_getElem hn, e])).lows
/-- the cells that were there are as they were, or name none of the new ones -/
def okH (hp0 hp : MH) : Bool := beqH (hp.take hp0.length) hp0 || lowH hp0.length hp
theorem okH_ok {m0 : Ml} {H0 : Hp} {hp0 hp : MH} (rel0 : Rel G m0 H0 hp0) (h : okH hp0 hp = true) : lowH hp0.length hp = true := by
  unfold okH at h
  rw [Bool.or_eq_true] at h
  rcases h with h | h
  · have e := beqH_ok _ _ h
    have q := rel0.lows
    rw [rel0.len] at q
    unfold lowH at q ⊢
    rw [e]
    rw [List.take_length] at q
    exact q
  · exact h
/-- the end of a region that began with hp0 -/
def endR (hp0 : MH) (r : Res T) : Res T := match r with
  | .ok x hp => (match frz hp hp0.length x with
    | some y => if okH hp0 hp = true then .ok y (hp.take hp0.length) else .bad
    | none => .bad)
  | .exc c fs hp => (match frWs (frL hp hp0.length frD) (fs.map (·.2)) with
    | some ys => if okH hp0 hp = true then .exc c ((fs.map (·.1)).zip ys) (hp.take hp0.length) else .bad
    | none => .bad)
  | .bad => .bad
theorem frz_ok2 (rel : Rel G (m.more l) H hp) {xs ys : List T} {vs : List V} (h : Rs G (m.more l) H xs vs) (e : frWs (frL hp m.c.length frD) xs = some ys) : Rs G m H ys vs := frWs_ok (frL_ok rel frD) xs vs ys h e
theorem Stp.back {m0 : Ml} {H0 : Hp} (s : Stp m0 (m0.more l) H0 H) : Stp m0 m0 H0 H := ⟨rfl, ⟨[], by simp⟩, fun a o t e n => ⟨(s.fr a o t e n).1, n⟩⟩
/-- behind a region: what is wanted of its end -/
theorem Pst.region {m0 : Ml} {H0 : Hp} {hp0 : MH} {r : Res T} {Q : VK} {W : XK} (rel0 : Rel G m0 H0 hp0)
    (p : Pst G m0 H0 (endR hp0 r) (fun z m' _ H' => ∀ u, R G m' H' z u → Q u H') W) : Pst G m0 H0 r (fun z m' _ H' => ∀ u, R G m' H' z u → Q u H') W := by
  have hl : hp0.length = m0.c.length := rel0.len.symm
  cases r with
  | ok x h =>
    intro m' H' s rel u ru
    obtain ⟨mc, mz⟩ := m'
    obtain ⟨l, rfl⟩ : ∃ l, mc = m0.c ++ l := s.pre
    obtain rfl : mz = m0.z := s.pz
    have s : Stp m0 (m0.more l) H0 H' := s
    have rel : Rel G (m0.more l) H' h := rel
    simp only [endR] at p
    rw [hl] at p
    split at p
    · rename_i y ey
      split at p
      · rename_i hok
        have hlow := okH_ok rel0 hok
        rw [hl] at hlow
        exact p m0 H' s.back (rel.keep hlow) u (frz_ok rel ru ey)
      · exact p.elim
    · exact p.elim
  | exc c fs h =>
    intro m' H' s rel C d hC hd
    obtain ⟨mc, mz⟩ := m'
    obtain ⟨l, rfl⟩ : ∃ l, mc = m0.c ++ l := s.pre
    obtain rfl : mz = m0.z := s.pz
    have s : Stp m0 (m0.more l) H0 H' := s
    have rel : Rel G (m0.more l) H' h := rel
    simp only [endR] at p
    rw [hl] at p
    split at p
    · rename_i ys ey
      split at p
      · rename_i hok
        have hlow := okH_ok rel0 hok
        rw [hl] at hlow
        refine p m0 H' s.back (rel.keep hlow) C d hC ?_
        rcases hd with ⟨rfl, rfl⟩ | ⟨dx, q, rfl, fz, rk⟩
        · exact .inl ⟨rfl, rfl⟩
        · refine .inr ⟨dx, q, rfl, ⟨fz.1, Ml.less fz.2⟩, ?_⟩
          have rs := frz_ok2 rel rk.2 ey
          have e1 := Rs.len rs
          have e2 : fs.length = q.length := rk.len
          refine ⟨?_, ?_⟩
          · rw [List.map_fst_zip (by simp only [List.length_map] at e1 ⊢; omega)]
            exact rk.1
          · rw [List.map_snd_zip (by simp only [List.length_map] at e1 ⊢; omega)]
            exact rs
      · exact p.elim
    · exact p.elim
  | bad => exact p
end
end TW
namespace TW
open PySem PySem.Spec L2

/-! ### flows -/
inductive Fr where
  | nx (r : Rho) (h : MH) | ret (x : T) (h : MH) | bk (r : Rho) (h : MH) | ct (r : Rho) (h : MH) | ex (c : Str) (fs : List (Str × T)) (r : Rho) (h : MH) | bad
abbrev SM := Rho → MH → Fr
/-- an expression, then k -/
@[simp] def lift {α : Type} (x : Res α) (r : Rho) (k : α → MH → Fr) : Fr := match x with
  | .ok a h => k a h
  | .exc c fs h => .ex c fs r h
  | .bad => .bad
def FlQ (G : Gx) (m : Ml) (H : Hp) (D : Ends) (W : WX) : Fr → Prop
  | .nx r h => ∀ m' H' σ', Stp m m' H H' → Rel G m' H' h → RE G m' H' r σ' → D.nx σ' H'
  | .bk r h => ∀ m' H' σ', Stp m m' H H' → Rel G m' H' h → RE G m' H' r σ' → D.bk σ' H'
  | .ct r h => ∀ m' H' σ', Stp m m' H H' → Rel G m' H' h → RE G m' H' r σ' → D.ct σ' H'
  | .ret x h => ∀ m' H', Stp m m' H H' → Rel G m' H' h → ∀ v, R G m' H' x v → D.rt v H'
  | .ex c fs r h => ∀ m' H' σ', Stp m m' H H' → Rel G m' H' h → RE G m' H' r σ' → ∀ C d, G.cl c = some C → ((fs = [] ∧ d = none) ∨ ∃ dx q, d = some dx ∧ Fz m' H' dx (.xd q) ∧ Rk G m' H' fs q) → W (.ref C) d σ' H'
  | .bad => False
section
variable {G : Gx} {m m' : Ml} {H H' : Hp} {D D' : Ends} {W W' : WX} {f : Fr}
theorem FlQ.step (p : FlQ G m H D W f) (s : Stp m m' H H') : FlQ G m' H' D W f := by
  cases f with
  | nx r h => exact fun m2 H2 σ2 s2 => p m2 H2 σ2 (s.trans s2)
  | bk r h => exact fun m2 H2 σ2 s2 => p m2 H2 σ2 (s.trans s2)
  | ct r h => exact fun m2 H2 σ2 s2 => p m2 H2 σ2 (s.trans s2)
  | ret x h => exact fun m2 H2 s2 => p m2 H2 (s.trans s2)
  | ex c fs r h => exact fun m2 H2 σ2 s2 => p m2 H2 σ2 (s.trans s2)
  | bad => exact p
theorem FlQ.lift {α : Type} {x : Res α} {r : Rho} {σ : L2.St} {k : α → MH → Fr} (re : RE G m H r σ) (p : FlQ G m H D W (lift x r k)) :
    Pst G m H x (fun a m1 h1 H1 => Rel G m1 H1 h1 ∧ RE G m1 H1 r σ ∧ FlQ G m1 H1 D W (k a h1)) (fun c d H' => W c d σ H') := by
  cases x with
  | ok a h => exact fun m' H' s rel => ⟨rel, re.step s, FlQ.step (by exact p) s⟩
  | exc c fs h => exact fun m' H' s rel C d hC hd => p m' H' σ s rel (re.step s) C d hC hd
  | bad => exact p
end
/-- of a statement -/
def tMS (G : Gx) (W : WX) (f : SM) : TS := fun D σ H => ∃ r hp m, RE G m H r σ ∧ Rel G m H hp ∧ FlQ G m H D W (f r hp)
structure MS (X : Cx) (cl : Cln) (W : WX) (s : Stmt) (f : SM) : Prop where
  ps : PS X s (tMS (gx X cl) W f)
structure MB (X : Cx) (cl : Cln) (W : WX) (s : List Stmt) (f : SM) : Prop where
  pss : PSs X s (tMS (gx X cl) W f)
theorem PS.imp {X : Cx} {e : Stmt} {t t' : TS} (h : PS X e t) (i : ∀ D σ H, t' D σ H → t D σ H) : PS X e t' := ⟨fun pins s σ H D I q => h.run pins s σ H D I (i D σ H q)⟩
theorem PSs.imp {X : Cx} {e : List Stmt} {t t' : TS} (h : PSs X e t) (i : ∀ D σ H, t' D σ H → t D σ H) : PSs X e t' := ⟨fun pins s σ H D I q => h.run pins s σ H D I (i D σ H q)⟩
/-- one, then the other -/
def sSeq (f g : SM) : SM := fun r h => match f r h with
  | .nx r' h' => g r' h'
  | o => o
def sNx : SM := fun r h => .nx r h
def sBk : SM := fun r h => .bk r h
def sCt : SM := fun r h => .ct r h
/-- what no mirror tells -/
def sBad : SM := fun _ _ => .bad
def sRet (f : EM) : SM := fun r h => lift (f r h) r fun x h1 => .ret x h1
def sRetN : SM := fun _ h => .ret .non h
def sDrop (f : EM) : SM := fun r h => lift (f r h) r fun _ h1 => .nx r h1
def sIf (t : TM) (f g : SM) : SM := fun r h => lift (t r h) r fun b h1 => if b = true then f r h1 else g r h1
def sSet (i : Nat) (f : EM) : SM := fun r h => lift (f r h) r fun x h1 => .nx (r.set i (some x)) h1
section
variable {X : Cx} {cl : Cln} {W : WX} {st : Stmt} {rest : List Stmt} {e : Expr} {f : EM} {F F' : SM} {pos : Pos}
theorem seq_ok {D : Ends} {σ : L2.St} {H : Hp} (h : tMS (gx X cl) W (sSeq F F') D σ H) : tSeq (tMS (gx X cl) W F) (tMS (gx X cl) W F') D σ H := by
  obtain ⟨r, hp, m, re, rel, p⟩ := h
  refine ⟨r, hp, m, re, rel, ?_⟩
  unfold sSeq at p
  cases e : F r hp with
  | nx r' h' =>
    rw [e] at p
    exact fun m' H' σ' s rel' re' => ⟨r', h', m', re', rel', p.step s⟩
  | bk r' h' => rw [e] at p; exact p
  | ct r' h' => rw [e] at p; exact p
  | ret x h' => rw [e] at p; exact p
  | ex c fs r' h' => rw [e] at p; exact p
  | bad => rw [e] at p; exact p
theorem mb_nil : MB X cl W [] sNx := ⟨PSs.imp pss_nil fun D σ H h => by
  obtain ⟨r, hp, m, re, rel, p⟩ := h
  exact p m H σ .refl rel re⟩
theorem mb_cons (h1 : MS X cl W st F) (h2 : MB X cl W rest F') : MB X cl W (st :: rest) (sSeq F F') := ⟨PSs.imp (pss_cons h1.ps h2.pss) fun _ _ _ h => seq_ok h⟩
theorem mb_one (h1 : MS X cl W st F) : MB X cl W [st] F := ⟨pss_one h1.ps⟩
theorem ms_pass : MS X cl W (.Pass pos) sNx := ⟨PS.imp ps_pass fun D σ H h => by
  obtain ⟨r, hp, m, re, rel, p⟩ := h
  exact p m H σ .refl rel re⟩
theorem ms_break : MS X cl W (.Break pos) sBk := ⟨PS.imp ps_break fun D σ H h => by
  obtain ⟨r, hp, m, re, rel, p⟩ := h
  exact p m H σ .refl rel re⟩
theorem ms_cont : MS X cl W (.Continue pos) sCt := ⟨PS.imp ps_continue fun D σ H h => by
  obtain ⟨r, hp, m, re, rel, p⟩ := h
  exact p m H σ .refl rel re⟩
theorem ms_doc {x : Str} {j : Nat} {pos' : Pos} : MS X cl W (.Expr (.Constant (.str x) j pos) pos') sNx := ⟨PS.imp ps_doc fun D σ H h => by
  obtain ⟨r, hp, m, re, rel, p⟩ := h
  exact p m H σ .refl rel re⟩
theorem ms_bad : MS X cl W st sBad := ⟨PS.imp ps_never fun D σ H h => by
  obtain ⟨r, hp, m, re, rel, p⟩ := h
  exact p⟩
theorem ms_ret (he : ME X cl W e f) : MS X cl W (.Return (some e) pos) (sRet f) := ⟨PS.imp (ps_ret he.pe) fun D σ H h => by
  obtain ⟨r, hp, m, re, rel, p⟩ := h
  exact ⟨r, hp, m, re, rel, (p.lift re).mono (fun x m1 h1 H1 s q v rv => q.2.2 m1 H1 .refl q.1 v rv) fun _ _ _ z => z⟩⟩
theorem ms_retN : MS X cl W (.Return none pos) sRetN := ⟨PS.imp ps_retN fun D σ H h => by
  obtain ⟨r, hp, m, re, rel, p⟩ := h
  exact p m H .refl rel .non (by simp only [R])⟩
theorem ms_expr (he : ME X cl W e f) (hs : swapsWith e none pos.line X.env = pure false := by rfl) : MS X cl W (.Expr e pos) (sDrop f) := ⟨PS.imp (ps_expr he.pe hs) fun D σ H h => by
  obtain ⟨r, hp, m, re, rel, p⟩ := h
  exact ⟨r, hp, m, re, rel, (p.lift re).mono (fun x m1 h1 H1 s q v rv => q.2.2 m1 H1 σ .refl q.1 q.2.1) fun _ _ _ z => z⟩⟩
theorem ms_if {c : Expr} {a b : List Stmt} {t : TM} (hc : MT X cl W c t) (ha : MB X cl W a F) (hb : MB X cl W b F') : MS X cl W (.If c a b pos) (sIf t F F') := ⟨PS.imp (ps_if hc.pt ha.pss hb.pss) fun D σ H h => by
  obtain ⟨r, hp, m, re, rel, p⟩ := h
  refine ⟨r, hp, m, re, rel, (p.lift re).mono (fun x m1 h1 H1 s q => ?_) fun _ _ _ z => z⟩
  cases x with
  | true => exact ⟨r, h1, m1, q.2.1, q.1, q.2.2⟩
  | false => exact ⟨r, h1, m1, q.2.1, q.1, q.2.2⟩⟩
theorem ms_set (i : Nat) {x : Str} {p2 : Pos} (hN : X.N.Nodup) (he : ME X cl W e f) (hi : X.N[i]? = some x := by rfl) (hx : Loc X.env.scope x := by first | exact Or.inl rfl | exact Or.inr rfl) (hs : swapsWith e (some (.Name x p2)) pos.line X.env = pure false := by rfl)
    (hf : X.fn x = true ∨ X.env.scope.names.lookup x = some .local := by first | exact .inl rfl | exact .inr rfl) : MS X cl W (.Assign [.Name x p2] e pos) (sSet i f) := ⟨PS.imp (ps_set hN hi hx he.pe hs hf) fun D σ H h => by
  obtain ⟨r, hp, m, re, rel, p⟩ := h
  refine ⟨r, hp, m, re, rel, (p.lift re).mono (fun y m1 h1 H1 s q v rv => ?_) fun _ _ _ z => z⟩
  exact q.2.2 m1 H1 _ .refl q.1 (q.2.1.set rv)⟩
end

/-! ### targets -/
abbrev GM := T → Rho → Option Rho
def SameOut (sl : List Nat) (σ σ' : L2.St) : Prop := σ'.length = σ.length ∧ ∀ i, i ∉ sl → σ'[i]? = σ[i]?
def tMG (G : Gx) (sl : List Nat) (g : GM) : TG := fun v σ H Q => ∃ r m x r', RE G m H r σ ∧ R G m H x v ∧ g x r = some r' ∧ ∀ σ', RE G m H r' σ' → SameOut sl σ σ' → Q σ' H
structure MG (X : Cx) (cl : Cln) (tg : Expr) (sl : List Nat) (g : GM) : Prop where
  pg : PG X tg (tMG (gx X cl) sl g)
def gmN (i : Nat) : GM := fun x r => some (r.set i (some x))
abbrev GMs := List T → Rho → Option Rho
def tMGs (G : Gx) (sl : List Nat) (g : GMs) : TGs := fun vs σ H Q => ∃ r m xs r', RE G m H r σ ∧ Rs G m H xs vs ∧ g xs r = some r' ∧ ∀ σ', RE G m H r' σ' → SameOut sl σ σ' → Q σ' H
structure MGs (X : Cx) (cl : Cln) (tg : List Expr) (sl : List Nat) (g : GMs) : Prop where
  pgs : PGs X tg (tMGs (gx X cl) sl g)
def gmNil : GMs := fun xs r => match xs with
  | [] => some r
  | _ => none
def gmCons (g : GM) (gs : GMs) : GMs := fun xs r => match xs with
  | x :: xs => (match g x r with
    | some r' => gs xs r'
    | none => none)
  | [] => none
def gmT (n : Nat) (gs : GMs) : GM := fun x r => match tpOf x with
  | some xs => if xs.length = n then gs xs r else none
  | none => none
section
variable {X : Cx} {cl : Cln} {e : Expr} {es : List Expr} {pos : Pos} {sl sl' : List Nat} {g : GM} {gs : GMs}
theorem SameOut.refl {σ : L2.St} : SameOut sl σ σ := ⟨rfl, fun _ _ => rfl⟩
theorem mg_name (i : Nat) {x : Str} (hN : X.N.Nodup) (hi : X.N[i]? = some x := by rfl) (hx : Loc X.env.scope x := by first | exact Or.inl rfl | exact Or.inr rfl)
    (hf : X.fn x = true ∨ X.env.scope.names.lookup x = some .local := by first | exact .inl rfl | exact .inr rfl) : MG X cl (.Name x pos) [i] (gmN i) := ⟨⟨fun pins s σ H v u Q I rv h => (pg_name hN hi hx hf).run pins s σ H v u Q I rv (by
  obtain ⟨r, m, x, r', re, rx, e, q⟩ := h
  cases e
  refine q _ (re.set rx) ⟨by simp, fun j hj => ?_⟩
  exact List.getElem?_set_ne fun z => hj (by simp [z]))⟩⟩
theorem mgs_nil : MGs X cl [] [] gmNil := ⟨⟨fun pins s σ H v u Q I rv h => pgs_nil.run pins s σ H v u Q I rv (by
  obtain ⟨r, m, xs, r', re, rx, e, q⟩ := h
  unfold gmNil at e
  split at e
  · cases e
    exact ⟨Rs.nil_iff.mp rx, q σ re .refl⟩
  · cases e)⟩⟩
theorem mgs_cons (h1 : MG X cl e sl g) (h2 : MGs X cl es sl' gs) (hs : (assignEach (e :: es) X.env).map (·.2) = assign e X.env :: (assignEach es X.env).map (·.2) := by rfl) : MGs X cl (e :: es) (sl ++ sl') (gmCons g gs) := ⟨⟨fun pins s σ H v u Q I rv h => (pgs_cons h1.pg h2.pgs hs).run pins s σ H v u Q I rv (by
  obtain ⟨r, m, xs, r', re, rx, e, q⟩ := h
  unfold gmCons at e
  split at e
  · rename_i x xs
    obtain ⟨w, t, rfl, h3, h4⟩ := Rs.cons_iff.mp rx
    split at e
    · rename_i r1 e1
      refine ⟨w, t, rfl, r, m, x, r1, re, h3, e1, fun σ1 re1 so1 => ⟨r1, m, xs, r', re1, h4, e, fun σ2 re2 so2 => q σ2 re2 ⟨so2.1.trans so1.1, fun i hi => ?_⟩⟩⟩
      rw [List.mem_append] at hi
      exact (so2.2 i fun z => hi (.inr z)).trans (so1.2 i fun z => hi (.inl z))
    · cases e
  · cases e)⟩⟩
theorem mg_tup {k : Nat} (n : Nat) (hc : X.calm = true) (h : MGs X cl es sl gs) (hn : (assignEach es X.env).length = n := by rfl) (hst : (assignEach es X.env).findIdx? (·.1) = none := by rfl) : MG X cl (.Tuple es k pos) sl (gmT n gs) := ⟨⟨fun pins s σ H v u Q I rv h' => (pg_tup hc h.pgs hn hst).run pins s σ H v u Q I rv (by
  obtain ⟨r, m, x, r', re, rx, e, q⟩ := h'
  unfold gmT at e
  split at e
  · rename_i xs e1
    obtain ⟨a, vs, rfl, sq, rs⟩ := tpOf_ok rx e1
    split at e
    · rename_i hl
      exact ⟨a, vs, rfl, sq, by rw [← Rs.len rs]; exact hl, r, m, xs, r', re, rs, e, q⟩
    · cases e
  · cases e)⟩⟩
def sAsg (g : GM) (f : EM) : SM := fun r h => lift (f r h) r fun x h1 => match g x r with
  | some r' => .nx r' h1
  | none => .bad
theorem ms_asg {W : WX} {v : Expr} {f : EM} (he : ME X cl W v f) (hg : MG X cl e sl g) (hs : swapsWithSole [e] v pos.line X.env = pure false := by rfl) (hw : swappedStores [e] v X.env = pure none := by rfl) (ha : (assignEach [e] X.env).map (·.2) = [assign e X.env] := by rfl) : MS X cl W (.Assign [e] v pos) (sAsg g f) := ⟨PS.imp (ps_asg he.pe hg.pg hs hw ha) fun D σ H h => by
  obtain ⟨r, hp, m, re, rel, p⟩ := h
  refine ⟨r, hp, m, re, rel, (p.lift re).mono (fun y m1 h1 H1 s q v rv => ?_) fun _ _ _ z => z⟩
  obtain ⟨q1, q2, q3⟩ := q
  split at q3
  · rename_i r' e
    exact ⟨r, m1, y, r', q2, rv, e, fun σ' re' _ => q3 m1 H1 σ' .refl q1 re'⟩
  · exact q3.elim⟩
end
end TW
namespace TW
open PySem PySem.Spec L2

/-! ### walks -/
/-- the source still holds what it held -/
abbrev Src := Option (Nat × List T)
def chk (src : Src) (h : MH) : Bool := match src with
  | none => true
  | some (n, its) => (match h[n]? with
    | some (.lst xs) => beqTs xs its
    | _ => false)
abbrev IM := Rho → MH → Res (List T × Src)
def WalkM (G : Gx) (J : It) (its : List T) (src : Src) (m : Ml) (H : Hp) : Prop := ∀ m' H' h', Wk m m' H H' → Rel G m' H' h' → chk src h' = true →
  (∀ i, i < its.length → J.go i H') ∧ J.stop its.length H' ∧ ∀ i x H'' z, J.yld i H' x H'' → its[i]? = some z → Stp m' m' H' H'' ∧ Rel G m' H'' h' ∧ R G m' H'' z x
def tMI (G : Gx) (W : WX) (f : IM) : TI := fun σ H Rr => ∃ r hp m, RE G m H r σ ∧ Rel G m H hp ∧ Pst G m H (f r hp) (fun p m' h' H' => ∀ J, WalkM G J p.1 p.2 m' H' → Rr J H') (fun c d H' => W c d σ H')
structure MI (X : Cx) (cl : Cln) (W : WX) (tg e : Expr) (f : IM) : Prop where
  pi : PI X tg e (tMI (gx X cl) W f)
theorem PI.imp {X : Cx} {tg e : Expr} {t t' : TI} (h : PI X tg e t) (i : ∀ σ H Q, t' σ H Q → t σ H Q) : PI X tg e t' := ⟨fun pins s σ H Q I q => h.run pins s σ H Q I (i σ H Q q)⟩
theorem PI.or {X : Cx} {tg e : Expr} {t t' : TI} (h : PI X tg e t) (h' : PI X tg e t') : PI X tg e (fun σ H Q => t σ H Q ∨ t' σ H Q) := ⟨fun pins s σ H Q I q => by
  rcases q with q | q
  · exact h.run pins s σ H Q I q
  · exact h'.run pins s σ H Q I q⟩
def srcOf (x : T) (xs : List T) : Src := match x with
  | .loc n => some (n, xs)
  | _ => none
def itOf (x : T) (h : MH) : Res (List T × Src) := match lsOf h x with
  | some xs => .ok (xs, srcOf x xs) h
  | none => (match tpOf x with
    | some xs => .ok (xs, none) h
    | none => .bad)
def itE (f : EM) : IM := fun r h => (f r h).bind itOf
theorem chk_of {h : MH} {x : T} {xs : List T} (e : lsOf h x = some xs) : chk (srcOf x xs) h = true := by
  cases x with
  | loc n =>
    simp only [lsOf, lstAt] at e
    simp only [srcOf, chk]
    split at e
    · rename_i ys q
      cases e
      first
        | exact beqTs_self _
        | (rw [q]; exact beqTs_self _)
    · cases e
  | _ => rfl
section
variable {G : Gx} {m : Ml} {H : Hp} {hp : MH} {x : T} {a : Addr} {xs : List T}
/-- a list stays the list while its source is unchanged -/
theorem ls_later (rel : Rel G m H hp) (h : R G m H x (.ref a)) (e : lsOf hp x = some xs) : ∀ m' H' h', Wk m m' H H' → Rel G m' H' h' → chk (srcOf x xs) h' = true → ∃ vs, SqL G.K H' a vs ∧ Rs G m' H' xs vs := by
  intro m' H' h' s rel' c
  cases x with
  | lst ys =>
    cases e
    have := R.wk s _ _ h
    simp only [R] at this
    obtain ⟨b, vs, q, f, rs⟩ := this
    cases q
    exact ⟨vs, SqL.of f.1, rs⟩
  | klst ys =>
    cases e
    have := R.wk s _ _ h
    simp only [R] at this
    obtain ⟨b, vs, q, f, rs⟩ := this
    cases q
    exact ⟨vs, f.elim (fun f => .inl f.1) .inr, rs⟩
  | loc n =>
    have h' := R.wk s _ _ h
    simp only [srcOf, chk] at c
    split at c
    · rename_i zs q
      obtain rfl := beqTs_ok _ _ c
      obtain ⟨b, e1, e2, vs, e3, rs⟩ := rel'.cell h' q
      cases e2
      exact ⟨vs, SqL.of e3, rs⟩
    · cases c
  | _ => cases e
theorem walk_ls (h : ∀ m' H' h', Wk m m' H H' → Rel G m' H' h' → chk (srcOf x xs) h' = true → ∃ vs, SqL G.K H' a vs ∧ Rs G m' H' xs vs) : WalkM G (Itl G.K a) xs (srcOf x xs) m H := by
  intro m' H' h' s rel c
  obtain ⟨vs, sq, rs⟩ := h m' H' h' s rel c
  have hl := Rs.len rs
  refine ⟨fun i hi => ⟨vs, vs[i]'(by omega), sq, by simp [← hl, hi]⟩, ⟨vs, sq, by omega⟩, fun i y H'' z yl ez => ?_⟩
  obtain ⟨rfl, yl⟩ := yl
  obtain ⟨u, e1, r1⟩ := Rs.get rs ez
  have := yl vs sq
  rw [e1] at this
  cases this
  exact ⟨.refl, rel, r1⟩
theorem tp_later (h : R G m H x (.ref a)) (e : tpOf x = some xs) : ∀ m' H', Wk m m' H H' → ∃ vs, SqT G.K H' a vs ∧ Rs G m' H' xs vs := by
  intro m' H' s
  obtain ⟨b, vs, q, sq, rs⟩ := tpOf_ok (R.wk s _ _ h) e
  cases q
  exact ⟨vs, sq, rs⟩
theorem walk_tp (h : ∀ m' H', Wk m m' H H' → ∃ vs, SqT G.K H' a vs ∧ Rs G m' H' xs vs) : WalkM G (Itt G.K a) xs none m H := by
  intro m' H' h' s rel c
  obtain ⟨vs, sq, rs⟩ := h m' H' s
  have hl := Rs.len rs
  refine ⟨fun i hi => ⟨vs, vs[i]'(by omega), sq, by simp [← hl, hi]⟩, ⟨vs, sq, by omega⟩, fun i y H'' z yl ez => ?_⟩
  obtain ⟨rfl, yl⟩ := yl
  obtain ⟨u, e1, r1⟩ := Rs.get rs ez
  have := yl vs sq
  rw [e1] at this
  cases this
  exact ⟨.refl, rel, r1⟩
end
section
variable {X : Cx} {cl : Cln} {W : WX} {tg e : Expr} {f : EM} {es : List Expr} {pos : Pos} {fa : AM}
theorem mi_e (he : ME X cl W e f) : MI X cl W tg e (itE f) := by
  refine ⟨PI.imp (PI.or (pi_list he.pe) (pi_tup he.pe)) fun σ H Q h => ?_⟩
  obtain ⟨r, hp, m, re, rel, p⟩ := h
  unfold itE at p
  cases ex : f r hp with
  | exc c fs h' =>
    rw [ex] at p
    refine .inl ⟨r, hp, m, re, rel, ?_⟩
    rw [ex]
    exact p
  | bad => rw [ex] at p; exact p.elim
  | ok x h1 =>
    rw [ex] at p
    have p : Pst (gx X cl) m H (itOf x h1) _ _ := p
    unfold itOf at p
    split at p
    · rename_i xs e1
      refine .inl ⟨r, hp, m, re, rel, ?_⟩
      rw [ex]
      intro m' H' s rel' v rv
      obtain ⟨a, vs, rfl, sq, rs⟩ := lsOf_ok rel' rv e1
      have := p m' H' s rel' (Itl X.K a) (walk_ls (ls_later rel' rv e1))
      exact ⟨a, rfl, ⟨vs, sq⟩, this⟩
    · split at p
      · rename_i xs e1
        refine .inr ⟨r, hp, m, re, rel, ?_⟩
        rw [ex]
        intro m' H' s rel' v rv
        obtain ⟨a, vs, rfl, sq, rs⟩ := tpOf_ok rv e1
        exact ⟨a, rfl, ⟨vs, sq⟩, p m' H' s rel' (Itt X.K a) (walk_tp (tp_later rv e1))⟩
      · exact p.elim
def rgL (lo : Int) (n : Nat) : List T := (List.range n).map fun i => .int (lo + (i : Nat))
theorem walk_rg {G : Gx} {m : Ml} {H : Hp} (lo : Int) (n : Nat) : WalkM G (Itr lo n) (rgL lo n) none m H := by
  intro m' H' h' s rel c
  have hl : (rgL lo n).length = n := by simp [rgL]
  refine ⟨fun i hi => by rw [hl] at hi; exact hi, by rw [hl]; exact Nat.le_refl _, fun i y H'' z yl ez => ?_⟩
  obtain ⟨rfl, rfl⟩ := yl
  have hi : i < n := by rw [← hl]; exact (List.getElem?_eq_some_iff.mp ez).1
  simp [rgL, hi] at ez
  subst ez
  exact ⟨.refl, rel, by simp only [R]⟩
def rgOk (i : Int) : Bool := decide (-(2 ^ 62) ≤ i) && decide (i < 2 ^ 62)
theorem rgOk_ok {i : Int} (h : rgOk i = true) : -(2 ^ 62) ≤ i ∧ i < 2 ^ 62 := by
  simp only [rgOk, Bool.and_eq_true, decide_eq_true_eq] at h
  exact h
def itR1 (f : AM) : IM := fun r h => (f r h).bind fun xs h1 => match xs with
  | [.int j] => if rgOk j = true then .ok (rgL 0 j.toNat, none) h1 else .bad
  | _ => .bad
def itR2 (f : AM) : IM := fun r h => (f r h).bind fun xs h1 => match xs with
  | [.int i, .int j] => if rgOk i = true ∧ rgOk j = true then .ok (rgL i (j - i).toNat, none) h1 else .bad
  | _ => .bad
theorem mi_r1 {a : Expr} {p : Pos} (hg : Gl X "range") (hm : X.mg "range" = none) (ha : MA X cl W [a] fa) (hs : starEach [a] X.env = [(false, eval a X.env)] := by rfl) : MI X cl W tg (.Call (.Name "range" p) [a] [] pos) (itR1 fa) := by
  refine ⟨PI.imp (pi_range1 hg hm ha.pa hs) fun σ H Q h => ?_⟩
  obtain ⟨r, hp, m, re, rel, p⟩ := h
  refine ⟨r, hp, m, re, rel, p.bind.mono (fun xs m1 h1 H1 s q vs rv => ?_) fun _ _ _ z => z⟩
  obtain ⟨rel1, p1⟩ := q
  split at p1
  · rename_i j
    obtain ⟨v, t, rfl, h2, h3⟩ := Rs.cons_iff.mp rv
    obtain rfl := Rs.nil_iff.mp h3
    simp only [R] at h2
    subst h2
    split at p1
    · rename_i hj
      obtain ⟨l1, l2⟩ := rgOk_ok hj
      exact ⟨j, rfl, l1, l2, (p1.ok_ rel1) _ (walk_rg 0 _)⟩
    · exact p1.elim
  · exact p1.elim
theorem mi_r2 {a b : Expr} {p : Pos} (hg : Gl X "range") (hm : X.mg "range" = none) (ha : MA X cl W [a, b] fa) (hs : starEach [a, b] X.env = [(false, eval a X.env), (false, eval b X.env)] := by rfl) (hs2 : starEach [b] X.env = [(false, eval b X.env)] := by rfl) :
    MI X cl W tg (.Call (.Name "range" p) [a, b] [] pos) (itR2 fa) := by
  refine ⟨PI.imp (pi_range2 hg hm ha.pa hs hs2) fun σ H Q h => ?_⟩
  obtain ⟨r, hp, m, re, rel, p⟩ := h
  refine ⟨r, hp, m, re, rel, p.bind.mono (fun xs m1 h1 H1 s q vs rv => ?_) fun _ _ _ z => z⟩
  obtain ⟨rel1, p1⟩ := q
  split at p1
  · rename_i i j
    obtain ⟨v, t, rfl, h2, h3⟩ := Rs.cons_iff.mp rv
    obtain ⟨w, t, rfl, h4, h5⟩ := Rs.cons_iff.mp h3
    obtain rfl := Rs.nil_iff.mp h5
    simp only [R] at h2 h4
    subst h2 h4
    split at p1
    · rename_i hj
      obtain ⟨l1, l2⟩ := rgOk_ok hj.1
      obtain ⟨l3, l4⟩ := rgOk_ok hj.2
      exact ⟨i, j, rfl, ⟨l1, l2, l3, l4⟩, (p1.ok_ rel1) _ (walk_rg i _)⟩
    · exact p1.elim
  · exact p1.elim
end

/-! ### for -/
def forS (src : Src) (all : List T) (g : GM) (body : SM) : List T → SM
  | [], r, h => if chk src h = true then .nx r h else .bad
  | x :: xs, r, h => if chk src h = true then (match g x r with
    | some r1 => (match body r1 h with
      | .nx r' h' => forS src all g body xs r' h'
      | .ct r' h' => forS src all g body xs r' h'
      | .bk r' h' => .nx r' h'
      | o => o)
    | none => .bad) else .bad
def sFor (it : IM) (g : GM) (body : SM) : SM := fun r h => lift (it r h) r fun p h1 => forS p.2 p.1 g body p.1 r h1
section
variable {X : Cx} {cl : Cln} {W : WX} {tg e : Expr} {body : List Stmt} {pos : Pos} {it : IM} {g : GM} {sl : List Nat} {F : SM}
theorem drop_at {α : Type} {xs : List α} {i : Nat} (h : i < xs.length) : xs.drop i = xs[i] :: xs.drop (i + 1) := List.drop_eq_getElem_cons h
theorem ms_for (hp : PassesOwn (model X.prog X.w) X.A X.env X.xe) (hc : X.calm = true) (hi : MI X cl W tg e it) (hg : MG X cl tg sl g) (hb : MB X cl W body F) (hs : ∀ x, foldedSetIterable e X.env x = pure x := by intro _; rfl) : MS X cl W (.For tg e body [] pos) (sFor it g F) := by
  refine ⟨PS.imp (ps_for hp hc hi.pi hg.pg hb.pss hs) fun D σ H h => ?_⟩
  obtain ⟨r, hp, m, re, rel, p⟩ := h
  refine ⟨r, hp, m, re, rel, (p.lift re).mono (fun q m1 h1 H1 s z J wk => ?_) fun _ _ _ z => z⟩
  obtain ⟨its, src⟩ := q
  obtain ⟨rel1, re1, fl⟩ := z
  let Gd : Hp → Prop := fun H' => ∃ m' h', Wk m1 m' H1 H' ∧ Rel (gx X cl) m' H' h' ∧ chk src h' = true
  have w : Walk J its.length Gd J.yld := ⟨fun i H' hi ⟨m', h', a, b, c⟩ => (wk m' H' h' a b c).1 i hi, fun H' ⟨m', h', a, b, c⟩ => (wk m' H' h' a b c).2.1, fun _ _ _ _ _ _ y => y⟩
  refine for_it w (fun i σ' H' => ∃ m' h' r', RE (gx X cl) m' H' r' σ' ∧ Rel (gx X cl) m' H' h' ∧ Wk m1 m' H1 H' ∧ FlQ (gx X cl) m' H' D W (forS src its g F (its.drop i) r' h')) ?_ ?_ ?_ ?_
  · exact ⟨m1, h1, r, re1, rel1, ⟨⟨[], by simp⟩, fun _ _ _ h n => ⟨h, n⟩⟩, fl⟩
  · rintro i σ' H' hi ⟨m', h', r', re', rel', s', fl'⟩
    refine ⟨m', h', s', rel', ?_⟩
    cases hd : its.drop i with
    | nil =>
      rw [hd] at fl'
      simp only [forS] at fl'
      split at fl'
      · assumption
      · exact fl'.elim
    | cons z zs =>
      rw [hd] at fl'
      simp only [forS] at fl'
      split at fl'
      · assumption
      · exact fl'.elim
  · rintro i x σ' H' H'' hi ⟨m', h', r', re', rel', s', fl'⟩ y
    rw [drop_at hi] at fl'
    simp only [forS] at fl'
    split at fl'
    · rename_i hck
      obtain ⟨_, _, yk⟩ := wk m' H' h' s' rel' hck
      obtain ⟨s2, rel2, rx⟩ := yk i x H'' its[i] y (List.getElem?_eq_getElem hi)
      split at fl'
      · rename_i r1 e1
        refine ⟨r', m', its[i], r1, re'.step s2, rx, e1, fun σ2 re2 _ => ⟨r1, h', m', re2, rel2, ?_⟩⟩
        have fl2 := fl'.step s2
        have s3 : Wk m1 m' H1 H'' := ⟨s'.pre, fun a o t q n => by
          obtain ⟨q1, n1⟩ := s'.fr a o t q n
          exact s2.wk.fr a o t q1 n1⟩
        have nxt : ∀ r4 h4, FlQ (gx X cl) m' H'' D W (forS src its g F (its.drop (i + 1)) r4 h4) → ∀ m5 H5 σ5, Stp m' m5 H'' H5 → Rel (gx X cl) m5 H5 h4 → RE (gx X cl) m5 H5 r4 σ5 →
            ∃ m' h' r', RE (gx X cl) m' H5 r' σ5 ∧ Rel (gx X cl) m' H5 h' ∧ Wk m1 m' H1 H5 ∧ FlQ (gx X cl) m' H5 D W (forS src its g F (its.drop (i + 1)) r' h') := fun r4 h4 q m5 H5 σ5 s5 rel5 re5 => by
          refine ⟨m5, h4, r4, re5, rel5, ⟨?_, fun a o t q n => ?_⟩, q.step s5⟩
          · obtain ⟨n1, e1⟩ := s3.pre
            obtain ⟨n2, e2⟩ := s5.pre
            exact ⟨n1 ++ n2, by rw [e2, e1, List.append_assoc]⟩
          · obtain ⟨q1, n1⟩ := s3.fr a o t q n
            exact s5.wk.fr a o t q1 n1
        cases eb : F r1 h' with
        | nx r4 h4 =>
          rw [eb] at fl2
          exact fun m5 H5 σ5 s5 rel5 re5 => nxt r4 h4 fl2 m5 H5 σ5 s5 rel5 re5
        | ct r4 h4 =>
          rw [eb] at fl2
          exact fun m5 H5 σ5 s5 rel5 re5 => nxt r4 h4 fl2 m5 H5 σ5 s5 rel5 re5
        | bk r4 h4 => rw [eb] at fl2; exact fl2
        | ret v h4 => rw [eb] at fl2; exact fl2
        | ex c fs r4 h4 => rw [eb] at fl2; exact fl2
        | bad => rw [eb] at fl2; exact fl2
      · exact fl'.elim
    · exact fl'.elim
  · rintro σ' H' ⟨m', h', r', re', rel', s', fl'⟩
    rw [List.drop_length] at fl'
    simp only [forS] at fl'
    split at fl'
    · exact fl' m' H' σ' .refl rel' re'
    · exact fl'.elim

/-! ### while -/
def whS (c : TM) (body : SM) : Nat → SM
  | 0, _, _ => .bad
  | n + 1, r, h => lift (c r h) r fun b h1 => if b = true then (match body r h1 with
      | .nx r' h' => whS c body n r' h'
      | .ct r' h' => whS c body n r' h'
      | .bk r' h' => .nx r' h'
      | o => o) else .nx r h1
theorem ms_while (n : Nat) {c : Expr} {t : TM} (hp : PassesOwn (model X.prog X.w) X.A X.env X.xe) (hc : MT X cl W c t) (hb : MB X cl W body F) : MS X cl W (.While c body [] pos) (whS t F n) := by
  refine ⟨PS.imp (ps_while hp hc.pt hb.pss) fun D σ H h => ?_⟩
  obtain ⟨r, hp, m, re, rel, p⟩ := h
  refine ⟨fun k σ H => ∃ r hp m, RE (gx X cl) m H r σ ∧ Rel (gx X cl) m H hp ∧ FlQ (gx X cl) m H D W (whS t F k r hp), ⟨n, r, hp, m, re, rel, p⟩, ?_⟩
  rintro k σ H ⟨r, hp, m, re, rel, p⟩
  cases k with
  | zero => exact p.elim
  | succ k =>
    have p : FlQ (gx X cl) m H D W (lift (t r hp) r fun b h1 => if b = true then (match F r h1 with
      | .nx r' h' => whS t F k r' h'
      | .ct r' h' => whS t F k r' h'
      | .bk r' h' => .nx r' h'
      | o => o) else .nx r h1) := p
    refine ⟨r, hp, m, re, rel, (p.lift re).mono (fun b m1 h1 H1 s z => ?_) fun _ _ _ z => z⟩
    obtain ⟨rel1, re1, fl⟩ := z
    cases b with
    | false => exact fl m1 H1 σ .refl rel1 re1
    | true =>
      refine ⟨fun σ' H' => ∃ r hp m, RE (gx X cl) m H' r σ' ∧ Rel (gx X cl) m H' hp ∧ FlQ (gx X cl) m H' D W (whS t F k r hp), fun σ' H' q => ⟨k, Nat.lt_succ_self _, q⟩, r, h1, m1, re1, rel1, ?_⟩
      have fl : FlQ (gx X cl) m1 H1 D W (match F r h1 with
        | .nx r' h' => whS t F k r' h'
        | .ct r' h' => whS t F k r' h'
        | .bk r' h' => .nx r' h'
        | o => o) := fl
      cases eb : F r h1 with
      | nx r4 h4 =>
        rw [eb] at fl
        exact fun m5 H5 σ5 s5 rel5 re5 => ⟨r4, h4, m5, re5, rel5, fl.step s5⟩
      | ct r4 h4 =>
        rw [eb] at fl
        exact fun m5 H5 σ5 s5 rel5 re5 => ⟨r4, h4, m5, re5, rel5, fl.step s5⟩
      | bk r4 h4 => rw [eb] at fl; exact fl
      | ret v h4 => rw [eb] at fl; exact fl
      | ex c fs r4 h4 => rw [eb] at fl; exact fl
      | bad => rw [eb] at fl; exact fl
end
end TW
namespace TW
open PySem PySem.Spec L2

/-! ### comprehensions -/
/-- nothing may be raised within -/
def calm {α : Type} (x : Res α) : Res α := match x with
  | .ok a h => .ok a h
  | _ => .bad
def wipeR (r : Rho) : List Nat → Rho
  | [] => r
  | v :: vs => (wipeR r vs).set v none
def lcS (src : Src) (all : List T) (g : GM) (tt : TM) (te : EM) (r0 : Rho) : List T → MH → Res (List T)
  | [], h => if chk src h = true then .ok [] h else .bad
  | x :: xs, h => if chk src h = true then (match g x r0 with
    | some r1 => (calm (tt r1 h)).bind fun b h1 => if b = true then (calm (te r1 h1)).bind fun y h2 => (lcS src all g tt te r0 xs h2).bind fun ys h3 => .ok (y :: ys) h3 else lcS src all g tt te r0 xs h1
    | none => .bad) else .bad
def lcM (k : List T → MH → Res T) (it : IM) (g : GM) (tt : TM) (te : EM) (vs : List Nat) : EM := fun r h => (it r h).bind fun p h1 => (lcS p.2 p.1 g tt te (wipeR r vs) p.1 h1).bind k
/-- no test -/
def tYes : TM := fun _ h => .ok true h
/-- a clause's tests -/
structure MTs (X : Cx) (cl : Cln) (W : WX) (es : List Expr) (f : TM) : Prop where
  pts : PTs X es (tMT (gx X cl) W f)
section
variable {G : Gx} {m : Ml} {H : Hp}
theorem RE.wipe {r : Rho} {σ : L2.St} (re : RE G m H r σ) : ∀ vs : List Nat, RE G m H (wipeR r vs) (wipe σ vs)
  | [] => re
  | v :: vs => (RE.wipe re vs).unset
theorem lcS_noexc {src : Src} {all : List T} {g : GM} {tt : TM} {te : EM} {r0 : Rho} : ∀ (xs : List T) (h : MH) (c : Str) (fs : List (Str × T)) (h' : MH), lcS src all g tt te r0 xs h ≠ .exc c fs h'
  | [], h, c, fs, h' => by unfold lcS; split <;> (intro e; cases e)
  | x :: xs, h, c, fs, h' => by
    unfold lcS
    split
    · split
      · rename_i r1 _
        cases tt r1 h with
        | ok b h1 =>
          simp only [calm, Res.bind]
          split
          · cases te r1 h1 with
            | ok y h2 =>
              simp only [calm, Res.bind]
              have := lcS_noexc (src := src) (all := all) (g := g) (tt := tt) (te := te) (r0 := r0) xs h2
              cases e : lcS src all g tt te r0 xs h2 with
              | ok ys h3 => intro q; cases q
              | exc c' fs' h3 => exact absurd e (this _ _ _)
              | bad => intro q; cases q
            | exc c' fs' h2 => intro q; cases q
            | bad => intro q; cases q
          · exact lcS_noexc xs h1 c fs h'
        | exc c' fs' h1 => intro q; cases q
        | bad => intro q; cases q
      · intro q; cases q
    · intro q; cases q
theorem wipe_set {σ : L2.St} (i : Nat) : ∀ vs : List Nat, i ∈ vs → i < σ.length → (wipe σ vs)[i]? = some none
  | [], h, _ => by cases h
  | v :: vs, h, hl => by
    unfold wipe
    by_cases e : v = i
    · subst e
      exact List.getElem?_set_self (by rw [wipe_length]; exact hl)
    · rw [List.getElem?_set_ne e]
      rcases List.mem_cons.mp h with q | q
      · exact absurd q.symm e
      · exact wipe_set i vs q hl
theorem wipe_same {σ σ2 : L2.St} {vs sl : List Nat} (so : SameOut sl (wipe σ vs) σ2) (hs : ∀ i ∈ sl, i ∈ vs) : wipe σ2 vs = wipe σ vs := by
  have hl : σ2.length = σ.length := by rw [so.1, wipe_length]
  apply List.ext_getElem?
  intro i
  by_cases hi : i ∈ vs
  · by_cases hb : i < σ.length
    · rw [wipe_set i vs hi (by omega), wipe_set i vs hi hb]
    · rw [List.getElem?_eq_none (by rw [wipe_length]; omega), List.getElem?_eq_none (by rw [wipe_length]; omega)]
  · rw [wipe_out hi, so.2 i fun z => hi (hs i z)]
end
/-- what is kept while a new object at D is under way -/
structure Way (m1 m : Ml) (H1 H : Hp) (D : Addr) : Prop where
  z : m.z = D :: m1.z
  pre : ∃ n, m.c = m1.c ++ n
  fr : ∀ a o, NT o → H1 a = some o → a ∉ m1.c → H a = some o ∧ a ∉ m.c
section
variable {G : Gx} {m1 m m' : Ml} {H1 H H' : Hp} {D : Addr} {o : HO} {h : MH}
theorem Way.wk (w : Way m1 m H1 H D) (hD : H1 D = none) : Wk m1 m H1 H := ⟨w.pre, fun a o t e n => ⟨(w.fr a o t e n.1).1, (w.fr a o t e n.1).2, fun z => by
  rw [w.z] at z
  rcases List.mem_cons.mp z with z | z
  · exact ne_of_none e hD z
  · exact n.2 z⟩⟩
theorem Way.step (w : Way m1 m H1 H D) (s : Stp m m' H H') : Way m1 m' H1 H' D := by
  refine ⟨s.pz.trans w.z, ?_, fun a o t e n => ?_⟩
  · obtain ⟨n1, e1⟩ := w.pre
    obtain ⟨n2, e2⟩ := s.pre
    exact ⟨n1 ++ n2, by rw [e2, e1, List.append_assoc]⟩
  · obtain ⟨q1, n1⟩ := w.fr a o t e n
    exact s.fr a o t q1 n1
theorem Way.put (w : Way m1 m H1 H D) (hD : H1 D = none) : Way m1 m H1 (upd H D o) D := ⟨w.z, w.pre, fun a u t e n => by
  obtain ⟨q1, n1⟩ := w.fr a u t e n
  exact ⟨by rw [upd_ne (ne_of_none e hD)]; exact q1, n1⟩⟩
theorem Way.lay (hD : H1 D = none) : Way m1 (m1.lay D) H1 (upd H1 D o) D := ⟨rfl, ⟨[], by simp [Ml.lay]⟩, fun a u _ e n => ⟨by rw [upd_ne (ne_of_none e hD)]; exact e, n⟩⟩
theorem Way.stp (w : Way m1 m H1 H D) : Stp m1 ⟨m.c, m1.z⟩ H1 H := ⟨rfl, w.pre, w.fr⟩
theorem Way.stpc (w : Way m1 m H1 H D) (hD : H1 D = none) : Stp m1 ⟨m.c ++ [D], m1.z⟩ H1 H := ⟨rfl, by
  obtain ⟨n, e⟩ := w.pre
  exact ⟨n ++ [D], by show m.c ++ [D] = _; rw [e, List.append_assoc]⟩, fun a u t e n => by
  obtain ⟨q1, n1⟩ := w.fr a u t e n
  refine ⟨q1, fun z => ?_⟩
  rcases List.mem_append.mp z with z | z
  · exact n1 z
  · rw [List.mem_singleton] at z
    exact ne_of_none e hD z⟩
/-- handed out as a cell -/
theorem Wk.outc (w : m.z = D :: m1.z) (nd : D ∉ m1.z) : Wk m ⟨m.c ++ [D], m1.z⟩ H H := ⟨⟨[D], rfl⟩, fun b u _ e n => ⟨e, fun z => by
  rcases List.mem_append.mp z with z | z
  · exact n.1 z
  · rw [List.mem_singleton] at z
    exact n.2 (by rw [w, z]; exact List.mem_cons_self), fun z => n.2 (by rw [w]; exact List.mem_cons_of_mem _ z)⟩⟩
theorem Rel.outc (rel : Rel G m H h) (w : m.z = D :: m1.z) (nd : D ∉ m1.z) {mo : MO} (new : RO G ⟨m.c ++ [D], m1.z⟩ H D mo) : Rel G ⟨m.c ++ [D], m1.z⟩ H (h ++ [mo]) := by
  have wk : Wk m ⟨m.c ++ [D], m1.z⟩ H H := Wk.outc w nd
  have nc : D ∉ m.c := rel.zd D (by rw [w]; exact List.mem_cons_self)
  refine ⟨by simp [rel.len], ?_, fun n a mo' e1 e2 => ?_, fun a ha => rel.zs a (by rw [w]; exact List.mem_cons_of_mem _ ha), fun a ha hc => ?_, rel.tb.to fun b _ n => ⟨rfl, fun z => ?_, fun z => n.2 (by rw [w]; exact List.mem_cons_of_mem _ z)⟩⟩
  · show (m.c ++ [D]).Nodup
    rw [List.nodup_append]
    refine ⟨rel.nd, by simp, fun x hx y hy => ?_⟩
    rw [List.mem_singleton] at hy
    subst hy
    exact fun z => nc (z ▸ hx)
  · have e1 : (m.c ++ [D])[n]? = some a := e1
    by_cases hn : n < m.c.length
    · rw [List.getElem?_append_left hn] at e1
      rw [List.getElem?_append_left (by rw [← rel.len]; exact hn)] at e2
      exact (rel.ob n a mo' e1 e2).wk wk rfl
    · have hn' : n = m.c.length := by
        have := (List.getElem?_eq_some_iff.mp e1).1
        simp at this
        omega
      subst hn'
      rw [List.getElem?_append_right (Nat.le_refl _)] at e1
      rw [rel.len, List.getElem?_append_right (Nat.le_refl _)] at e2
      simp at e1 e2
      subst e1 e2
      exact new
  · rcases List.mem_append.mp hc with hc | hc
    · exact rel.zd a (by rw [w]; exact List.mem_cons_of_mem _ ha) hc
    · rw [List.mem_singleton] at hc
      exact nd (by rw [← hc]; exact ha)
  · rcases List.mem_append.mp z with z | z
    · exact n.1 z
    · rw [List.mem_singleton] at z
      exact n.2 (by rw [w, z]; exact List.mem_cons_self)
/-- the end of a new list that was under way -/
theorem way_end {h1' : MH} {k : List T → MH → Res T} (hk : k = lstK ∨ k = lstL) {xs : List T} {acc : List V} {Q : VK} {W : XK} (w : Way m1 m H1 H D) (hD : H1 D = none) (rel1 : Rel G m1 H1 h1') (rel : Rel G m H h) (rs : Rs G m H xs acc) (hl : H D = some (.lst acc))
    (p : Pst G m1 H1 (k xs h) (fun z m' _ H' => ∀ u, R G m' H' z u → Q u H') W) : Q (.ref D) H := by
  have nd : D ∉ m1.z := fun z => by
    obtain ⟨o, _, e⟩ := rel1.zs D z
    rw [hD] at e; cases e
  rcases hk with rfl | rfl
  · unfold lstK at p
    split at p
    · have wk : Wk m ⟨m.c, m1.z⟩ H H := Wk.out w.z
      refine p ⟨m.c, m1.z⟩ H w.stp (rel.out w.z) _ ?_
      simp only [R]
      exact ⟨D, acc, rfl, ⟨hl, rel.zd D (by rw [w.z]; exact List.mem_cons_self), nd⟩, Rs.wk wk _ _ rs⟩
    · exact p.elim
  · unfold lstL at p
    split at p
    · refine p _ H (w.stpc hD) (rel.outc w.z nd ⟨acc, hl, Rs.wk (Wk.outc w.z nd) _ _ rs⟩) _ ?_
      simp only [R]
      refine ⟨D, ?_, rfl⟩
      show (m.c ++ [D])[_]? = _
      rw [← rel.len, List.getElem?_append_right (Nat.le_refl _)]
      simp
    · exact p.elim
theorem two_len {k : List T → MH → Res T} (hk : k = lstK ∨ k = lstL) {xs : List T} {Q : T → Ml → MH → Hp → Prop} {W : XK} (p : Pst G m H (k xs h) Q W) : xs.length ≤ sizeLine := by
  rcases hk with rfl | rfl
  · unfold lstK at p
    split at p
    · assumption
    · exact p.elim
  · unfold lstL at p
    split at p
    · assumption
    · exact p.elim
end
abbrev WF : WX := fun _ _ _ _ => False
section
variable {X : Cx} {cl : Cln} {W : WX}
theorem calm_ok {α : Type} {G : Gx} {m : Ml} {H : Hp} {x : Res α} {a : α} {h : MH} {Q : α → Ml → MH → Hp → Prop} {W : XK} (e : calm x = .ok a h) (q : ∀ m' H', Stp m m' H H' → Rel G m' H' h → Q a m' h H') : Pst G m H x Q W := by
  cases x with
  | ok b h' =>
    have e : Res.ok b h' = Res.ok a h := e
    cases e
    exact q
  | exc c fs h' => cases e
  | bad => cases e
/-- what a comprehension reads, from its mirror -/
theorem lc_ok {it : IM} {g : GM} {sl : List Nat} {tt : TM} {te : EM} {vs : List Nat} {k : List T → MH → Res T} (hk : k = lstK ∨ k = lstL) (hsl : ∀ i ∈ sl, i ∈ vs) {σ : L2.St} {H : Hp} {Q : VK} (h : tM (gx X cl) W (lcM k it g tt te vs) σ H Q) :
    tLc (tMI (gx X cl) W it) (tMG (gx X cl) sl g) (tMT (gx X cl) WF tt) (tM (gx X cl) WF te) vs σ H Q := by
  obtain ⟨r, hp, m, re, rel, p⟩ := h
  refine ⟨r, hp, m, re, rel, p.bind.mono (fun q m1 h1 H1 s z J wk D hD => ?_) fun _ _ _ z => z⟩
  obtain ⟨its, src⟩ := q
  obtain ⟨rel1, p1⟩ := z
  have re1 := re.step s
  obtain ⟨ysF, hF, eF, pF⟩ : ∃ ysF hF, lcS src its g tt te (wipeR r vs) its h1 = .ok ysF hF ∧ Pst (gx X cl) m1 H1 (k ysF hF) (fun z m' _ H' => ∀ u, R (gx X cl) m' H' z u → Q u H') (fun c d H' => W c d σ H') := by
    cases e : lcS src its g tt te (wipeR r vs) its h1 with
    | ok ys h2 => rw [e] at p1; exact ⟨ys, h2, rfl, p1⟩
    | exc c fs h2 => exact absurd e (lcS_noexc _ _ _ _ _)
    | bad => rw [e] at p1; exact p1.elim
  have lenF := two_len hk pF
  let Gd : Hp → Prop := fun H' => ∃ m' h', Wk m1 m' H1 H' ∧ Rel (gx X cl) m' H' h' ∧ chk src h' = true
  have w : Walk J its.length Gd J.yld := ⟨fun i H' hi ⟨m', h', a, b, c⟩ => (wk m' H' h' a b c).1 i hi, fun H' ⟨m', h', a, b, c⟩ => (wk m' H' h' a b c).2.1, fun _ _ _ _ _ _ y => y⟩
  refine lc_it w (fun i H' => ∃ m' h' xs acc ys, Way m1 m' H1 H' D ∧ Rel (gx X cl) m' H' h' ∧ Rs (gx X cl) m' H' xs acc ∧ H' D = some (.lst acc) ∧ lcS src its g tt te (wipeR r vs) (its.drop i) h' = .ok ys hF ∧ xs ++ ys = ysF) ?_ ?_ ?_ ?_
  · exact ⟨m1.lay D, h1, [], [], ysF, Way.lay hD, rel1.lay hD, Rs.nil, upd_same, eF, rfl⟩
  · rintro i H' hi ⟨m', h', xs, acc, ys, wy, rel', rs, hd, el, ey⟩
    refine ⟨m', h', wy.wk hD, rel', ?_⟩
    cases hdr : its.drop i with
    | nil =>
      rw [hdr] at el
      unfold lcS at el
      split at el
      · assumption
      · cases el
    | cons z zs =>
      rw [hdr] at el
      unfold lcS at el
      split at el
      · assumption
      · cases el
  · rintro i x H' H'' hi ⟨m', h', xs, acc, ys, wy, rel', rs, hd, el, ey⟩ y
    rw [drop_at hi] at el
    unfold lcS at el
    split at el
    · rename_i hck
      obtain ⟨_, _, yk⟩ := wk m' H' h' (wy.wk hD) rel' hck
      obtain ⟨s2, rel2, rx⟩ := yk i x H'' its[i] y (List.getElem?_eq_getElem hi)
      have wy2 := wy.step s2
      have hd2 : H'' D = some (.lst acc) := (s2.fr D _ (by intro _ z; cases z) hd (rel'.zd D (by rw [wy.z]; exact List.mem_cons_self))).1
      have rs2 := Rs.step s2 _ _ rs
      split at el
      · rename_i r1 e1
        refine ⟨wipeR r vs, m', its[i], r1, (re1.wk (wy2.wk hD)).wipe vs, rx, e1, fun σ2 re2 so => ⟨wipe_same so hsl, r1, h', m', re2, rel2, ?_⟩⟩
        cases et : calm (tt r1 h') with
        | exc c fs h2 => rw [et] at el; cases el
        | bad => rw [et] at el; cases el
        | ok b h2 =>
          rw [et] at el
          refine calm_ok et fun m3 H3 s3 rel3 => ?_
          have el : (if b = true then (calm (te r1 h2)).bind fun y h2 => (lcS src its g tt te (wipeR r vs) (its.drop (i + 1)) h2).bind fun ys h3 => .ok (y :: ys) h3 else lcS src its g tt te (wipeR r vs) (its.drop (i + 1)) h2) = .ok ys hF := el
          have wy3 := wy2.step s3
          have hd3 : H3 D = some (.lst acc) := (s3.fr D _ (by intro _ z; cases z) hd2 (rel2.zd D (by rw [wy2.z]; exact List.mem_cons_self))).1
          have rs3 := Rs.step s3 _ _ rs2
          cases b with
          | false => exact ⟨m3, h2, xs, acc, ys, wy3, rel3, rs3, hd3, el, ey⟩
          | true =>
            have el : ((calm (te r1 h2)).bind fun y h2 => (lcS src its g tt te (wipeR r vs) (its.drop (i + 1)) h2).bind fun ys h3 => .ok (y :: ys) h3) = .ok ys hF := el
            refine ⟨r1, h2, m3, re2.step s3, rel3, ?_⟩
            cases ee : calm (te r1 h2) with
            | exc c fs h3 => rw [ee] at el; cases el
            | bad => rw [ee] at el; cases el
            | ok yt h3 =>
              rw [ee] at el
              have el : ((lcS src its g tt te (wipeR r vs) (its.drop (i + 1)) h3).bind fun ys h3 => .ok (yt :: ys) h3) = .ok ys hF := el
              refine calm_ok ee fun m4 H4 s4 rel4 v rv => ?_
              have wy4 := wy3.step s4
              have hd4 : H4 D = some (.lst acc) := (s4.fr D _ (by intro _ z; cases z) hd3 (rel3.zd D (by rw [wy3.z]; exact List.mem_cons_self))).1
              have rs4 := Rs.step s4 _ _ rs3
              cases en : lcS src its g tt te (wipeR r vs) (its.drop (i + 1)) h3 with
              | exc c fs h5 => rw [en] at el; cases el
              | bad => rw [en] at el; cases el
              | ok zs h5 =>
                rw [en] at el
                have el : Res.ok (yt :: zs) h5 = Res.ok ys hF := el
                cases el
                have hl : acc.length < sizeLine := by
                  have := Rs.len rs4
                  rw [← ey] at lenF
                  simp only [List.length_append, List.length_cons] at lenF
                  omega
                have inz : D ∈ m4.z := by rw [wy4.z]; exact List.mem_cons_self
                refine ⟨acc, hd4, hl, m4, h3, xs ++ [yt], acc ++ [v], zs, wy4.put hD, rel4.pr inz, ?_, upd_same, en, by rw [← ey]; simp⟩
                exact Rs.wk (Wk.pr inz) _ _ (Rs.app rs4 (Rs.cons rv Rs.nil))
      · cases el
    · cases el
  · rintro H' ⟨m', h', xs, acc, ys, wy, rel', rs, hd, el, ey⟩
    rw [List.drop_length] at el
    unfold lcS at el
    split at el
    · cases el
      rw [List.append_nil] at ey
      subst ey
      exact way_end hk wy hD rel1 rel' rs hd pF
    · cases el
theorem mts_nil : MTs X cl W [] tYes := ⟨⟨fun pins s σ H Q I h => pts_nil.run pins s σ H Q I (by
  obtain ⟨r, hp, m, re, rel, p⟩ := h
  exact p.ok_ rel)⟩⟩
theorem mts_one {c : Expr} {f : TM} (h : MT X cl W c f) : MTs X cl W [c] f := ⟨pts_one h.pt⟩
abbrev Blk (X : Cx) (p : Cx → Prop) (scope : Scope) : Prop := ∀ (s : Shared) (H : Hp) (C : Addr) (cl : List (Str × Addr)) (fp : List Addr), p (X.blk s H scope (compEnvC scope cl C X.env) fp)
variable {elt tg iter : Expr} {ifs : List Expr} {scope : Scope} {own : List (Str × Nat)} {pos spos : Pos} {it : IM} {g : GM} {sl : List Nat} {tt : TM} {te : EM} {k : List T → MH → Res T}
theorem me_lc (hk : k = lstK ∨ k = lstL) (hc : X.calm = true) (hN : X.N.Nodup) (ok : BlkOk X.N X.env.scope scope own) (hi : MI X cl W tg iter it) (hsl : ∀ i ∈ sl, i ∈ own.map (·.2)) (hg : Blk X (fun Y => MG Y cl tg sl g) scope) (ht : Blk X (fun Y => MTs Y cl WF ifs tt) scope) (he : Blk X (fun Y => ME Y cl WF elt te) scope)
    (hs : ∀ x, foldedSetIterable iter X.env x = pure x := by intro _; rfl) : ME X cl W (.ListComp elt [⟨tg, iter, ifs, 0⟩] scope pos) (lcM k it g tt te (own.map (·.2))) :=
  ⟨PE.imp (pe_lc (g := tMG (gx X cl) sl g) (tt := tMT (gx X cl) WF tt) (te := tM (gx X cl) WF te) hc hN hi.pi ok (fun s H C c fp => (hg s H C c fp).pg) (fun s H C c fp => (ht s H C c fp).pts) (fun s H C c fp => (he s H C c fp).pe) hs) fun σ H Q h => lc_ok hk hsl h⟩
theorem ms_setLc (i : Nat) {y : Str} {py : Pos} (hk : k = lstK ∨ k = lstL) (hc : X.calm = true) (hN : X.N.Nodup) (ok : BlkOk X.N X.env.scope scope own) (hi : MI X cl W tg iter it) (hsl : ∀ i ∈ sl, i ∈ own.map (·.2)) (hg : Blk X (fun Y => MG Y cl tg sl g) scope) (ht : Blk X (fun Y => MTs Y cl WF ifs tt) scope) (he : Blk X (fun Y => ME Y cl WF elt te) scope)
    (hy : X.N[i]? = some y := by rfl) (hyl : X.env.scope.names.lookup y = some .local := by rfl) (hsw : swapsWith (.ListComp elt [⟨tg, iter, ifs, 0⟩] scope pos) (some (.Name y py)) spos.line X.env = pure true := by exact sw_true rfl rfl rfl rfl)
    (hs : ∀ x, foldedSetIterable iter X.env x = pure x := by intro _; rfl) : MS X cl W (.Assign [.Name y py] (.ListComp elt [⟨tg, iter, ifs, 0⟩] scope pos) spos) (sSet i (lcM k it g tt te (own.map (·.2)))) := by
  refine ⟨PS.imp (ps_setLc (g := tMG (gx X cl) sl g) (tt := tMT (gx X cl) WF tt) (te := tM (gx X cl) WF te) hc hN hy hyl hsw hi.pi ok (fun s H C c fp => (hg s H C c fp).pg) (fun s H C c fp => (ht s H C c fp).pts) (fun s H C c fp => (he s H C c fp).pe) hs) fun D σ H h => ?_⟩
  refine lc_ok (W := W) hk hsl ?_
  obtain ⟨r, hp, m, re, rel, p⟩ := h
  exact ⟨r, hp, m, re, rel, (p.lift re).mono (fun y m1 h1 H1 s q v rv => q.2.2 m1 H1 _ .refl q.1 (q.2.1.set rv)) fun _ _ _ z => z⟩
end
end TW
namespace TW
open PySem PySem.Spec L2

/-! ### defs -/
abbrev FM := List T → MH → Res T
def startR (n : Nat) (xs : List T) : Rho := xs.map some ++ List.replicate (n - xs.length) none
def fnB (n : Nat) (b : SM) : FM := fun xs h => match b (startR n xs) h with
  | .nx _ h' => .ok .non h'
  | .ret x h' => .ok x h'
  | .ex c fs _ h' => .exc c fs h'
  | _ => .bad
def spM (G : Gx) (n : Nat) (f : FM) : Sp := fun vs H Q E => ∃ m hp xs, Rel G m H hp ∧ Rs G m H xs vs ∧ xs.length = n ∧ Pst G m H (f xs hp) (fun z m' _ H' => ∀ u, R G m' H' z u → Q u H') E
/-- its cells are forgotten at its end -/
def reg (f : FM) : FM := fun xs h => endR h (f xs h)
section
variable {G : Gx} {m : Ml} {H : Hp} {n : Nat} {f : FM}
theorem spM_len {vs : List V} {Q : VK} {E : XK} (h : spM G n f vs H Q E) : vs.length = n := by
  obtain ⟨m, hp, xs, _, rs, hl, _⟩ := h
  rw [← Rs.len rs]
  exact hl
theorem re_start {N : List Str} {xs : List T} {vs : List V} (rs : Rs G m H xs vs) : RE G m H (startR N.length xs) (L2.start N vs) := by
  have hl := Rs.len rs
  unfold startR L2.start
  refine ⟨by simp [hl], fun i x e => ?_⟩
  by_cases hi : i < xs.length
  · rw [List.getElem?_append_left (by simpa using hi)] at e
    rw [List.getElem?_append_left (by simpa [← hl] using hi)]
    rw [List.getElem?_map] at e ⊢
    cases ex : xs[i]? with
    | none => rw [ex] at e; cases e
    | some y =>
      rw [ex] at e
      cases e
      obtain ⟨v, e2, r⟩ := Rs.get rs ex
      exact ⟨v, by rw [e2]; rfl, r⟩
  · rw [List.getElem?_append_right (by simpa using hi), List.getElem?_replicate] at e
    split at e <;> cases e
end
section
variable {P : Program} {w : World} {K : PySem.W.Frag} {mg : Str → Option Value} {base : Heap} {cl : Cln}
theorem fn_reg {k n : Nat} {a : Addr} {fd : FuncData} {ps : List Str} {f : FM} (F : FnOk P w K mg base (L2.CX P w) k a fd ps (spM ⟨P, w, K, cl⟩ n f)) : FnOk P w K mg base (L2.CX P w) k a fd ps (spM ⟨P, w, K, cl⟩ n (reg f)) :=
  F.imp fun vs H Q E h => by
    obtain ⟨m, hp, xs, rel, rs, hl, p⟩ := h
    exact ⟨m, hp, xs, rel, rs, hl, p.region rel⟩
/-- THE RULE: a def by its body's mirror -/
theorem fn_ok {x qual : Str} {params : Arguments} {body : List Stmt} {scope : Scope} {dvs : List V} {kws : List (Str × V)} {f : Addr} {fd : FuncData} {N ps : List Str} {k : Nat} {b : SM} (F : FunD K x qual params body scope dvs kws f fd) (S : FnScope N ps scope)
    (hb : ∀ (cdv : Value) (A : Around) (outer : List Env) (s : Shared) (H : Hp) (E : XK), fd.code = cdv → Room k (A.deeper (PyProof.Rows.envOfC qual scope s.heap.objs.size f cdv)) → MB (cxOf (L2.CX P w) P w K mg base N qual scope f cdv A outer s H E) cl (fun c d _ H => E c d H) body b) :
    FnOk P w K mg base (L2.CX P w) (k + 1) f fd ps (spM ⟨P, w, K, cl⟩ ps.length (fnB N.length b)) := by
  obtain ⟨oc, od, dV, kV, doc, pm, an, cdv, ct, osl, rfl, lk, hcd, _, _⟩ := F.ex
  refine fn_of lk hcd S (fun vs H Q E h => spM_len h) fun A outer s H vs Q E hr h => ⟨_, (hb cdv A outer s H E rfl hr).pss, ?_⟩
  obtain ⟨m, hp, xs, rel, rs, hl, p⟩ := h
  refine ⟨startR N.length xs, hp, m, re_start rs, rel, ?_⟩
  unfold fnB at p
  cases e : b (startR N.length xs) hp with
  | nx r h' => rw [e] at p; exact fun m' H' σ' s rel' re' => p m' H' s rel' _ (by simp only [R])
  | ret v h' => rw [e] at p; exact fun m' H' s rel' v rv => p m' H' s rel' v rv
  | ex c fs r h' => rw [e] at p; exact fun m' H' σ' s rel' re' => p m' H' s rel'
  | bk r h' => rw [e] at p; exact p.elim
  | ct r h' => rw [e] at p; exact p.elim
  | bad => rw [e] at p; exact p.elim
theorem hu_room {k : Nat} {A : Around} (h : Room k A) : A.units + 66 < cLine := by
  have := h.un
  omega
end
/-- a def as its callers know it: n positional arguments are written -/
structure Own (P : Program) (w : World) (K : PySem.W.Frag) (mg : Str → Option Value) (base : Heap) (cl : Cln) (k : Nat) (x : Str) (n : Nat) (f : FM) : Prop where
  ex : ∃ (a : Addr) (fd : FuncData) (ps : List Str), FnOk P w K mg base (L2.CX P w) k a fd ps (spM ⟨P, w, K, cl⟩ n f) ∧ mg x = some (.ref a) ∧ PySem.W.keepIn K (.ref a) = true ∧ Binds K fd ps []
/-- with keywords ks behind n positional ones: g puts them in order -/
structure OwnK (P : Program) (w : World) (K : PySem.W.Frag) (mg : Str → Option Value) (base : Heap) (cl : Cln) (k : Nat) (x : Str) (n nn : Nat) (ks : List Str) (g : List T → List T → List T) (f : FM) : Prop where
  ex : ∃ (a : Addr) (fd : FuncData) (ps : List Str) (gu : List Value → List Value → List Value) (gV : List V → List V → List V), FnOk P w K mg base (L2.CX P w) k a fd ps (spM ⟨P, w, K, cl⟩ nn f) ∧ mg x = some (.ref a) ∧ PySem.W.keepIn K (.ref a) = true ∧ KBn K fd ps n ks gu gV ∧
    ∀ m H xs zs vs ws, Rs ⟨P, w, K, cl⟩ m H xs vs → Rs ⟨P, w, K, cl⟩ m H zs ws → xs.length = n → zs.length = ks.length → Rs ⟨P, w, K, cl⟩ m H (g xs zs) (gV vs ws)
def emCall (f : FM) (g : AM) : EM := fun r h => (g r h).bind f
section
variable {X : Cx} {cl : Cln} {W : WX} {k n : Nat} {x : Str} {f : FM} {p pos : Pos} {e : Expr} {es : List Expr} {fa : AM}
theorem spM_of {G : Gx} {m : Ml} {H : Hp} {hp : MH} {xs : List T} {vs : List V} {a : Addr} {fd : FuncData} {ps : List Str} (rel : Rel G m H hp) (rs : Rs G m H xs vs) {Q : VK} {E : XK} (p : Pst G m H (f xs hp) (fun z m' _ H' => ∀ u, R G m' H' z u → Q u H') E) (hn : xs.length = n) : spM G n f vs H Q E :=
  ⟨m, hp, xs, rel, rs, hn, p⟩
/-- f's mirror where n arguments are given -/
def arg (n : Nat) (f : FM) : FM := fun xs h => if xs.length = n then f xs h else .bad
theorem me_call (O : Own X.prog X.w X.K X.mg X.base cl k x n f) (hr : Room k X.A) (tk : Takes X W) (ha : MA X cl W (e :: es) fa) (hg : Gl X x := by rfl) (hdb : (x == ("__debug__" : Str)) = false := by decide) (he : starEach (e :: es) X.env = (false, eval e X.env) :: starEach es X.env := by rfl) (hpl : (backTo pos (starEach es X.env)).any (·.1) = false := by rfl) :
    ME X cl W (.Call (.Name x p) (e :: es) [] pos) (emCall (arg n f) fa) := by
  obtain ⟨a, fd, ps, F, hm, hk, hb⟩ := O.ex
  refine ⟨PE.imp (pe_callSD (E := WE W) F hr hg hm hk hb .nil (fun σ => passAt tk σ) ha.pa hdb he hpl) fun σ H Q h => ?_⟩
  obtain ⟨r, hp, m, re, rel, p⟩ := args_ok h
  refine ⟨r, hp, m, re, rel, p.mono (fun xs m1 h1 H1 s q vs rv => ?_) fun _ _ _ z => z⟩
  obtain ⟨m2, hp2, ys, rel2, rs, p2⟩ := q vs rv
  unfold arg at p2
  split at p2
  · rename_i hl
    rw [List.append_nil]
    exact ⟨m2, hp2, ys, rel2, rs, hl, p2⟩
  · exact p2.elim
theorem me_call0 (O : Own X.prog X.w X.K X.mg X.base cl k x 0 f) (hr : Room k X.A) (tk : Takes X W) (hg : Gl X x := by rfl) (hdb : (x == ("__debug__" : Str)) = false := by decide) : ME X cl W (.Call (.Name x p) [] [] pos) (emCall f an) := by
  obtain ⟨a, fd, ps, F, hm, hk, hb⟩ := O.ex
  refine ⟨⟨fun pins s σ H Q I h => ?_⟩⟩
  refine wpAny_Call_Name_kw (ld_glob I hg hm ?_ hdb)
  refine PySem.W.callWith_K0 I.kIn hk (run_fnSD (us := []) (vs := []) (E := WE W) F hr hb .nil (passAt tk σ) I .nil ?_)
  obtain ⟨r, hp, m, re, rel, p⟩ := args_ok h
  obtain ⟨m2, hp2, ys, rel2, rs, p2⟩ := p.ok_ rel [] Rs.nil
  have hl : ys = [] := List.eq_nil_of_length_eq_zero (Rs.len rs)
  subst hl
  exact ⟨m2, hp2, [], rel2, rs, rfl, p2⟩
/-- the values of the keywords -/
structure MK (X : Cx) (cl : Cln) (W : WX) (kws : List Keyword) (f : AM) : Prop where
  pk : PK X kws (tMA (gx X cl) W f)
variable {kws : List Keyword} {g : AM} {nm : Option Str} {kpos : Pos} {ff : EM}
theorem PK.imp {t t' : TA} (h : PK X kws t) (i : ∀ σ H Q, t' σ H Q → t σ H Q) : PK X kws t' := ⟨fun pos pins s σ H Q I q => h.run pos pins s σ H Q I (i σ H Q q)⟩
theorem mk_n : MK X cl W [] an := ⟨PK.imp pk_nil fun σ H Q h => by
  obtain ⟨r, hp, m, re, rel, p⟩ := h
  exact p.ok_ rel [] Rs.nil⟩
theorem mk_c (ha : ME X cl W e ff) (hr : MK X cl W kws g) : MK X cl W (⟨nm, e, kpos⟩ :: kws) (ac ff g) := by
  refine ⟨PK.imp (pk_cons ha.pe hr.pk) fun σ H Q h => ?_⟩
  obtain ⟨r, hp, m, re, rel, p⟩ := h
  refine ⟨r, hp, m, re, rel, p.bind.mono (fun x m1 h1 H1 s1 q v rv => ?_) fun _ _ _ z => z⟩
  refine ⟨r, h1, m1, re.step s1, q.1, q.2.bind.mono (fun xs m2 h2 H2 s2 q2 vs rvs => ?_) fun _ _ _ z => z⟩
  exact q2.2.ok_ q2.1 _ (Rs.cons (R.step s2 _ _ rv) rvs)
theorem run_kat {ps ks : List Str} {sp : Sp} {a : Addr} {fd : FuncData} {E : XK} {gu : List Value → List Value → List Value} {gV : List V → List V → List V} {pins : List (Addr × Obj)} {σ : L2.St} {H : Hp} {s : Shared} {Q : VK} {us ws : List Value} {vs zs : List V}
    (F : FnOk X.prog X.w X.K X.mg X.base (L2.CX X.prog X.w) k a fd ps sp) (hr : Room k X.A) (hb : KBn X.K fd ps n ks gu gV) (hx : PassesAt (L2.CX X.prog X.w) X σ E)
    (I : Inv X pins σ H s) (r : Vals vs us) (rz : Vals zs ws) (l1 : vs.length = n) (l2 : zs.length = ks.length) (h : sp (gV vs zs) H Q E) : wpAny (model X.prog X.w) X.A (call (.ref a) us (ks.zip ws)) (EP X pins σ Q) X.xe s := by
  have r2 := hb.rel r rz
  refine wpAny_call (codeAny_mono (F.run X.A X.stack s H ⟨us, ks.zip ws⟩ (gu us ws) (gV vs zs) Q E hr I.env0 (hb.to s us ws I.kIn (r.length.symm.trans l1) (rz.length.symm.trans l2)) r2 h) fun o s' hq => ?_)
  cases o with
  | error ex => exact hx pins H s ex s' I hq
  | ok fl =>
    cases fl with
    | ret u => exact I.after hq
    | next => exact False.elim hq
    | brk => exact False.elim hq
    | cont => exact False.elim hq
def emCallK (n j : Nat) (o : List T → List T → List T) (f : FM) (g gk : AM) : EM := fun r h => (g r h).bind fun xs h1 => (gk r h1).bind fun zs h2 => if xs.length = n ∧ zs.length = j then f (o xs zs) h2 else .bad
theorem kcall_ok {n nn : Nat} {ks : List Str} {o : List T → List T → List T} {gV : List V → List V → List V} {gk : AM} (hT : ∀ m H xs zs vs ws, Rs (gx X cl) m H xs vs → Rs (gx X cl) m H zs ws → xs.length = n → zs.length = ks.length → Rs (gx X cl) m H (o xs zs) (gV vs ws))
    {σ : L2.St} {H : Hp} {Q : VK} (h : tM (gx X cl) W (emCallK n ks.length o (arg nn f) g gk) σ H Q) :
    tMA (gx X cl) W g σ H fun vs H1 => tMA (gx X cl) W gk σ H1 fun zs H2 => vs.length = n ∧ zs.length = ks.length ∧ spM (gx X cl) nn f (gV vs zs) H2 Q (WE W σ) := by
  obtain ⟨r, hp, m, re, rel, p⟩ := h
  refine ⟨r, hp, m, re, rel, p.bind.mono (fun xs m1 h1 H1 s1 q vs rv => ?_) fun _ _ _ z => z⟩
  refine ⟨r, h1, m1, re.step s1, q.1, q.2.bind.mono (fun zs m2 h2 H2 s2 q2 ws rws => ?_) fun _ _ _ z => z⟩
  obtain ⟨rel2, p2⟩ := q2
  split at p2
  · rename_i hl
    have rs := Rs.step s2 _ _ rv
    refine ⟨by rw [← Rs.len rs]; exact hl.1, by rw [← Rs.len rws]; exact hl.2, ?_⟩
    unfold arg at p2
    split at p2
    · rename_i h3
      exact ⟨m2, h2, _, rel2, hT _ _ _ _ _ _ rs rws hl.1 hl.2, h3, p2⟩
    · exact p2.elim
  · exact p2.elim
theorem me_callK {nn : Nat} {ks : List Str} {o : List T → List T → List T} {gk : AM} (O : OwnK X.prog X.w X.K X.mg X.base cl k x n nn ks o f) (hr : Room k X.A) (tk : Takes X W) (ha : MA X cl W (e :: es) g) (hkw : MK X cl W kws gk) (hg : Gl X x := by rfl) (hall : (backToKw pos (keywordEach kws X.env)).all (·.1.isSome) = true := by rfl) (hks : (backToKw pos (keywordEach kws X.env)).filterMap (·.1) = ks := by rfl)
    (hdb : (x == ("__debug__" : Str)) = false := by decide) (he : starEach (e :: es) X.env = (false, eval e X.env) :: starEach es X.env := by rfl)
    (hpl : ((backTo pos (starEach (e :: es) X.env)).any (·.1) || (backToKw pos (keywordEach kws X.env)).any (·.1.isNone)) = false := by rfl) :
    ME X cl W (.Call (.Name x p) (e :: es) kws pos) (emCallK n ks.length o (arg nn f) g gk) := by
  obtain ⟨a, fd, ps, gu, gV, F, hm, hk, hb, hT⟩ := O.ex
  refine ⟨⟨fun pins s σ H Q I h => ?_⟩⟩
  have h := kcall_ok hT h
  refine wpAny_Call_Name_kw (ld_glob I hg hm ?_ hdb)
  refine PySem.W.callWith_KW (h₀ := X.base) I.ok.mod.kin hk hall (thn (ha.pa.run pos pins s σ H _ I h) fun us s1 ⟨vs, H1, I1, r, q⟩ => ?_) hpl he
  refine thn (hkw.pk.run pos pins s1 σ H1 _ I1 q) fun ws s2 ⟨zs, H2, I2, rz, l1, l2, q2⟩ => ⟨I2.kIn, ?_⟩
  rw [hks]
  exact run_kat F hr hb (passAt tk σ) I2 r rz l1 l2 q2
theorem me_callK0 {nn : Nat} {ks : List Str} {o : List T → List T → List T} {gk : AM} (O : OwnK X.prog X.w X.K X.mg X.base cl k x 0 nn ks o f) (hr : Room k X.A) (tk : Takes X W) (hkw : MK X cl W kws gk) (hg : Gl X x := by rfl) (hall : (backToKw pos (keywordEach kws X.env)).all (·.1.isSome) = true := by rfl) (hks : (backToKw pos (keywordEach kws X.env)).filterMap (·.1) = ks := by rfl)
    (hdb : (x == ("__debug__" : Str)) = false := by decide) (hpl : ((backTo pos (starEach [] X.env)).any (·.1) || (backToKw pos (keywordEach kws X.env)).any (·.1.isNone)) = false := by rfl) :
    ME X cl W (.Call (.Name x p) [] kws pos) (emCallK 0 ks.length o (arg nn f) an gk) := by
  obtain ⟨a, fd, ps, gu, gV, F, hm, hk, hb, hT⟩ := O.ex
  refine ⟨⟨fun pins s σ H Q I h => ?_⟩⟩
  have h := kcall_ok hT h
  refine wpAny_Call_Name_kw (ld_glob I hg hm ?_ hdb)
  refine PySem.W.callWith_KW0 (h₀ := X.base) I.ok.mod.kin hk hall ?_ hpl
  obtain ⟨r, hp, m, re, rel, p⟩ := h
  obtain hh := p.ok_ rel [] Rs.nil
  refine thn (hkw.pk.run pos pins s σ H _ I hh) fun ws s2 ⟨zs, H2, I2, rz, l1, l2, q2⟩ => ⟨I2.kIn, ?_⟩
  rw [hks]
  exact run_kat (vs := []) (us := []) F hr hb (passAt tk σ) I2 .nil rz l1 l2 q2

/-! ### methods of one's own classes -/
/-- the class by name whose method m is f; n: arguments without the first -/
structure Mtd (P : Program) (w : World) (K : PySem.W.Frag) (mg : Str → Option Value) (base : Heap) (cl : Cln) (k : Nat) (c : Str) (mn : Str) (n : Nat) (f : FM) : Prop where
  ex : ∀ C, cl c = some C → ∃ (a : Addr) (fd : FuncData) (ps : List Str), FnOk P w K mg base (L2.CX P w) k a fd ps (spM ⟨P, w, K, cl⟩ (n + 1) f) ∧ Cls K C ∧ Meth K C mn a ∧ Binds K fd ps []
/-- an object's class and its attributes -/
def obOf (h : MH) : T → Option (Str × List (Str × T))
  | .obj c ns vs => some (c, ns.zip vs)
  | .loc n => (match h[n]? with
    | some (.ins c fs) => some (c, fs)
    | _ => none)
  | _ => none
theorem obOf_ok {G : Gx} {m : Ml} {H : Hp} {hp : MH} {x : T} {v : V} {c : Str} {fs : List (Str × T)} (rel : Rel G m H hp) (h : R G m H x v) (e : obOf hp x = some (c, fs)) : ∃ a C dx q, v = .ref a ∧ G.cl c = some C ∧ H a = some (.ins C dx q) ∧ Rk G m H fs q := by
  cases x with
  | obj c' ns vs =>
    cases e
    simp only [R] at h
    obtain ⟨a, C, dx, us, rfl, hC, f, hl, rs⟩ := h
    exact ⟨a, C, dx, _, rfl, hC, f.1, rk_zip hl rs⟩
  | loc n =>
    simp only [obOf] at e
    split at e
    · rename_i c' fs' ec
      cases e
      obtain ⟨a, e1, rfl, C, dx, qv, hC, hH, rk⟩ := rel.cell h ec
      exact ⟨a, C, dx, qv, rfl, hC, hH, rk⟩
    · cases e
  | _ => cases e
theorem lookup_none {β γ : Type} {f : Str} : ∀ {a : List (Str × β)} {b : List (Str × γ)}, a.map (·.1) = b.map (·.1) → TW.lk f a = none → b.lookup f = none
  | [], [], _, _ => rfl
  | [], _ :: _, h, _ => by simp at h
  | (k, x) :: r, b, h, e => by
    cases b with
    | nil => simp at h
    | cons q t =>
      obtain ⟨k', y⟩ := q
      simp only [List.map_cons, List.cons.injEq] at h
      obtain ⟨rfl, h⟩ := h
      rw [lk_lookup]
      simp only [TW.lk] at e ⊢
      split at e
      · cases e
      · rename_i hk
        rw [if_neg hk, ← lk_lookup]
        exact lookup_none h e
/-- o.m(..): ms the classes it may be of, each with its method's mirror -/
def emMeth (ms : List (Str × FM)) (mn : Str) (n : Nat) (f : EM) (g : AM) : EM := fun r h => (f r h).bind fun x h1 => match obOf h1 x with
  | some (c, fs) => if TW.lk mn fs = none then (match TW.lk c ms with
    | some F => (g r h1).bind fun xs h2 => if xs.length = n then F (x :: xs) h2 else .bad
    | none => .bad) else .bad
  | none => .bad
theorem lk_mem {β : Type} {f : Str} {z : β} : ∀ {l : List (Str × β)}, TW.lk f l = some z → (f, z) ∈ l
  | (k, y) :: r, e => by
    simp only [TW.lk] at e
    split at e
    · rename_i hk
      cases e
      rw [hk]
      exact List.mem_cons_self
    · exact List.mem_cons_of_mem _ (lk_mem e)
theorem meth_ok {ms : List (Str × FM)} {mn : Str} {n k : Nat} {ff : EM} {g : AM} (hM : ∀ q ∈ ms, Mtd X.prog X.w X.K X.mg X.base cl k q.1 mn n q.2) {σ : L2.St} {H : Hp} {Q : VK} (h : tM (gx X cl) W (emMeth ms mn n ff g) σ H Q) :
    tM (gx X cl) W ff σ H fun v H1 => ∃ a C dx q fa fd ps F, v = .ref a ∧ H1 a = some (.ins C dx q) ∧ Cls X.K C ∧ Meth X.K C mn fa ∧ q.lookup mn = none ∧ FnOk X.prog X.w X.K X.mg X.base (L2.CX X.prog X.w) k fa fd ps (spM (gx X cl) (n + 1) F) ∧ Binds X.K fd ps [] ∧
      tMA (gx X cl) W g σ H1 fun vs H2 => spM (gx X cl) (n + 1) F (.ref a :: vs) H2 Q (WE W σ) := by
  obtain ⟨r, hp, m, re, rel, p⟩ := h
  refine ⟨r, hp, m, re, rel, p.bind.mono (fun x m1 h1 H1 s1 q v rv => ?_) fun _ _ _ z => z⟩
  obtain ⟨rel1, p1⟩ := q
  split at p1
  · rename_i c fs eo
    obtain ⟨a, C, dx, qq, rfl, hC, hH, rk⟩ := obOf_ok rel1 rv eo
    split at p1
    · rename_i hn
      split at p1
      · rename_i F eF
        obtain ⟨fa, fd, ps, FO, hcl, hm, hb⟩ := (hM _ (lk_mem eF)).ex C hC
        refine ⟨a, C, dx, qq, fa, fd, ps, F, rfl, hH, hcl, hm, lookup_none rk.1 hn, FO, hb, r, h1, m1, re.step s1, rel1, p1.bind.mono (fun xs m2 h2 H2 s2 q2 vs rvs => ?_) fun _ _ _ z => z⟩
        obtain ⟨rel2, p2⟩ := q2
        split at p2
        · rename_i hl
          exact ⟨m2, h2, _, rel2, Rs.cons (R.step s2 _ _ rv) rvs, by simp [hl], p2⟩
        · exact p2.elim
      · exact p1.elim
    · exact p1.elim
  · exact p1.elim
theorem me_meth {ms : List (Str × FM)} {mn : Str} {n k : Nat} {o : Expr} {apos : Pos} {pl : Sem Bool} (hM : ∀ q ∈ ms, Mtd X.prog X.w X.K X.mg X.base cl k q.1 mn n q.2) (hr : Room k X.A) (tk : Takes X W) (ho : ME X cl W o ff) (ha : MA X cl W (e :: es) g)
    (hst : starEach (e :: es) X.env = (false, eval e X.env) :: starEach es X.env := by rfl) (hpl : (backTo pos (starEach es X.env)).any (·.1) = false := by rfl)
    (ht : eval (.Call (.Attribute o mn apos) (e :: es) [] pos) X.env = (do
      let ov ← eval o X.env
      standAt apos.atName
      let (f, first) ← holding [ov] (getMethod ov mn pl)
      callWith pos f first (backTo pos (starEach (e :: es) X.env)) (backToKw pos (keywordEach [] X.env))) := by rfl) : ME X cl W (.Call (.Attribute o mn apos) (e :: es) [] pos) (emMeth ms mn n ff g) := by
  refine ⟨⟨fun pins s σ H Q I h => ?_⟩⟩
  have h := meth_ok hM h
  refine PySem.W.methodCall_KW (pl := pl) (thn (ho.pe.run pins s σ H _ I h) fun u s1 ⟨x, H1, I1, rx, a, C, dx, q, fa, fd, ps, F, ex, ea, c, hm, l, FO, hb, q3⟩ => ?_) ht
  subst ex
  obtain rfl : u = Value.ref a := rx
  refine getmeth_ok I1 ea c hm l ?_
  refine PySem.W.callWith_K (first := [.ref a]) (h₀ := X.base) I.ok.mod.kin hm.kp (thn (ha.pa.run pos pins s1 σ H1 _ I1 q3) fun us s2 ⟨vs, H2, I2, r, q2⟩ => ⟨I2.kIn, ?_⟩) hst hpl
  exact run_fnSD (us := .ref a :: us) (vs := .ref a :: vs) (dvs := []) (E := WE W) FO hr hb .nil (passAt tk σ) I2 (.cons rfl r) (by rw [List.append_nil]; exact q2)
theorem me_meth0 {ms : List (Str × FM)} {mn : Str} {k : Nat} {o : Expr} {apos : Pos} {pl : Sem Bool} (hM : ∀ q ∈ ms, Mtd X.prog X.w X.K X.mg X.base cl k q.1 mn 0 q.2) (hr : Room k X.A) (tk : Takes X W) (ho : ME X cl W o ff)
    (ht : eval (.Call (.Attribute o mn apos) [] [] pos) X.env = (do
      let ov ← eval o X.env
      standAt apos.atName
      let (f, first) ← holding [ov] (getMethod ov mn pl)
      callWith pos f first (backTo pos (starEach [] X.env)) (backToKw pos (keywordEach [] X.env))) := by rfl) : ME X cl W (.Call (.Attribute o mn apos) [] [] pos) (emMeth ms mn 0 ff an) := by
  refine ⟨⟨fun pins s σ H Q I h => ?_⟩⟩
  have h := meth_ok hM h
  refine PySem.W.methodCall_KW (pl := pl) (thn (ho.pe.run pins s σ H _ I h) fun u s1 ⟨x, H1, I1, rx, a, C, dx, q, fa, fd, ps, F, ex, ea, c, hm, l, FO, hb, q3⟩ => ?_) ht
  subst ex
  obtain rfl : u = Value.ref a := rx
  refine getmeth_ok I1 ea c hm l ?_
  obtain ⟨r, hp, m, re, rel, p⟩ := q3
  exact PySem.W.callWith_K0 (first := [.ref a]) I1.kIn hm.kp (run_fnSD (us := [.ref a]) (vs := [.ref a]) (dvs := []) (E := WE W) FO hr hb .nil (passAt tk σ) I1 (.cons rfl .nil) (by rw [List.append_nil]; exact p.ok_ rel [] Rs.nil))

/-! ### a new object -/
structure Mkr (P : Program) (w : World) (K : PySem.W.Frag) (mg : Str → Option Value) (base : Heap) (cl : Cln) (k : Nat) (c : Str) (n : Nat) (f : FM) : Prop where
  ex : ∃ (C a : Addr) (fd : FuncData) (ps : List Str), cl c = some C ∧ mg c = some (.ref C) ∧ Mk K C a ∧ FnOk P w K mg base (L2.CX P w) k a fd ps (spM ⟨P, w, K, cl⟩ (n + 1) f) ∧ Binds K fd ps []
/-- C(..), its attributes still to be written: a cell -/
def emMk (c : Str) (n : Nat) (f : FM) (g : AM) : EM := fun r h => (g r h).bind fun xs h1 => if xs.length = n then (f (.loc h1.length :: xs) (h1 ++ [.ins c []])).bind fun v h2 => match v with
  | .non => .ok (.loc h1.length) h2
  | _ => .bad else .bad
theorem run_mkS {ps : List Str} {sp : Sp} {a C : Addr} {fd : FuncData} {E : XK} {pins : List (Addr × Obj)} {σ : L2.St} {H : Hp} {s : Shared} {Q : VK} {us : List Value} {vs : List V} (M : Mk X.K C a) (F : FnOk X.prog X.w X.K X.mg X.base (L2.CX X.prog X.w) k a fd ps sp) (hr : Room (k + 1) X.A) (hb : Binds X.K fd ps [])
    (hx : PassesAt (L2.CX X.prog X.w) X σ E) (I : Inv X pins σ H s) (r : Vals vs us)
    (h : ∀ x dx, H x = none → H dx = none → dx ≠ x → sp (.ref x :: vs) (upd (upd H dx (.own x)) x (.ins C dx [])) (fun v H2 => v = .non ∧ Q (.ref x) H2) E) :
    wpAny (model X.prog X.w) X.A (call (.ref C) us) (EP X pins σ Q) X.xe s := by
  have hq := h (s.heap.objs.size + 1) s.heap.objs.size (I.hok.fresh (Nat.le_succ _)) (I.hok.fresh (Nat.le_refl _)) (Nat.ne_of_lt (Nat.lt_succ_self _))
  have J := Inv.made (C := C) I
  have rr : Vals (V.ref (s.heap.objs.size + 1) :: vs) (Value.ref (s.heap.objs.size + 1) :: us) := .cons rfl r
  have hl : ((Value.ref (s.heap.objs.size + 1) :: us) ++ []).length = ps.length := by
    rw [List.append_nil, ← rr.length, F.len _ _ _ _ hq]
  have bb := hb _ (Value.ref (s.heap.objs.size + 1) :: us) J.kIn hl
  rw [List.append_nil] at bb
  refine wpAny_call (make_map (f := a) I.kIn M.makes M.init (beq_iff_eq.mp M.fn) (codeAny_mono (F.run _ X.stack _ _ ⟨Value.ref (s.heap.objs.size + 1) :: us, []⟩ (Value.ref (s.heap.objs.size + 1) :: us) _ _ E (hr.make C us [])
    (J.env0.make C us []) bb rr hq) fun o s' hq' => ?_))
  cases o with
  | error ex => exact hx pins _ _ ex s' J hq'
  | ok fl =>
    cases fl with
    | ret u =>
      obtain ⟨v, H', I3, rv, ev, q3⟩ := J.after hq'
      subst ev
      exact ⟨rv, ⟨V.ref (s.heap.objs.size + 1), H', I3, rfl, q3⟩⟩
    | next => exact False.elim hq'
    | brk => exact False.elim hq'
    | cont => exact False.elim hq'
theorem me_make {c : Str} (O : Mkr X.prog X.w X.K X.mg X.base cl k c n f) (hr : Room (k + 1) X.A) (tk : Takes X W) (ha : MA X cl W (e :: es) g) (hg : Gl X c := by rfl) (hdb : (c == ("__debug__" : Str)) = false := by decide) (he : starEach (e :: es) X.env = (false, eval e X.env) :: starEach es X.env := by rfl) (hpl : (backTo pos (starEach es X.env)).any (·.1) = false := by rfl) :
    ME X cl W (.Call (.Name c p) (e :: es) [] pos) (emMk c n f g) := by
  obtain ⟨C, a, fd, ps, hC, hm, M, F, hb⟩ := O.ex
  refine ⟨⟨fun pins s σ H Q I h => ?_⟩⟩
  have h : tMA (gx X cl) W g σ H fun vs H1 => ∀ x dx, H1 x = none → H1 dx = none → dx ≠ x → spM (gx X cl) (n + 1) f (.ref x :: vs) (upd (upd H1 dx (.own x)) x (.ins C dx [])) (fun v H2 => v = .non ∧ Q (.ref x) H2) (WE W σ) := by
    obtain ⟨r, hp, m, re, rel, p⟩ := args_ok h
    refine ⟨r, hp, m, re, rel, p.mono (fun xs m1 h1 H1 s q vs rv x dx hx hdx hne => ?_) fun _ _ _ z => z⟩
    obtain ⟨m2, hp2, ys, rel2, rs, p2⟩ := q vs rv
    split at p2
    · rename_i hl
      have relA : Rel (gx X cl) m2 (upd H1 dx (.own x)) hp2 := rel2.new hdx
      have hx2 : upd H1 dx (.own x) x = none := by rw [upd_ne (Ne.symm hne)]; exact hx
      have sA : Stp m2 m2 H1 (upd H1 dx (.own x)) := Stp.new hdx
      have sB : Stp m2 (m2.add x) (upd H1 dx (.own x)) (upd (upd H1 dx (.own x)) x (.ins C dx [])) := Stp.newc hx2
      have relB : Rel (gx X cl) (m2.add x) (upd (upd H1 dx (.own x)) x (.ins C dx [])) (hp2 ++ [.ins c []]) := relA.newc hx2 ⟨C, dx, [], hC, upd_same, Rk.nil_iff.mpr rfl⟩
      have rx : R (gx X cl) (m2.add x) (upd (upd H1 dx (.own x)) x (.ins C dx [])) (.loc hp2.length) (.ref x) := by
        simp only [R]
        refine ⟨x, ?_, rfl⟩
        show (m2.c ++ [x])[_]? = _
        rw [← rel2.len, List.getElem?_append_right (Nat.le_refl _)]
        simp
      refine ⟨m2.add x, hp2 ++ [.ins c []], .loc hp2.length :: ys, relB, Rs.cons rx (Rs.step (sA.trans sB) _ _ rs), by simp [hl], (p2.step (sA.trans sB)).bind.mono (fun v m3 h3 H3 s3 q3 u ru => ?_) fun _ _ _ z => z⟩
      obtain ⟨rel3, p3⟩ := q3
      split at p3
      · simp only [R] at ru
        exact ⟨ru, p3.ok_ rel3 _ (R.step s3 _ _ rx)⟩
      · exact p3.elim
    · exact p2.elim
  refine wpAny_Call_Name_kw (ld_glob I hg hm ?_ hdb)
  refine PySem.W.callWith_K (h₀ := X.base) I.ok.mod.kin M.kp (thn (ha.pa.run pos pins s σ H _ I h) fun us s1 ⟨vs, H1, I1, r, q⟩ => ⟨I1.kIn, ?_⟩) he hpl
  exact run_mkS M F hr hb (passAt tk σ) I1 r q
/-- an expression whose new cells are forgotten -/
def regE (f : EM) : EM := fun r h => endR h (f r h)
theorem me_reg {a : Expr} (ha : ME X cl W a ff) : ME X cl W a (regE ff) := ⟨PE.imp ha.pe fun σ H Q h => by
  obtain ⟨r, hp, m, re, rel, p⟩ := h
  exact ⟨r, hp, m, re, rel, p.region rel⟩⟩
end
end TW
namespace TW
open PySem PySem.Spec L2

/-! ### built-in calls -/
def NoXF (g : FM) : Prop := ∀ xs h c fs h', g xs h ≠ .exc c fs h'
section
variable {X : Cx} {cl : Cln} {W : WX} {x : Str} {p pos : Pos} {e : Expr} {es : List Expr} {fa : AM} {g : FM}
theorem cb_ok {σ : L2.St} {H : Hp} {Q : VK} (hn : NoXF g) (h : tM (gx X cl) W (emCall g fa) σ H Q) : tMA (gx X cl) W fa σ H fun vs H1 => rMC (gx X cl) g vs H1 Q := by
  obtain ⟨r, hp, m, re, rel, p⟩ := args_ok h
  refine ⟨r, hp, m, re, rel, p.mono (fun xs m1 h1 H1 s q vs rv => ?_) fun _ _ _ z => z⟩
  obtain ⟨m2, hp2, ys, rel2, rs, p2⟩ := q vs rv
  exact ⟨m2, hp2, ys, rel2, rs, p2.nox (hn _ _)⟩
theorem me_cB {id : String} (hc : CallR X (.builtin id) (rMC (gx X cl) g)) (hn : NoXF g) (hv : bootBuiltins x = some (.builtin id)) (ha : MA X cl W (e :: es) fa) (hm : X.mg x = none) (hg : Gl X x := by rfl) (hn2 : x ≠ "__name__" := by decide) (hdb : (x == ("__debug__" : Str)) = false := by decide)
    (he : starEach (e :: es) X.env = (false, eval e X.env) :: starEach es X.env := by rfl) (hpl : (backTo pos (starEach es X.env)).any (·.1) = false := by rfl) : ME X cl W (.Call (.Name x p) (e :: es) [] pos) (emCall g fa) :=
  ⟨PE.imp (pe_callB hc hg hm hv ha.pa hn2 hdb he hpl) fun σ H Q h => cb_ok hn h⟩
theorem me_cT {id : String} (hc : CallR X (.type id) (rMC (gx X cl) g)) (hn : NoXF g) (hv : bootBuiltins x = some (.type id)) (ha : MA X cl W (e :: es) fa) (hm : X.mg x = none) (hg : Gl X x := by rfl) (hn2 : x ≠ "__name__" := by decide) (hdb : (x == ("__debug__" : Str)) = false := by decide)
    (he : starEach (e :: es) X.env = (false, eval e X.env) :: starEach es X.env := by rfl) (hpl : (backTo pos (starEach es X.env)).any (·.1) = false := by rfl) : ME X cl W (.Call (.Name x p) (e :: es) [] pos) (emCall g fa) :=
  ⟨PE.imp (pe_callTy hc hg hm hv ha.pa hn2 hdb he hpl) fun σ H Q h => cb_ok hn h⟩
end
/-- one argument -/
def on1 (f : T → MH → Res T) : FM := fun xs h => match xs with
  | [x] => f x h
  | _ => .bad
section
variable {G : Gx} {m : Ml} {H : Hp} {hp : MH}
theorem on1_ok {f : T → MH → Res T} {xs : List T} {vs : List V} {Q : T → Ml → MH → Hp → Prop} {W : XK} (rs : Rs G m H xs vs) (p : Pst G m H (on1 f xs hp) Q W) : ∃ x v, vs = [v] ∧ R G m H x v ∧ Pst G m H (f x hp) Q W := by
  unfold on1 at p
  split at p
  · obtain ⟨v, t, rfl, h2, h3⟩ := Rs.cons_iff.mp rs
    obtain rfl := Rs.nil_iff.mp h3
    exact ⟨_, v, rfl, h2, p⟩
  · exact p.elim
theorem on1_nox {f : T → MH → Res T} (h : ∀ x hp c fs h', f x hp ≠ .exc c fs h') : NoXF (on1 f) := fun xs hp c fs h' e => by
  unfold on1 at e
  split at e
  · exact h _ _ _ _ _ e
  · cases e
/-- ints, bools -/
def inOf : T → Option Int
  | .int i => some i
  | _ => none
def blOf : T → Option Bool
  | .bl b => some b
  | _ => none
theorem ints_ok : ∀ {xs : List T} {vs : List V} {ns : List Int}, Rs G m H xs vs → mapO inOf xs = some ns → vs = ns.map V.int
  | [], vs, ns, rs, e => by cases e; rw [Rs.nil_iff.mp rs]; rfl
  | x :: xs, vs, ns, rs, e => by
    obtain ⟨v, r, rfl, h1, h2⟩ := Rs.cons_iff.mp rs
    obtain ⟨y, ys, e1, e2, rfl⟩ := mapO_some e
    cases x with
    | int i =>
      cases e1
      simp only [R] at h1
      rw [h1, ints_ok h2 e2]
      rfl
    | _ => cases e1
theorem bls_ok : ∀ {xs : List T} {vs : List V} {ns : List Bool}, Rs G m H xs vs → mapO blOf xs = some ns → vs = ns.map V.bl
  | [], vs, ns, rs, e => by cases e; rw [Rs.nil_iff.mp rs]; rfl
  | x :: xs, vs, ns, rs, e => by
    obtain ⟨v, r, rfl, h1, h2⟩ := Rs.cons_iff.mp rs
    obtain ⟨y, ys, e1, e2, rfl⟩ := mapO_some e
    cases x with
    | bl i =>
      cases e1
      simp only [R] at h1
      rw [h1, bls_ok h2 e2]
      rfl
    | _ => cases e1
theorem rs_ints : ∀ (ns : List Int), Rs G m H (ns.map T.int) (ns.map V.int)
  | [] => Rs.nil
  | n :: ns => Rs.cons (by simp only [R]) (rs_ints ns)
end
/-! len -/
def lnOf (h : MH) (x : T) : Option Nat := match lsOf h x with
  | some xs => some xs.length
  | none => (match tpOf x with
    | some xs => some xs.length
    | none => (match x with
      | .str s => if s.length ≤ sizeLine then some s.length else none
      | _ => (match dkOf h x with
        | some kvs => some kvs.length
        | none => none)))
def lenF : FM := on1 fun x h => match lnOf h x with
  | some n => .ok (.int n) h
  | none => .bad
theorem n_len : NoXF lenF := on1_nox fun x h c fs h' e => by
  split at e <;> cases e
section
variable {X : Cx} {cl : Cln}
theorem CallR.or {f : Value} {r r' : List V → Hp → VK → Prop} (h : CallR X f r) (h' : CallR X f r') : CallR X f (fun xs H Q => r xs H Q ∨ r' xs H Q) := fun pins s σ H xs us Q I rx q => by
  rcases q with q | q
  · exact h pins s σ H xs us Q I rx q
  · exact h' pins s σ H xs us Q I rx q
theorem c_len : CallR X (.builtin "len") (rMC (gx X cl) lenF) := by
  intro pins s σ H vs us Q I rv q
  obtain ⟨m, hp, xs, rel, rs, p⟩ := q
  obtain ⟨x, v, rfl, rx, p⟩ := on1_ok rs p
  split at p
  · rename_i n en
    have fin : Q (.int n) H := p.ok_ rel _ (by simp only [R])
    unfold lnOf at en
    split at en
    · rename_i xs e1
      cases en
      obtain ⟨a, vs, rfl, sq, rs⟩ := lsOf_ok rel rx e1
      exact call_len pins s σ H _ us Q I rv ⟨_, _, rfl, .inl ⟨vs, sq, Rs.len rs⟩, fin⟩
    · split at en
      · rename_i xs e1
        cases en
        obtain ⟨a, vs, rfl, sq, rs⟩ := tpOf_ok rx e1
        exact call_len pins s σ H _ us Q I rv ⟨_, _, rfl, .inr ⟨vs, sq, Rs.len rs⟩, fin⟩
      · split at en
        · split at en
          · rename_i hl
            cases en
            simp only [R] at rx
            subst rx
            exact call_len pins s σ H _ us Q I rv ⟨_, _, rfl, ⟨hl, rfl⟩, fin⟩
          · cases en
        · split at en
          · rename_i kvs ek
            cases en
            obtain ⟨a, q, rfl, rd, rk⟩ := dkOf_ok rel rx ek
            obtain ⟨u, rfl, ru⟩ := vals1 rv
            cases ru
            refine d_len I rd fun t s' I' => ⟨.int (q.length : Int), H, I', ⟨t, rfl⟩, ?_⟩
            rw [← rk.len]
            exact fin
          · cases en
  · exact p.elim
/-! int, bool, str of ints -/
def intF : FM := on1 fun x h => match x with
  | .int i => .ok (.int i) h
  | .bl b => .ok (.int (if b = true then 1 else 0)) h
  | _ => .bad
theorem n_int : NoXF intF := on1_nox fun x h c fs h' e => by
  split at e <;> cases e
theorem c_int : CallR X (.type "int") (rMC (gx X cl) intF) := CallR.imp call_int1 fun vs H Q q => by
  obtain ⟨m, hp, xs, rel, rs, p⟩ := q
  obtain ⟨x, v, rfl, rx, p⟩ := on1_ok rs p
  split at p
  · simp only [R] at rx
    exact .inl ⟨_, by rw [rx], p.ok_ rel _ (by simp only [R])⟩
  · simp only [R] at rx
    exact .inr ⟨_, by rw [rx], p.ok_ rel _ (by simp only [R])⟩
  · exact p.elim
def strF : FM := on1 fun x h => match x with
  | .int i => if i.natAbs.log2 < 1920 then .ok (.str (toString i)) h else .bad
  | _ => .bad
theorem n_str : NoXF strF := on1_nox fun x h c fs h' e => by
  split at e
  · split at e <;> cases e
  · cases e
theorem c_str : CallR X (.type "str") (rMC (gx X cl) strF) := CallR.imp call_str_int fun vs H Q q => by
  obtain ⟨m, hp, xs, rel, rs, p⟩ := q
  obtain ⟨x, v, rfl, rx, p⟩ := on1_ok rs p
  split at p
  · simp only [R] at rx
    split at p
    · rename_i hl
      exact ⟨_, by rw [rx], hl, p.ok_ rel _ (by simp only [R])⟩
    · exact p.elim
  · exact p.elim
/-! list, tuple of a list or a tuple -/
def listF (k : List T → MH → Res T) : FM := on1 fun x h => match lsOf h x with
  | some xs => k xs h
  | none => (match tpOf x with
    | some xs => k xs h
    | none => .bad)
theorem n_list {k : List T → MH → Res T} (hk : k = lstK ∨ k = lstL) : NoXF (listF k) := on1_nox fun x h c fs h' e => by
  split at e
  · exact lst_two_nox hk _ _ _ _ _ e
  · split at e
    · exact lst_two_nox hk _ _ _ _ _ e
    · cases e
theorem c_list {k : List T → MH → Res T} (hk : k = lstK ∨ k = lstL) : CallR X (.type "list") (rMC (gx X cl) (listF k)) := CallR.imp call_list_of fun vs H Q q => by
  obtain ⟨m, hp, xs, rel, rs, p⟩ := q
  obtain ⟨x, v, rfl, rx, p⟩ := on1_ok rs p
  split at p
  · rename_i xs e1
    obtain ⟨a, vs, rfl, sq, rs⟩ := lsOf_ok rel rx e1
    exact ⟨a, vs, rfl, .inl sq, (lst_two hk rel rs p).2⟩
  · split at p
    · rename_i xs e1
      obtain ⟨a, vs, rfl, sq, rs⟩ := tpOf_ok rx e1
      exact ⟨a, vs, rfl, .inr sq, (lst_two hk rel rs p).2⟩
    · exact p.elim
def tupF : FM := on1 fun x h => match lsOf h x with
  | some xs => .ok (.tup xs) h
  | none => (match tpOf x with
    | some _ => .ok x h
    | none => .bad)
theorem n_tup : NoXF tupF := on1_nox fun x h c fs h' e => by
  split at e
  · cases e
  · split at e <;> cases e
theorem c_tup : CallR X (.type "tuple") (rMC (gx X cl) tupF) := CallR.imp call_tuple_of fun vs H Q q => by
  obtain ⟨m, hp, xs, rel, rs, p⟩ := q
  obtain ⟨x, v, rfl, rx, p⟩ := on1_ok rs p
  split at p
  · rename_i xs e1
    obtain ⟨a, vs, rfl, sq, rs⟩ := lsOf_ok rel rx e1
    exact ⟨a, vs, rfl, .inl ⟨sq, fun l hl => p m _ (Stp.new hl) (rel.new hl) _ (tup_new rel rs hl)⟩⟩
  · split at p
    · rename_i xs e1
      obtain ⟨a, vs, rfl, sq, rs⟩ := tpOf_ok rx e1
      exact ⟨a, vs, rfl, .inr ⟨sq, p.ok_ rel _ rx⟩⟩
    · exact p.elim
/-! sorted -/
def insI (n : Int) : List Int → List Int
  | [] => [n]
  | k :: ks => if n ≤ k then n :: k :: ks else k :: insI n ks
def sortI : List Int → List Int
  | [] => []
  | n :: ns => insI n (sortI ns)
theorem insI_perm (n : Int) : ∀ ks, (insI n ks).Perm (n :: ks)
  | [] => .refl _
  | k :: ks => by
    unfold insI
    split
    · exact .refl _
    · exact ((insI_perm n ks).cons k).trans (.swap n k ks)
theorem sortI_perm : ∀ ns, (sortI ns).Perm ns
  | [] => .refl _
  | n :: ns => (insI_perm n _).trans ((sortI_perm ns).cons n)
theorem insI_le (n : Int) : ∀ ks, ks.Pairwise (· ≤ ·) → (insI n ks).Pairwise (· ≤ ·)
  | [], _ => by simp [insI]
  | k :: ks, h => by
    unfold insI
    obtain ⟨h1, h2⟩ := List.pairwise_cons.mp h
    split
    · rename_i hk
      refine List.pairwise_cons.mpr ⟨fun y hy => ?_, h⟩
      rcases List.mem_cons.mp hy with rfl | hy
      · exact hk
      · exact Int.le_trans hk (h1 y hy)
    · rename_i hk
      refine List.pairwise_cons.mpr ⟨fun y hy => ?_, insI_le n ks h2⟩
      rcases List.mem_cons.mp ((insI_perm n ks).mem_iff.mp hy) with rfl | hy
      · omega
      · exact h1 y hy
theorem sortI_le : ∀ ns, (sortI ns).Pairwise (· ≤ ·)
  | [] => .nil
  | n :: ns => insI_le n _ (sortI_le ns)
theorem sorted_one : ∀ {a b : List Int}, a.Perm b → a.Pairwise (· ≤ ·) → b.Pairwise (· ≤ ·) → a = b
  | [], b, p, _, _ => (p.symm.eq_nil).symm
  | x :: a, [], p, _, _ => absurd p.eq_nil (by simp)
  | x :: a, y :: b, p, h1, h2 => by
    obtain ⟨l1, t1⟩ := List.pairwise_cons.mp h1
    obtain ⟨l2, t2⟩ := List.pairwise_cons.mp h2
    have e : x = y := by
      have m1 : x ∈ y :: b := p.mem_iff.mp List.mem_cons_self
      have m2 : y ∈ x :: a := p.mem_iff.mpr List.mem_cons_self
      rcases List.mem_cons.mp m1 with e | m1
      · exact e
      · rcases List.mem_cons.mp m2 with e | m2
        · exact e.symm
        · exact Int.le_antisymm (l1 y m2) (l2 x m1)
    subst e
    rw [sorted_one (List.Perm.cons_inv p) t1 t2]
theorem sortI_eq {ns ns' : List Int} (p : ns'.Perm ns) (h : ns'.Pairwise (· ≤ ·)) : ns' = sortI ns := sorted_one (p.trans (sortI_perm ns).symm) h (sortI_le ns)
/-- each once -/
def onceI : List Int → List Int
  | [] => []
  | n :: ns => if n ∈ ns then onceI ns else n :: onceI ns
theorem mem_onceI {k : Int} : ∀ {ns : List Int}, k ∈ onceI ns ↔ k ∈ ns
  | [] => by simp [onceI]
  | n :: ns => by
    unfold onceI
    split
    · rename_i hn
      rw [mem_onceI, List.mem_cons]
      constructor
      · exact .inr
      · rintro (rfl | h)
        · exact hn
        · exact h
    · rw [List.mem_cons, List.mem_cons, mem_onceI]
theorem nodup_onceI : ∀ ns : List Int, (onceI ns).Nodup
  | [] => by simp [onceI]
  | n :: ns => by
    unfold onceI
    split
    · exact nodup_onceI ns
    · rename_i hn
      rw [List.nodup_cons]
      exact ⟨fun h => hn (mem_onceI.mp h), nodup_onceI ns⟩
theorem sorted_lt_eq {ns : List Int} {xs : List Int} (h : ns.Pairwise (· < ·)) (hm : ∀ k, k ∈ ns ↔ k ∈ xs) : ns = sortI (onceI xs) := by
  refine sortI_eq ?_ (h.imp fun h => Int.le_of_lt h)
  refine (List.perm_ext_iff_of_nodup (h.imp fun h => Int.ne_of_lt h) (nodup_onceI xs)).mpr fun k => ?_
  rw [hm k, mem_onceI]
/-- collect of a tuple -/
theorem coll_tup {prog : Program} {w : World} {A : Around} {E : Value → Shared → Prop} {s : Shared} {l : Addr} {vs : List Value} {Q : List Value → Shared → Prop} (hl : s.heap.IsTuple l vs.toArray)
    (h : Q vs { s with heap := (s.heap.push (PyProof.Rows.seqObj "list" #[] 0)).update s.heap.objs.size (Obj.mapSeq (· ++ vs.toArray)) }) (hsz : vs.length ≤ sizeLine) :
    wpAny (model prog w) A (collect (.ref l)) Q E s := by
  obtain ⟨o, ho, hc, n, hd⟩ := id hl
  unfold collect
  refine wpAny_bind (wpAny_runValue (codeAny_builtin PyProof.Rows.entry_proto_collect' ?_))
  show wpAny _ _ (do again (.builtin "list.__iadd__" ⟨[← newList [], .ref l], []⟩)) _ _ s
  refine wpAny_bind (wpAny_newList (wpAny_pure ⟨Code.quiet_builtin _ (by decide +kernel), codeAny_builtin PyProof.Rows.entry_list_iadd' ?_⟩))
  show wpAny _ _ (Builtin.List.listExtendWith (.ref s.heap.objs.size) (.ref l) (.ref s.heap.objs.size)) _ _ { s with heap := s.heap.push (PyProof.Rows.seqObj "list" #[] 0) }
  unfold Builtin.List.listExtendWith
  have ho' : (s.heap.push (PyProof.Rows.seqObj "list" #[] 0)).get? l = some o := Heap.get?_push_of_some _ ho
  refine wpAny_bind (wpAny_typeOf (T := "tuple") ⟨o, ho', hc⟩ ?_)
  have ht : (Value.type "tuple" == Value.type "tuple") = true := by rfl
  rw [if_pos (by rw [ht]; simp)]
  refine wpAny_bind (PyProof.Rows.listItems_at ho' hd ?_)
  refine wpAny_bind (PyProof.Rows.listItems_at (xs := #[]) (n := 0) (Heap.get?_push_size _ rfl) rfl ?_)
  rw [if_neg (by simp)]
  refine wpAny_bind (PyProof.Rows.listUpdate_at (xs := #[]) (n := 0) (Heap.get?_push_size _ rfl) rfl ?_ (Nat.zero_le _) (by show (#[] ++ vs.toArray).size ≤ sizeLine + 1; simp only [Array.size_append, List.size_toArray, List.length_nil]; omega))
  refine wpAny_pure ?_
  show wpAny (model prog w) A (do
      let o ← load s.heap.objs.size
      match o.data with
      | .seq xs _ => pure xs.toList
      | _ => unsupported "internal:collect") Q E { s with heap := (s.heap.push (PyProof.Rows.seqObj "list" #[] 0)).update s.heap.objs.size (Obj.mapSeq (· ++ vs.toArray)) }
  refine wpAny_bind (wpAny_load (PyProof.Rows.get?_update_seq (Heap.get?_push_size _ rfl) _) ?_)
  show wpAny _ _ (pure ((#[] : Array Value) ++ vs.toArray).toList) Q E _
  rw [show ((#[] : Array Value) ++ vs.toArray).toList = vs by simp]
  exact wpAny_pure h
theorem kept_upd {h : Heap} {f : Obj → Obj} {o : Obj} : ∀ b u, h.get? b = some u → ((h.push o).update h.objs.size f).get? b = some u := fun b u e => by
  rw [Heap.get?_update_other _ _ (Nat.ne_of_gt (Heap.lt_size e))]
  exact Heap.get?_push_of_some _ e
/-- sorted of what is collected as ints -/
theorem sorted_of {pins : List (Addr × Obj)} {s : Shared} {σ : L2.St} {H : Hp} {Q : VK} {l : Addr} {ns : List Int} (I : Inv X pins σ H s) (hl : ns.length ≤ sizeLine)
    (hcol : ∀ (Q' : List Value → Shared → Prop), (∀ (h' : Heap) (tk : Nat) (us : List Value), (∀ b u, s.heap.get? b = some u → h'.get? b = some u) → Vals (ns.map V.int) us → Q' us { s with heap := h', toks := tk }) → wpAny (model X.prog X.w) X.A.in1 (collect (.ref l)) Q' X.xe s)
    (q : ∀ p, H p = none → Q (.ref p) (upd H p (.lst ((sortI ns).map V.int)))) : wpAny (model X.prog X.w) X.A (call (.builtin "sorted") [.ref l]) (EP X pins σ Q) X.xe s := by
  refine Calls.call_function_entry PyProof.Rows.kind_sorted PyProof.Rows.plain_sorted PyProof.Rows.entry_sorted (PyProof.Rows.args_sorted1 _) ?_
  unfold Builtin.«sorted»
  refine wpAny_bind (m := checkCount "sorted" 1 1 _) (wpAny_pure ?_)
  refine wpAny_bind (hcol _ fun h' tk us kp rv => ?_)
  have hI := rv.ints
  have hz : us.length ≤ sizeLine := by rw [hI.length]; exact hl
  refine wpAny_bind (wpAny_newList ?_ hz)
  have hoL : (h'.push (PyProof.Rows.seqObj "list" us.toArray 0)).get? h'.objs.size = some (PyProof.Rows.seqObj "list" us.toArray 0) := Heap.get?_push_size _ rfl
  refine wpAny_bind (wpAny_holding (PySem.wpAny_call_entry PyProof.Rows.slot_list_sort ⟨_, hoL, rfl⟩ PyProof.Rows.entry_list_sort (PyProof.Rows.list_sort_treeAny hoL hI hz fun out ns' a1 a2 a3 => ⟨_, rfl, ?_⟩) (PyProof.Rows.args_list_sort _)))
  refine wpAny_pure ⟨_, rfl, ?_⟩
  obtain ⟨c, hc⟩ := PyProof.Rows.sortedHeap_at (vs := us) (out := out) hoL
  have e : ns' = sortI ns := sortI_eq a2 a3
  subst e
  have I1 : Inv X pins σ H { s with heap := h', toks := tk } := I.kept kp
  have J : Inv X pins σ (upd H h'.objs.size (.lst ((sortI ns).map V.int))) { s with heap := PyProof.Rows.sortedHeap (h'.push (PyProof.Rows.seqObj "list" us.toArray 0)) h'.objs.size us out, toks := tk } := by
    refine I1.laid (t' := tk) (fun b u g => ?_) (Nat.le_refl _) ⟨by rw [List.length_map, a2.length_eq]; exact hl, out.toList, c, vals_of_ints a1, hc⟩
    have hb := Heap.lt_size g
    rw [PyProof.Rows.sortedHeap_old (Nat.ne_of_lt hb) (by rw [PyProof.Rows.size_push']; exact Nat.lt_succ_of_lt hb)]
    exact Heap.get?_push_of_some _ g
  exact ⟨.ref _, _, J, rfl, q _ (I1.hok.fresh (Nat.le_refl _))⟩
/-- what sorted takes: a list, a tuple, a dict by its keys, a set: all of ints -/
def soOf (h : MH) (x : T) : Option (List Int) := match lsOf h x with
  | some xs => mapO inOf xs
  | none => (match tpOf x with
    | some xs => mapO inOf xs
    | none => (match x with
      | .set ns => if ns.length < 64 then some (onceI ns) else none
      | .loc n => (match h[n]? with
        | some (.set ns) => if ns.length < 64 then some (onceI ns) else none
        | some (.dK kvs) => mapO (fun q : Key × T => match q.1 with
          | .inl i => some i
          | .inr _ => none) kvs
        | _ => none)
      | _ => none))
def sortF (k : List T → MH → Res T) : FM := on1 fun x h => match soOf h x with
  | some ns => k ((sortI ns).map T.int) h
  | none => .bad
theorem n_sort {k : List T → MH → Res T} (hk : k = lstK ∨ k = lstL) : NoXF (sortF k) := on1_nox fun x h c fs h' e => by
  split at e
  · exact lst_two_nox hk _ _ _ _ _ e
  · cases e
theorem sorted_set_ok (hc : X.calm = true) {pins : List (Addr × Obj)} {s : Shared} {σ : L2.St} {H : Hp} {Q : VK} {us : List Value} {a : Addr} {G : Gx} {xs : List Int} (hG : G.w = X.w) (I : Inv X pins σ H s) (rv : Vals [V.ref a] us) (f : FzS G H a xs) (hl : xs.length < 64)
    (q : ∀ p, H p = none → Q (.ref p) (upd H p (.lst ((sortI (onceI xs)).map V.int)))) : wpAny (model X.prog X.w) X.A (call (.builtin "sorted") us) (EP X pins σ Q) X.xe s := by
  obtain ⟨S, n, h1, h2, h3⟩ := f
  rw [hG] at h1
  refine cr_sortedSet hc pins s σ H _ us Q I rv ⟨a, S, n, rfl, h1, by omega, fun ns p l1 l2 l3 hp => ?_⟩
  have e : ns = sortI (onceI xs) := sorted_lt_eq l1 fun k => by rw [l2 k, h2 k, decide_eq_true_eq]
  rw [e]
  exact q p hp
theorem c_sort {k : List T → MH → Res T} (hk : k = lstK ∨ k = lstL) (hc : X.calm = true) : CallR X (.builtin "sorted") (rMC (gx X cl) (sortF k)) := by
  intro pins s σ H vs us Q I rv q
  obtain ⟨m, hp, xs, rel, rs, p⟩ := q
  obtain ⟨x, v, rfl, rx, p⟩ := on1_ok rs p
  split at p
  · rename_i ns en
    obtain ⟨hl, fin⟩ := lst_two hk rel (rs_ints (sortI ns)) p
    rw [List.length_map, (sortI_perm ns).length_eq] at hl
    unfold soOf at en
    split at en
    · rename_i xs e1
      obtain ⟨a, ws, rfl, sq, rs⟩ := lsOf_ok rel rx e1
      obtain ⟨its, r1, pl, hz⟩ := I.list sq
      rw [ints_ok rs en] at r1
      rw [Vals.ref1 rv]
      refine sorted_of I hl (fun Q' hq => ?_) fin
      have hlen := r1.length
      rw [List.length_map] at hlen
      refine PyProof.Rows.collect_list pl.isList (hq _ s.toks its kept_upd r1) (by omega)
    · split at en
      · rename_i xs e1
        obtain ⟨a, ws, rfl, sq, rs⟩ := tpOf_ok rx e1
        obtain ⟨its, r1, pl, hz⟩ := I.tuple sq
        rw [ints_ok rs en] at r1
        rw [Vals.ref1 rv]
        refine sorted_of I hl (fun Q' hq => ?_) fin
        have hlen := r1.length
        rw [List.length_map] at hlen
        refine coll_tup pl (hq _ s.toks its kept_upd r1) (by omega)
      · split at en
        · split at en
          · rename_i l _ _ hl2
            cases en
            simp only [R] at rx
            obtain ⟨a, rfl, f, _⟩ := rx
            exact sorted_set_ok hc rfl I rv f hl2 fin
          · cases en
        · rename_i n _ _
          split at en
          · split at en
            · rename_i l eo hl2
              cases en
              obtain ⟨a, _, rfl, f⟩ := rel.cell rx eo
              exact sorted_set_ok hc rfl I rv f hl2 fin
            · cases en
          · rename_i kvs eo
            obtain ⟨a, _, rfl, q, hq, rk⟩ := rel.cell rx eo
            rw [Vals.ref1 rv]
            have key : ∀ {kvs : List (Key × T)} {q : List (Key × V)} {ns : List Int}, kvs.map (·.1) = q.map (·.1) → mapO (fun q : Key × T => match q.1 with
                | .inl i => some i
                | .inr _ => none) kvs = some ns → q.map (fun kv => kV kv.1) = ns.map V.int := by
              intro kvs
              induction kvs with
              | nil =>
                intro q ns h1 h2
                cases h2
                have : q = [] := by simpa using h1.symm
                rw [this]
                rfl
              | cons z zs ih =>
                intro q ns h1 h2
                obtain ⟨y, ys, e1, e2, rfl⟩ := mapO_some h2
                cases q with
                | nil => simp at h1
                | cons w ws =>
                  simp only [List.map_cons, List.cons.injEq] at h1
                  obtain ⟨h3, h4⟩ := h1
                  split at e1
                  · rename_i i ei
                    cases e1
                    rw [List.map_cons, List.map_cons, ih h4 e2, ← h3, ei]
                    rfl
                  · cases e1
            have kk := key rk.1 en
            obtain ⟨z, lo, ws, rkv, hd⟩ := (show ObjOk X.prog X.w H s.heap a (.dK q) from I.hok a _ hq)
            obtain ⟨ep, hat⟩ := hd.dictAt
            have hlen : q.length = ws.length := Paired.length rkv
            refine sorted_of I hl (fun Q' hq' => ?_) fin
            refine PySem.W.kdu_collect (PySem.W.kdl_dict (knd := mixKind X.prog X.w) (kvs := ws) (ep := ep) lo) (I.ok.hd hc) hat (by rw [← hlen]; exact z) fun h' tk acc hkeep hacc => hq' h' tk acc.toList hkeep ?_
            rw [← kk]
            have el : acc.toList.length = acc.size := by simp
            refine vals_of_at (by rw [List.length_map, el, hacc.1, hlen]) fun j x w h1 h2 => ?_
            obtain ⟨k, y, hky, hi⟩ := hacc.2 j w (by rw [← Array.getElem?_toList]; exact h2)
            have e1 : (q.map (·.1))[j]? = some k := by
              rw [KV.keys rkv, List.getElem?_map, hky] <;> rfl
            have e2 : (q.map fun kv => kV kv.1)[j]? = some (kV k) := by
              have e3 : (q.map fun kv => kV kv.1) = (q.map (·.1)).map kV := by rw [List.map_map] <;> rfl
              rw [e3, List.getElem?_map, e1] <;> rfl
            rw [e2] at h1
            cases h1
            exact keyIs_rel hi
          · cases en
        · cases en
  · exact p.elim
end
end TW
namespace TW
open PySem PySem.Spec L2 PyProof.Rows

/-! ### enumerate of a tuple: the library's walk (GoesN.enumFrom over Draws.tuple), seen as a turn -/
def IteT (K : PySem.W.Frag) (a : Addr) : It where
  go := fun i H => ∃ xs : List V, SqT K H a xs ∧ i < xs.length
  yld := fun i H v H' => ∃ P x, v = .ref P ∧ H P = none ∧ H' = upd H P (.tup [.int (i : Nat), x]) ∧ ∀ xs, SqT K H a xs → xs[i]? = some x
  stop := fun i H => ∃ xs : List V, SqT K H a xs ∧ xs.length = i
section
variable {P : Program} {w : World} {A : Around} {tg : Expr} {elts : List Expr} {kk : Nat} {tpos : Pos} {a e it : Addr}
/-- the walk of one tuple -/
theorem goes_enT (nh : A.handled = none) (d1 : e ≠ it) (d2 : a ≠ it) (d3 : a ≠ e) (its : Array Value) :
    GoesN P w A (.Tuple elts kk tpos) e [e, it, a] [e, it] its.size (fun i h0 v h => ∃ T t x, v = .ref T ∧ h0.objs.size ≤ T ∧ its[i]? = some x ∧ h.IsTuple T #[.int (0 + (i : Int)) t, x])
      (fun i h => (∃ old, IsEnum h e it (0 + (i : Int)) old) ∧ h.IsTupleIter it a i ∧ h.IsTuple a its) :=
  .enumFrom 0 (.tuple (A := A.in1) nh it a d2 its) e d1 (by simp [d1, Ne.symm d3]) (by simp)
/-- where it stands, the tuple aside -/
def enAt (a e it : Addr) (i : Nat) (h : Heap) : Prop := (∃ old, IsEnum h e it (0 + (i : Int)) old) ∧ h.IsTupleIter it a i ∧ e ≠ it ∧ a ≠ it ∧ a ≠ e
theorem enAt.cells {i : Nat} {h : Heap} (t : enAt a e it i h) : (∃ o, h.get? e = some o ∧ ∀ v, o.data ≠ .cell v) ∧ ∃ o, h.get? it = some o ∧ ∀ v, o.data ≠ .cell v := by
  obtain ⟨⟨old, q⟩, ⟨o, ho, hc, hd⟩, _⟩ := t
  exact ⟨⟨_, q, by intro v z; cases z⟩, o, ho, by intro v z; rw [hd] at z; cases z⟩
theorem turn_enumT {K : PySem.W.Frag} : Turn P w K (.Tuple elts kk tpos) (IteT K a) [e, it] e (enAt a e it) where
  mem := List.mem_cons_self
  obj := fun i h t => by
    obtain ⟨c1, c2⟩ := t.cells
    simp only [List.mem_cons, List.not_mem_nil, or_false, forall_eq_or_imp, forall_eq]
    exact ⟨c1, c2⟩
  keep := fun i h h' t k => ⟨t.1.imp fun _ q => k e (by simp) _ q, t.2.1.at fun o q => k it (by simp) o q, t.2.2⟩
  item := by
    rintro X rfl rfl rfl calm i pins s σ H E I free t ⟨xs, sq, hi⟩
    obtain ⟨old, nx, d1, d2, d3⟩ := t
    obtain ⟨its, rv, tup, hz⟩ := I.tuple sq
    have hi' : i < its.toArray.size := by rw [List.size_toArray, ← rv.length]; exact hi
    have small : ∀ b ∈ [e, it], b < s.heap.objs.size := by
      obtain ⟨⟨_, c1, _⟩, ⟨_, c2, _⟩⟩ := enAt.cells ⟨old, nx, d1, d2, d3⟩
      simp only [List.mem_cons, List.not_mem_nil, or_false, forall_eq_or_imp, forall_eq]
      exact ⟨Heap.lt_size c1, Heap.lt_size c2⟩
    refine (goes_enT (I.ok.hd calm) d1 d2 d3 its.toArray).goes i s _ E hi' ⟨old, nx, tup⟩ fun v h1 tk y t1 k _ => ?_
    obtain ⟨P, t, u, rfl, new, hu, hP⟩ := y
    have at_i : xs[i]? = some xs[i] := List.getElem?_eq_getElem hi
    obtain ⟨u2, hu2, ru⟩ := rv.get at_i
    rw [List.getElem?_toArray, hu2] at hu
    obtain rfl : u2 = u := Option.some.inj hu
    rw [Int.zero_add] at hP
    have two : L2.Vals [.int (i : Nat), xs[i]] [.int (i : Nat) t, u2] := .cons ⟨t, rfl⟩ (.cons ru .nil)
    refine ⟨.ref P, _, I.turnedNew (t' := tk) (ob := .tup [.int (i : Nat), xs[i]]) k free new ⟨by show 2 ≤ sizeLine; decide, _, two, hP⟩, rfl, ⟨P, xs[i], rfl, I.hok.fresh new, rfl, fun ys hy => ?_⟩, ⟨t1.1, t1.2.1, d1, d2, d3⟩, fun b hb => ?_⟩
    · rw [I.tuple_inj hy sq]
      exact at_i
    · rw [upd_ne (Nat.ne_of_lt (Nat.lt_of_lt_of_le (small b hb) new))]
      exact (free b hb).1
  done := by
    rintro X rfl rfl rfl calm i pins s σ H E I free t ⟨xs, sq, rfl⟩
    obtain ⟨old, nx, d1, d2, d3⟩ := t
    obtain ⟨its, rv, tup, hz⟩ := I.tuple sq
    have all : its.toArray.size = xs.length := by rw [List.size_toArray, ← rv.length]
    refine (goes_enT (elts := elts) (kk := kk) (tpos := tpos) (I.ok.hd calm) d1 d2 d3 its.toArray).stops s _ E (by rw [all]; exact ⟨old, nx, tup⟩) fun h1 tk k _ => ?_
    exact I.turnedL (t' := tk) k free
  self := fun B i s Q E t q => t.1.elim fun _ z => wpAny_pyIter_enum z q
/-- enumerate(v) of whatever an iterator begins with -/
theorem enum_new1 {v : Value} {o : Obj} {G : Heap → Prop} (B : Begins v o G) : Meets (Builtin.«enumerate.__new__» ⟨[.type "enumerate", v], []⟩) (fun _ Z s => G s.heap ∧
    Z (.ok (.ret (.ref (s.heap.push o).objs.size))) { s with heap := (s.heap.push o).push { cls := .type "enumerate", data := .fields #[.none, .bool false, .ref s.heap.objs.size, rawInt 0, .none, .none] } }) := by
  refine .of_wp fun prog w A Z s q => ?_
  obtain ⟨g, q⟩ := q
  obtain ⟨hp, gs, dr, tk, os⟩ := s
  have begin_ : ∀ {A1 : Around} {E1 Q1 : Value → Shared → Prop}, Q1 (.ref hp.objs.size) ⟨hp.push o, gs, dr, tk, os⟩ → wpAny (model prog w) A1 (pyIter v) Q1 E1 ⟨hp, gs, dr, tk, os⟩ := B.iter prog w _ _ ⟨hp, gs, dr, tk, os⟩ _ g
  have own := sub_enumerate
  wp_walk
  refine wpAny_stack_any fun st => wpAny_pure ?_
  split
  · rename_i c _ _ _ _ _
    rcases hb : c == Value.type "enumerate"
    all_goals (wp_walk using begin_; exact ⟨_, rfl, q⟩)
  · wp_walk using begin_
    exact ⟨_, rfl, q⟩
theorem call_enumT {s : Shared} {E : Value → Shared → Prop} {l : Addr} {items : Array Value} {Q : Value → Shared → Prop} (tup : s.heap.IsTuple l items)
    (q : ∀ h', enAt l (s.heap.objs.size + 1) s.heap.objs.size 0 h' → (∀ b o, s.heap.get? b = some o → h'.get? b = some o) → Q (.ref (s.heap.objs.size + 1)) { s with heap := h' }) :
    wpAny (model P w) A (call (.type "enumerate") [.ref l]) Q E s := by
  have low : l < s.heap.objs.size := tup.elim fun _ z => Heap.lt_size z.1
  refine callType_new F.called_enumerate (by decide) (F.typeCall_enumerate_1 _) (F.newCall_enumerate_1 _) (fun ob => F.args_object_init_2 ob _) F.entry_enumerate_new (enum_new1 (begins_tuple l items)) ⟨tup, ?_⟩
  generalize hi : ({ cls := .type "tuple_iterator", data := .fields #[.ref l, .int 0 0] } : Obj) = itr
  have fr : itr.isFreed = false := by rw [← hi]; rfl
  have big : (s.heap.push itr).objs.size = s.heap.objs.size + 1 := Heap.size_push ..
  have top := Heap.get?_push_size (s.heap.push itr) (o := { cls := .type "enumerate", data := .fields #[.none, .bool false, .ref s.heap.objs.size, rawInt 0, .none, .none] }) rfl
  show _ ∧ _
  rw [big] at top ⊢
  refine ⟨⟨_, top, rfl⟩, q _ ⟨⟨.none, top⟩, ⟨itr, Heap.get?_push_of_some _ (Heap.get?_push_size _ fr), by rw [← hi], by rw [← hi]; rfl⟩, Nat.succ_ne_self _, Nat.ne_of_lt low, Nat.ne_of_lt (Nat.lt_succ_of_lt low)⟩ fun b o z => ?_⟩
  exact Heap.get?_push_of_some _ (Heap.get?_push_of_some _ z)
end
def iEnumT (K : PySem.W.Frag) (ta : TA) : TI := fun σ H Z => ta σ H fun vs H1 => ∃ a xs, vs = [.ref a] ∧ SqT K H1 a xs ∧ Z (IteT K a) H1
theorem pi_enumT {X : Cx} {e : Expr} {ta : TA} {p pos tpos : Pos} {elts : List Expr} {kk : Nat} (hg : Gl X "enumerate") (hm : X.mg "enumerate" = none) (ha : PA X [e] ta) (hs : starEach [e] X.env = [(false, eval e X.env)] := by rfl) :
    PI X (.Tuple elts kk tpos) (.Call (.Name "enumerate" p) [e] [] pos) (iEnumT X.K ta) where
  run := fun pins s σ H Z I h => by
    refine Call_ (ld_blt I hg hm boot_enumerate (PyProof.Rows.callWith_type1 (thn (ha.run pos pins s σ H _ I h) ?_) hs rfl))
    rintro us s1 ⟨_, H1, I1, r1, a, xs, rfl, sq, q⟩
    obtain ⟨u, rfl, rfl⟩ := vals1 r1
    obtain ⟨its, rv, tup, _⟩ := I1.tuple sq
    refine call_enumT tup fun h1 t k => t.1.elim fun _ z => wpAny_pyIter_enum z ?_
    refine ⟨_, [s1.heap.objs.size + 1, s1.heap.objs.size], _, _, H1, rfl, I1.kept (t' := s1.toks) k, turn_enumT, t, ?_, q⟩
    have fp : ∀ b, s1.heap.objs.size ≤ b → FpOk X pins H1 b := fun b hb => I1.fpOk hb (I1.hok.fresh hb)
    simp only [List.mem_cons, List.not_mem_nil, or_false, forall_eq_or_imp, forall_eq]
    exact ⟨fp _ (Nat.le_succ _), fp _ (Nat.le_refl _)⟩
/-! its mirror -/
def enL : Nat → List T → List T
  | _, [] => []
  | i, x :: xs => .tup [.int (i : Nat), x] :: enL (i + 1) xs
theorem enL_len : ∀ (i : Nat) (xs : List T), (enL i xs).length = xs.length
  | _, [] => rfl
  | i, x :: xs => by simp [enL, enL_len]
theorem enL_get : ∀ (j i : Nat) (xs : List T) (z : T), (enL j xs)[i]? = some z → ∃ x, xs[i]? = some x ∧ z = .tup [.int ((j + i : Nat) : Int), x]
  | _, _, [], _, e => by simp [enL] at e
  | j, 0, x :: xs, z, e => by
    simp [enL] at e
    exact ⟨x, rfl, by rw [← e]; simp⟩
  | j, i + 1, x :: xs, z, e => by
    obtain ⟨y, e1, e2⟩ := enL_get (j + 1) i xs z (by simpa [enL] using e)
    exact ⟨y, by simpa using e1, by rw [e2]; congr 4; omega⟩
def itEn (f : AM) : IM := fun r h => (f r h).bind fun xs h1 => match xs with
  | [x] => (match lsOf h1 x with
    | some ys => .ok (enL 0 ys, srcOf x ys) h1
    | none => (match tpOf x with
      | some ys => .ok (enL 0 ys, none) h1
      | none => .bad))
  | _ => .bad
theorem pair_new {G : Gx} {m : Ml} {H : Hp} {h : MH} {P : Addr} {i : Int} {x : T} {v : V} (rel : Rel G m H h) (hP : H P = none) (rx : R G m H x v) : Stp m m H (upd H P (.tup [.int i, v])) ∧ Rel G m (upd H P (.tup [.int i, v])) h ∧ R G m (upd H P (.tup [.int i, v])) (.tup [.int i, x]) (.ref P) :=
  ⟨Stp.new hP, rel.new hP, tup_new rel (Rs.cons (by simp only [R]) (Rs.cons rx Rs.nil)) hP⟩
section
variable {X : Cx} {cl : Cln} {W : WX} {e : Expr} {fa : AM} {pos tpos p : Pos} {elts : List Expr} {kk : Nat}
theorem walk_enL {G : Gx} {m : Ml} {H : Hp} {a : Addr} {xs : List T} {src : Src} (h : ∀ m' H' h', Wk m m' H H' → Rel G m' H' h' → chk src h' = true → ∃ vs, SqL G.K H' a vs ∧ Rs G m' H' xs vs) : WalkM G (Ite G.K a) (enL 0 xs) src m H := by
  intro m' H' h' s rel c
  obtain ⟨vs, sq, rs⟩ := h m' H' h' s rel c
  have hl := Rs.len rs
  rw [enL_len]
  refine ⟨fun i hi => ⟨vs, vs[i]'(by omega), sq, by simp [← hl, hi]⟩, ⟨vs, sq, by omega⟩, fun i y H'' z yl ez => ?_⟩
  obtain ⟨P, x, rfl, hP, rfl, yl⟩ := yl
  obtain ⟨t, e1, rfl⟩ := enL_get 0 i xs z ez
  obtain ⟨u, e2, r1⟩ := Rs.get rs e1
  have := yl vs sq
  rw [e2] at this
  cases this
  rw [Nat.zero_add]
  exact pair_new rel hP r1
theorem walk_enT {G : Gx} {m : Ml} {H : Hp} {a : Addr} {xs : List T} (h : ∀ m' H', Wk m m' H H' → ∃ vs, SqT G.K H' a vs ∧ Rs G m' H' xs vs) : WalkM G (IteT G.K a) (enL 0 xs) none m H := by
  intro m' H' h' s rel c
  obtain ⟨vs, sq, rs⟩ := h m' H' s
  have hl := Rs.len rs
  rw [enL_len]
  refine ⟨fun i hi => ⟨vs, sq, by omega⟩, ⟨vs, sq, hl.symm⟩, fun i y H'' z yl ez => ?_⟩
  obtain ⟨P, x, rfl, hP, rfl, yl⟩ := yl
  obtain ⟨t, e1, rfl⟩ := enL_get 0 i xs z ez
  obtain ⟨u, e2, r1⟩ := Rs.get rs e1
  have := yl vs sq
  rw [e2] at this
  cases this
  rw [Nat.zero_add]
  exact pair_new rel hP r1
theorem mi_en (hg : Gl X "enumerate") (hm : X.mg "enumerate" = none) (ha : MA X cl W [e] fa) (hs : starEach [e] X.env = [(false, eval e X.env)] := by rfl) : MI X cl W (.Tuple elts kk tpos) (.Call (.Name "enumerate" p) [e] [] pos) (itEn fa) := by
  refine ⟨PI.imp (PI.or (pi_enum hg hm ha.pa hs) (pi_enumT hg hm ha.pa hs)) fun σ H Q h => ?_⟩
  obtain ⟨r, hp, m, re, rel, p⟩ := h
  unfold itEn at p
  cases ex : fa r hp with
  | exc c fs h' =>
    rw [ex] at p
    refine .inl ⟨r, hp, m, re, rel, ?_⟩
    rw [ex]
    exact p
  | bad => rw [ex] at p; exact p.elim
  | ok xs h1 =>
    rw [ex] at p
    simp only [Res.bind] at p
    split at p
    · rename_i x
      split at p
      · rename_i ys e1
        refine .inl ⟨r, hp, m, re, rel, ?_⟩
        rw [ex]
        intro m' H' s rel' vs rvs
        obtain ⟨v, t, rfl, rv, rt⟩ := Rs.cons_iff.mp rvs
        obtain rfl := Rs.nil_iff.mp rt
        obtain ⟨a, ws, rfl, sq, rs⟩ := lsOf_ok rel' rv e1
        exact ⟨a, ws, rfl, sq, p m' H' s rel' (Ite X.K a) (walk_enL (ls_later rel' rv e1))⟩
      · split at p
        · rename_i ys e1
          refine .inr ⟨r, hp, m, re, rel, ?_⟩
          rw [ex]
          intro m' H' s rel' vs rvs
          obtain ⟨v, t, rfl, rv, rt⟩ := Rs.cons_iff.mp rvs
          obtain rfl := Rs.nil_iff.mp rt
          obtain ⟨a, ws, rfl, sq, rs⟩ := tpOf_ok rv e1
          exact ⟨a, ws, rfl, sq, p m' H' s rel' (IteT X.K a) (walk_enT (tp_later rv e1))⟩
        · exact p.elim
    · exact p.elim
end
end TW
namespace TW
open PySem PySem.Spec L2

/-! ### a < b < c; -x -/
def emCh (k k' : T → T → MH → Res T) (f g h : EM) : EM := fun r hp => (f r hp).bind fun x h1 => (g r h1).bind fun y h2 => (k x y h2).bind fun z h3 => match z with
  | .bl true => (h r h3).bind fun w h4 => k' y w h4
  | .bl false => .ok (.bl false) h3
  | _ => .bad
section
variable {X : Cx} {cl : Cln} {W : WX} {a b c e : Expr} {es : List Expr} {f g h : EM} {fa : AM} {pos : Pos} {k k' : T → T → MH → Res T}
theorem ch_ok (hn : NoX k) (hn' : NoX k') {σ : L2.St} {H : Hp} {Q : VK} (q : tM (gx X cl) W (emCh k k' f g h) σ H Q) : tChain (rM (gx X cl) k) (rM (gx X cl) k') (tM (gx X cl) W f) (tM (gx X cl) W g) (tM (gx X cl) W h) σ H Q := by
  obtain ⟨r, hp, m, re, rel, p⟩ := q
  refine ⟨r, hp, m, re, rel, p.bind.mono (fun x m1 h1 H1 s1 q1 v rv => ?_) fun _ _ _ z => z⟩
  refine ⟨r, h1, m1, re.step s1, q1.1, q1.2.bind.mono (fun y m2 h2 H2 s2 q2 w rw' => ?_) fun _ _ _ z => z⟩
  refine ⟨m2, h2, x, y, q2.1, R.step s2 x v rv, rw', (q2.2.bind.nox (hn x y h2)).mono (fun z m3 h3 H3 s3 q3 u ru => ?_) fun _ _ _ z => z⟩
  obtain ⟨rel3, p3⟩ := q3
  split at p3
  · simp only [R] at ru
    refine ⟨true, ru, r, h3, m3, ((re.step s1).step s2).step s3, rel3, p3.bind.mono (fun t m4 h4 H4 s4 q4 u4 ru4 => ?_) fun _ _ _ z => z⟩
    exact ⟨m4, h4, y, t, q4.1, R.step s4 _ _ (R.step s3 _ _ rw'), ru4, q4.2.nox (hn' _ _ _)⟩
  · simp only [R] at ru
    exact ⟨false, ru, p3.ok_ rel3 _ (by simp only [R])⟩
  · exact p3.elim
theorem me_chain {op op' : CmpOp} (ho : OpR X (compareOp op) (rM (gx X cl) k)) (hn : NoX k) (ho' : OpR X (compareOp op') (rM (gx X cl) k')) (hn' : NoX k') (ha : ME X cl W a f) (hb : ME X cl W b g) (hc : ME X cl W c h) (hm : lastMarks [op, op'] [b, c] = false := by with_unfolding_all rfl) :
    ME X cl W (.Compare a [op, op'] [b, c] pos) (emCh k k' f g h) := ⟨PE.imp (pe_chain ho ho' ha.pe hb.pe hc.pe hm) fun σ H Q q => ch_ok hn hn' q⟩
theorem mt_chain {op op' : CmpOp} (ho : OpR X (compareOp op) (rM (gx X cl) k)) (hn : NoX k) (ho' : OpR X (compareOp op') (rM (gx X cl) k')) (hn' : NoX k') (ha : ME X cl W a f) (hb : ME X cl W b g) (hc : ME X cl W c h) (hm : lastMarks [op, op'] [b, c] = false := by with_unfolding_all rfl) :
    MT X cl W (.Compare a [op, op'] [b, c] pos) (tmOf (emCh k k' f g h)) := ⟨PT.imp (pt_chain ho ho' ha.pe hb.pe hc.pe hm) fun σ H Q q => by
  refine ch_ok hn hn' ?_
  obtain ⟨r, hp, m, re, rel, p⟩ := q
  refine ⟨r, hp, m, re, rel, p.bind.mono (fun x m' h' H' s q v rv => ?_) fun _ _ _ z => z⟩
  obtain ⟨b, e, q⟩ := isBl_ok rv q.1 q.2
  exact ⟨b, e, q⟩⟩
def ngT (x : T) (hp : MH) : Res T := match x with
  | .int i => .ok (.int (-i)) hp
  | _ => .bad
theorem me_neg (ha : ME X cl W a f) : ME X cl W (.UnaryOp .USub a pos) (em1 ngT f) := ⟨PE.imp (pe_un un_neg ha.pe) fun σ H Q q => by
  obtain ⟨r, hp, m, re, rel, p⟩ := one_ok q
  refine ⟨r, hp, m, re, rel, p.mono (fun x m1 h1 H1 s q v rv => ?_) fun _ _ _ z => z⟩
  obtain ⟨m2, hp2, y, rel2, ry, p2⟩ := q v rv
  unfold ngT at p2
  split at p2
  · simp only [R] at ry
    exact ⟨_, ry, p2.ok_ rel2 _ (by simp only [R])⟩
  · exact p2.elim⟩

/-! ### a, b = x, y -/
def sPar2 (i j : Nat) (g : AM) : SM := fun r hp => lift (g r hp) r fun xs h1 => match xs with
  | [x, y] => .nx ((r.set i (some x)).set j (some y)) h1
  | _ => .bad
def sPar3 (i j l : Nat) (g : AM) : SM := fun r hp => lift (g r hp) r fun xs h1 => match xs with
  | [x, y, z] => .nx (((r.set i (some x)).set j (some y)).set l (some z)) h1
  | _ => .bad
theorem ms_par2 (i j : Nat) {x y : Str} {px py pt : Pos} {kt k2 pt2} (hc : X.calm = true) (hN : X.N.Nodup) (ha : MA X cl W [a, b] fa) (hi : X.N[i]? = some x := by rfl) (hj : X.N[j]? = some y := by rfl) (hij : i ≠ j := by decide)
    (hx : X.env.scope.names.lookup x = some .local := by rfl) (hy : X.env.scope.names.lookup y = some .local := by rfl)
    (hw : swappedStores [.Tuple [.Name x px, .Name y py] kt pt] (.Tuple [a, b] k2 pt2) X.env = pure (some [x, y]) := by rfl)
    (hs : swapsWithSole [.Tuple [.Name x px, .Name y py] kt pt] (.Tuple [a, b] k2 pt2) pos.line X.env = pure false := by rfl) : MS X cl W (.Assign [.Tuple [.Name x px, .Name y py] kt pt] (.Tuple [a, b] k2 pt2) pos) (sPar2 i j fa) := by
  refine ⟨PS.imp (ps_par hc hN hi hj hij hx hy ha.pa hw hs) fun D σ H h => ?_⟩
  obtain ⟨r, hp, m, re, rel, p⟩ := h
  refine ⟨r, hp, m, re, rel, (p.lift re).mono (fun xs m1 h1 H1 s q vs rv => ?_) fun _ _ _ z => z⟩
  obtain ⟨rel1, re1, fl⟩ := q
  split at fl
  · obtain ⟨v, t, rfl, h2, h3⟩ := Rs.cons_iff.mp rv
    obtain ⟨w, t, rfl, h4, h5⟩ := Rs.cons_iff.mp h3
    obtain rfl := Rs.nil_iff.mp h5
    exact ⟨v, w, rfl, fl m1 H1 _ .refl rel1 ((re1.set h2).set h4)⟩
  · exact fl.elim
theorem ms_par3 (i j l : Nat) {x y z : Str} {px py pz pt : Pos} {kt k2 pt2} (hc : X.calm = true) (hN : X.N.Nodup) (ha : MA X cl W [a, b, c] fa) (hi : X.N[i]? = some x := by rfl) (hj : X.N[j]? = some y := by rfl) (hl : X.N[l]? = some z := by rfl) (hij : i ≠ j := by decide) (hil : i ≠ l := by decide) (hjl : j ≠ l := by decide)
    (hx : X.env.scope.names.lookup x = some .local := by rfl) (hy : X.env.scope.names.lookup y = some .local := by rfl) (hz : X.env.scope.names.lookup z = some .local := by rfl)
    (hw : swappedStores [.Tuple [.Name x px, .Name y py, .Name z pz] kt pt] (.Tuple [a, b, c] k2 pt2) X.env = pure (some [x, y, z]) := by rfl)
    (hs : swapsWithSole [.Tuple [.Name x px, .Name y py, .Name z pz] kt pt] (.Tuple [a, b, c] k2 pt2) pos.line X.env = pure false := by rfl) : MS X cl W (.Assign [.Tuple [.Name x px, .Name y py, .Name z pz] kt pt] (.Tuple [a, b, c] k2 pt2) pos) (sPar3 i j l fa) := by
  refine ⟨PS.imp (ps_par3 hc hN hi hj hl hij hil hjl hx hy hz ha.pa hw hs) fun D σ H h => ?_⟩
  obtain ⟨r, hp, m, re, rel, p⟩ := h
  refine ⟨r, hp, m, re, rel, (p.lift re).mono (fun xs m1 h1 H1 s q vs rv => ?_) fun _ _ _ z => z⟩
  obtain ⟨rel1, re1, fl⟩ := q
  split at fl
  · obtain ⟨v, t, rfl, h2, h3⟩ := Rs.cons_iff.mp rv
    obtain ⟨w, t, rfl, h4, h5⟩ := Rs.cons_iff.mp h3
    obtain ⟨u, t, rfl, h6, h7⟩ := Rs.cons_iff.mp h5
    obtain rfl := Rs.nil_iff.mp h7
    exact ⟨v, w, u, rfl, fl m1 H1 _ .refl rel1 (((re1.set h2).set h4).set h6)⟩
  · exact fl.elim
end

/-! ### o[i] = v -/
def stT (o i v : T) (h : MH) : Option MH := match o with
  | .loc n => (match h[n]? with
    | some (.lst xs) => (match i with
      | .int k => (match ixN xs.length k with
        | some j => some (h.set n (.lst (xs.set j v)))
        | none => none)
      | _ => none)
    | some (.dK kvs) => (match kyOf i with
      | some k => if kvs.length < sizeLine then some (h.set n (.dK (putT kvs k v))) else none
      | none => none)
    | some (.dT kvs) => (match kysOf i with
      | some k => if kvs.length < sizeLine then some (h.set n (.dT (putT kvs k v))) else none
      | none => none)
    | _ => none)
  | _ => none
def rSet (G : Gx) : TSet := fun o i v H Q => ∃ m hp x y z, Rel G m H hp ∧ R G m H x o ∧ R G m H y i ∧ R G m H z v ∧ ∃ h', stT x y z hp = some h' ∧ ∀ m' H', Stp m m' H H' → Rel G m' H' h' → Q H'
theorem PSet.imp {X : Cx} {r r' : TSet} (h : PSet X r) (i : ∀ o x v H Q, r' o x v H Q → r o x v H Q) : PSet X r' := fun pins s σ H o x v ov iv u Q I ro ri rv q => h pins s σ H o x v ov iv u Q I ro ri rv (i _ _ _ _ _ q)
theorem PSet.or {X : Cx} {r r' : TSet} (h : PSet X r) (h' : PSet X r') : PSet X (fun o x v H Q => r o x v H Q ∨ r' o x v H Q) := fun pins s σ H o x v ov iv u Q I ro ri rv q => by
  rcases q with q | q
  · exact h pins s σ H o x v ov iv u Q I ro ri rv q
  · exact h' pins s σ H o x v ov iv u Q I ro ri rv q
section
variable {X : Cx} {cl : Cln} {W : WX} {o i e : Expr} {f g v : EM} {fa : AM} {pos pos' : Pos}
theorem set_dict (hu : X.A.units + 1 < cLine) : PSet X (fun x y z H Q => ∃ a H', x = .ref a ∧ DPut H a y z H' ∧ Q H') := by
  intro pins s σ H o x v ov iv u Q I ro ri rv q
  obtain ⟨a, H', rfl, g, q⟩ := q
  cases ro
  exact d_setItem hu I g ri rv fun s' I' => ⟨H', I', q⟩
theorem set_any (hu : X.A.units + 66 < cLine) : PSet X (rSet (gx X cl)) := by
  refine PSet.imp (PSet.or set_list (set_dict (by omega))) fun o x v H Q q => ?_
  obtain ⟨m, hp, to, tx, tv, rel, ro, rx, rv, h', es, q⟩ := q
  cases to with
  | loc n =>
    simp only [stT] at es
    split at es
    · rename_i xs ec
      obtain ⟨a, e1, rfl, vs, e2, rs⟩ := rel.cell ro ec
      split at es
      · rename_i k
        split at es
        · rename_i j ej
          cases es
          simp only [R] at rx
          have ha : a ∈ m.c := List.mem_of_getElem? e1
          exact .inl ⟨a, vs, k, j, rfl, rx, e2, by rw [← Rs.len rs]; exact ej, q m _ (Stp.wr ha) (rel.wr e1 ⟨_, upd_same, Rs.step (Stp.wr ha) _ _ (Rs.set j rs rv)⟩)⟩
        · cases es
      · cases es
    · rename_i kvs ec
      obtain ⟨a, e1, rfl, qv, e2, rk⟩ := rel.cell ro ec
      split at es
      · rename_i k ek
        split at es
        · rename_i hl
          cases es
          have ha : a ∈ m.c := List.mem_of_getElem? e1
          exact .inr ⟨a, _, rfl, .inl ⟨qv, k, e2, kyOf_ok rx ek, by rw [← rk.len]; exact hl, rfl⟩, q m _ (Stp.wr ha) (rel.wr e1 ⟨_, upd_same, (Rk.put k rv rk).step (Stp.wr ha)⟩)⟩
        · cases es
      · cases es
    · rename_i kvs ec
      obtain ⟨a, e1, rfl, qv, e2, rk⟩ := rel.cell ro ec
      split at es
      · rename_i k ek
        split at es
        · rename_i hl
          cases es
          have ha : a ∈ m.c := List.mem_of_getElem? e1
          obtain ⟨b, rfl, hb⟩ := kysOf_ok rx ek
          exact .inr ⟨a, _, rfl, .inr ⟨qv, k, b, e2, rfl, hb, by rw [← rk.len]; exact hl, rfl⟩, q m _ (Stp.wr ha) (rel.wr e1 ⟨_, upd_same, (Rk.put k rv rk).step (Stp.wr ha)⟩)⟩
        · cases es
      · cases es
    · cases es
  | _ => cases es
def sSub (f g v : EM) : SM := fun r h => lift (v r h) r fun z h1 => lift (f r h1) r fun x h2 => lift (g r h2) r fun y h3 => match stT x y z h3 with
  | some h4 => .nx r h4
  | none => .bad
theorem ms_sub (hu : X.A.units + 66 < cLine) (hv : ME X cl W e v) (ho : ME X cl W o f) (hi : ME X cl W i g)
    (ha : ∀ v, assign (.Subscript o i pos') X.env v = (do
      let ov ← holding [v] (eval o X.env)
      let iv ← holding [v, ov] (eval i X.env)
      standAt pos'
      holding [v, ov, iv] (setItem ov iv v)
      release [v, ov, iv] []) := by intro _; rfl) (hs : swapsWithSole [.Subscript o i pos'] e pos.line X.env = pure false := by rfl) (hw : swappedStores [.Subscript o i pos'] e X.env = pure none := by rfl) (h1 : (assignEach [.Subscript o i pos'] X.env).map (·.2) = [assign (.Subscript o i pos') X.env] := by rfl) :
    MS X cl W (.Assign [.Subscript o i pos'] e pos) (sSub f g v) := by
  refine ⟨PS.imp (ps_asg hv.pe (pg_sub ho.pe hi.pe (set_any (cl := cl) hu) ha) hs hw h1) fun D σ H h => ?_⟩
  obtain ⟨r, hp, m, re, rel, p⟩ := h
  refine ⟨r, hp, m, re, rel, (p.lift re).mono (fun z m1 h1 H1 s1 q1 zv rz => ?_) fun _ _ _ z => z⟩
  obtain ⟨rel1, re1, fl1⟩ := q1
  refine ⟨r, h1, m1, re1, rel1, (fl1.lift re1).mono (fun x m2 h2 H2 s2 q2 xv rx => ?_) fun _ _ _ z => z⟩
  obtain ⟨rel2, re2, fl2⟩ := q2
  refine ⟨r, h2, m2, re2, rel2, (fl2.lift re2).mono (fun y m3 h3 H3 s3 q3 yv ry => ?_) fun _ _ _ z => z⟩
  obtain ⟨rel3, re3, fl3⟩ := q3
  split at fl3
  · rename_i h4 e4
    exact ⟨m3, h3, x, y, z, rel3, R.step s3 _ _ rx, ry, R.step s3 _ _ (R.step s2 _ _ rz), h4, e4, fun m' H' s' rel' => fl3 m' H' σ s' rel' (re3.step s')⟩
  · exact fl3.elim

/-! ### o.f = v -/
def putA (f : Str) (v : T) : List (Str × T) → List (Str × T)
  | [] => [(f, v)]
  | (g, x) :: r => if g = f then (g, v) :: r else (g, x) :: putA f v r
theorem Rk.putA {G : Gx} {m : Ml} {H : Hp} {nm : Str} {x : T} {v : V} (rv : R G m H x v) : ∀ {kvs : List (Str × T)} {q : List (Str × V)}, Rk G m H kvs q → Rk G m H (TW.putA nm x kvs) (putF nm v q)
  | [], q, h => by
    rw [Rk.nil_iff.mp h]
    exact Rk.cons_iff.mpr ⟨v, [], rfl, rv, Rk.nil_iff.mpr rfl⟩
  | (k, y) :: r, q, h => by
    obtain ⟨w, t, rfl, h1, h2⟩ := Rk.cons_iff.mp h
    unfold TW.putA putF
    by_cases e : k = nm
    · rw [if_pos e, if_pos e]
      exact Rk.cons_iff.mpr ⟨v, t, rfl, rv, h2⟩
    · rw [if_neg e, if_neg e]
      exact Rk.cons_iff.mpr ⟨w, _, rfl, h1, Rk.putA rv h2⟩
def sAtt (oc : List Str) (nm : Str) (f v : EM) : SM := fun r h => lift (v r h) r fun z h1 => lift (f r h1) r fun x h2 => match x with
  | .loc n => (match h2[n]? with
    | some (.ins c fs) => if c ∈ oc ∧ fs.length < 1000 then .nx r (h2.set n (.ins c (putA nm z fs))) else .bad
    | _ => .bad)
  | _ => .bad
theorem ms_att {oc : List Str} {nm : Str} (hc : AtOk X.K cl oc nm) (hv : ME X cl W e v) (ho : ME X cl W o f) (hs : swapsWith e (some (.Attribute o nm pos')) pos.line X.env = pure false := by rfl) : MS X cl W (.Assign [.Attribute o nm pos'] e pos) (sAtt oc nm f v) := by
  refine ⟨PS.imp (ps_fld ho.pe hv.pe hs) fun D σ H h => ?_⟩
  obtain ⟨r, hp, m, re, rel, p⟩ := h
  refine ⟨r, hp, m, re, rel, (p.lift re).mono (fun z m1 h1 H1 s1 q1 zv rz => ?_) fun _ _ _ z => z⟩
  obtain ⟨rel1, re1, fl1⟩ := q1
  refine ⟨r, h1, m1, re1, rel1, (fl1.lift re1).mono (fun x m2 h2 H2 s2 q2 xv rx => ?_) fun _ _ _ z => z⟩
  obtain ⟨rel2, re2, fl2⟩ := q2
  split at fl2
  · rename_i n
    split at fl2
    · rename_i c fs ec
      obtain ⟨a, e1, rfl, C, dx, qv, hC, hH, rk⟩ := rel2.cell rx ec
      split at fl2
      · rename_i hmem
        obtain ⟨k1, k2⟩ := hc c hmem.1 C hC
        have ha : a ∈ m2.c := List.mem_of_getElem? e1
        refine ⟨a, C, dx, qv, rfl, hH, k1, k2, by rw [← rk.len]; exact hmem.2, ?_⟩
        exact fl2 m2 _ σ (Stp.wr ha) (rel2.wr e1 ⟨C, dx, _, hC, upd_same, (Rk.putA (R.step s2 _ _ rz) rk).step (Stp.wr ha)⟩) (re2.step (Stp.wr ha))
      · exact fl2.elim
    · exact fl2.elim
  · exact fl2.elim
end
end TW
namespace TW
open PySem PySem.Spec L2

/-! ### built-in methods -/
abbrev GMt := T → List T → MH → Res T
def rMM (G : Gx) (g : GMt) : V → List V → Hp → VK → Prop := fun v vs H Q => ∃ m hp x xs, Rel G m H hp ∧ R G m H x v ∧ Rs G m H xs vs ∧ Pst G m H (g x xs hp) (fun z m' _ H' => ∀ u, R G m' H' z u → Q u H') W0
def NoXM (g : GMt) : Prop := ∀ x xs h c fs h', g x xs h ≠ .exc c fs h'
def isTy (t : String) (h : MH) (x : T) : Bool := match x with
  | .str _ => decide (t = "str")
  | .loc n => (match h[n]? with
    | some (.lst _) => decide (t = "list")
    | some (.dK _) => decide (t = "dict")
    | some (.dT _) => decide (t = "dict")
    | _ => false)
  | .lst _ => decide (t = "list")
  | .klst _ => decide (t = "list")
  | _ => false
def emBm (t : String) (g : GMt) (f : EM) (fa : AM) : EM := fun r h => (f r h).bind fun x h1 => if isTy t h1 x = true then (fa r h1).bind fun xs h2 => g x xs h2 else .bad
section
variable {X : Cx} {cl : Cln} {W : WX} {o e : Expr} {es : List Expr} {f : EM} {fa : AM} {g : GMt} {name : Str} {apos cpos : Pos} {t id : String}
theorem isTy_ok {G : Gx} {m : Ml} {H : Hp} {h : MH} {x : T} {v : V} (rel : Rel G m H h) (rx : R G m H x v) (e : isTy t h x = true) : tyV G.K t v H := by
  cases x with
  | str s =>
    simp only [R] at rx
    subst rx
    have q : t = "str" := of_decide_eq_true e
    exact q
  | lst xs =>
    obtain ⟨a, vs, rfl, sq, rs⟩ := lsOf_ok (xs := xs) rel rx rfl
    exact .inl ⟨of_decide_eq_true e, vs, sq⟩
  | klst xs =>
    obtain ⟨a, vs, rfl, sq, rs⟩ := lsOf_ok (xs := xs) rel rx rfl
    exact .inl ⟨of_decide_eq_true e, vs, sq⟩
  | loc n =>
    simp only [isTy] at e
    split at e
    · rename_i xs ec
      obtain ⟨a, e1, rfl, vs, e2, rs⟩ := rel.cell rx ec
      exact .inl ⟨of_decide_eq_true e, vs, SqL.of e2⟩
    · rename_i xs ec
      obtain ⟨a, e1, rfl, vs, e2, rs⟩ := rel.cell rx ec
      exact .inr (.inr (.inl ⟨of_decide_eq_true e, .inl ⟨vs, e2⟩⟩))
    · rename_i xs ec
      obtain ⟨a, e1, rfl, vs, e2, rs⟩ := rel.cell rx ec
      exact .inr (.inr (.inl ⟨of_decide_eq_true e, .inr ⟨vs, e2⟩⟩))
    · cases e
  | _ => cases e
theorem bm_ok (hn : NoXM g) {σ : L2.St} {H : Hp} {Q : VK} (q : tM (gx X cl) W (emBm t g f fa) σ H Q) : tM (gx X cl) W f σ H fun x H1 => tyV X.K t x H1 ∧ tMA (gx X cl) W fa σ H1 fun xs H2 => rMM (gx X cl) g x xs H2 Q := by
  obtain ⟨r, hp, m, re, rel, p⟩ := q
  refine ⟨r, hp, m, re, rel, p.bind.mono (fun x m1 h1 H1 s1 q1 v rv => ?_) fun _ _ _ z => z⟩
  obtain ⟨rel1, p1⟩ := q1
  split at p1
  · rename_i ht
    refine ⟨isTy_ok rel1 rv ht, r, h1, m1, re.step s1, rel1, p1.bind.mono (fun xs m2 h2 H2 s2 q2 vs rvs => ?_) fun _ _ _ z => z⟩
    exact ⟨m2, h2, x, xs, q2.1, R.step s2 _ _ rv, rvs, q2.2.nox (hn _ _ _)⟩
  · exact p1.elim
theorem me_bm (pa : PlainAttrs t) (slot : Slot t name id) (hty : typeOf (.builtin id) = pure (.type "method_descriptor")) (hm : MtR X id (rMM (gx X cl) g)) (hn : NoXM g) (ho : ME X cl W o f) (ha : MA X cl W (e :: es) fa)
    (hbase : attributeBase o name X.env (eval o X.env) = eval o X.env := by rfl)
    (hfew : ((backTo cpos (starEach (e :: es) X.env)).all (fun x => !x.1) && (backToKw cpos (keywordEach [] X.env)).all (fun x => x.1.isSome)
      && decide ((e :: es).length + ([] : List Keyword).length + (if ([] : List Keyword).isEmpty then 0 else 1) < 30)) = true := by rfl)
    (hline : (apos.endLine == cpos.line) = true := by rfl) (hs : starEach (e :: es) X.env = (false, eval e X.env) :: starEach es X.env := by rfl) (hplain : (backTo cpos (starEach es X.env)).any (·.1) = false := by rfl) :
    ME X cl W (.Call (.Attribute o name apos) (e :: es) [] cpos) (emBm t g f fa) := ⟨PE.imp (pe_bm pa slot hty hm ho.pe ha.pa hbase hfew hline hs hplain) fun σ H Q q => bm_ok hn q⟩
theorem me_bm0 (pa : PlainAttrs t) (slot : Slot t name id) (hty : typeOf (.builtin id) = pure (.type "method_descriptor")) (hm : MtR X id (rMM (gx X cl) g)) (hn : NoXM g) (ho : ME X cl W o f)
    (hbase : attributeBase o name X.env (eval o X.env) = eval o X.env := by rfl) (hline : (apos.endLine == cpos.line) = true := by rfl) : ME X cl W (.Call (.Attribute o name apos) [] [] cpos) (emBm t g f an) := ⟨PE.imp (pe_bm0 pa slot hty hm ho.pe hbase hline) fun σ H Q q => by
  have q := bm_ok hn q
  refine q.mono fun v H' h => ⟨h.1, ?_⟩
  obtain ⟨r, hp, m, re, rel, p⟩ := h.2
  exact p.ok_ rel [] Rs.nil⟩
theorem MtR.imp {r r' : V → List V → Hp → VK → Prop} (h : MtR X id r) (i : ∀ x xs H Q, r' x xs H Q → r x xs H Q) : MtR X id r' := fun pins s σ H x xs v us Q I rv rvs q => h pins s σ H x xs v us Q I rv rvs (i _ _ _ _ q)
def apT : GMt := fun x xs h => match x, xs with
  | .loc n, [y] => (match lstAt h n with
    | some l => if l.length < sizeLine then .ok .non (h.set n (.lst (l ++ [y]))) else .bad
    | none => .bad)
  | _, _ => .bad
theorem n_ap : NoXM apT := fun x xs h c fs h' e => by
  unfold apT at e
  split at e
  · split at e
    · split at e <;> cases e
    · cases e
  · cases e
theorem mm_ap : MtR X "list.append" (rMM (gx X cl) apT) := MtR.imp mt_append fun v vs H Q q => by
  obtain ⟨m, hp, x, xs, rel, rx, rs, p⟩ := q
  unfold apT at p
  split at p
  · rename_i n y
    obtain ⟨w, t, rfl, h2, h3⟩ := Rs.cons_iff.mp rs
    obtain rfl := Rs.nil_iff.mp h3
    split at p
    · rename_i l el
      obtain ⟨a, ws, e1, rfl, e3, rl⟩ := lstAt_ok rel rx el
      split at p
      · rename_i hl
        have ha : a ∈ m.c := List.mem_of_getElem? e1
        exact ⟨a, ws, w, rfl, rfl, e3, by rw [← Rs.len rl]; exact hl, p m _ (Stp.wr ha) (rel.wr e1 ⟨_, upd_same, Rs.step (Stp.wr ha) _ _ (Rs.app rl (Rs.cons h2 Rs.nil))⟩) _ (by simp only [R])⟩
      · exact p.elim
    · exact p.elim
  · exact p.elim
def exT : GMt := fun x xs h => match x, xs with
  | .loc n, [y] => (match lstAt h n, lsW h y with
    | some l, some l2 => if l.length + l2.length ≤ sizeLine then .ok .non (h.set n (.lst (l ++ l2))) else .bad
    | _, _ => .bad)
  | _, _ => .bad
theorem n_ex : NoXM exT := fun x xs h c fs h' e => by
  unfold exT at e
  split at e
  · split at e
    · split at e <;> cases e
    · cases e
  · cases e
theorem mm_ex : MtR X "list.extend" (rMM (gx X cl) exT) := MtR.imp mt_extend fun v vs H Q q => by
  obtain ⟨m, hp, x, xs, rel, rx, rs, p⟩ := q
  unfold exT at p
  split at p
  · rename_i n y
    obtain ⟨w, t, rfl, h2, h3⟩ := Rs.cons_iff.mp rs
    obtain rfl := Rs.nil_iff.mp h3
    split at p
    · rename_i l l2 el el2
      obtain ⟨a, ws, e1, rfl, e3, rl⟩ := lstAt_ok rel rx el
      obtain ⟨b, zs, rfl, e4, rl2⟩ := lsW_ok rel h2 el2
      split at p
      · rename_i hl
        have ha : a ∈ m.c := List.mem_of_getElem? e1
        exact ⟨a, b, ws, zs, rfl, rfl, e3, e4, by rw [← Rs.len rl, ← Rs.len rl2]; exact hl, p m _ (Stp.wr ha) (rel.wr e1 ⟨_, upd_same, Rs.step (Stp.wr ha) _ _ (Rs.app rl rl2)⟩) _ (by simp only [R])⟩
      · exact p.elim
    · exact p.elim
  · exact p.elim
def ppT : GMt := fun x xs h => match x, xs with
  | .loc n, [] => (match lstAt h n with
    | some l => (match l[l.length - 1]? with
      | some y => .ok y (h.set n (.lst l.dropLast))
      | none => .bad)
    | none => .bad)
  | _, _ => .bad
theorem n_pp : NoXM ppT := fun x xs h c fs h' e => by
  unfold ppT at e
  split at e
  · split at e
    · split at e <;> cases e
    · cases e
  · cases e
theorem mm_pp : MtR X "list.pop" (rMM (gx X cl) ppT) := MtR.imp mt_pop fun v vs H Q q => by
  obtain ⟨m, hp, x, xs, rel, rx, rs, p⟩ := q
  unfold ppT at p
  split at p
  · rename_i n
    obtain rfl := Rs.nil_iff.mp rs
    split at p
    · rename_i l el
      obtain ⟨a, ws, e1, rfl, e3, rl⟩ := lstAt_ok rel rx el
      split at p
      · rename_i y ey
        obtain ⟨w, ew, rw'⟩ := Rs.get rl ey
        have ha : a ∈ m.c := List.mem_of_getElem? e1
        exact ⟨a, ws, w, rfl, rfl, e3, by rw [← Rs.len rl]; exact ew, p m _ (Stp.wr ha) (rel.wr e1 ⟨_, upd_same, Rs.step (Stp.wr ha) _ _ rl.dropLast⟩) _ (R.step (Stp.wr ha) _ _ rw')⟩
      · exact p.elim
    · exact p.elim
  · exact p.elim
def paT : GMt := fun x xs h => match x, xs with
  | .loc n, [.int i] => (match lstAt h n with
    | some l => if -(2 ^ 63) ≤ i ∧ i < 2 ^ 63 then (match seqIndex? i l.length with
      | some k => (match l[k]? with
        | some y => .ok y (h.set n (.lst (l.eraseIdx k)))
        | none => .bad)
      | none => .bad) else .bad
    | none => .bad)
  | _, _ => .bad
theorem n_pa : NoXM paT := fun x xs h c fs h' e => by
  unfold paT at e
  split at e
  · split at e
    · split at e
      · split at e
        · split at e <;> cases e
        · cases e
      · cases e
    · cases e
  · cases e
theorem mm_pa : MtR X "list.pop" (rMM (gx X cl) paT) := MtR.imp mt_popAt fun v vs H Q q => by
  obtain ⟨m, hp, x, xs, rel, rx, rs, p⟩ := q
  unfold paT at p
  split at p
  · rename_i n i
    obtain ⟨w, t, rfl, h2, h3⟩ := Rs.cons_iff.mp rs
    obtain rfl := Rs.nil_iff.mp h3
    simp only [R] at h2
    subst h2
    split at p
    · rename_i l el
      obtain ⟨a, ws, e1, rfl, e3, rl⟩ := lstAt_ok rel rx el
      split at p
      · rename_i hb
        split at p
        · rename_i k ek
          split at p
          · rename_i y ey
            obtain ⟨w, ew, rw'⟩ := Rs.get rl ey
            have ha : a ∈ m.c := List.mem_of_getElem? e1
            exact ⟨a, ws, i, k, w, rfl, rfl, e3, hb.1, hb.2, by rw [← Rs.len rl]; exact ek, ew, p m _ (Stp.wr ha) (rel.wr e1 ⟨_, upd_same, Rs.step (Stp.wr ha) _ _ (rl.eraseIdx k)⟩) _ (R.step (Stp.wr ha) _ _ rw')⟩
          · exact p.elim
        · exact p.elim
      · exact p.elim
    · exact p.elim
  · exact p.elim

/-! ### all, any, sum -/
def allF : FM := on1 fun x h => match lsOf h x with
  | some xs => (match mapO blOf xs with
    | some bs => .ok (.bl (bs.all fun b => b)) h
    | none => .bad)
  | none => .bad
def anyF : FM := on1 fun x h => match lsOf h x with
  | some xs => (match mapO blOf xs with
    | some bs => .ok (.bl (bs.any fun b => b)) h
    | none => .bad)
  | none => .bad
def sumF : FM := on1 fun x h => match lsOf h x with
  | some xs => (match mapO inOf xs with
    | some ns => .ok (.int ns.sum) h
    | none => .bad)
  | none => .bad
theorem n_all : NoXF allF := on1_nox fun x h c fs h' e => by
  split at e
  · split at e <;> cases e
  · cases e
theorem n_any : NoXF anyF := on1_nox fun x h c fs h' e => by
  split at e
  · split at e <;> cases e
  · cases e
theorem n_sum : NoXF sumF := on1_nox fun x h c fs h' e => by
  split at e
  · split at e <;> cases e
  · cases e
theorem c_all (hc : X.calm = true) : CallR X (.builtin "all") (rMC (gx X cl) allF) := CallR.imp (cr_all hc) fun vs H Q q => by
  obtain ⟨m, hp, xs, rel, rs, p⟩ := q
  obtain ⟨x, v, rfl, rx, p⟩ := on1_ok rs p
  split at p
  · rename_i xs e1
    obtain ⟨a, ws, rfl, sq, rs⟩ := lsOf_ok rel rx e1
    split at p
    · rename_i bs eb
      rw [bls_ok rs eb] at sq
      exact ⟨a, bs, rfl, sq, p.ok_ rel _ (by simp only [R]; rfl)⟩
    · exact p.elim
  · exact p.elim
theorem c_any (hc : X.calm = true) : CallR X (.builtin "any") (rMC (gx X cl) anyF) := CallR.imp (cr_any hc) fun vs H Q q => by
  obtain ⟨m, hp, xs, rel, rs, p⟩ := q
  obtain ⟨x, v, rfl, rx, p⟩ := on1_ok rs p
  split at p
  · rename_i xs e1
    obtain ⟨a, ws, rfl, sq, rs⟩ := lsOf_ok rel rx e1
    split at p
    · rename_i bs eb
      rw [bls_ok rs eb] at sq
      exact ⟨a, bs, rfl, sq, p.ok_ rel _ (by simp only [R]; rfl)⟩
    · exact p.elim
  · exact p.elim
theorem c_sum (hc : X.calm = true) : CallR X (.builtin "sum") (rMC (gx X cl) sumF) := CallR.imp (cr_sum hc) fun vs H Q q => by
  obtain ⟨m, hp, xs, rel, rs, p⟩ := q
  obtain ⟨x, v, rfl, rx, p⟩ := on1_ok rs p
  split at p
  · rename_i xs e1
    obtain ⟨a, ws, rfl, sq, rs⟩ := lsOf_ok rel rx e1
    split at p
    · rename_i bs eb
      rw [ints_ok rs eb] at sq
      exact ⟨a, bs, rfl, sq, p.ok_ rel _ (by simp only [R])⟩
    · exact p.elim
  · exact p.elim

/-! ### set(a tuple of ints): a set that nobody writes -/
def setF : FM := on1 fun x h => match tpOf x with
  | some xs => (match mapO inOf xs with
    | some ns => if ns.length + 1 < scanBound then .ok (.set ns) h else .bad
    | none => .bad)
  | none => .bad
theorem n_set : NoXF setF := on1_nox fun x h c fs h' e => by
  split at e
  · split at e
    · split at e <;> cases e
    · cases e
  · cases e
theorem c_set (hc : X.calm = true) : CallR X (.type "set") (rMC (gx X cl) setF) := by
  intro pins s σ H vs us Q I rv q
  obtain ⟨m, hp, xs, rel, rs, p⟩ := q
  obtain ⟨x, v, rfl, rx, p⟩ := on1_ok rs p
  split at p
  · rename_i xs e1
    obtain ⟨a, ws, rfl, sq, rs⟩ := tpOf_ok rx e1
    split at p
    · rename_i ns en
      split at p
      · rename_i hl
        obtain ⟨its, r1, pl, hz⟩ := I.tuple sq
        rw [ints_ok rs en] at r1
        rw [Vals.ref1 rv]
        refine call_set_tupI ns (I.ok.hd hc) pl r1.ints hl fun h' tk c hR hcl hk => ?_
        have hn : H s.heap.objs.size = none := I.hok.fresh (Nat.le_refl _)
        refine ⟨.ref s.heap.objs.size, upd H s.heap.objs.size (SetO X.w s.heap.objs.size (fun j => decide (j ∈ ns)) c), I.laid (t' := tk) hk (Nat.le_refl _) (setO_new hR), rfl, ?_⟩
        refine p m _ (Stp.new hn) (rel.new hn) _ ?_
        simp only [R]
        exact ⟨_, rfl, ⟨_, c, upd_same, fun k => rfl, hcl⟩, rel.freeZ hn⟩
      · exact p.elim
    · exact p.elim
  · exact p.elim
end
/-! ### list(range(..)), tuple(range(..)) -/
abbrev RM := Rho → MH → Res (Int × Int)
def tMR (G : Gx) (W : WX) (f : RM) : L2.St → Hp → (Int → Int → Hp → Prop) → Prop := fun σ H Q => ∃ r hp m, RE G m H r σ ∧ Rel G m H hp ∧ Pst G m H (f r hp) (fun p _ _ H' => Q p.1 p.2 H') (fun c d H' => W c d σ H')
structure MR (X : Cx) (cl : Cln) (W : WX) (e : Expr) (f : RM) : Prop where
  pr : PRg X e (tMR (gx X cl) W f)
def rg1 (f : EM) : RM := fun r h => (f r h).bind fun x h1 => match x with
  | .int n => .ok (0, n) h1
  | _ => .bad
def rg2 (f g : EM) : RM := fun r h => (f r h).bind fun x h1 => (g r h1).bind fun y h2 => match x, y with
  | .int i, .int j => .ok (i, j) h2
  | _, _ => .bad
def rgB (i j : Int) : Bool := rgOk i && rgOk j && decide ((j - i).toNat ≤ 2 ^ 24)
def emRgL (k : List T → MH → Res T) (f : RM) : EM := fun r h => (f r h).bind fun p h1 => if rgB p.1 p.2 = true then k (rgL p.1 (p.2 - p.1).toNat) h1 else .bad
def emRgT (f : RM) : EM := fun r h => (f r h).bind fun p h1 => if rgB p.1 p.2 = true then .ok (.tup (rgL p.1 (p.2 - p.1).toNat)) h1 else .bad
section
variable {X : Cx} {cl : Cln} {W : WX} {a b e : Expr} {f g : EM} {fr : RM} {p pos : Pos} {k : List T → MH → Res T}
theorem mr_1 (hm : X.mg "range" = none) (ha : ME X cl W a f) (hg : Gl X "range" := by rfl) (na : starEach [a] X.env = (false, eval a X.env) :: starEach [] X.env := by rfl) : MR X cl W (.Call (.Name "range" p) [a] [] pos) (rg1 f) := ⟨fun pins s σ H Q I h => prg_1 hg hm ha.pe na pins s σ H Q I (by
  obtain ⟨r, hp, m, re, rel, p⟩ := h
  refine ⟨r, hp, m, re, rel, p.bind.mono (fun x m1 h1 H1 s q v rv => ?_) fun _ _ _ z => z⟩
  obtain ⟨rel1, p1⟩ := q
  split at p1
  · simp only [R] at rv
    exact ⟨_, rv, p1.ok_ rel1⟩
  · exact p1.elim)⟩
theorem mr_2 (hm : X.mg "range" = none) (ha : ME X cl W a f) (hb : ME X cl W b g) (hg : Gl X "range" := by rfl) (na : starEach [a, b] X.env = (false, eval a X.env) :: starEach [b] X.env := by rfl)
    (nb : starEach [b] X.env = (false, eval b X.env) :: starEach [] X.env := by rfl) (hp : (backTo pos (starEach [b] X.env)).any (·.1) = false := by rfl) : MR X cl W (.Call (.Name "range" p) [a, b] [] pos) (rg2 f g) := ⟨fun pins s σ H Q I h => prg_2 hg hm ha.pe hb.pe na nb hp pins s σ H Q I (by
  obtain ⟨r, hp, m, re, rel, p⟩ := h
  refine ⟨r, hp, m, re, rel, p.bind.mono (fun x m1 h1 H1 s1 q v rv => ?_) fun _ _ _ z => z⟩
  refine ⟨r, h1, m1, re.step s1, q.1, q.2.bind.mono (fun y m2 h2 H2 s2 q2 w rw' => ?_) fun _ _ _ z => z⟩
  obtain ⟨rel2, p2⟩ := q2
  split at p2
  · simp only [R] at rv rw'
    exact ⟨_, _, rv, rw', p2.ok_ rel2⟩
  · exact p2.elim)⟩
theorem rgB_ok {i j : Int} (h : rgB i j = true) : RgOk i j := by
  simp only [rgB, Bool.and_eq_true, decide_eq_true_eq] at h
  obtain ⟨⟨h1, h2⟩, h3⟩ := h
  obtain ⟨a1, a2⟩ := rgOk_ok h1
  obtain ⟨b1, b2⟩ := rgOk_ok h2
  exact ⟨a1, a2, b1, b2, h3⟩
theorem rs_rg {G : Gx} {m : Ml} {H : Hp} (i j : Int) : Rs G m H (rgL i (j - i).toNat) (rgV i j) := by
  unfold rgL rgV
  generalize List.range (j - i).toNat = l
  induction l with
  | nil => exact Rs.nil
  | cons n l ih => exact Rs.cons (by simp only [R]) ih
theorem me_rgL (hk : k = lstK ∨ k = lstL) (hc : X.calm = true) (hm : X.mg "list" = none) (he : MR X cl W e fr) (hg : Gl X "list" := by rfl) (na : starEach [e] X.env = (false, eval e X.env) :: starEach [] X.env := by rfl) : ME X cl W (.Call (.Name "list" p) [e] [] pos) (emRgL k fr) := ⟨PE.imp (pe_listRg hc hg hm he.pr na) fun σ H Q h => by
  obtain ⟨r, hp, m, re, rel, p⟩ := h
  refine ⟨r, hp, m, re, rel, p.bind.mono (fun x m1 h1 H1 s q => ?_) fun _ _ _ z => z⟩
  obtain ⟨rel1, p1⟩ := q
  split at p1
  · rename_i hb
    exact ⟨rgB_ok hb, (lst_two hk rel1 (rs_rg _ _) p1).2⟩
  · exact p1.elim⟩
theorem me_rgT (hc : X.calm = true) (hm : X.mg "tuple" = none) (he : MR X cl W e fr) (hg : Gl X "tuple" := by rfl) (na : starEach [e] X.env = (false, eval e X.env) :: starEach [] X.env := by rfl) : ME X cl W (.Call (.Name "tuple" p) [e] [] pos) (emRgT fr) := ⟨PE.imp (pe_tupRg hc hg hm he.pr na) fun σ H Q h => by
  obtain ⟨r, hp, m, re, rel, p⟩ := h
  refine ⟨r, hp, m, re, rel, p.bind.mono (fun x m1 h1 H1 s q => ?_) fun _ _ _ z => z⟩
  obtain ⟨rel1, p1⟩ := q
  split at p1
  · rename_i hb
    exact ⟨rgB_ok hb, fun q hq => p1 m1 _ (Stp.new hq) (rel1.new hq) _ (tup_new rel1 (rs_rg _ _) hq)⟩
  · exact p1.elim⟩
end
end TW
namespace TW
open PySem PySem.Spec L2

/-! ### types and classes as values; isinstance -/
section
variable {X : Cx} {cl : Cln} {W : WX} {x : Str} {pos p : Pos} {a e : Expr} {es : List Expr}
theorem me_ty {n : String} (hm : X.mg x = none) (hv : bootBuiltins x = some (.type n)) (hg : Gl X x := by rfl) (hn : x ≠ "__name__" := by decide) (hd : (x == ("__debug__" : Str)) = false := by decide) : ME X cl W (.Name x pos) (cst (.ty n)) :=
  me_c (v := .ty n) (pe_bltn hg hm hv rfl hn hd) fun m H => by simp only [R]
theorem me_cls {c : Str} {C : Addr} (hm : X.mg c = some (.ref C)) (hC : cl c = some C) (hg : Gl X c := by rfl) (hd : (c == ("__debug__" : Str)) = false := by decide) : ME X cl W (.Name c pos) (cst (.cls c)) :=
  me_c (v := .ref C) (pe_glob hg hm rfl hd) fun m H => by simp only [R]; exact ⟨C, hC, rfl⟩
end
def tyNm (h : MH) : T → Option String
  | .non => some "NoneType"
  | .bl _ => some "bool"
  | .int _ => some "int"
  | .str _ => some "str"
  | .tup _ => some "tuple"
  | .ktup _ => some "tuple"
  | .lst _ => some "list"
  | .klst _ => some "list"
  | .loc n => (match h[n]? with
    | some (.lst _) => some "list"
    | some (.dK _) => some "dict"
    | some (.dT _) => some "dict"
    | _ => none)
  | _ => none
def tyNs : List String := ["NoneType", "bool", "int", "str", "tuple", "list", "dict"]
def isiTab (t n : String) : Option Bool := if n ∈ tyNs then some (decide (t = n) || (decide (t = "bool") && decide (n = "int"))) else none
theorem tyNm_mem {h : MH} {x : T} {t : String} (e : tyNm h x = some t) : t ∈ tyNs := by
  cases x with
  | loc n =>
    simp only [tyNm] at e
    split at e <;> first | (cases e; done) | (cases e; decide)
  | _ => first | (cases e; done) | (cases e; decide)
theorem kit_tab {K : PySem.W.Frag} {t n : String} {b : Bool} (ht : t ∈ tyNs) (e : isiTab t n = some b) : PySem.W.kitOne K (.type t) (.type n) = some b := by
  unfold isiTab at e
  split at e
  · rename_i hn
    cases e
    simp only [tyNs, List.mem_cons, List.not_mem_nil, or_false] at ht hn
    rcases ht with rfl | rfl | rfl | rfl | rfl | rfl | rfl <;> rcases hn with rfl | rfl | rfl | rfl | rfl | rfl | rfl <;> rfl
  · cases e
theorem tyNm_ok {G : Gx} {m : Ml} {H : Hp} {h : MH} {x : T} {v : V} {t : String} (rel : Rel G m H h) (rx : R G m H x v) (e : tyNm h x = some t) : TyX G.K H v (.type t) := by
  cases x with
  | non => cases e; simp only [R] at rx; subst rx; exact .base .non
  | bl b => cases e; simp only [R] at rx; subst rx; exact .base (.bl b)
  | int b => cases e; simp only [R] at rx; subst rx; exact .base (.int b)
  | str b => cases e; simp only [R] at rx; subst rx; exact .base (.str b)
  | tup xs => cases e; simp only [R] at rx; obtain ⟨a, vs, rfl, f, _⟩ := rx; exact .base (.tup f.1)
  | ktup xs => cases e; simp only [R] at rx; obtain ⟨a, vs, rfl, f, _⟩ := rx; obtain ⟨o, _, _, h1, h2, _⟩ := f; exact .kTuple h1 h2
  | lst xs => cases e; simp only [R] at rx; obtain ⟨a, vs, rfl, f, _⟩ := rx; exact .base (.lst f.1)
  | klst xs =>
    cases e
    simp only [R] at rx
    obtain ⟨a, vs, rfl, f, _⟩ := rx
    rcases f with ⟨z | ⟨o, z⟩, _⟩ | ⟨o, _, _, h1, h2, _⟩
    · exact .base (.lst z)
    · exact .base (.frz z)
    · exact .kList h1 h2
  | loc n =>
    simp only [tyNm] at e
    split at e
    · rename_i xs ec
      cases e
      obtain ⟨a, _, rfl, vs, e2, _⟩ := rel.cell rx ec
      exact .base (.lst e2)
    · rename_i xs ec
      cases e
      obtain ⟨a, _, rfl, vs, e2, _⟩ := rel.cell rx ec
      exact .base (.dK e2)
    · rename_i xs ec
      cases e
      obtain ⟨a, _, rfl, vs, e2, _⟩ := rel.cell rx ec
      exact .base (.dT e2)
    · cases e
  | _ => cases e
/-- what isinstance must know of an own class -/
structure IsO (K : PySem.W.Frag) (C : Addr) : Prop where
  cls : Cls K C
  ha : PySem.W.findIn K (.ref C) "__class__" = some (some (.builtin "object.__class__"))
  hn : PySem.W.specialIn K (.builtin "object.__class__") "__get__" = some (some (.builtin "getset_descriptor.__get__"))
  htk : PySem.W.takesIn K (.builtin "object.__class__") = some true
  hm : PySem.W.mroIn K C (.type "object") = some true
def isiB (h : MH) (x c : T) : Option Bool := match c with
  | .ty n => (match tyNm h x with
    | some t => isiTab t n
    | none => none)
  | .cls c => (match obOf h x with
    | some (d, _) => if d = c then some true else none
    | none => none)
  | _ => none
def isiF : FM := fun xs h => match xs with
  | [x, c] => (match isiB h x c with
    | some b => .ok (.bl b) h
    | none => .bad)
  | _ => .bad
theorem n_isi : NoXF isiF := fun xs h c fs h' e => by
  unfold isiF at e
  split at e
  · split at e <;> cases e
  · cases e
section
variable {X : Cx} {cl : Cln} {W : WX}
theorem c_isi (hO : ∀ c C, cl c = some C → IsO X.K C) : CallR X (.builtin "isinstance") (rMC (gx X cl) isiF) := CallR.imp call_isi fun vs H Q q => by
  obtain ⟨m, hp, xs, rel, rs, p⟩ := q
  unfold isiF at p
  split at p
  · rename_i x c
    obtain ⟨v, t, rfl, h2, h3⟩ := Rs.cons_iff.mp rs
    obtain ⟨w, t, rfl, h4, h5⟩ := Rs.cons_iff.mp h3
    obtain rfl := Rs.nil_iff.mp h5
    split at p
    · rename_i b eb
      have fin : Q (.bl b) H := p.ok_ rel _ (by simp only [R])
      unfold isiB at eb
      split at eb
      · simp only [R] at h4
        subst h4
        split at eb
        · rename_i t et
          exact ⟨v, _, _, _, b, rfl, .ty _, tyNm_ok rel h2 et, kit_tab (tyNm_mem et) eb, fin⟩
        · cases eb
      · simp only [R] at h4
        obtain ⟨C, hC, rfl⟩ := h4
        split at eb
        · rename_i d fs eo
          split at eb
          · rename_i hd
            cases eb
            subst hd
            obtain ⟨a, C', dx, qv, rfl, hC', hH, rk⟩ := obOf_ok rel h2 eo
            have ec : C' = C := by
              have := hC'.symm.trans hC
              exact Option.some.inj this
            subst ec
            have io := hO _ _ hC
            refine ⟨.ref a, _, _, _, true, rfl, .own C', .base (.ins hH io.cls io.ha io.hn io.htk io.hm), ?_, fin⟩
            unfold PySem.W.kitOne
            rw [if_pos (by simp)]
          · cases eb
        · cases eb
      · cases eb
    · exact p.elim
  · exact p.elim
/-! without own classes: cl is not asked -/
def isiTF : FM := fun xs h => match xs with
  | [x, .ty n] => isiF [x, .ty n] h
  | _ => .bad
theorem n_isiT : NoXF isiTF := fun xs h c fs h' e => by
  unfold isiTF at e
  split at e
  · exact n_isi _ _ _ _ _ e
  · cases e
theorem c_isiT : CallR X (.builtin "isinstance") (rMC (gx X cl) isiTF) := CallR.imp call_isi fun vs H Q q => by
  obtain ⟨m, hp, xs, rel, rs, p⟩ := q
  unfold isiTF at p
  split at p
  · rename_i x n
    obtain ⟨v, t, rfl, h2, h3⟩ := Rs.cons_iff.mp rs
    obtain ⟨w, t, rfl, h4, h5⟩ := Rs.cons_iff.mp h3
    obtain rfl := Rs.nil_iff.mp h5
    simp only [isiF] at p
    split at p
    · rename_i b eb
      have fin : Q (.bl b) H := p.ok_ rel _ (by simp only [R])
      simp only [R] at h4
      subst h4
      simp only [isiB] at eb
      split at eb
      · rename_i t et
        exact ⟨v, _, _, _, b, rfl, .ty _, tyNm_ok rel h2 et, kit_tab (tyNm_mem et) eb, fin⟩
      · cases eb
    · exact p.elim
  · exact p.elim
end

/-! ### {k: v, ..} -/
def prR : List (EM × EM) → Rho → MH → Res (List (T × T))
  | [], _, h => .ok [] h
  | (f, g) :: q, r, h => (f r h).bind fun x h1 => (g r h1).bind fun y h2 => (prR q r h2).bind fun ps h3 => .ok ((x, y) :: ps) h3
def kyP (p : T × T) : Option (Key × T) := match kyOf p.1 with
  | some k => some (k, p.2)
  | none => none
def mrgT (more : List (Key × T)) : List (Key × T) := more.foldl (fun acc kv => putT acc kv.1 kv.2) []
def dicK (kvs : List (Key × T)) (h : MH) : Res T := .ok (.dK (kvs.map (·.1)) (kvs.map (·.2))) h
def dicL (kvs : List (Key × T)) (h : MH) : Res T := .ok (.loc h.length) (h ++ [.dK kvs])
def emD (k : List (Key × T) → MH → Res T) (q : List (EM × EM)) : EM := fun r h => (prR q r h).bind fun ps h1 => match mapO kyP ps with
  | some kvs => if kvs.length ≤ 15 then k (mrgT kvs) h1 else .bad
  | none => .bad
/-- {}: a dict with keys of ints and texts, of tuples -/
def dnK : EM := fun _ h => .ok (.loc h.length) (h ++ [.dK []])
def dnT : EM := fun _ h => .ok (.loc h.length) (h ++ [.dT []])
structure MPs (X : Cx) (cl : Cln) (W : WX) (pos : Pos) (keys : List (Option Expr)) (values : List Expr) (q : List (EM × EM)) : Prop where
  pps : PPs X pos keys values (q.map fun z => (tM (gx X cl) W z.1, tM (gx X cl) W z.2))
section
variable {X : Cx} {cl : Cln} {W : WX} {pos : Pos} {k v : Expr} {ks : List (Option Expr)} {vs : List Expr} {f g : EM} {q : List (EM × EM)}
theorem mps_n : MPs X cl W pos [] [] [] := ⟨pps_nil⟩
theorem mps_c (hk : ME X cl W k f) (hv : ME X cl W v g) (hr : MPs X cl W pos ks vs q) : MPs X cl W pos (some k :: ks) (v :: vs) ((f, g) :: q) := ⟨pps_cons hk.pe hv.pe hr.pps⟩
def RsP (G : Gx) (m : Ml) (H : Hp) (ps : List (T × T)) (qs : List (V × V)) : Prop := Rs G m H (ps.map (·.1)) (qs.map (·.1)) ∧ Rs G m H (ps.map (·.2)) (qs.map (·.2))
theorem prs_ok {σ : L2.St} : ∀ {q : List (EM × EM)} {H : Hp} {m : Ml} {h : MH} {r : Rho} {Q : List (V × V) → Hp → Prop}, RE (gx X cl) m H r σ → Rel (gx X cl) m H h →
    Pst (gx X cl) m H (prR q r h) (fun ps m' _ H' => ∀ qs, RsP (gx X cl) m' H' ps qs → Q qs H') (fun c d H' => W c d σ H') → tPairs (q.map fun z => (tM (gx X cl) W z.1, tM (gx X cl) W z.2)) σ H Q
  | [], H, m, h, r, Q, re, rel, p => p.ok_ rel [] ⟨Rs.nil, Rs.nil⟩
  | (f, g) :: q, H, m, h, r, Q, re, rel, p => by
    refine ⟨r, h, m, re, rel, p.bind.mono (fun x m1 h1 H1 s1 q1 v rv => ?_) fun _ _ _ z => z⟩
    refine ⟨r, h1, m1, re.step s1, q1.1, q1.2.bind.mono (fun y m2 h2 H2 s2 q2 w rw' => ?_) fun _ _ _ z => z⟩
    refine prs_ok ((re.step s1).step s2) q2.1 (q2.2.bind.mono (fun ps m3 h3 H3 s3 q3 qs rqs => ?_) fun _ _ _ z => z)
    exact q3.2.ok_ q3.1 _ ⟨Rs.cons (R.step s3 _ _ (R.step s2 _ _ rv)) rqs.1, Rs.cons (R.step s3 _ _ rw') rqs.2⟩
theorem kys_pairs {G : Gx} {m : Ml} {H : Hp} : ∀ {ps : List (T × T)} {qs : List (V × V)} {kvs : List (Key × T)}, RsP G m H ps qs → mapO kyP ps = some kvs → ∃ kv, qs = kv.map (fun z => (kV z.1, z.2)) ∧ Rk G m H kvs kv
  | [], qs, kvs, rs, e => by
    cases e
    have := Rs.nil_iff.mp rs.1
    have : qs = [] := by simpa using this
    subst this
    exact ⟨[], rfl, Rk.nil_iff.mpr rfl⟩
  | (x, y) :: ps, qs, kvs, rs, e => by
    obtain ⟨z, zs, e1, e2, rfl⟩ := mapO_some e
    cases qs with
    | nil =>
      obtain ⟨_, _, e, _⟩ := Rs.cons_iff.mp rs.1
      cases e
    | cons a qs =>
      obtain ⟨u, w⟩ := a
      obtain ⟨v1, t1, e3, h3, h4⟩ := Rs.cons_iff.mp rs.1
      obtain ⟨v2, t2, e5, h5, h6⟩ := Rs.cons_iff.mp rs.2
      cases e3
      cases e5
      obtain ⟨kv, e7, rk⟩ := kys_pairs (ps := ps) (qs := qs) ⟨h4, h6⟩ e2
      unfold kyP at e1
      split at e1
      · rename_i k ek
        cases e1
        have := kyOf_ok h3 ek
        subst this
        exact ⟨(k, w) :: kv, by rw [e7]; rfl, Rk.cons_iff.mpr ⟨w, kv, rfl, h5, rk⟩⟩
      · cases e1
theorem Rk.merge {G : Gx} {m : Ml} {H : Hp} : ∀ {more : List (Key × T)} {mv : List (Key × V)} {kvs : List (Key × T)} {kv : List (Key × V)}, Rk G m H more mv → Rk G m H kvs kv → Rk G m H (more.foldl (fun acc z => putT acc z.1 z.2) kvs) (mergeK kv mv)
  | [], mv, kvs, kv, h, h2 => by
    rw [Rk.nil_iff.mp h]
    exact h2
  | (k, x) :: more, mv, kvs, kv, h, h2 => by
    obtain ⟨w, t, rfl, h3, h4⟩ := Rk.cons_iff.mp h
    show Rk G m H (more.foldl (fun acc z => putT acc z.1 z.2) (putT kvs k x)) (mergeK (putK kv k w) t)
    exact Rk.merge (more := more) (mv := t) h4 (Rk.put k h3 h2)
theorem dic_end {m1 m : Ml} {H1 H : Hp} {D : Addr} {h h1' : MH} {G : Gx} {k : List (Key × T) → MH → Res T} (hk : k = dicK ∨ k = dicL) {kvs : List (Key × T)} {kv : List (Key × V)} {Q : VK} {W : XK} (w : Way m1 m H1 H D) (hD : H1 D = none) (rel1 : Rel G m1 H1 h1') (rel : Rel G m H h) (rk : Rk G m H kvs kv) (hl : H D = some (.dK kv))
    (p : Pst G m1 H1 (k kvs h) (fun z m' _ H' => ∀ u, R G m' H' z u → Q u H') W) : Q (.ref D) H := by
  have nd : D ∉ m1.z := fun z => by
    obtain ⟨o, _, e⟩ := rel1.zs D z
    rw [hD] at e; cases e
  rcases hk with rfl | rfl
  · have wk : Wk m ⟨m.c, m1.z⟩ H H := Wk.out w.z
    refine p ⟨m.c, m1.z⟩ H w.stp (rel.out w.z) _ ?_
    simp only [R]
    have rk2 := rk.wk wk
    refine ⟨D, kv.map (·.2), rfl, ⟨.inl ?_, rel.zd D (by rw [w.z]; exact List.mem_cons_self), nd⟩, by simpa using rk.len, rk2.2⟩
    rw [zip_unzip rk]
    exact hl
  · refine p _ H (w.stpc hD) (rel.outc w.z nd ⟨kv, hl, rk.wk (Wk.outc w.z nd)⟩) _ ?_
    simp only [R]
    refine ⟨D, ?_, rfl⟩
    show (m.c ++ [D])[_]? = _
    rw [← rel.len, List.getElem?_append_right (Nat.le_refl _)]
    simp
theorem me_dict {k : List (Key × T) → MH → Res T} (hk : k = dicK ∨ k = dicL) (hp : MPs X cl W pos ks vs q) (hall : ks.all (·.isSome) = true := by rfl) (hl : ks.length = vs.length := by rfl) (h0 : ks ≠ [] := by simp) (h15 : ks.length ≤ 15 := by decide) : ME X cl W (.Dict ks vs pos) (emD k q) := by
  refine ⟨PE.imp (pe_disp hp.pps hall hl h0 h15) fun σ H Q h p hpn => ?_⟩
  obtain ⟨r, hp', m, re, rel, pp⟩ := h
  refine prs_ok (re.wk (Wk.lay hpn)) (rel.lay hpn) ?_
  have way0 : Way m (m.lay p) H (upd H p (.dK [])) p := Way.lay hpn
  unfold emD at pp
  cases e : prR q r hp' with
  | exc c fs h' =>
    rw [e] at pp
    intro m' H' s rel' C d hC hd
    have w := way0.step s
    refine pp ⟨m'.c, m.z⟩ H' w.stp (rel'.out w.z) C d hC ?_
    rcases hd with hd | ⟨dx, q, rfl, fz, rk⟩
    · exact .inl hd
    · have wk : Wk m' ⟨m'.c, m.z⟩ H' H' := Wk.out w.z
      exact .inr ⟨dx, q, rfl, fz.wk wk, rk.wk wk⟩
  | bad => rw [e] at pp; exact pp.elim
  | ok ps h1 =>
    rw [e] at pp
    intro m' H' s rel' qs rqs
    have w := way0.step s
    simp only [Res.bind] at pp
    split at pp
    · rename_i kvs ek
      split at pp
      · rename_i hlen
        obtain ⟨kv, e1, rk⟩ := kys_pairs rqs ek
        have pin : p ∈ (m.lay p).z := List.mem_cons_self
        have np : p ∉ (m.lay p).c := fun z => rel.free hpn z
        have hd : H' p = some (.dK []) := (s.fr p _ (by intro _ z; cases z) upd_same np).1
        refine ⟨hd, kv, e1, by rw [← rk.len]; exact hlen, ?_⟩
        have inz : p ∈ m'.z := by rw [w.z]; exact List.mem_cons_self
        have rk2 : Rk (gx X cl) m' (upd H' p (.dK (mergeK [] kv))) (mrgT kvs) (mergeK [] kv) := (Rk.merge rk (Rk.nil_iff.mpr rfl)).wk (Wk.pr inz)
        exact dic_end hk (w.put hpn) hpn rel (rel'.pr inz) rk2 upd_same pp
      · exact pp.elim
    · exact pp.elim
theorem me_dnK : ME X cl W (.Dict [] [] pos) dnK := ⟨PE.imp pe_dnewK fun σ H Q h p hp => by
  obtain ⟨r, hp', m, re, rel, pp⟩ := h
  refine pp (m.add p) _ (Stp.newc hp) (rel.newc hp ⟨[], upd_same, Rk.nil_iff.mpr rfl⟩) _ ?_
  simp only [R]
  refine ⟨p, ?_, rfl⟩
  show (m.c ++ [p])[_]? = _
  rw [← rel.len, List.getElem?_append_right (Nat.le_refl _)]
  simp⟩
theorem me_dnT : ME X cl W (.Dict [] [] pos) dnT := ⟨PE.imp pe_dnewT fun σ H Q h p hp => by
  obtain ⟨r, hp', m, re, rel, pp⟩ := h
  refine pp (m.add p) _ (Stp.newc hp) (rel.newc hp ⟨[], upd_same, Rk.nil_iff.mpr rfl⟩) _ ?_
  simp only [R]
  refine ⟨p, ?_, rfl⟩
  show (m.c ++ [p])[_]? = _
  rw [← rel.len, List.getElem?_append_right (Nat.le_refl _)]
  simp⟩
end
end TW
namespace TW
open PySem PySem.Spec L2 PyProof.Rows

/-! ### sorted(xs, key=lambda a: (len(a), a)) -/
/-- the lambda's names: its parameter, len -/
structure KeyS (a : Str) (scope : Scope) : Prop where
  kind : scope.kind = .function
  co : scope.isCoroutine = false
  gen : scope.isGenerator = false
  nocell : ∀ y ∈ scope.names, y.2 ≠ .cell ∧ y.2 ≠ .free
  par : scope.names.lookup a = some .local
  len : scope.names.lookup ("len" : Str) = some NameKind.globalImplicit
theorem key_len {prog : Program} {w : World} {A : Around} {E : Value → Shared → Prop} {s : Shared} {mg mb : Str → Option Value} {f c' tp : Addr} {a qual : Str} {params : Arguments} {scope : Scope} {pm ctv : Value} {p1 p2 p3 p4 p5 : Pos} {x1 : Nat} {items : List Value} {d : PyData}
    (S : KeyS a scope) (hroom : A.depth < recursionLimit) (hf : s.heap.get? f = some (PySem.W.kla_obj "<lambda>" qual params (.Tuple [.Call (.Name "len" p1) [.Name a p2] [] p3, .Name a p4] x1 p5) scope [] pm c' ctv))
    (hcode : ∃ (oc : Obj) (vs : Array Value) (t : Tok), s.heap.get? c' = some oc ∧ oc.data = .fields vs ∧ vs[1]? = some (.str qual t))
    (hbind : ∀ u : Value, bindArgs (PySem.W.kla_fn "<lambda>" qual params (.Tuple [.Call (.Name "len" p1) [.Name a p2] [] p3, .Name a p4] x1 p5) scope [] pm (.ref c') ctv) ⟨[u], []⟩ = pure [(a, u)])
    (hg : s.heap.Ns mainGlobals mg) (hb : s.heap.Ns builtinsNs mb) (hm : mg "len" = none) (hbl : mb "len" = some (.builtin "len")) (lim : s.heap.NoLimit) (ht : s.heap.IsTuple tp items.toArray) (hz : items.length ≤ sizeLine) (hr : Reads s.heap (.ref tp) d [])
    (hd : (a == ("__debug__" : Str)) = false := by decide) (hcd : (a == ("__classdict__" : Str)) = false := by decide) :
    wpAny (model prog w) A (call (.ref f) [.ref tp]) (PySem.W.KeyPure (.tuple [.int items.length, d]) s) E s := by
  obtain ⟨oc, vs, t, h1, h2, h3⟩ := hcode
  refine wpAny_call (PySem.W.kla_callFunE hroom hf rfl S.co S.gen rfl ⟨c', oc, vs, t, rfl, h1, h2, h3⟩ ?_)
  rw [hbind]
  refine wpAny_pure (wpAny_newFunctionEnv (fun y hy => (S.nocell y hy).1) (fun y hy => ?_) (fun h' hns hsb => ⟨lim.fresh _ hsb, ?_⟩) S.kind)
  · have e : y = (a, .ref tp) := by simpa using hy
    rw [e]
    exact S.par
  · have kp : ∀ b o, s.heap.get? b = some o → h'.get? b = some o := fun b o e => hsb.extBut b o (Nat.ne_of_lt (Heap.lt_size e)) (Heap.get?_push_of_some _ e)
    show codeAny _ _ (.expr _ (PySem.W.envX qual scope s.heap.objs.size f (.ref c') [])) _ _
    refine PySem.W.kla_codeExpr ?_
    refine wpAny_Tuple_spliced ?_
    refine Calls.spliced_cons ?_
    refine wpAny_Call_Name_kw (Calls.Name_function_global S.kind S.len (Calls.loadGlobal_builtin (hg.keeps kp) hm (hb.keeps kp) hbl ?_) (by decide))
    have nm : ∀ (p : Pos) (s2 : Shared) (E' : Value → Shared → Prop) (Q : Value → Shared → Prop), s2.heap = h' → Q (.ref tp) s2 → wpAny (model prog w) (A.deeper (PySem.W.envX qual scope s.heap.objs.size f (.ref c') [])) (eval (.Name a p) (PySem.W.envX qual scope s.heap.objs.size f (.ref c') [])) Q E' s2 := fun p s2 E' Q e q =>
      wpAny_Name (wpAny_loadName_local S.kind S.par (m := fun x => [(a, Value.ref tp)].reverse.lookup x) (by rw [e]; exact hns) (by simp) q) hd
    refine PyProof.Rows.callWith_builtin1 (Calls.spliced_cons (nm p2 _ _ _ rfl (Calls.spliced_nil ?_))) rfl rfl
    obtain ⟨o, ho, hc, n, hdt⟩ := ht
    refine len_tuple (items := items.toArray) ⟨o, kp _ _ ho, hc, n, hdt⟩ (by rw [sizeLine_eq] at hz; simp only [List.size_toArray]; omega) ?_
    refine Calls.spliced_cons (nm p4 _ _ _ rfl (Calls.spliced_nil ⟨by show 2 ≤ sizeLine; decide, ?_⟩))
    refine ⟨_, _, rfl, fun b o e => Heap.get?_push_of_some _ (kp b o e), ?_⟩
    refine Reads.tuple (as := []) (Heap.get?_push_size _ rfl) rfl rfl ?_
    exact ReadsAll.cons (as := []) (bs := []) (Reads.int _ _) (ReadsAll.cons (as := []) (bs := []) (PyProof.Rows.Reads.keeps (fun b o e => Heap.get?_push_of_some _ (kp b o e)) hr) ReadsAll.nil)
section
variable {X : Cx} {cl : Cln} {m : Ml} {hp : MH} {pins : List (Addr × Obj)} {σ : L2.St} {H : Hp} {s : Shared}
/-- the abstract heap once the code object at c' is new and told in the table at P -/
def tabH (H : Hp) (P c' : Addr) (q : Str) (ps : Array Value) (pos : Pos) : Hp := upd (upd H P (.tbl (ps ++ #[rawInt pos.line, rawInt pos.col, .ref c']))) c' (LamX.CodeO c' q)
section
variable {P c' : Addr} {q : Str} {ps : Array Value} {pos : Pos}
theorem tabH_old (hP : H P = some (.tbl ps)) (n : H c' = none) {b : Addr} {o : HO} (nt : NT o) (e : H b = some o) : tabH H P c' q ps pos b = some o := by
  have d1 : b ≠ c' := ne_of_none e n
  have d2 : b ≠ P := by
    rintro rfl
    exact nt ps (Option.some.inj (e.symm.trans hP))
  exact ((upd_ne d1).trans (upd_ne d2)).trans e
theorem tabH_tab (hP : H P = some (.tbl ps)) (n : H c' = none) : tabH H P c' q ps pos P = some (.tbl (ps ++ #[rawInt pos.line, rawInt pos.col, .ref c'])) := (upd_ne (ne_of_none hP n)).trans upd_same
theorem tabH_new : tabH H P c' q ps pos c' = some (LamX.CodeO c' q) := upd_same
theorem tabH_free {b : Addr} (d1 : b ≠ c') (d2 : b ≠ P) : tabH H P c' q ps pos b = H b := (upd_ne d1).trans (upd_ne d2)
theorem tabH_stp (hP : H P = some (.tbl ps)) (n : H c' = none) : Stp m m H (tabH H P c' q ps pos) := ⟨rfl, ⟨[], by simp⟩, fun _ _ nt e k => ⟨tabH_old hP n nt e, k⟩⟩
/-- what is told of the tables, told on -/
theorem rel_tab {G : Gx} (rel : Rel G m H hp) (hP : H P = some (.tbl ps)) (n : H c' = none) (out : m.no P) (three : TriplesOk ps.toList) (hu : ∀ p ∈ G.cl.tabs, p.1 = P → p.2 = q)
    (told : ∀ (p' : Pos) (cv : Value), codeAmong p' ps.toList = some cv → ∃ c, cv = .ref c ∧ H c = some (LamX.CodeO c q) ∧ m.no c) : Rel G m (tabH H P c' q ps pos) hp := by
  have old : ∀ {b : Addr} {o : HO}, NT o → H b = some o → tabH H P c' q ps pos b = some o := fun nt e => tabH_old hP n nt e
  have far : m.no c' := rel.freeZ n
  refine ⟨rel.len, rel.nd, fun k a mo e1 e2 => ?_, fun a hz => ?_, rel.zd, fun p hp => ?_⟩
  · have ha : a ∈ m.c := List.mem_of_getElem? e1
    refine (rel.ob k a mo e1 e2).wk ⟨⟨[], by simp⟩, fun _ _ nt e y => ⟨old nt e, y⟩⟩ (tabH_free ?_ ?_)
    · rintro rfl
      exact far.1 ha
    · rintro rfl
      exact out.1 ha
  · obtain ⟨o, nt, e⟩ := rel.zs a hz
    exact ⟨o, nt, old nt e⟩
  · by_cases hb : p.1 = P
    · rw [hu p hp hb, hb]
      have list : (ps ++ #[rawInt pos.line, rawInt pos.col, .ref c']).toList = ps.toList ++ [rawInt pos.line, rawInt pos.col, .ref c'] := by simp
      refine ⟨_, tabH_tab hP n, out, list ▸ PySem.TriplesOk_snoc _ _ _ _ three, fun p' cv z => ?_⟩
      obtain z | z := LamX.among_app _ three (list ▸ z)
      · obtain ⟨c0, e1, e2, e3⟩ := told p' cv z
        exact ⟨c0, e1, old LamX.codeO_ne e2, e3⟩
      · exact ⟨c', z, tabH_new, far⟩
    · obtain ⟨ps1, a1, a2, a3, a4⟩ := rel.tb p hp
      refine ⟨ps1, (tabH_free (ne_of_none a1 n) hb).trans a1, a2, a3, fun p' cv z => ?_⟩
      obtain ⟨c0, e1, e2, e3⟩ := a4 p' cv z
      exact ⟨c0, e1, old LamX.codeO_ne e2, e3⟩
end
/-- a lambda is made; the tables are told on -/
theorem lam_new {c P : Addr} {params : Arguments} {body : Expr} {scope : Scope} {pos : Pos} {E : Value → Shared → Prop} {Q : Value → Shared → Prop} (I : Inv X pins σ H s) (rel : Rel (gx X cl) m H hp) (TB : LamX.TabB X.base X.mg c P) (hcode : X.env.code = .ref c)
    (hm : (P, X.env.qual ++ "<lambda>") ∈ cl.tabs) (hu : ∀ p ∈ cl.tabs, p.1 = P → p.2 = X.env.qual ++ "<lambda>") (hdef : defaultsOf params X.env = ([], [])) (hfree : ∀ y ∈ scope.names, y.2 = .free → ∃ c, X.env.cells.lookup y.1 = some c)
    (h : ∀ (f c' : Addr) (pm ctv : Value) (H1 : Hp) (s' : Shared), Inv X pins σ H1 s' → Stp m m H H1 → Rel (gx X cl) m H1 hp →
      s'.heap.get? f = some (PySem.W.kla_obj "<lambda>" (X.env.qual ++ "<lambda>") params body scope (cloFrom X.env.cells scope.names []) pm c' ctv) → H1 f = none → H1 c' = some (LamX.CodeO c' (X.env.qual ++ "<lambda>")) → Q (.ref f) s') :
    wpAny (model X.prog X.w) X.A (eval (.Lambda params body scope pos) X.env) Q E s := by
  obtain ⟨ps, hP, out, three, told⟩ := rel.tb _ hm
  have tabO : s.heap.get? P = _ := I.hok P _ hP
  have code := TB.code.keeps I.bk
  have bins := TB.bm.keeps I.bk
  have globs := I.mod.glob.keeps I.bk
  have clos := closure_ok (env := X.env) hfree
  apply PySem.W.kla_eval hdef
  rcases e : codeAmong pos ps.toList with _ | cv
  · refine PySem.W.kla_makeFunction clos I.ok.glob globs hcode code tabO three e TB.gP bins ?_
    rintro c1 ctv h1 tk keep old young ⟨_, oc, vs, t, ⟨⟩, ho, hd, hv⟩ tab1
    have n : H c1 = none := I.hok.fresh old
    have big : s.heap.objs.size ≤ h1.objs.size := Nat.le_trans old (Nat.le_of_lt young)
    refine h h1.objs.size c1 ((X.mg "__name__").getD .none) ctv (tabH H P c1 _ ps pos) _ ?_ (tabH_stp hP n) (rel_tab rel hP n out three hu told) (Heap.get?_push_size _ rfl) ?_ tabH_new
    · exact LamX.inv_table (t' := tk) I hP (fun b o hb z => Heap.get?_push_of_some _ (keep b o hb z)) (Heap.get?_push_of_some _ tab1) old ⟨oc, vs, t, Heap.get?_push_of_some _ ho, hd, hv⟩
    · rw [tabH_free (Nat.ne_of_gt young) (Nat.ne_of_gt (Nat.lt_of_lt_of_le (Heap.lt_size tabO) big))]
      exact I.hok.fresh big
  · obtain ⟨c1, rfl, hco, _⟩ := told pos cv e
    refine PySem.W.kla_makeFunctionHit clos I.ok.glob globs hcode code tabO three e bins fun ctv h1 tk keep big => ?_
    exact h h1.objs.size c1 ((X.mg "__name__").getD .none) ctv H _ (I.kept (t' := tk) fun b o z => Heap.get?_push_of_some _ (keep b o z)) .refl rel (Heap.get?_push_size _ rfl) (I.hok.fresh big) hco
end
/-! ### its mirror -/
mutual
/-- no list within -/
def noL : PyData → Bool
  | .tuple ds => noLs ds
  | .list _ => false
  | .none => true
  | .bool _ => true
  | .int _ => true
  | .str _ => true
  | _ => false
def noLs : List PyData → Bool
  | [] => true
  | d :: ds => noL d && noLs ds
end
mutual
theorem noL_reads {h : Heap} : ∀ (d : PyData) (v : Value) (as : List Addr), noL d = true → Reads h v d as → as = []
  | .tuple ds, v, as, e, r => by
    cases r with
    | tuple a b c q => exact noLs_reads ds _ _ (by simpa [noL] using e) q
  | .list _, _, _, e, _ => by simp [noL] at e
  | .none, _, _, _, r => by cases r; rfl
  | .bool _, _, _, _, r => by cases r; rfl
  | .int _, _, _, _, r => by cases r; rfl
  | .str _, _, _, _, r => by cases r; rfl
  | .dict _, _, _, e, _ => by simp [noL] at e
theorem noLs_reads {h : Heap} : ∀ (ds : List PyData) (vs : List Value) (as : List Addr), noLs ds = true → ReadsAll h vs ds as → as = []
  | [], _, _, _, r => by cases r; rfl
  | d :: ds, _, _, e, r => by
    simp only [noLs, Bool.and_eq_true] at e
    cases r with
    | cons r1 r2 => rw [noL_reads d _ _ e.1 r1, noLs_reads ds _ _ e.2 r2]; rfl
end
def tpLen (x : T) : Nat := match tpOf x with
  | some xs => xs.length
  | none => 0
def datD (h : MH) (x : T) : PyData := (toD h deep x).getD .none
def keyD (h : MH) (x : T) : PyData := .tuple [.int (tpLen x), datD h x]
def keyOk (h : MH) (x : T) : Bool := (tpOf x).isSome && ((toD h deep x).isSome && noL (datD h x))
def sortKF (k : List T → MH → Res T) : T → MH → Res T := fun x h => match lsOf h x with
  | some ts => if (ts.all (keyOk h) && ts.all fun a => ts.all fun b => PySem.W.alike (keyD h a) (keyD h b)) = true then k (ts.mergeSort (PySem.W.dataLe false (keyD h))) h else .bad
  | none => .bad
theorem each_of {G : Gx} {m : Ml} {H : Hp} : ∀ {ts : List T} {vs : List V} {us : List Value}, Rs G m H ts vs → Vals vs us → PySem.W.EachIs (fun (u : Value) (b : T × V) => RelV b.2 u ∧ R G m H b.1 b.2) us (ts.zip vs)
  | [], _, _, rs, rv => by
    rw [Rs.nil_iff.mp rs] at rv
    cases rv
    exact .nil
  | t :: ts, _, _, rs, rv => by
    obtain ⟨v, r, rfl, h1, h2⟩ := Rs.cons_iff.mp rs
    cases rv with
    | cons a b => exact .cons ⟨a, h1⟩ (each_of h2 b)
theorem of_each {G : Gx} {m : Ml} {H : Hp} : ∀ {us : List Value} {bs : List (T × V)}, PySem.W.EachIs (fun (u : Value) (b : T × V) => RelV b.2 u ∧ R G m H b.1 b.2) us bs → Vals (bs.map (·.2)) us ∧ Rs G m H (bs.map (·.1)) (bs.map (·.2))
  | _, _, .nil => ⟨.nil, Rs.nil⟩
  | _, _, .cons h t => ⟨.cons h.1 (of_each t).1, Rs.cons h.2 (of_each t).2⟩
section
variable {X : Cx} {cl : Cln} {W : WX} {e : Expr} {fe : EM}
theorem datD_ok {h : MH} {x : T} (hk : keyOk h x = true) : ∃ xs d, tpOf x = some xs ∧ toD h deep x = some d ∧ noL d = true ∧ datD h x = d ∧ tpLen x = xs.length := by
  unfold keyOk datD at hk
  simp only [Bool.and_eq_true] at hk
  obtain ⟨h1, h2, h3⟩ := hk
  obtain ⟨xs, e1⟩ := Option.isSome_iff_exists.mp h1
  obtain ⟨d, e2⟩ := Option.isSome_iff_exists.mp h2
  refine ⟨xs, d, e1, e2, by rw [e2] at h3; exact h3, by unfold datD; rw [e2]; rfl, by unfold tpLen; rw [e1]⟩
/-- sorted(e, key=lambda a: (len(a), a)) -/
theorem me_sortKey {k : List T → MH → Res T} {c P : Addr} {a : Str} {params : Arguments} {scope : Scope} {p p1 p2 p3 p4 p5 lpos kp pos : Pos} {x1 : Nat} (hk : k = lstK ∨ k = lstL) {kr : Nat} (hr : Room kr X.A) (hm : X.mg "sorted" = none) (hml : X.mg "len" = none) (TB : LamX.TabB X.base X.mg c P) (hcode : X.env.code = .ref c)
    (hT : (P, X.env.qual ++ "<lambda>") ∈ cl.tabs) (hu : ∀ p ∈ cl.tabs, p.1 = P → p.2 = X.env.qual ++ "<lambda>") (S : KeyS a scope) (he : ME X cl W e fe) (hdef : defaultsOf params X.env = ([], []) := by rfl)
    (hbind : ∀ (q : Str) (pm ctv u : Value) (c' : Addr), bindArgs (PySem.W.kla_fn "<lambda>" q params (.Tuple [.Call (.Name "len" p1) [.Name a p2] [] p3, .Name a p4] x1 p5) scope [] pm (.ref c') ctv) ⟨[u], []⟩ = pure [(a, u)] := by intros; rfl)
    (hg : Gl X "sorted" := by rfl) (hd : (a == ("__debug__" : Str)) = false := by decide) (hcd : (a == ("__classdict__" : Str)) = false := by decide)
    (hs0 : starEach [e] X.env = (false, eval e X.env) :: starEach [] X.env := by rfl) (hs : backTo pos (starEach [e] X.env) = (false, eval e X.env) :: backTo pos (starEach [] X.env) := by rfl) (hpl : (backTo pos (starEach [e] X.env)).any (·.1) = false := by rfl) (hclo : ∀ cells : List (Str × Addr), cloFrom cells scope.names [] = [] := by intro _; rfl)
    (hkw : keywordEach [⟨some "key", .Lambda params (.Tuple [.Call (.Name "len" p1) [.Name a p2] [] p3, .Name a p4] x1 p5) scope lpos, kp⟩] X.env = [(some ("key" : Str), eval (.Lambda params (.Tuple [.Call (.Name "len" p1) [.Name a p2] [] p3, .Name a p4] x1 p5) scope lpos) X.env)] := by rfl) :
    ME X cl W (.Call (.Name "sorted" p) [e] [⟨some "key", .Lambda params (.Tuple [.Call (.Name "len" p1) [.Name a p2] [] p3, .Name a p4] x1 p5) scope lpos, kp⟩] pos) (em1 (sortKF k) fe) := by
  refine ⟨⟨fun pins s σ H Q I h => ?_⟩⟩
  have h := one_ok h
  have hu2 := hr.units
  refine wpAny_Call_Name_kw (ld_blt I hg hm boot_sorted ?_ (by decide) (by decide))
  have ha := (pa_cons he.pe pa_nil hs0).run pos pins s σ H (fun vs H1 => ∃ v, vs = [v] ∧ ∃ m hp x, Rel (gx X cl) m H1 hp ∧ R (gx X cl) m H1 x v ∧ Pst (gx X cl) m H1 (sortKF k x hp) (fun z m' _ H' => ∀ u, R (gx X cl) m' H' z u → Q u H') (fun c d H' => W c d σ H')) I (h.mono fun v H' q => ⟨v, rfl, q⟩)
  refine PyProof.Rows.callWith_kw (thn ha fun us s1 ⟨vs, H1, I1, r1, q1⟩ => ?_) hs hpl (by rw [hkw]; rfl) (by rw [hkw]; rfl)
  obtain ⟨v, rfl, m, hp, x, rel, rx, pp⟩ := q1
  rw [hkw]
  show wpAny _ _ (evalAll [do let v ← eval (.Lambda params (.Tuple [.Call (.Name "len" p1) [.Name a p2] [] p3, .Name a p4] x1 p5) scope lpos) X.env; standAt pos; pure v]) _ _ s1
  refine wpAny_evalAll_cons (wpAny_bind (lam_new I1 rel TB hcode hT hu hdef (fun y hy ey => absurd ey (S.nocell y hy).2) fun f c' pm ctv H2 s2 I2 st rel2 hf hfn hco => wpAny_bind (wpAny_standAt (wpAny_pure (wpAny_evalAll_nil ?_)))))
  rw [hclo] at hf
  have rx2 := R.step st _ _ rx
  have pp2 := pp.step st
  unfold sortKF at pp2
  split at pp2
  · rename_i ts ets
    split at pp2
    · rename_i hall
      simp only [Bool.and_eq_true, List.all_eq_true] at hall
      obtain ⟨hok, hal⟩ := hall
      obtain ⟨l, ws, rfl, sq, rs⟩ := lsOf_ok rel2 rx2 ets
      obtain ⟨its, rv, pl, hz⟩ := I2.list sq
      rw [Vals.ref1 r1]
      have lz := Rs.len rs
      obtain ⟨mb, hb1, hb2⟩ := I2.mod.blt
      have hzip : (ts.zip ws).map (·.1) = ts := List.map_fst_zip (by omega)
      have mem1 : ∀ b ∈ ts.zip ws, b.1 ∈ ts := fun b hb => (List.of_mem_zip hb).1
      obtain ⟨⟨oc, cvs, ct, hoc, hdc, hvc⟩, _, _⟩ := I2.hok c' _ hco
      refine PySem.W.sorted_key_data (b := false) (fun b : T × V => keyD hp b.1) pl.isList (each_of rs rv) ?_ (PySem.W.Sortable.tuples fun b => ⟨_, _, rfl⟩) ?_ ?_ (ksk_s1 _ _) (fun _ => ksk_l1 _ _) (fun _ => ksk_t1 _ _) ?_ ?_
      · intro d hd' d' hd''
        obtain ⟨b, hb, rfl⟩ := List.mem_map.mp hd'
        obtain ⟨b', hb', rfl⟩ := List.mem_map.mp hd''
        exact hal b.1 (mem1 b hb) b'.1 (mem1 b' hb')
      · rw [List.length_zip]
        omega
      · intro b hb
        obtain ⟨xs, d, e1, e2, e3, e4, e5⟩ := datD_ok (hok b.1 (mem1 b hb))
        have dp := (toD_plain _ _ _ e2).2
        show X.A.units + 2 + (PyData.tuple [.int (tpLen b.1), datD hp b.1]).depth < cLine
        rw [e4]
        simp only [PyData.depth, PyData.depthAll]
        have : deep = 14 := rfl
        omega
      · rintro u b ⟨ru, rb⟩ hb h' tk hk'
        obtain ⟨xs, d, e1, e2, e3, e4, e5⟩ := datD_ok (hok b.1 (mem1 b hb))
        obtain ⟨t, zs, ev, sqt, rsx⟩ := tpOf_ok rb e1
        have Ih : Inv X pins σ H2 { s2 with heap := h', toks := tk } := I2.kept hk'
        obtain ⟨its2, rv2, pt, hz2⟩ := Ih.tuple sqt
        obtain ⟨as, rd⟩ := Dp.reads Ih d b.2 u (toD_ok rel2 _ _ _ _ rb e2) ru
        have has := noL_reads d u as e3 rd
        subst has
        rw [ev] at ru
        obtain rfl : u = Value.ref t := ru
        have l1 : its2.length = xs.length := by rw [← rv2.length, Rs.len rsx]
        have key := key_len (prog := X.prog) (w := X.w) (A := X.A.in1.in1) (E := fun _ _ => False) (s := { s2 with heap := h', toks := tk }) (mg := X.mg) (mb := mb) (items := its2) (d := d) (ctv := ctv) (pm := pm) S (by have := hr.depth; exact this) (hk' _ _ hf) ⟨oc, cvs, ct, hk' _ _ hoc, hdc, hvc⟩ (fun u => hbind _ _ _ _ _)
          (I2.mod.glob.keeps fun b o e => hk' b o (I2.bk b o e)) (hb1.keeps fun b o e => hk' b o (I2.bk b o e)) hml ((hb2 "len" (by decide)).trans boot_len) Ih.nolimit pt (by rw [l1, Rs.len rsx]; exact hz2) rd hd hcd
        show wpAny _ _ _ (PySem.W.KeyPure (.tuple [.int (tpLen b.1), datD hp b.1]) _) _ _
        rw [e4, e5, ← l1]
        exact key
      · intro out c2 h' tk hk' hn1 hg1 hlen each
        have hpm : ((ts.zip ws).mergeSort (PySem.W.dataLe false fun b : T × V => keyD hp b.1)).map (·.1) = ts.mergeSort (PySem.W.dataLe false (keyD hp)) := by
          have := List.map_mergeSort (f := Prod.fst) (r := PySem.W.dataLe false fun b : T × V => keyD hp b.1) (s := PySem.W.dataLe false (keyD hp)) (l := ts.zip ws) (fun _ _ _ _ => rfl)
          rw [hzip] at this
          exact this
        obtain ⟨rvo, rso⟩ := of_each each
        rw [hpm] at rso
        obtain ⟨hl2, fin⟩ := lst_two hk rel2 rso pp2
        have hn : H2 (s2.heap.objs.size + 1) = none := I2.hok.fresh (Nat.le_succ _)
        refine ⟨.ref (s2.heap.objs.size + 1), _, I2.laid (a := s2.heap.objs.size + 1) (o := .lst _) (h' := h') (t' := tk) hk' (Nat.le_succ _) ?_, rfl, fin _ hn⟩
        refine ⟨by rw [← Rs.len rso]; exact hl2, out, c2, rvo, hg1⟩
    · exact pp2.elim
  · exact pp2.elim
end
end TW
namespace TW
open PySem PySem.Spec L2

/-! ### [e for a in x if .. for b in y if ..] -/
def lcI (src : Src) (g : GM) (tt : TM) (te : EM) (r0 : Rho) : List T → MH → Res (List T) := lcS src [] g tt te r0
/-- the outer walk: each turn the inner one from its own source -/
def lc2S (src : Src) (g : GM) (tt : TM) (it1 : IM) (g1 : GM) (tt1 : TM) (te : EM) (vs1 : List Nat) (r0 : Rho) : List T → MH → Res (List T)
  | [], h => if chk src h = true then .ok [] h else .bad
  | x :: xs, h => if chk src h = true then (match g x r0 with
    | some r1 => (calm (tt r1 h)).bind fun b h1 => if b = true then (calm (it1 r1 h1)).bind fun p h2 => (lcS p.2 p.1 g1 tt1 te (wipeR r1 vs1) p.1 h2).bind fun zs h3 => (lc2S src g tt it1 g1 tt1 te vs1 r0 xs h3).bind fun ys h4 => .ok (zs ++ ys) h4 else lc2S src g tt it1 g1 tt1 te vs1 r0 xs h1
    | none => .bad) else .bad
def lc2M (k : List T → MH → Res T) (it : IM) (g : GM) (tt : TM) (it1 : IM) (g1 : GM) (tt1 : TM) (te : EM) (vs vs1 : List Nat) : EM := fun r h => (it r h).bind fun p h1 => (lc2S p.2 g tt it1 g1 tt1 te vs1 (wipeR r vs) p.1 h1).bind k
section
variable {X : Cx} {cl : Cln} {W : WX}
theorem lc2S_noexc {src : Src} {g : GM} {tt : TM} {it1 : IM} {g1 : GM} {tt1 : TM} {te : EM} {vs1 : List Nat} {r0 : Rho} : ∀ (xs : List T) (h : MH) (c : Str) (fs : List (Str × T)) (h' : MH), lc2S src g tt it1 g1 tt1 te vs1 r0 xs h ≠ .exc c fs h'
  | [], h, c, fs, h' => by unfold lc2S; split <;> (intro e; cases e)
  | x :: xs, h, c, fs, h' => by
    unfold lc2S
    split
    · split
      · rename_i r1 _
        cases tt r1 h with
        | ok b h1 =>
          simp only [calm, Res.bind]
          split
          · cases it1 r1 h1 with
            | ok p h2 =>
              simp only [calm, Res.bind]
              cases e1 : lcS p.2 p.1 g1 tt1 te (wipeR r1 vs1) p.1 h2 with
              | ok zs h3 =>
                simp only
                have := lc2S_noexc (src := src) (g := g) (tt := tt) (it1 := it1) (g1 := g1) (tt1 := tt1) (te := te) (vs1 := vs1) (r0 := r0) xs h3
                cases e : lc2S src g tt it1 g1 tt1 te vs1 r0 xs h3 with
                | ok ys h4 => intro q; cases q
                | exc c' fs' h4 => exact absurd e (this _ _ _)
                | bad => intro q; cases q
              | exc c' fs' h3 => exact absurd e1 (lcS_noexc _ _ _ _ _)
              | bad => intro q; cases q
            | exc c' fs' h2 => intro q; cases q
            | bad => intro q; cases q
          · exact lc2S_noexc xs h1 c fs h'
        | exc c' fs' h1 => intro q; cases q
        | bad => intro q; cases q
      · intro q; cases q
    · intro q; cases q
/-- the inner walk, from its mirror: what is wanted at its end (Nx) -/
theorem lc_inner {J : It} {its : List T} {src : Src} {g : GM} {sl : List Nat} {tt : TM} {te : EM} {vs1 : List Nat} {m0 : Ml} {H0 : Hp} {D : Addr} {m2 : Ml} {H2 : Hp} {h2 : MH} {σ : L2.St} {r : Rho} {Nx : Hp → Prop} {xs0 : List T} {acc0 : List V} {ys : List T} {hF : MH} {lenB : Nat} (hsl : ∀ i ∈ sl, i ∈ vs1)
    (hD : H0 D = none) (w0 : Way m0 m2 H0 H2 D) (re : RE (gx X cl) m2 H2 r σ) (rel : Rel (gx X cl) m2 H2 h2) (rs : Rs (gx X cl) m2 H2 xs0 acc0) (hd : H2 D = some (.lst acc0)) (wk : WalkM (gx X cl) J its src m2 H2) (el : lcS src its g tt te (wipeR r vs1) its h2 = .ok ys hF) (hlen : (xs0 ++ ys).length ≤ sizeLine)
    (fin : ∀ H m acc, Way m0 m H0 H D → Wk m2 m H2 H → Rel (gx X cl) m H hF → Rs (gx X cl) m H (xs0 ++ ys) acc → H D = some (.lst acc) → Nx H) :
    ∃ W1 : Nat → Nat → Hp → Prop, (∃ k, W1 0 k H2) ∧ ∀ j k H, W1 j k H →
      (J.stop j H ∧ Nx H) ∨ (J.go j H ∧ ∃ Nx1 : Hp → Prop, (∀ H', Nx1 H' → ∃ k', k' < k ∧ W1 (j + 1) k' H') ∧ ∀ x H', J.yld j H x H' → tMG (gx X cl) sl g x (wipe σ vs1) H' fun σ3 H5 => wipe σ3 vs1 = wipe σ vs1 ∧ tMT (gx X cl) WF tt σ3 H5 fun b H6 =>
        if b = true then tM (gx X cl) WF te σ3 H6 fun y H7 => ∃ acc, H7 D = some (.lst acc) ∧ acc.length < sizeLine ∧ Nx1 (upd H7 D (.lst (acc ++ [y]))) else Nx1 H6) := by
  let Inn : Nat → Hp → Prop := fun j H => ∃ m h xs acc zs, Way m0 m H0 H D ∧ Wk m2 m H2 H ∧ Rel (gx X cl) m H h ∧ Rs (gx X cl) m H (xs0 ++ xs) acc ∧ H D = some (.lst acc) ∧ lcS src its g tt te (wipeR r vs1) (its.drop j) h = .ok zs hF ∧ xs ++ zs = ys
  refine ⟨fun j k H => k = its.length - j ∧ j ≤ its.length ∧ Inn j H, ⟨its.length, by simp, Nat.zero_le _, m2, h2, [], acc0, ys, w0, ⟨⟨[], by simp⟩, fun _ _ _ h n => ⟨h, n⟩⟩, rel, by rw [List.append_nil]; exact rs, hd, el, rfl⟩, ?_⟩
  rintro j k H ⟨rfl, hj, m, h, xs, acc, zs, wy, wkm, rl, rsx, hdx, elx, ey⟩
  have hck : chk src h = true := by
    cases hdr : its.drop j with
    | nil =>
      rw [hdr] at elx
      unfold lcS at elx
      split at elx
      · assumption
      · cases elx
    | cons z zs =>
      rw [hdr] at elx
      unfold lcS at elx
      split at elx
      · assumption
      · cases elx
  obtain ⟨goes, stops, yk⟩ := wk m H h wkm rl hck
  by_cases hlt : j < its.length
  · refine .inr ⟨goes j hlt, Inn (j + 1), fun H' q => ⟨its.length - (j + 1), by omega, rfl, hlt, q⟩, fun x H' y => ?_⟩
    rw [drop_at hlt] at elx
    unfold lcS at elx
    rw [if_pos hck] at elx
    obtain ⟨s2, rel2, rx⟩ := yk j x H' its[j] y (List.getElem?_eq_getElem hlt)
    have wy2 := wy.step s2
    have wkm2 : Wk m2 m H2 H' := ⟨wkm.pre, fun a o t q n => by
      obtain ⟨q1, n1⟩ := wkm.fr a o t q n
      exact s2.wk.fr a o t q1 n1⟩
    have hd2 : H' D = some (.lst acc) := (s2.fr D _ (by intro _ z; cases z) hdx (rl.zd D (by rw [wy.z]; exact List.mem_cons_self))).1
    have rs2 := Rs.step s2 _ _ rsx
    split at elx
    · rename_i r1 e1
      refine ⟨wipeR r vs1, m, its[j], r1, (re.wk wkm2).wipe vs1, rx, e1, fun σ2 re2 so => ⟨wipe_same so hsl, r1, h, m, re2, rel2, ?_⟩⟩
      cases et : calm (tt r1 h) with
      | exc c fs h4 => rw [et] at elx; cases elx
      | bad => rw [et] at elx; cases elx
      | ok b h4 =>
        rw [et] at elx
        refine calm_ok et fun m3 H3 s3 rel3 => ?_
        have elx : (if b = true then (calm (te r1 h4)).bind fun y h2 => (lcS src its g tt te (wipeR r vs1) (its.drop (j + 1)) h2).bind fun ys h3 => .ok (y :: ys) h3 else lcS src its g tt te (wipeR r vs1) (its.drop (j + 1)) h4) = .ok zs hF := elx
        have wy3 := wy2.step s3
        have wk3 : Wk m2 m3 H2 H3 := ⟨by
          obtain ⟨n1, e1⟩ := wkm2.pre
          obtain ⟨n2, e2⟩ := s3.pre
          exact ⟨n1 ++ n2, by rw [e2, e1, List.append_assoc]⟩, fun a o t q n => by
          obtain ⟨q1, n1⟩ := wkm2.fr a o t q n
          exact s3.wk.fr a o t q1 n1⟩
        have hd3 : H3 D = some (.lst acc) := (s3.fr D _ (by intro _ z; cases z) hd2 (rel2.zd D (by rw [wy2.z]; exact List.mem_cons_self))).1
        have rs3 := Rs.step s3 _ _ rs2
        cases b with
        | false => exact ⟨m3, h4, xs, acc, zs, wy3, wk3, rel3, rs3, hd3, elx, ey⟩
        | true =>
          have elx : ((calm (te r1 h4)).bind fun y h2 => (lcS src its g tt te (wipeR r vs1) (its.drop (j + 1)) h2).bind fun ys h3 => .ok (y :: ys) h3) = .ok zs hF := elx
          refine ⟨r1, h4, m3, re2.step s3, rel3, ?_⟩
          cases ee : calm (te r1 h4) with
          | exc c fs h3 => rw [ee] at elx; cases elx
          | bad => rw [ee] at elx; cases elx
          | ok yt h3 =>
            rw [ee] at elx
            have elx : ((lcS src its g tt te (wipeR r vs1) (its.drop (j + 1)) h3).bind fun ys h3 => .ok (yt :: ys) h3) = .ok zs hF := elx
            refine calm_ok ee fun m4 H4 s4 rel4 v rv => ?_
            have wy4 := wy3.step s4
            have hd4 : H4 D = some (.lst acc) := (s4.fr D _ (by intro _ z; cases z) hd3 (rel3.zd D (by rw [wy3.z]; exact List.mem_cons_self))).1
            have rs4 := Rs.step s4 _ _ rs3
            cases en : lcS src its g tt te (wipeR r vs1) (its.drop (j + 1)) h3 with
            | exc c fs h5 => rw [en] at elx; cases elx
            | bad => rw [en] at elx; cases elx
            | ok qs h5 =>
              rw [en] at elx
              have elx : Res.ok (yt :: qs) h5 = Res.ok zs hF := elx
              cases elx
              have hl : acc.length < sizeLine := by
                have := Rs.len rs4
                rw [← ey] at hlen
                simp only [List.length_append, List.length_cons] at hlen this
                omega
              have inz : D ∈ m4.z := by rw [wy4.z]; exact List.mem_cons_self
              have wk4 : Wk m2 m4 H2 (upd H4 D (.lst (acc ++ [v]))) := ⟨by
                obtain ⟨n1, e1⟩ := wk3.pre
                obtain ⟨n2, e2⟩ := s4.pre
                exact ⟨n1 ++ n2, by rw [e2, e1, List.append_assoc]⟩, fun a o t q n => by
                obtain ⟨q1, n1⟩ := wk3.fr a o t q n
                obtain ⟨q2, n2⟩ := s4.wk.fr a o t q1 n1
                exact (Wk.pr inz).fr a o t q2 n2⟩
              refine ⟨acc, hd4, hl, m4, h3, xs ++ [yt], acc ++ [v], qs, wy4.put hD, wk4, rel4.pr inz, ?_, upd_same, en, by rw [← ey]; simp⟩
              rw [← List.append_assoc]
              exact Rs.wk (Wk.pr inz) _ _ (Rs.app rs4 (Rs.cons rv Rs.nil))
    · cases elx
  · have e : j = its.length := by omega
    subst e
    refine .inl ⟨stops, ?_⟩
    rw [List.drop_length] at elx
    unfold lcS at elx
    rw [if_pos hck] at elx
    cases elx
    rw [List.append_nil] at ey
    subst ey
    exact fin H m acc wy wkm rl rsx hdx
theorem lc2_ok {it it1 : IM} {g g1 : GM} {sl sl1 : List Nat} {tt tt1 : TM} {te : EM} {vs vs1 : List Nat} {k : List T → MH → Res T} (hk : k = lstK ∨ k = lstL) (hsl : ∀ i ∈ sl, i ∈ vs) (hsl1 : ∀ i ∈ sl1, i ∈ vs1) {σ : L2.St} {H : Hp} {Q : VK} (h : tM (gx X cl) W (lc2M k it g tt it1 g1 tt1 te vs vs1) σ H Q) :
    tLc2 (tMI (gx X cl) W it) (tMG (gx X cl) sl g) (tMT (gx X cl) WF tt) (tMI (gx X cl) WF it1) (tMG (gx X cl) sl1 g1) (tMT (gx X cl) WF tt1) (tM (gx X cl) WF te) vs vs1 σ H Q := by
  obtain ⟨r, hp, m, re, rel, p⟩ := h
  refine ⟨r, hp, m, re, rel, p.bind.mono (fun q m1 h1 H1 s z J wk D hD => ?_) fun _ _ _ z => z⟩
  obtain ⟨its, src⟩ := q
  obtain ⟨rel1, p1⟩ := z
  have re1 := re.step s
  obtain ⟨ysF, hF, eF, pF⟩ : ∃ ysF hF, lc2S src g tt it1 g1 tt1 te vs1 (wipeR r vs) its h1 = .ok ysF hF ∧ Pst (gx X cl) m1 H1 (k ysF hF) (fun z m' _ H' => ∀ u, R (gx X cl) m' H' z u → Q u H') (fun c d H' => W c d σ H') := by
    cases e : lc2S src g tt it1 g1 tt1 te vs1 (wipeR r vs) its h1 with
    | ok ys h2 => rw [e] at p1; exact ⟨ys, h2, rfl, p1⟩
    | exc c fs h2 => exact absurd e (lc2S_noexc _ _ _ _ _)
    | bad => rw [e] at p1; exact p1.elim
  have lenF := two_len hk pF
  let Gd : Hp → Prop := fun H' => ∃ m' h', Wk m1 m' H1 H' ∧ Rel (gx X cl) m' H' h' ∧ chk src h' = true
  let Pv : Nat → Hp → Prop := fun i H' => ∃ m' h' xs acc ys, Way m1 m' H1 H' D ∧ Rel (gx X cl) m' H' h' ∧ Rs (gx X cl) m' H' xs acc ∧ H' D = some (.lst acc) ∧ lc2S src g tt it1 g1 tt1 te vs1 (wipeR r vs) (its.drop i) h' = .ok ys hF ∧ xs ++ ys = ysF
  refine ⟨fun i k H => k = its.length - i ∧ i ≤ its.length ∧ Pv i H, ⟨its.length, by simp, Nat.zero_le _, m1.lay D, h1, [], [], ysF, Way.lay hD, rel1.lay hD, Rs.nil, upd_same, eF, rfl⟩, ?_⟩
  rintro i kk H' ⟨rfl, hi, m', h', xs, acc, ys, wy, rel', rs, hd, el, ey⟩
  have hck : chk src h' = true := by
    cases hdr : its.drop i with
    | nil =>
      rw [hdr] at el
      unfold lc2S at el
      split at el
      · assumption
      · cases el
    | cons z zs =>
      rw [hdr] at el
      unfold lc2S at el
      split at el
      · assumption
      · cases el
  obtain ⟨goes, stops, yk⟩ := wk m' H' h' (wy.wk hD) rel' hck
  by_cases hlt : i < its.length
  · refine .inr ⟨goes i hlt, Pv (i + 1), fun H'' q => ⟨its.length - (i + 1), by omega, rfl, hlt, q⟩, fun x H'' y => ?_⟩
    rw [drop_at hlt] at el
    unfold lc2S at el
    rw [if_pos hck] at el
    obtain ⟨s2, rel2, rx⟩ := yk i x H'' its[i] y (List.getElem?_eq_getElem hlt)
    have wy2 := wy.step s2
    have hd2 : H'' D = some (.lst acc) := (s2.fr D _ (by intro _ z; cases z) hd (rel'.zd D (by rw [wy.z]; exact List.mem_cons_self))).1
    have rs2 := Rs.step s2 _ _ rs
    split at el
    · rename_i r1 e1
      refine ⟨wipeR r vs, m', its[i], r1, (re1.wk (wy2.wk hD)).wipe vs, rx, e1, fun σ2 re2 so => ⟨wipe_same so hsl, r1, h', m', re2, rel2, ?_⟩⟩
      cases et : calm (tt r1 h') with
      | exc c fs h2 => rw [et] at el; cases el
      | bad => rw [et] at el; cases el
      | ok b h2 =>
        rw [et] at el
        refine calm_ok et fun m3 H3 s3 rel3 => ?_
        have el : (if b = true then (calm (it1 r1 h2)).bind fun p h2 => (lcS p.2 p.1 g1 tt1 te (wipeR r1 vs1) p.1 h2).bind fun zs h3 => (lc2S src g tt it1 g1 tt1 te vs1 (wipeR r vs) (its.drop (i + 1)) h3).bind fun ys h4 => .ok (zs ++ ys) h4 else lc2S src g tt it1 g1 tt1 te vs1 (wipeR r vs) (its.drop (i + 1)) h2) = .ok ys hF := el
        have wy3 := wy2.step s3
        have hd3 : H3 D = some (.lst acc) := (s3.fr D _ (by intro _ z; cases z) hd2 (rel2.zd D (by rw [wy2.z]; exact List.mem_cons_self))).1
        have rs3 := Rs.step s3 _ _ rs2
        cases b with
        | false => exact ⟨m3, h2, xs, acc, ys, wy3, rel3, rs3, hd3, el, ey⟩
        | true =>
          have el : ((calm (it1 r1 h2)).bind fun p h2 => (lcS p.2 p.1 g1 tt1 te (wipeR r1 vs1) p.1 h2).bind fun zs h3 => (lc2S src g tt it1 g1 tt1 te vs1 (wipeR r vs) (its.drop (i + 1)) h3).bind fun ys h4 => .ok (zs ++ ys) h4) = .ok ys hF := el
          refine ⟨r1, h2, m3, re2.step s3, rel3, ?_⟩
          cases ei : calm (it1 r1 h2) with
          | exc c fs h3 => rw [ei] at el; cases el
          | bad => rw [ei] at el; cases el
          | ok pq h3 =>
            rw [ei] at el
            have el : ((lcS pq.2 pq.1 g1 tt1 te (wipeR r1 vs1) pq.1 h3).bind fun zs h3 => (lc2S src g tt it1 g1 tt1 te vs1 (wipeR r vs) (its.drop (i + 1)) h3).bind fun ys h4 => .ok (zs ++ ys) h4) = .ok ys hF := el
            refine calm_ok ei fun m4 H4 s4 rel4 J1 wk1 => ?_
            obtain ⟨its1, src1⟩ := pq
            have wy4 := wy3.step s4
            have hd4 : H4 D = some (.lst acc) := (s4.fr D _ (by intro _ z; cases z) hd3 (rel3.zd D (by rw [wy3.z]; exact List.mem_cons_self))).1
            have rs4 := Rs.step s4 _ _ rs3
            cases e2 : lcS src1 its1 g1 tt1 te (wipeR r1 vs1) its1 h3 with
            | exc c fs h5 => exact absurd e2 (lcS_noexc _ _ _ _ _)
            | bad => rw [e2] at el; cases el
            | ok zs h5 =>
              rw [e2] at el
              have el : ((lc2S src g tt it1 g1 tt1 te vs1 (wipeR r vs) (its.drop (i + 1)) h5).bind fun ys h4 => .ok (zs ++ ys) h4) = .ok ys hF := el
              cases e3 : lc2S src g tt it1 g1 tt1 te vs1 (wipeR r vs) (its.drop (i + 1)) h5 with
              | exc c fs h6 => rw [e3] at el; cases el
              | bad => rw [e3] at el; cases el
              | ok qs h6 =>
                rw [e3] at el
                have el : Res.ok (zs ++ qs) h6 = Res.ok ys hF := el
                cases el
                refine lc_inner (lenB := 0) hsl1 hD wy4 ((re2.step s3).step s4) rel4 rs4 hd4 wk1 e2 ?_ fun H5 m5 acc5 wy5 _ rel5 rs5 hd5 => ⟨m5, h5, xs ++ zs, acc5, qs, wy5, rel5, rs5, hd5, e3, by rw [← ey]; simp⟩
                rw [← ey] at lenF
                simp only [List.length_append] at lenF ⊢
                omega
    · cases el
  · have e : i = its.length := by omega
    subst e
    refine .inl ⟨stops, ?_⟩
    rw [List.drop_length] at el
    unfold lc2S at el
    rw [if_pos hck] at el
    cases el
    rw [List.append_nil] at ey
    subst ey
    exact way_end hk wy hD rel1 rel' rs hd pF
variable {elt tg iter tg1 iter1 : Expr} {ifs ifs1 : List Expr} {scope : Scope} {own : List (Str × Nat)} {pos spos : Pos} {it it1 : IM} {g g1 : GM} {sl sl1 vs1 : List Nat} {tt tt1 : TM} {te : EM} {k : List T → MH → Res T}
theorem me_lc2 (hk : k = lstK ∨ k = lstL) (hc : X.calm = true) (hN : X.N.Nodup) (ok : BlkOk X.N X.env.scope scope own) (hv : ∀ i ∈ vs1, i ∈ own.map (·.2)) (hi : MI X cl W tg iter it) (hsl : ∀ i ∈ sl, i ∈ own.map (·.2)) (hsl1 : ∀ i ∈ sl1, i ∈ vs1) (hg : Blk X (fun Y => MG Y cl tg sl g) scope) (ht : Blk X (fun Y => MTs Y cl WF ifs tt) scope)
    (hi1 : Blk X (fun Y => MI Y cl WF tg1 iter1 it1) scope) (hg1 : Blk X (fun Y => MG Y cl tg1 sl1 g1) scope) (ht1 : Blk X (fun Y => MTs Y cl WF ifs1 tt1) scope) (he : Blk X (fun Y => ME Y cl WF elt te) scope)
    (hs : ∀ x, foldedSetIterable iter X.env x = pure x := by intro _; rfl) (hs1 : ∀ env x, foldedSetIterable iter1 env x = pure x := by intro _ _; rfl) : ME X cl W (.ListComp elt [⟨tg, iter, ifs, 0⟩, ⟨tg1, iter1, ifs1, 0⟩] scope pos) (lc2M k it g tt it1 g1 tt1 te (own.map (·.2)) vs1) :=
  ⟨PE.imp (pe_lc2 (g := tMG (gx X cl) sl g) (tt := tMT (gx X cl) WF tt) (wi1 := tMI (gx X cl) WF it1) (g1 := tMG (gx X cl) sl1 g1) (tt1 := tMT (gx X cl) WF tt1) (te := tM (gx X cl) WF te) hc hN hi.pi ok hv (fun s H C c fp => (hg s H C c fp).pg) (fun s H C c fp => (ht s H C c fp).pts) (fun s H C c fp => (hi1 s H C c fp).pi) (fun s H C c fp => (hg1 s H C c fp).pg) (fun s H C c fp => (ht1 s H C c fp).pts) (fun s H C c fp => (he s H C c fp).pe) hs hs1) fun σ H Q h => lc2_ok hk hsl hsl1 h⟩
theorem ms_setLc2 (i : Nat) {y : Str} {py : Pos} (hk : k = lstK ∨ k = lstL) (hc : X.calm = true) (hN : X.N.Nodup) (ok : BlkOk X.N X.env.scope scope own) (hv : ∀ i ∈ vs1, i ∈ own.map (·.2)) (hi : MI X cl W tg iter it) (hsl : ∀ i ∈ sl, i ∈ own.map (·.2)) (hsl1 : ∀ i ∈ sl1, i ∈ vs1) (hg : Blk X (fun Y => MG Y cl tg sl g) scope) (ht : Blk X (fun Y => MTs Y cl WF ifs tt) scope)
    (hi1 : Blk X (fun Y => MI Y cl WF tg1 iter1 it1) scope) (hg1 : Blk X (fun Y => MG Y cl tg1 sl1 g1) scope) (ht1 : Blk X (fun Y => MTs Y cl WF ifs1 tt1) scope) (he : Blk X (fun Y => ME Y cl WF elt te) scope)
    (hy : X.N[i]? = some y := by rfl) (hyl : X.env.scope.names.lookup y = some .local := by rfl) (hsw : swapsWith (.ListComp elt [⟨tg, iter, ifs, 0⟩, ⟨tg1, iter1, ifs1, 0⟩] scope pos) (some (.Name y py)) spos.line X.env = pure true := by exact sw_true rfl rfl rfl rfl)
    (hs : ∀ x, foldedSetIterable iter X.env x = pure x := by intro _; rfl) (hs1 : ∀ env x, foldedSetIterable iter1 env x = pure x := by intro _ _; rfl) : MS X cl W (.Assign [.Name y py] (.ListComp elt [⟨tg, iter, ifs, 0⟩, ⟨tg1, iter1, ifs1, 0⟩] scope pos) spos) (sSet i (lc2M k it g tt it1 g1 tt1 te (own.map (·.2)) vs1)) := by
  refine ⟨PS.imp (ps_setLc2 (g := tMG (gx X cl) sl g) (tt := tMT (gx X cl) WF tt) (wi1 := tMI (gx X cl) WF it1) (g1 := tMG (gx X cl) sl1 g1) (tt1 := tMT (gx X cl) WF tt1) (te := tM (gx X cl) WF te) hc hN hy hyl hsw hi.pi ok hv (fun s H C c fp => (hg s H C c fp).pg) (fun s H C c fp => (ht s H C c fp).pts) (fun s H C c fp => (hi1 s H C c fp).pi) (fun s H C c fp => (hg1 s H C c fp).pg) (fun s H C c fp => (ht1 s H C c fp).pts) (fun s H C c fp => (he s H C c fp).pe) hs hs1) fun D σ H h => ?_⟩
  refine lc2_ok (W := W) hk hsl hsl1 ?_
  obtain ⟨r, hp, m, re, rel, p⟩ := h
  exact ⟨r, hp, m, re, rel, (p.lift re).mono (fun y m1 h1 H1 s q v rv => q.2.2 m1 H1 _ .refl q.1 (q.2.1.set rv)) fun _ _ _ z => z⟩
end
end TW
namespace TW
open PySem PySem.Spec L2

/-! ### len of an own object -/
structure LnO (P : Program) (w : World) (K : PySem.W.Frag) (mg : Str → Option Value) (base : Heap) (cl : Cln) (k : Nat) (c : Str) (f : FM) : Prop where
  ex : ∀ C, cl c = some C → ∃ (a : Addr) (fd : FuncData) (ps : List Str), FnOk P w K mg base (L2.CX P w) k a fd ps (spM ⟨P, w, K, cl⟩ 1 f) ∧ Cls K C ∧ PySem.W.findIn K (.ref C) "__len__" = some (some (.ref a)) ∧ PySem.W.isFn K (.ref a) = true ∧ Binds K fd ps []
def lenOF (ms : List (Str × FM)) : FM := on1 fun x h => match obOf h x with
  | some (c, _) => (match TW.lk c ms with
    | some F => (calm (F [x] h)).bind fun v h2 => match v with
      | .int n => if 0 ≤ n ∧ n < 2 ^ 63 then .ok (.int n) h2 else .bad
      | _ => .bad
    | none => .bad)
  | none => lenF [x] h
theorem calm_nox {α : Type} {x : Res α} {c : Str} {fs : List (Str × T)} {h : MH} : calm x ≠ .exc c fs h := by
  cases x <;> (intro e; cases e)
theorem n_lenO {ms : List (Str × FM)} : NoXF (lenOF ms) := on1_nox fun x h c fs h' e => by
  split at e
  · split at e
    · rename_i F _
      cases eF : calm (F [x] h) with
      | ok v h2 =>
        rw [eF] at e
        simp only [Res.bind] at e
        split at e
        · split at e <;> cases e
        · cases e
      | exc c' fs' h2 => exact calm_nox eF
      | bad => rw [eF] at e; cases e
    · cases e
  · exact n_len _ _ _ _ _ e
section
variable {X : Cx} {cl : Cln} {W : WX}
/-- an own def run below: nothing is raised -/
theorem run_below {k n : Nat} {A : Around} {a : Addr} {fd : FuncData} {ps : List Str} {f : FM} {pins : List (Addr × Obj)} {σ : L2.St} {H : Hp} {s : Shared} {m : Ml} {hp h2 : MH} {xs : List T} {vs : List V} {us : List Value} {v : T} (F : FnOk X.prog X.w X.K X.mg X.base (L2.CX X.prog X.w) k a fd ps (spM (gx X cl) n f)) (hr : Room k A) (hA : A.frames = X.A.frames) (hb : Binds X.K fd ps [])
    (I : Inv X pins σ H s) (rel : Rel (gx X cl) m H hp) (rs : Rs (gx X cl) m H xs vs) (rv : Vals vs us) (hn : xs.length = n) (e : f xs hp = .ok v h2) {E : Value → Shared → Prop} {Q : Value → Shared → Prop}
    (q : ∀ u s' m' H', Inv X pins σ H' s' → Stp m m' H H' → Rel (gx X cl) m' H' h2 → ∀ y, RelV y u → R (gx X cl) m' H' v y → Q u s') : wpAny (model X.prog X.w) A (call (.ref a) us) Q E s := by
  have hsp : spM (gx X cl) n f vs H (fun y H' => ∃ m', Stp m m' H H' ∧ Rel (gx X cl) m' H' h2 ∧ R (gx X cl) m' H' v y) (fun _ _ _ => False) := ⟨m, hp, xs, rel, rs, hn, by
    rw [e]
    exact fun m' H' s rel' u ru => ⟨m', s, rel', ru⟩⟩
  have e0 : Env0 X.prog X.w X.K X.mg X.base A X.stack s H := by
    have z := I.env0
    exact ⟨by rw [hA]; exact z.frames, z.mod, z.bs, z.bsz, z.funs, z.frf, z.hok, z.bare⟩
  have hl : (us ++ []).length = ps.length := by rw [List.append_nil, ← rv.length, F.len _ _ _ _ hsp]
  have bb := hb s us I.kIn hl
  rw [List.append_nil] at bb
  refine wpAny_call (codeAny_mono (F.run A X.stack s H ⟨us, []⟩ us vs _ _ hr e0 bb rv hsp) fun r s' hq => ?_)
  cases r with
  | error ex =>
    exfalso
    obtain ⟨_, _, _, _, _, _, _, _, _, _, _, _, z⟩ := hq
    exact z.elim
  | ok fl =>
    cases fl with
    | ret u =>
      obtain ⟨y, H', I', ry, m', st, rel', ru⟩ := I.after hq
      exact q u s' m' H' I' st rel' y ry ru
    | next => exact False.elim hq
    | brk => exact False.elim hq
    | cont => exact False.elim hq
theorem c_lenO {ms : List (Str × FM)} {k : Nat} (hr : Room (k + 1) X.A) (hM : ∀ q ∈ ms, LnO X.prog X.w X.K X.mg X.base cl k q.1 q.2) : CallR X (.builtin "len") (rMC (gx X cl) (lenOF ms)) := by
  intro pins s σ H vs us Q I rv q
  obtain ⟨m, hp, xs, rel, rs, p⟩ := q
  obtain ⟨x, v, rfl, rx, p⟩ := on1_ok rs p
  split at p
  · rename_i c fs eo
    split at p
    · rename_i F eF
      obtain ⟨a, C, dx, qq, rfl, hC, hH, rk⟩ := obOf_ok rel rx eo
      obtain ⟨fa, fd, ps, FO, hcl, hfi, hfn, hb⟩ := (hM _ (lk_mem eF)).ex C hC
      rw [Vals.ref1 rv]
      obtain ⟨mA, J, _⟩ := ins_get I.hok hH
      obtain ⟨od, J, _⟩ := J.look
      obtain ⟨mm, hF⟩ := I.fr
      cases ec : calm (F [x] hp) with
      | exc c fs h2 => exact (calm_nox ec).elim
      | bad => rw [ec] at p; exact p.elim
      | ok z h2 =>
        rw [ec] at p
        have e2 : F [x] hp = .ok z h2 := by
          cases e3 : F [x] hp with
          | ok z' h3 => rw [e3] at ec; exact ec
          | exc c fs h3 => rw [e3] at ec; cases ec
          | bad => rw [e3] at ec; cases ec
        simp only [Res.bind] at p
        split at p
        · rename_i n
          split at p
          · rename_i hn
            refine PySem.W.len_K hF I.ok.mod.kin J hfi hfn (run_below FO hr.in1 rfl hb I rel (Rs.cons rx Rs.nil) (.cons rfl .nil) rfl e2 fun u s' m' H' I' st rel' y ry ru => ?_)
            simp only [R] at ru
            subst ru
            obtain ⟨t, rfl⟩ := ry
            exact ⟨hn, .int n, H', I'.tok _, ⟨_, rfl⟩, p m' H' st rel' _ (by simp only [R])⟩
          · exact p.elim
        · exact p.elim
    · exact p.elim
  · exact c_len pins s σ H _ us Q I rv ⟨m, hp, [x], rel, Rs.cons rx Rs.nil, p⟩

/-! ### lists of own objects, all equal by their own __eq__ -/
structure EqO (P : Program) (w : World) (K : PySem.W.Frag) (mg : Str → Option Value) (base : Heap) (cl : Cln) (k : Nat) (c : Str) (f : FM) : Prop where
  ex : ∀ C, cl c = some C → ∃ (a : Addr) (fd : FuncData) (ps : List Str), FnOk P w K mg base (L2.CX P w) k a fd ps (spM ⟨P, w, K, cl⟩ 2 f) ∧ PySem.W.findIn K (.ref C) "__eq__" = some (some (.ref a)) ∧ PySem.W.isFn K (.ref a) = true ∧ Binds K fd ps []
def eqO1 (c : Str) (F : FM) (hp : MH) (x y : T) : Bool := match obOf hp x, obOf hp y with
  | some (d, _), some (e, _) => decide (d = c) && (decide (e = c) && (match F [x, y] hp with
    | .ok (.bl b) h => b && beqH h hp
    | _ => false))
  | _, _ => false
def eqOs (c : Str) (F : FM) (hp : MH) : List T → List T → Bool
  | [], [] => true
  | x :: xs, y :: ys => eqO1 c F hp x y && eqOs c F hp xs ys
  | _, _ => false
def eqOT (c : Str) (F : FM) (x y : T) (hp : MH) : Res T := match x, y with
  | .lst xs, .lst ys => if eqOs c F hp xs ys = true then .ok (.bl true) hp else .bad
  | _, _ => .bad
theorem n_eqO {c : Str} {F : FM} : NoX (eqOT c F) := fun x y h c fs h' e => by
  unfold eqOT at e
  split at e
  · split at e <;> cases e
  · cases e
theorem eqOs_at {c : Str} {F : FM} {hp : MH} : ∀ {xs ys : List T}, eqOs c F hp xs ys = true → xs.length = ys.length ∧ ∀ (i : Nat) x y, xs[i]? = some x → ys[i]? = some y → eqO1 c F hp x y = true
  | [], [], _ => ⟨rfl, fun i x y h => by simp at h⟩
  | [], _ :: _, h => by simp [eqOs] at h
  | _ :: _, [], h => by simp [eqOs] at h
  | a :: xs, b :: ys, h => by
    simp only [eqOs, Bool.and_eq_true] at h
    obtain ⟨h1, h2⟩ := eqOs_at h.2
    refine ⟨by simp [h1], fun i x y e1 e2 => ?_⟩
    cases i with
    | zero => simp at e1 e2; rw [← e1, ← e2]; exact h.1
    | succ i => exact h2 i x y (by simpa using e1) (by simpa using e2)
theorem same_ml {G : Gx} {m m' : Ml} {H H' : Hp} {hp : MH} (rel : Rel G m H hp) (s : Stp m m' H H') (rel' : Rel G m' H' hp) : m' = m := by
  obtain ⟨c, z⟩ := m
  obtain ⟨c', z'⟩ := m'
  obtain ⟨n, e⟩ := s.pre
  have e : c' = c ++ n := e
  have l1 : c.length = hp.length := rel.len
  have l2 : c'.length = hp.length := rel'.len
  have hn : n = [] := List.eq_nil_of_length_eq_zero (by rw [e, List.length_append] at l2; omega)
  have ez : z' = z := s.pz
  rw [e, hn, ez, List.append_nil]
theorem o_eqO {c : Str} {F : FM} {k : Nat} (hr : Room (k + 2) X.A) (hE : EqO X.prog X.w X.K X.mg X.base cl k c F) : OpR X (compareOp .Eq) (rM (gx X cl) (eqOT c F)) := by
  intro pins s σ H v w u u' Q I rv rw' q
  obtain ⟨m, hp, x, y, rel, rx, ry, p⟩ := q
  unfold eqOT at p
  split at p
  · rename_i xs ys
    split at p
    · rename_i heq
      obtain ⟨hlen, hat⟩ := eqOs_at heq
      have lx := rx
      have ly := ry
      simp only [R] at lx ly
      obtain ⟨a, vs, rfl, fa, rsa⟩ := lx
      obtain ⟨b, ws, rfl, fb, rsb⟩ := ly
      cases rv
      cases rw'
      show wpAny (model X.prog X.w) X.A (richCompare .Eq (.ref a) (.ref b)) (EP X pins σ Q) X.xe s
      refine GQ.rc_listG (N := xs.length) hr.units0 (fun _ s' => ∃ H', Inv X pins σ H' s' ∧ Stp m m H H' ∧ Rel (gx X cl) m H' hp) (fun i s' q => ?_) (fun s' q => ?_) ⟨H, I, .refl, rel⟩
      · obtain ⟨H1, I1, st, rel1⟩ := id q
        have ha := (st.fr a _ (by intro _ z; cases z) fa.1 fa.2.1).1
        have hb := (st.fr b _ (by intro _ z; cases z) fb.1 fb.2.1).1
        obtain ⟨z, its, k1, r1, e1⟩ := I1.hok a _ ha
        obtain ⟨z2, its2, k2, r2, e2⟩ := I1.hok b _ hb
        have n1 : its.length = xs.length := by rw [← r1.length, Rs.len rsa]
        have n2 : its2.length = xs.length := by rw [← r2.length, ← Rs.len rsb, ← hlen]
        refine ⟨its.toArray, its2.toArray, k1, k2, e1, e2, by rw [List.size_toArray, n1], by rw [List.size_toArray, n2], fun h1 h2 => ?_⟩
        have hi : i < its.length := by simpa using h1
        have hi2 : i < its2.length := by simpa using h2
        have hx : xs[i]? = some (xs[i]'(by omega)) := List.getElem?_eq_getElem _
        have hy : ys[i]? = some (ys[i]'(by omega)) := List.getElem?_eq_getElem _
        obtain ⟨va, ea, ra⟩ := Rs.get (Rs.step st _ _ rsa) hx
        obtain ⟨vb, eb, rb⟩ := Rs.get (Rs.step st _ _ rsb) hy
        obtain ⟨ua, eua, rua⟩ := r1.get ea
        obtain ⟨ub, eub, rub⟩ := r2.get eb
        have g1 : its.toArray[i] = ua := by
          have : its[i]? = some its.toArray[i] := by rw [List.getElem?_eq_getElem hi] <;> simp
          rw [eua] at this
          exact (Option.some.inj this).symm
        have g2 : its2.toArray[i] = ub := by
          have : its2[i]? = some its2.toArray[i] := by rw [List.getElem?_eq_getElem hi2] <;> simp
          rw [eub] at this
          exact (Option.some.inj this).symm
        rw [g1, g2]
        have h1e := hat i _ _ hx hy
        unfold eqO1 at h1e
        split at h1e
        · rename_i d fs e fs' eo1 eo2
          simp only [Bool.and_eq_true, decide_eq_true_eq] at h1e
          obtain ⟨rfl, rfl, h1e⟩ := h1e
          split at h1e
          · rename_i bb h5 eF
            simp only [Bool.and_eq_true] at h1e
            obtain ⟨rfl, hbe⟩ := h1e
            have := beqH_ok _ _ hbe
            subst this
            obtain ⟨pa, C, dx, qa, rfl, hC, hHa, rka⟩ := obOf_ok rel1 ra eo1
            obtain ⟨pb, C', dx', qb, rfl, hC', hHb, rkb⟩ := obOf_ok rel1 rb eo2
            have ec : C' = C := Option.some.inj (hC'.symm.trans hC)
            subst ec
            cases rua
            cases rub
            by_cases hab : pa = pb
            · subst hab
              exact SeqAt.EqAt.same (A := X.A.in1) (s := s') (.ref pa) X.prog X.w X.xe _ ⟨rfl, H1, I1, st, rel1⟩
            · obtain ⟨fa', fd, ps, FO, hfi, hfn, hbd⟩ := hE.ex _ hC
              obtain ⟨mA, J, _⟩ := ins_get I1.hok hHa
              obtain ⟨mB, J', _⟩ := ins_get I1.hok hHb
              obtain ⟨od, J, _⟩ := J.look
              obtain ⟨od', J', _⟩ := J'.look
              obtain ⟨mm, hF⟩ := I1.fr
              have hr1 : Room (k + 1) X.A.in1 := hr.in1
              refine GQ.eqBool_refG hab (PySem.W.cmp_K (op := .Eq) (tb := .ref C') hr1.units0 hF I1.ok.mod.kin J J'.type (by simp [PySem.W.notFirst]) hfi hfn (run_below FO (hr1.mono (Nat.le_succ _)) rfl hbd I1 rel1 (Rs.cons ra (Rs.cons rb Rs.nil)) (.cons rfl (.cons rfl .nil)) rfl eF fun u s2 m' H' I' st' rel' y ry ru => ?_))
              have em := same_ml rel1 st' rel'
              subst em
              simp only [R] at ru
              subst ru
              cases ry
              exact ⟨true, rfl, rfl, H', I', st.trans st', rel'⟩
          · cases h1e
        · cases h1e
      · obtain ⟨H1, I1, st, rel1⟩ := q
        exact ⟨.bl true, H1, I1, rfl, p m H1 st rel1 _ (by simp only [R])⟩
    · exact p.elim
  · exact p.elim
/-! ### + of anything, == of lists of objects too -/
def adT (k : List T → MH → Res T) (x y : T) (hp : MH) : Res T := match lsW hp x, lsW hp y with
  | some xs, some ys => k (xs ++ ys) hp
  | _, _ => addT x y hp
theorem n_ad {k : List T → MH → Res T} (hk : k = lstK ∨ k = lstL) : NoX (adT k) := fun x y h c fs h' e => by
  unfold adT at e
  split at e
  · exact lst_two_nox hk _ _ _ _ _ e
  · exact n_add _ _ _ _ _ _ e
theorem o_ad {k : List T → MH → Res T} (hk : k = lstK ∨ k = lstL) : OpR X (binaryOp .Add) (rM (gx X cl) (adT k)) := by
  refine OpR.imp (OpR.or (o_cat (cl := cl) hk) (o_add (cl := cl))) fun v w H Q q => ?_
  obtain ⟨m, hp, x, y, rel, rx, ry, p⟩ := q
  unfold adT at p
  split at p
  · rename_i xs ys e1 e2
    refine .inl ⟨m, hp, x, y, rel, rx, ry, ?_⟩
    unfold catT
    rw [e1, e2]
    exact p
  · exact .inr ⟨m, hp, x, y, rel, rx, ry, p⟩
theorem o_fdv : OpR X (binaryOp .FloorDiv) (rM (gx X cl) fdvT) := op_iT op_fdiv (fun _ _ h => of_decide_eq_true h) fun _ _ _ _ => by simp only [R]
theorem o_pow : OpR X (binaryOp .Pow) (rM (gx X cl) powT) := op_iT op_pow (fun _ _ h => of_decide_eq_true h) fun _ _ _ _ => by simp only [R]
theorem o_shl : OpR X (binaryOp .LShift) (rM (gx X cl) shlT) := op_iT op_shl (fun _ _ h => of_decide_eq_true h) fun _ _ _ _ => by simp only [R]
theorem lK : lstK = lstK ∨ lstK = lstL := .inl rfl
theorem lL : lstL = lstK ∨ lstL = lstL := .inr rfl
theorem dKK : dicK = dicK ∨ dicK = dicL := .inl rfl
theorem dLL : dicL = dicK ∨ dicL = dicL := .inr rfl
end
end TW
namespace TW
open PySem PySem.Spec L2

/-! ### the law's own promise, by its mirror -/
def LawT (f : FM) (n : Nat) : Prop := ∀ ns : List Int, ns.length ≤ n → ∃ h, f [.klst (ns.map .int)] [] = .ok (.bl true) h
theorem law_sp {P : Program} {w : World} {K : PySem.W.Frag} {cl : Cln} {f : FM} {n : Nat} {H : Hp} {a : Addr} {ns : List Int} (h : LawT f n) (hn : ns.length ≤ n) (hT : ∀ p ∈ cl.tabs, H p.1 = some (.tbl #[])) (hs : SqL K H a (ns.map V.int)) :
    spM ⟨P, w, K, cl⟩ 1 f [.ref a] H (fun v _ => v = .bl true) fun _ _ _ => False := by
  obtain ⟨h', e⟩ := h ns hn
  have no : ∀ b : Addr, (⟨[], []⟩ : Ml).no b := fun b => ⟨fun z => (nomatch z), fun z => (nomatch z)⟩
  refine ⟨⟨[], []⟩, [], [.klst (ns.map .int)], ⟨rfl, .nil, fun i b o e => (by cases e), fun b hb => (nomatch hb), fun b hb => (nomatch hb), fun p hp => ⟨#[], hT p hp, no _, True.intro, fun pos cv hc => ?_⟩⟩, Rs.cons ?_ Rs.nil, rfl, ?_⟩
  · have z : codeAmong pos [] = some cv := hc
    simp [codeAmong] at z
  · simp only [R]
    refine ⟨a, ns.map V.int, rfl, ?_, rs_ints ns⟩
    rcases hs with hs | hs
    · exact .inl ⟨hs, no a⟩
    · exact .inr hs
  · rw [e]
    intro m' H' s rel v rv
    simpa only [R] using rv
end TW
namespace TW
open PySem PySem.Spec L2

/-! ### arguments that name no cell: the mirror may be asked on the empty heap -/
section
variable {G : Gx} {H H' : Hp} {m : Ml}
/-- no cells: all that was a cell, or under way, is set aside -/
def Ml.aside (m : Ml) : Ml := ⟨[], m.c ++ m.z⟩
theorem Ml.aside_no {a : Addr} : m.aside.no a ↔ m.no a := by
  unfold Ml.aside Ml.no
  simp only [List.not_mem_nil, not_false_eq_true, true_and, List.mem_append, not_or]
mutual
theorem R.aside : ∀ (x : T) (v : V), low 0 x = true → R G m H x v → R G m.aside H x v
  | .non, _, _, h => h
  | .bl _, _, _, h => h
  | .int _, _, _, h => h
  | .str _, _, _, h => h
  | .ty _, _, _, h => h
  | .cls _, _, _, h => by
    simp only [R] at h ⊢
    exact h
  | .tup xs, _, hl, h => by
    simp only [R] at h ⊢
    obtain ⟨a, vs, e, f, r⟩ := h
    exact ⟨a, vs, e, ⟨f.1, Ml.aside_no.mpr f.2⟩, Rs.aside xs vs hl r⟩
  | .ktup xs, _, hl, h => by
    simp only [R] at h ⊢
    obtain ⟨a, vs, e, f, r⟩ := h
    exact ⟨a, vs, e, f, Rs.aside xs vs hl r⟩
  | .lst xs, _, hl, h => by
    simp only [R] at h ⊢
    obtain ⟨a, vs, e, f, r⟩ := h
    exact ⟨a, vs, e, ⟨f.1, Ml.aside_no.mpr f.2⟩, Rs.aside xs vs hl r⟩
  | .klst xs, _, hl, h => by
    simp only [R] at h ⊢
    obtain ⟨a, vs, e, f, r⟩ := h
    exact ⟨a, vs, e, f.elim (fun f => .inl ⟨f.1, Ml.aside_no.mpr f.2⟩) .inr, Rs.aside xs vs hl r⟩
  | .set xs, _, hl, h => by
    simp only [R] at h ⊢
    obtain ⟨a, e, f, n⟩ := h
    exact ⟨a, e, f, Ml.aside_no.mpr n⟩
  | .dK ks xs, _, hl, h => by
    simp only [R] at h ⊢
    obtain ⟨a, vs, e, f, q, r⟩ := h
    exact ⟨a, vs, e, ⟨f.1, Ml.aside_no.mpr f.2⟩, q, Rs.aside xs vs hl r⟩
  | .dT ks xs, _, hl, h => by
    simp only [R] at h ⊢
    obtain ⟨a, vs, e, f, q, r⟩ := h
    exact ⟨a, vs, e, ⟨f.1, Ml.aside_no.mpr f.2⟩, q, Rs.aside xs vs hl r⟩
  | .obj c ns xs, _, hl, h => by
    simp only [R] at h ⊢
    obtain ⟨a, C, dx, vs, e, hc, f, q, r⟩ := h
    exact ⟨a, C, dx, vs, e, hc, ⟨f.1, Ml.aside_no.mpr f.2⟩, q, Rs.aside xs vs hl r⟩
  | .loc n, _, hl, _ => by
    have : n < 0 := Nat.le_of_ble_eq_true hl
    exact absurd this (Nat.not_lt_zero n)
theorem Rs.aside : ∀ (xs : List T) (vs : List V), lows 0 xs = true → Rs G m H xs vs → Rs G m.aside H xs vs
  | [], _, _, h => h
  | x :: xs, _, hl, h => by
    simp only [lows, Bool.and_eq_true] at hl
    obtain ⟨v, r, e, h1, h2⟩ := Rs.cons_iff.mp h
    subst e
    exact Rs.cons (R.aside x v hl.1 h1) (Rs.aside xs r hl.2 h2)
end
mutual
theorem R.back : ∀ (x : T) (v : V), R G m.aside H x v → R G m H x v
  | .non, _, h => h
  | .bl _, _, h => h
  | .int _, _, h => h
  | .str _, _, h => h
  | .ty _, _, h => h
  | .cls _, _, h => by
    simp only [R] at h ⊢
    exact h
  | .tup xs, _, h => by
    simp only [R] at h ⊢
    obtain ⟨a, vs, e, f, r⟩ := h
    exact ⟨a, vs, e, ⟨f.1, Ml.aside_no.mp f.2⟩, Rs.back xs vs r⟩
  | .ktup xs, _, h => by
    simp only [R] at h ⊢
    obtain ⟨a, vs, e, f, r⟩ := h
    exact ⟨a, vs, e, f, Rs.back xs vs r⟩
  | .lst xs, _, h => by
    simp only [R] at h ⊢
    obtain ⟨a, vs, e, f, r⟩ := h
    exact ⟨a, vs, e, ⟨f.1, Ml.aside_no.mp f.2⟩, Rs.back xs vs r⟩
  | .klst xs, _, h => by
    simp only [R] at h ⊢
    obtain ⟨a, vs, e, f, r⟩ := h
    exact ⟨a, vs, e, f.elim (fun f => .inl ⟨f.1, Ml.aside_no.mp f.2⟩) .inr, Rs.back xs vs r⟩
  | .set xs, _, h => by
    simp only [R] at h ⊢
    obtain ⟨a, e, f, n⟩ := h
    exact ⟨a, e, f, Ml.aside_no.mp n⟩
  | .dK ks xs, _, h => by
    simp only [R] at h ⊢
    obtain ⟨a, vs, e, f, q, r⟩ := h
    exact ⟨a, vs, e, ⟨f.1, Ml.aside_no.mp f.2⟩, q, Rs.back xs vs r⟩
  | .dT ks xs, _, h => by
    simp only [R] at h ⊢
    obtain ⟨a, vs, e, f, q, r⟩ := h
    exact ⟨a, vs, e, ⟨f.1, Ml.aside_no.mp f.2⟩, q, Rs.back xs vs r⟩
  | .obj c ns xs, _, h => by
    simp only [R] at h ⊢
    obtain ⟨a, C, dx, vs, e, hc, f, q, r⟩ := h
    exact ⟨a, C, dx, vs, e, hc, ⟨f.1, Ml.aside_no.mp f.2⟩, q, Rs.back xs vs r⟩
  | .loc n, _, h => by
    simp only [R] at h
    obtain ⟨a, e, _⟩ := h
    exact absurd e (by simp [Ml.aside])
theorem Rs.back : ∀ (xs : List T) (vs : List V), Rs G m.aside H xs vs → Rs G m H xs vs
  | [], _, h => h
  | x :: xs, _, h => by
    obtain ⟨v, r, e, h1, h2⟩ := Rs.cons_iff.mp h
    subst e
    exact Rs.cons (R.back x v h1) (Rs.back xs r h2)
end
theorem RO.nt {a : Addr} {mo : MO} (h : RO G m H a mo) : ∃ o, NT o ∧ H a = some o := by
  cases mo with
  | lst xs => obtain ⟨vs, e, _⟩ := h; exact ⟨_, (by intro _ z; cases z), e⟩
  | set xs => obtain ⟨S, c, e, _⟩ := h; exact ⟨_, (by intro _ z; unfold SetO at z; cases z), e⟩
  | dK xs => obtain ⟨vs, e, _⟩ := h; exact ⟨_, (by intro _ z; cases z), e⟩
  | dT xs => obtain ⟨vs, e, _⟩ := h; exact ⟨_, (by intro _ z; cases z), e⟩
  | ins c fs => obtain ⟨_, _, vs, _, e, _⟩ := h; exact ⟨_, (by intro _ z; cases z), e⟩
theorem Rel.aside {hp : MH} (rel : Rel G m H hp) : Rel G m.aside H [] := ⟨rfl, .nil, fun i b o e => (by cases e), fun b hb => by
  rcases List.mem_append.mp hb with hb | hb
  · obtain ⟨n, mo, _, _, ro⟩ := rel.at_mem hb
    exact ro.nt
  · exact rel.zs b hb, fun b hb z => (nomatch z), rel.tb.to fun b _ n => ⟨rfl, Ml.aside_no.mpr n⟩⟩
/-- behind the run on the empty heap: all stands -/
theorem Rel.unaside {hp : MH} {m2 : Ml} (rel : Rel G m H hp) (s : Stp m.aside m2 H H') (rel2 : Rel G m2 H' []) : m2 = m.aside ∧ Stp m m H H' ∧ Rel G m H' hp := by
  have e2 : m2 = m.aside := by
    obtain ⟨c2, z2⟩ := m2
    have h1 : c2.length = 0 := rel2.len
    have h2 : c2 = [] := List.eq_nil_of_length_eq_zero h1
    have h3 : z2 = m.c ++ m.z := s.pz
    rw [h2, h3]
    rfl
  subst e2
  have all : ∀ a o, NT o → H a = some o → H' a = some o := fun a o t e => (s.fr a o t e (fun z => nomatch z)).1
  have st : Stp m m H H' := ⟨rfl, ⟨[], by simp⟩, fun a o t e n => ⟨all a o t e, n⟩⟩
  refine ⟨rfl, st, rel.len, rel.nd, fun n a mo e1 e2 => ?_, fun b hb => ?_, rel.zd, rel2.tb.to fun b _ n => ⟨rfl, Ml.aside_no.mp n⟩⟩
  · have ro := rel.ob n a mo e1 e2
    obtain ⟨o, t, e⟩ := ro.nt
    exact ro.wk st.wk (by rw [all a o t e, e])
  · obtain ⟨o, t, e⟩ := rel.zs b hb
    exact ⟨o, t, all b o t e⟩
end
/-- where no argument names a cell: on the empty heap -/
def onH (r : Res T) (h : MH) : Res T := match r with
  | .ok v [] => .ok v h
  | .exc c fs [] => .exc c fs h
  | _ => .bad
def pur (f : FM) : FM := fun xs h => if lows 0 xs = true then onH (f xs []) h else f xs h
@[simp] theorem pur_nil (f : FM) (xs : List T) (h : MH) (hl : lows 0 xs = true) : pur f xs h = onH (f xs []) h := by
  unfold pur
  rw [if_pos hl]
section
variable {P : Program} {w : World} {K : PySem.W.Frag} {mg : Str → Option Value} {base : Heap} {cl : Cln}
theorem fn_pur {k n : Nat} {a : Addr} {fd : FuncData} {ps : List Str} {f : FM} (F : FnOk P w K mg base (L2.CX P w) k a fd ps (spM ⟨P, w, K, cl⟩ n f)) : FnOk P w K mg base (L2.CX P w) k a fd ps (spM ⟨P, w, K, cl⟩ n (pur f)) :=
  F.imp fun vs H Q E h => by
    obtain ⟨m, hp, xs, rel, rs, hl, p⟩ := h
    unfold pur at p
    split at p
    · rename_i hlow
      refine ⟨m.aside, [], xs, rel.aside, Rs.aside xs vs hlow rs, hl, ?_⟩
      cases e : f xs [] with
      | ok v h' =>
        rw [e] at p
        cases h' with
        | cons a t => exact p.elim
        | nil =>
          intro m2 H2 s rel2 u ru
          obtain ⟨e2, st, rel3⟩ := rel.unaside s rel2
          subst e2
          exact p m H2 st rel3 u (R.back _ _ ru)
      | exc c fs h' =>
        rw [e] at p
        cases h' with
        | cons a t => exact p.elim
        | nil =>
          intro m2 H2 s rel2 C d hC hd
          obtain ⟨e2, st, rel3⟩ := rel.unaside s rel2
          subst e2
          refine p m H2 st rel3 C d hC ?_
          rcases hd with hd | ⟨dx, q, rfl, fz, rk⟩
          · exact .inl hd
          · exact .inr ⟨dx, q, rfl, ⟨fz.1, Ml.aside_no.mp fz.2⟩, rk.1, Rs.back _ _ rk.2⟩
      | bad => rw [e] at p; exact p.elim
    · exact ⟨m, hp, xs, rel, rs, hl, p⟩
end
end TW
namespace TW
open PySem PySem.Spec L2
open PySem.W (Datum Tup)

/-! ### plain words for mirrors: rows of ints -/
/-- a tuple, a list of ints -/
def tp (s : List Int) : T := .tup (s.map .int)
def ls (s : List Int) : T := .lst (s.map .int)
/-- a list of tuples, of lists -/
def lts (ss : List (List Int)) : T := .lst (ss.map tp)
def lls (ss : List (List Int)) : T := .lst (ss.map ls)
def tts (ss : List (List Int)) : T := .tup (ss.map tp)
section
variable (h : MH)
theorem mapO_int (k : Nat) : ∀ s : List Int, mapO (toD h k) (s.map .int) = some (s.map Datum.toD)
  | [] => rfl
  | x :: s => by
    have e : toD h k (.int x) = some (.int x) := by cases k <;> rfl
    simp only [List.map_cons, mapO, e, mapO_int k s]
    rfl
theorem toD_tpk (k : Nat) (s : List Int) : toD h (k + 1) (tp s) = some (Datum.toD (Tup.mk s)) := by
  show (mapO (toD h k) (s.map T.int)).map PyData.tuple = _
  rw [mapO_int]
  rfl
theorem toD_tp (s : List Int) : toD h deep (tp s) = some (Datum.toD (Tup.mk s)) := toD_tpk h 13 s
theorem toD_ls (s : List Int) : toD h deep (ls s) = some (Datum.toD s) := by
  show (mapO (toD h 13) (s.map T.int)).map PyData.list = _
  rw [mapO_int]
  rfl
theorem toD_int (i : Int) : toD h deep (.int i) = some (Datum.toD i) := rfl
theorem mapO_tp (k : Nat) : ∀ ss : List (List Int), mapO (toD h (k + 1)) (ss.map tp) = some ((ss.map Tup.mk).map Datum.toD)
  | [] => rfl
  | s :: ss => by
    simp only [List.map_cons, mapO, toD_tpk h k s, mapO_tp k ss]
theorem toD_lts (ss : List (List Int)) : toD h deep (lts ss) = some (Datum.toD (ss.map Tup.mk)) := by
  show (mapO (toD h 13) (ss.map tp)).map PyData.list = _
  rw [mapO_tp]
  rfl
theorem toD_tts (ss : List (List Int)) : toD h deep (tts ss) = some (Datum.toD (Tup.mk (ss.map Tup.mk))) := by
  show (mapO (toD h 13) (ss.map tp)).map PyData.tuple = _
  rw [mapO_tp]
  rfl
theorem mk_inj (s t : List Int) : (Tup.mk s = Tup.mk t) = (s = t) := by simp
theorem map_mk_inj (ss tt : List (List Int)) : (ss.map Tup.mk = tt.map Tup.mk) = (ss = tt) := by
  apply propext
  constructor
  · intro e
    have q := congrArg (List.map Tup.items) e
    simpa [List.map_map, Function.comp_def] using q
  · rintro rfl; rfl
/-! == and != -/
theorem eq_int (i j : Int) : eqT (.int i) (.int j) h = .ok (.bl (decide (i = j))) h := by
  unfold eqT
  rw [toD_int, toD_int]
  simp only [Datum.eqv]
theorem ne_int (i j : Int) : neT (.int i) (.int j) h = .ok (.bl (!decide (i = j))) h := by
  unfold neT
  rw [toD_int, toD_int]
  simp only [Datum.eqv]
theorem eq_tp (s t : List Int) : eqT (tp s) (tp t) h = .ok (.bl (decide (s = t))) h := by
  unfold eqT
  rw [toD_tp, toD_tp]
  simp only [Datum.eqv, mk_inj]
theorem ne_tp (s t : List Int) : neT (tp s) (tp t) h = .ok (.bl (!decide (s = t))) h := by
  unfold neT
  rw [toD_tp, toD_tp]
  simp only [Datum.eqv, mk_inj]
theorem eq_ls (s t : List Int) : eqT (ls s) (ls t) h = .ok (.bl (decide (s = t))) h := by
  unfold eqT
  rw [toD_ls, toD_ls]
  simp only [Datum.eqv]
theorem ne_ls (s t : List Int) : neT (ls s) (ls t) h = .ok (.bl (!decide (s = t))) h := by
  unfold neT
  rw [toD_ls, toD_ls]
  simp only [Datum.eqv]
theorem eq_lts (s t : List (List Int)) : eqT (lts s) (lts t) h = .ok (.bl (decide (s = t))) h := by
  unfold eqT
  rw [toD_lts, toD_lts]
  simp only [Datum.eqv, map_mk_inj]
theorem ne_lts (s t : List (List Int)) : neT (lts s) (lts t) h = .ok (.bl (!decide (s = t))) h := by
  unfold neT
  rw [toD_lts, toD_lts]
  simp only [Datum.eqv, map_mk_inj]
theorem eq_tts (s t : List (List Int)) : eqT (tts s) (tts t) h = .ok (.bl (decide (s = t))) h := by
  unfold eqT
  rw [toD_tts, toD_tts]
  simp only [Datum.eqv, mk_inj, Tup.mk.injEq, map_mk_inj]
theorem ne_tts (s t : List (List Int)) : neT (tts s) (tts t) h = .ok (.bl (!decide (s = t))) h := by
  unfold neT
  rw [toD_tts, toD_tts]
  simp only [Datum.eqv, mk_inj, Tup.mk.injEq, map_mk_inj]
/-! in -/
theorem dGet_tup (xs : List T) (k : T) : dGet h (.tup xs) k = none := by cases k <;> rfl
theorem dGet_lst (xs : List T) (k : T) : dGet h (.lst xs) k = none := by cases k <;> rfl
theorem in_tp (i : Int) (s : List Int) : inB h (.int i) (tp s) = some (decide (i ∈ s)) := by
  unfold inB
  rw [show dGet h (tp s) (.int i) = none from dGet_tup h _ _, toD_tp, toD_int]
  show some ((s.map Datum.toD).any fun z => PyData.eqv z (Datum.toD i)) = _
  rw [PySem.W.any_datum]
theorem in_ls (i : Int) (s : List Int) : inB h (.int i) (ls s) = some (decide (i ∈ s)) := by
  unfold inB
  rw [show dGet h (ls s) (.int i) = none from dGet_lst h _ _, toD_ls, toD_int]
  show some ((s.map Datum.toD).any fun z => PyData.eqv z (Datum.toD i)) = _
  rw [PySem.W.any_datum]
theorem mem_mk (s : List Int) (ss : List (List Int)) : (Tup.mk s ∈ ss.map Tup.mk) = (s ∈ ss) := by
  apply propext
  rw [List.mem_map]
  constructor
  · rintro ⟨t, ht, e⟩
    cases e
    exact ht
  · intro hs
    exact ⟨s, hs, rfl⟩
theorem in_lts (s : List Int) (ss : List (List Int)) : inB h (tp s) (lts ss) = some (decide (s ∈ ss)) := by
  unfold inB
  rw [show dGet h (lts ss) (tp s) = none from dGet_lst h _ _, toD_lts, toD_tp]
  show some (((ss.map Tup.mk).map Datum.toD).any fun z => PyData.eqv z (Datum.toD (Tup.mk s))) = _
  rw [PySem.W.any_datum]
  simp only [mem_mk]
theorem in_tts (s : List Int) (ss : List (List Int)) : inB h (tp s) (tts ss) = some (decide (s ∈ ss)) := by
  unfold inB
  rw [show dGet h (tts ss) (tp s) = none from dGet_tup h _ _, toD_tts, toD_tp]
  show some (((ss.map Tup.mk).map Datum.toD).any fun z => PyData.eqv z (Datum.toD (Tup.mk s))) = _
  rw [PySem.W.any_datum]
  simp only [mem_mk]
theorem inT_of {neg b : Bool} {x y : T} (e : inB h x y = some b) : inT neg x y h = .ok (.bl (if neg = true then !b else b)) h := by
  unfold inT
  rw [e]
end
/-! ### walks over trees -/
theorem chk_none (h : MH) : chk none h = true := rfl
/-- a comprehension over a tree, pure turns -/
theorem lc_pure {xs' : List T} {i : Nat} {tt : TM} {te : EM} {r0 : Rho} {h : MH} {p : T → Bool} {f : T → T} : ∀ {xs : List T}, (∀ x ∈ xs, tt (r0.set i (some x)) h = .ok (p x) h) → (∀ x ∈ xs, p x = true → te (r0.set i (some x)) h = .ok (f x) h) → lcS none xs' (gmN i) tt te r0 xs h = .ok ((xs.filter p).map f) h
  | [], _, _ => by
    unfold lcS
    rfl
  | x :: xs, ht, he => by
    unfold lcS
    have ih := lc_pure (xs' := xs') (p := p) (f := f) (fun y hy => ht y (List.mem_cons_of_mem _ hy)) (fun y hy => he y (List.mem_cons_of_mem _ hy))
    rw [if_pos (chk_none h)]
    show (calm (tt (r0.set i (some x)) h)).bind _ = _
    rw [ht x List.mem_cons_self]
    show (if p x = true then _ else _) = _
    by_cases hp : p x = true
    · rw [if_pos hp, he x List.mem_cons_self hp]
      show (lcS none xs' (gmN i) tt te r0 xs h).bind _ = _
      rw [ih, List.filter_cons_of_pos hp]
      rfl
    · rw [if_neg hp, ih, List.filter_cons_of_neg hp]
/-! ### the mirrors' words, opened by simp -/
section
variable {r : Rho} {h : MH} {f g k2 : EM} {t u : TM} {a b : AM} {k : T → T → MH → Res T} {k1 : T → MH → Res T} {F G' : SM} {fm : FM} {x y : T} {xs ys : List T} {i n : Nat}
@[simp] theorem s_emOp : emOp k f g r h = (f r h).bind fun x h1 => (g r h1).bind fun y h2 => k x y h2 := rfl
@[simp] theorem s_emCh {k' : T → T → MH → Res T} : emCh k k' f g k2 r h = (f r h).bind fun x h1 => (g r h1).bind fun y h2 => (k x y h2).bind fun z h3 => match z with
  | .bl true => (k2 r h3).bind fun w h4 => k' y w h4
  | .bl false => .ok (.bl false) h3
  | _ => .bad := rfl
@[simp] theorem s_em1 : em1 k1 f r h = (f r h).bind k1 := rfl
@[simp] theorem s_emCall : emCall fm a r h = (a r h).bind fm := rfl
@[simp] theorem s_an : an r h = .ok [] h := rfl
@[simp] theorem s_ac : ac f a r h = (f r h).bind fun x h1 => (a r h1).bind fun xs h2 => .ok (x :: xs) h2 := rfl
@[simp] theorem s_cst : cst x r h = .ok x h := rfl
theorem s_vr (e : r[i]? = some (some x)) : vr i r h = .ok x h := by unfold vr; rw [e]
@[simp] theorem s_vr0 {l : Rho} : vr 0 (some x :: l) h = .ok x h := rfl
@[simp] theorem s_vrS {l : Rho} {o : Option T} : vr (i + 1) (o :: l) h = vr i l h := rfl
@[simp] theorem s_arg (e : xs.length = n) : arg n fm xs h = fm xs h := by unfold arg; rw [if_pos e]
@[simp] theorem s_emT : emT a r h = (a r h).bind tupK := rfl
@[simp] theorem s_emL {kk : List T → MH → Res T} : emL kk a r h = (a r h).bind kk := rfl
@[simp] theorem s_tmOf : tmOf f r h = (f r h).bind isBl := rfl
@[simp] theorem s_isBl {c : Bool} : isBl (.bl c) h = .ok c h := rfl
@[simp] theorem s_tAn : tAn t u r h = (t r h).bind fun c h1 => if c = true then u r h1 else .ok false h1 := rfl
@[simp] theorem s_tOrr : tOrr t u r h = (t r h).bind fun c h1 => if c = true then .ok true h1 else u r h1 := rfl
@[simp] theorem s_tNo : tNo t r h = (t r h).bind fun c h1 => .ok (!c) h1 := rfl
@[simp] theorem s_tYes : tYes r h = .ok true h := rfl
@[simp] theorem s_eAn : eAn f g r h = (f r h).bind fun x h1 => match x with
  | .bl true => g r h1
  | .bl false => .ok (.bl false) h1
  | _ => .bad := rfl
@[simp] theorem s_eOr : eOr f g r h = (f r h).bind fun x h1 => match x with
  | .bl false => g r h1
  | .bl true => .ok (.bl true) h1
  | _ => .bad := rfl
@[simp] theorem s_eNo : eNo f r h = (f r h).bind fun x h1 => match x with
  | .bl b => .ok (.bl (!b)) h1
  | _ => .bad := rfl
@[simp] theorem s_eIf : eIf t f g r h = (t r h).bind fun c h1 => if c = true then f r h1 else g r h1 := rfl
@[simp] theorem s_sSeq : sSeq F G' r h = match F r h with
  | .nx r' h' => G' r' h'
  | o => o := rfl
@[simp] theorem s_sNx : sNx r h = .nx r h := rfl
@[simp] theorem s_sRet : sRet f r h = lift (f r h) r fun x h1 => .ret x h1 := rfl
@[simp] theorem s_sDrop : sDrop f r h = lift (f r h) r fun _ h1 => .nx r h1 := rfl
@[simp] theorem s_sIf : sIf t F G' r h = lift (t r h) r fun b h1 => if b = true then F r h1 else G' r h1 := rfl
@[simp] theorem s_sSet : sSet i f r h = lift (f r h) r fun x h1 => .nx (r.set i (some x)) h1 := rfl
@[simp] theorem s_sFor {it : IM} {gm : GM} : sFor it gm F r h = lift (it r h) r fun p h1 => forS p.2 p.1 gm F p.1 r h1 := rfl
@[simp] theorem s_itE : itE f r h = (f r h).bind itOf := rfl
@[simp] theorem s_itOf_lst : itOf (.lst xs) h = .ok (xs, none) h := rfl
@[simp] theorem s_itOf_tup : itOf (.tup xs) h = .ok (xs, none) h := rfl
@[simp] theorem s_itOf_klst : itOf (.klst xs) h = .ok (xs, none) h := rfl
@[simp] theorem s_gmN : gmN i x r = some (r.set i (some x)) := rfl
@[simp] theorem s_lcM {it : IM} {gm : GM} {kk : List T → MH → Res T} {vs : List Nat} : lcM kk it gm t f vs r h = (it r h).bind fun p h1 => (lcS p.2 p.1 gm t f (wipeR r vs) p.1 h1).bind kk := rfl
@[simp] theorem s_forS0 {src : Src} {all : List T} {gm : GM} : forS src all gm F [] r h = if chk src h = true then .nx r h else .bad := rfl
@[simp] theorem s_forSn {all : List T} : forS none all (gmN i) F (x :: xs) r h = match F (r.set i (some x)) h with
  | .nx r' h' => forS none all (gmN i) F xs r' h'
  | .ct r' h' => forS none all (gmN i) F xs r' h'
  | .bk r' h' => .nx r' h'
  | o => o := rfl
@[simp] theorem s_chk : chk none h = true := rfl
@[simp] theorem s_bindok {α β : Type} {v : α} {q : α → MH → Res β} : (Res.ok v h).bind q = q v h := rfl
@[simp] theorem s_liftok {α : Type} {v : α} {q : α → MH → Fr} : lift (.ok v h) r q = q v h := rfl
@[simp] theorem s_onH {v : T} : onH (.ok v []) h = .ok v h := rfl
@[simp] theorem s_lt {c d : Int} : ltT (.int c) (.int d) h = .ok (.bl (decide (c < d))) h := rfl
@[simp] theorem s_le {c d : Int} : leT (.int c) (.int d) h = .ok (.bl (decide (c ≤ d))) h := rfl
@[simp] theorem s_gt {c d : Int} : gtT (.int c) (.int d) h = .ok (.bl (decide (d < c))) h := rfl
@[simp] theorem s_ge {c d : Int} : geT (.int c) (.int d) h = .ok (.bl (decide (d ≤ c))) h := rfl
@[simp] theorem s_ng {c : Int} : ngT (.int c) h = .ok (.int (-c)) h := rfl
@[simp] theorem s_sub {c d : Int} : subT (.int c) (.int d) h = .ok (.int (c - d)) h := rfl
end
/-- the cells kept, the value told: the end of a def that made none -/
theorem endR_same {h : MH} {x : T} (hx : frW (frL h h.length frD) x = some x) : endR h (.ok x h) = .ok x h := by
  unfold endR
  show (match frz h h.length x with
    | some y => if okH h h = true then Res.ok y (h.take h.length) else .bad
    | none => .bad) = _
  unfold frz
  rw [hx]
  show (if okH h h = true then Res.ok x (h.take h.length) else .bad) = _
  have e : okH h h = true := by
    unfold okH
    rw [List.take_length, beqH_self, Bool.true_or]
  rw [if_pos e, List.take_length]
mutual
/-- no cell at all -/
theorem frW_low : ∀ (g : Nat → Option T) (x : T), low 0 x = true → frW g x = some x
  | _, .non, _ => rfl
  | _, .bl _, _ => rfl
  | _, .int _, _ => rfl
  | _, .str _, _ => rfl
  | _, .ty _, _ => rfl
  | _, .cls _, _ => rfl
  | _, .set _, _ => rfl
  | g, .tup xs, h => by
    show (frWs g xs).map T.tup = _
    rw [frWs_low g xs h]
    rfl
  | g, .ktup xs, h => by
    show (frWs g xs).map T.ktup = _
    rw [frWs_low g xs h]
    rfl
  | g, .lst xs, h => by
    show (frWs g xs).map T.lst = _
    rw [frWs_low g xs h]
    rfl
  | g, .klst xs, h => by
    show (frWs g xs).map T.klst = _
    rw [frWs_low g xs h]
    rfl
  | g, .dK ks xs, h => by
    show (frWs g xs).map (T.dK ks) = _
    rw [frWs_low g xs h]
    rfl
  | g, .dT ks xs, h => by
    show (frWs g xs).map (T.dT ks) = _
    rw [frWs_low g xs h]
    rfl
  | g, .obj c ns xs, h => by
    show (frWs g xs).map (T.obj c ns) = _
    rw [frWs_low g xs h]
    rfl
  | _, .loc n, h => by
    have : n < 0 := Nat.le_of_ble_eq_true h
    exact absurd this (Nat.not_lt_zero n)
theorem frWs_low : ∀ (g : Nat → Option T) (xs : List T), lows 0 xs = true → frWs g xs = some xs
  | _, [], _ => rfl
  | g, x :: xs, h => by
    simp only [lows, Bool.and_eq_true] at h
    unfold frWs
    rw [frW_low g x h.1, frWs_low g xs h.2]
end
/-- a def's end on the empty heap, whatever cells it made: a value that names none -/
theorem endR_nil {x : T} {h' : MH} (hx : low 0 x = true) : endR [] (.ok x h') = .ok x [] := by
  unfold endR
  show (match frz h' 0 x with
    | some y => if okH [] h' = true then Res.ok y (h'.take 0) else .bad
    | none => .bad) = _
  unfold frz
  rw [frW_low _ x hx]
  show (if okH [] h' = true then Res.ok x (h'.take 0) else .bad) = _
  have e : okH [] h' = true := by
    unfold okH
    rw [show h'.take ([] : MH).length = [] from rfl]
    rfl
  rw [if_pos e]
  rfl
theorem low_int (s : List Int) : lows 0 (s.map .int) = true := by
  induction s with
  | nil => rfl
  | cons x s ih => simp only [List.map_cons, lows, low, ih, Bool.and_self]
theorem low_tp (s : List Int) : low 0 (tp s) = true := low_int s
theorem low_ls (s : List Int) : low 0 (ls s) = true := low_int s
theorem lows_tp : ∀ ss : List (List Int), lows 0 (ss.map tp) = true
  | [] => rfl
  | s :: ss => by simp only [List.map_cons, lows, low_tp, lows_tp ss, Bool.and_self]
theorem lows_ls : ∀ ss : List (List Int), lows 0 (ss.map ls) = true
  | [] => rfl
  | s :: ss => by simp only [List.map_cons, lows, low_ls, lows_ls ss, Bool.and_self]
/-- a pure def by its body -/
theorem pur_ret {n : Nat} {b : SM} {xs : List T} {x : T} {h h' : MH} (hl : lows 0 xs = true) (e : b (startR n xs) [] = .ret x h') (hx : low 0 x = true) : pur (reg (fnB n b)) xs h = .ok x h := by
  rw [pur_nil _ _ _ hl]
  unfold reg fnB
  rw [e]
  rw [endR_nil hx]
  rfl
end TW
namespace TW
open PySem PySem.Spec L2

/-! ### answers told by a test, and more words -/
def isOk (r : Res T) (x : T) : Bool := match r with
  | .ok y h => beqT y x && h.isEmpty
  | _ => false
theorem isOk_eq {r : Res T} {x : T} (e : isOk r x = true) : r = .ok x [] := by
  unfold isOk at e
  split at e
  · rename_i y h
    simp only [Bool.and_eq_true, List.isEmpty_iff] at e
    rw [beqT_ok _ _ e.1, e.2]
  · cases e
theorem pur_any {f : FM} {xs : List T} {x : T} {h : MH} (e : pur f xs [] = .ok x []) (hl : lows 0 xs = true) : pur f xs h = .ok x h := by
  rw [pur_nil _ _ _ hl] at e ⊢
  cases q : f xs [] with
  | ok v h1 =>
    rw [q] at e
    cases h1 with
    | nil => cases e; rfl
    | cons a t => cases e
  | exc c fs h1 =>
    rw [q] at e
    cases h1 <;> cases e
  | bad => rw [q] at e; cases e
theorem pur_is {f : FM} {xs : List T} {x : T} {h : MH} (e : isOk (pur f xs []) x = true) (hl : lows 0 xs = true) : pur f xs h = .ok x h := pur_any (isOk_eq e) hl
section
variable {h : MH} {s t : List Int} {xs ys : List T} {i j : Int}
@[simp] theorem w_tp_ls : lsOf h (tp s) = none := rfl
@[simp] theorem w_tp_tp : tpOf (tp s) = some (s.map .int) := rfl
@[simp] theorem w_ls_ls : lsOf h (ls s) = some (s.map .int) := rfl
@[simp] theorem w_tts_tp {ss : List (List Int)} : tpOf (tts ss) = some (ss.map tp) := rfl
@[simp] theorem w_tts_ls {ss : List (List Int)} : lsOf h (tts ss) = none := rfl
@[simp] theorem w_lts_ls {ss : List (List Int)} : lsOf h (lts ss) = some (ss.map tp) := rfl
@[simp] theorem w_lls_ls {ss : List (List Int)} : lsOf h (lls ss) = some (ss.map ls) := rfl
@[simp] theorem w_lst : lsOf h (.lst xs) = some xs := rfl
theorem w_tupK (hl : xs.length ≤ sizeLine) : tupK xs h = .ok (.tup xs) h := if_pos hl
theorem w_lstK (hl : xs.length ≤ sizeLine) : lstK xs h = .ok (.lst xs) h := if_pos hl
theorem w_lstL (hl : xs.length ≤ sizeLine) : lstL xs h = .ok (.loc h.length) (h ++ [.lst xs]) := if_pos hl
theorem w_tupF_lst : tupF [.lst xs] h = .ok (.tup xs) h := rfl
theorem mapO_inOf : ∀ s : List Int, mapO inOf (s.map T.int) = some s
  | [] => rfl
  | x :: s => by
    have e : inOf (T.int x) = some x := rfl
    simp only [List.map_cons, mapO, e, mapO_inOf s]
theorem sortI_len (s : List Int) : (sortI s).length = s.length := (sortI_perm s).length_eq
theorem mem_sortI {x : Int} {s : List Int} : x ∈ sortI s ↔ x ∈ s := (sortI_perm s).mem_iff
theorem w_sort_ls (hl : s.length ≤ sizeLine) : sortF lstK [ls s] h = .ok (ls (sortI s)) h := by
  show (match soOf h (ls s) with
    | some ns => lstK ((sortI ns).map T.int) h
    | none => .bad) = _
  rw [show soOf h (ls s) = some s from mapO_inOf s]
  exact w_lstK (by rw [List.length_map, sortI_len]; exact hl)
theorem w_sort_tp (hl : s.length ≤ sizeLine) : sortF lstK [tp s] h = .ok (ls (sortI s)) h := by
  show (match soOf h (tp s) with
    | some ns => lstK ((sortI ns).map T.int) h
    | none => .bad) = _
  rw [show soOf h (tp s) = some s from mapO_inOf s]
  exact w_lstK (by rw [List.length_map, sortI_len]; exact hl)
theorem w_ad_tp (hl : s.length + t.length ≤ sizeLine) : adT lstK (tp s) (tp t) h = .ok (tp (s ++ t)) h := by
  show (if (s.map T.int).length + (t.map T.int).length ≤ sizeLine then Res.ok (T.tup (s.map T.int ++ t.map T.int)) h else .bad) = _
  rw [if_pos (by simpa using hl), ← List.map_append]
  rfl
@[simp] theorem w_ad_int {k : List T → MH → Res T} : adT k (.int i) (.int j) h = .ok (.int (i + j)) h := rfl
theorem w_len_tp : lenF [tp s] h = .ok (.int s.length) h := by
  show (match lnOf h (tp s) with
    | some n => Res.ok (T.int n) h
    | none => .bad) = _
  rw [show lnOf h (tp s) = some (s.map T.int).length from rfl, List.length_map]
theorem w_len_lst : lenF [.lst xs] h = .ok (.int xs.length) h := rfl
theorem w_len_tup : lenF [.tup xs] h = .ok (.int xs.length) h := rfl
theorem atI_nat {α : Type} {xs : List α} {n : Nat} {z : α} (e : xs[n]? = some z) : atI xs (n : Int) = some z := by
  unfold atI
  have hn : n < xs.length := (List.getElem?_eq_some_iff.mp e).1
  have q : ixN xs.length (n : Int) = some n := by
    unfold ixN
    simp [hn]
  rw [q]
  exact e
theorem w_ix_lst {n : Nat} {z : T} (e : xs[n]? = some z) : ixT (.lst xs) (.int n) h = .ok z h := by
  show (match atI xs (n : Int) with
    | some z => Res.ok z h
    | none => .bad) = _
  rw [atI_nat e]
theorem w_ix_tup {n : Nat} {z : T} (e : xs[n]? = some z) : ixT (.tup xs) (.int n) h = .ok z h := by
  show (match atI xs (n : Int) with
    | some z => Res.ok z h
    | none => .bad) = _
  rw [atI_nat e]
theorem w_in_tp {neg : Bool} : inT neg (.int i) (tp s) h = .ok (.bl (if neg = true then !decide (i ∈ s) else decide (i ∈ s))) h := inT_of h (in_tp h i s)
theorem w_in_tts {neg : Bool} {ss : List (List Int)} : inT neg (tp s) (tts ss) h = .ok (.bl (if neg = true then !decide (s ∈ ss) else decide (s ∈ ss))) h := inT_of h (in_tts h s ss)
theorem w_in_lts {neg : Bool} {ss : List (List Int)} : inT neg (tp s) (lts ss) h = .ok (.bl (if neg = true then !decide (s ∈ ss) else decide (s ∈ ss))) h := inT_of h (in_lts h s ss)
/-- a row that is walked with a test, ints told by ints -/
theorem lc_ints {xs' : List T} {k : Nat} {tt : TM} {r0 : Rho} (p : Int → Bool) (hk : k < r0.length) (ht : ∀ x : Int, x ∈ s → tt (r0.set k (some (.int x))) h = .ok (p x) h) : lcS none xs' (gmN k) tt (vr k) r0 (s.map .int) h = .ok ((s.filter p).map .int) h := by
  rw [lc_pure (p := fun x => match x with | .int i => p i | _ => false) (f := id)]
  · rw [List.map_id, List.filter_map]
    rfl
  · intro x hx
    obtain ⟨i, hi, rfl⟩ := List.mem_map.mp hx
    exact ht i hi
  · intro x hx _
    refine s_vr ?_
    rw [List.getElem?_set_self hk]
    rfl
theorem lc_tups {ss : List (List Int)} {xs' : List T} {k : Nat} {tt : TM} {r0 : Rho} (p : List Int → Bool) (hk : k < r0.length) (ht : ∀ x : List Int, x ∈ ss → tt (r0.set k (some (tp x))) h = .ok (p x) h) : lcS none xs' (gmN k) tt (vr k) r0 (ss.map tp) h = .ok ((ss.filter p).map tp) h := by
  have inj : ∀ x y : List Int, tp x = tp y → x = y := fun x y e => by
    have q : x.map T.int = y.map T.int := by injection e
    exact (List.map_inj_right (fun a b e => by injection e)).mp q
  have : ∃ P : T → Bool, ∀ x : List Int, P (tp x) = p x := ⟨fun x => match x with
    | .tup xs => (match mapO inOf xs with
      | some s => p s
      | none => false)
    | _ => false, fun x => by
      show (match mapO inOf (x.map T.int) with
        | some s => p s
        | none => false) = _
      rw [mapO_inOf]⟩
  obtain ⟨P, hP⟩ := this
  rw [lc_pure (p := P) (f := id)]
  · rw [List.map_id, List.filter_map]
    congr 2
    refine congrFun (congrArg _ (funext fun x => ?_)) _
    exact hP x
  · intro x hx
    obtain ⟨i, hi, rfl⟩ := List.mem_map.mp hx
    rw [hP]
    exact ht i hi
  · intro x hx _
    refine s_vr ?_
    rw [List.getElem?_set_self hk]
    rfl
/-! dicts by tuples -/
def keyL (s : List Int) : List Key := s.map .inl
theorem keyL_inj {s t : List Int} (e : keyL s = keyL t) : s = t := (List.map_inj_right (fun a b e => by injection e)).mp e
theorem kys_tp (s : List Int) : kysOf (tp s) = some (keyL s) := by
  show mapO kyOf (s.map T.int) = _
  induction s with
  | nil => rfl
  | cons x s ih =>
    have e : kyOf (T.int x) = some (.inl x) := rfl
    simp only [List.map_cons, mapO, e, ih]
    rfl
theorem look_map {f : List Int → T} : ∀ {ss : List (List Int)} {s : List Int}, s ∈ ss → look ((ss.map keyL).zip (ss.map f)) (keyL s) = some (f s)
  | [], _, h => (nomatch h)
  | a :: ss, s, h => by
    simp only [List.map_cons, List.zip_cons_cons, look]
    by_cases e : keyL a = keyL s
    · rw [if_pos e, keyL_inj e]
    · rw [if_neg e]
      rcases List.mem_cons.mp h with rfl | h
      · exact absurd rfl e
      · exact look_map h
theorem w_ix_dT {f : List Int → T} {ss : List (List Int)} {s : List Int} (hs : s ∈ ss) : ixT (.dT (ss.map keyL) (ss.map f)) (tp s) h = .ok (f s) h := by
  show (match dGet h (.dT (ss.map keyL) (ss.map f)) (tp s) with
    | some (some z) => Res.ok z h
    | _ => .bad) = _
  have e : dGet h (.dT (ss.map keyL) (ss.map f)) (tp s) = some (some (f s)) := by
    unfold dGet
    rw [show dkOf h (.dT (ss.map keyL) (ss.map f)) = none from rfl]
    show (match dtOf h (.dT (ss.map keyL) (ss.map f)), kysOf (tp s) with
    | some kvs, some j => some (look kvs j)
    | _, _ => none) = _
    rw [kys_tp]
    show some (look _ _) = _
    rw [look_map hs]
  rw [e]
end
end TW
namespace TW
open PySem PySem.Spec L2

/-! ### statement by statement -/
def thn (f : Fr) (G : SM) : Fr := match f with
  | .nx r h => G r h
  | o => o
/-- what a flow is asked -/
def Wp (f : Fr) (D : Fr → Prop) : Prop := D f
section
variable {F G' : SM} {r r0 : Rho} {h h0 : MH} {D : Fr → Prop} {α : Type} {enc : α → T}
theorem Wp.seq (k : ∀ fr, F r h = fr → Wp (thn fr G') D) : Wp (sSeq F G' r h) D := k _ rfl
theorem Wp.run (k : ∀ fr, F r h = fr → D fr) : Wp (F r h) D := k _ rfl
@[simp] theorem thn_nx : thn (.nx r h) G' = G' r h := id rfl
@[simp] theorem thn_ret {x : T} : thn (.ret x h) G' = .ret x h := id rfl
theorem wp_iff {f : Fr} : Wp f D = D f := rfl
/-- slots S put otherwise -/
def setS (r : Rho) : List Nat → (Nat → Option T) → Rho
  | [], _ => r
  | i :: S, y => setS (r.set i (y i)) S y
theorem set_own : ∀ (r : Rho) (i : Nat), r.set i (r.getD i none) = r
  | [], _ => rfl
  | _ :: _, 0 => rfl
  | x :: r, i + 1 => by
    show x :: r.set i (r.getD i none) = _
    rw [set_own r i]
theorem setS_own (r : Rho) (S : List Nat) : setS r S (fun i => r.getD i none) = r := by
  suffices ∀ (S : List Nat) (q : Rho), q = r → setS q S (fun i => r.getD i none) = r from this S r rfl
  intro S
  induction S with
  | nil => intro q e; exact e
  | cons i S ih =>
    intro q e
    subst e
    show setS (q.set i (q.getD i none)) S _ = q
    rw [set_own]
    exact ih q rfl
/-- a for over values, told by an invariant over what is done, the slots S, the heap; a turn may end all by a return -/
theorem forS_inv {gm : GM} {all : List T} {B : SM} (S : List Nat) (I : List α → (Nat → Option T) → MH → Prop) (up : α → Rho → Rho) (D : Fr → Prop) (hgm : ∀ a r, gm (enc a) r = some (up a r)) :
    ∀ (post pre : List α) (y : Nat → Option T) (h : MH), I pre y h →
      (∀ pre' a post' y h, pre ++ post = pre' ++ a :: post' → I pre' y h → Wp (B (up a (setS r0 S y)) h) (fun fr => (∃ y' h', fr = .nx (setS r0 S y') h' ∧ I (pre' ++ [a]) y' h') ∨ ∃ x h', fr = .ret x h' ∧ D (.ret x h'))) →
      (∀ y h, I (pre ++ post) y h → D (.nx (setS r0 S y) h)) → D (forS none all gm B (post.map enc) (setS r0 S y) h)
  | [], pre, y, h, hI, _, hE => by
    have := hE y h (by rw [List.append_nil]; exact hI)
    exact this
  | a :: post, pre, y, h, hI, hB, hE => by
    have hb := hB pre a post y h rfl hI
    unfold Wp at hb
    show D (match gm (enc a) (setS r0 S y) with
      | some r1 => (match B r1 h with
        | .nx r' h' => forS none all gm B (post.map enc) r' h'
        | .ct r' h' => forS none all gm B (post.map enc) r' h'
        | .bk r' h' => .nx r' h'
        | o => o)
      | none => .bad)
    rw [hgm]
    simp only []
    rcases hb with ⟨y', h', e, hI'⟩ | ⟨x, h', e, hd⟩
    · rw [e]
      refine forS_inv S I up D hgm post (pre ++ [a]) y' h' hI' (fun pre' b post' y h e2 i2 => hB pre' b post' y h ?_ i2) (fun y h i2 => hE y h ?_)
      · rw [← e2, List.append_assoc]; rfl
      · have : (pre ++ [a]) ++ post = pre ++ a :: post := by rw [List.append_assoc]; rfl
        rw [← this]
        exact i2
    · rw [e]
      exact hd
theorem Wp.forG {it : IM} {gm : GM} {B : SM} (S : List Nat) (I : List α → (Nat → Option T) → MH → Prop) (up : α → Rho → Rho) {xs : List α} {h1 : MH} (e : it r h = .ok (xs.map enc, none) h1)
    (hgm : ∀ a r, gm (enc a) r = some (up a r)) (hI : I [] (fun i => r.getD i none) h1)
    (hB : ∀ pre a post y h, xs = pre ++ a :: post → I pre y h → Wp (B (up a (setS r S y)) h) (fun fr => (∃ y' h', fr = .nx (setS r S y') h' ∧ I (pre ++ [a]) y' h') ∨ ∃ x h', fr = .ret x h' ∧ D (.ret x h')))
    (hE : ∀ y h, I xs y h → Wp (G' (setS r S y) h) D) : Wp (sSeq (sFor it gm B) G' r h) D := by
  have q := forS_inv (r0 := r) (enc := enc) (gm := gm) (all := xs.map enc) (B := B) S I up (fun fr => D (thn fr G')) hgm xs [] (fun i => r.getD i none) h1 hI hB hE
  rw [setS_own] at q
  show D (match lift (it r h) r fun p h1 => forS p.2 p.1 gm B p.1 r h1 with
    | .nx r' h' => G' r' h'
    | o => o)
  rw [e]
  exact q
/-- for x in values -/
theorem Wp.for_ {it : IM} {k : Nat} {B : SM} (S : List Nat) (I : List α → (Nat → Option T) → MH → Prop) {xs : List α} {h1 : MH} (e : it r h = .ok (xs.map enc, none) h1) (hI : I [] (fun i => r.getD i none) h1)
    (hB : ∀ pre a post y h, xs = pre ++ a :: post → I pre y h → Wp (B ((setS r S y).set k (some (enc a))) h) (fun fr => (∃ y' h', fr = .nx (setS r S y') h' ∧ I (pre ++ [a]) y' h') ∨ ∃ x h', fr = .ret x h' ∧ D (.ret x h')))
    (hE : ∀ y h, I xs y h → Wp (G' (setS r S y) h) D) : Wp (sSeq (sFor it (gmN k) B) G' r h) D :=
  Wp.forG S I (fun a r => r.set k (some (enc a))) e (fun _ _ => rfl) hI hB hE
/-- one that only puts slots otherwise -/
theorem Wp.forK {it : IM} {k : Nat} {B : SM} (S : List Nat) {xs : List α} {h1 : MH} (e : it r h = .ok (xs.map enc, none) h1)
    (hB : ∀ a ∈ xs, ∀ y, Wp (B ((setS r S y).set k (some (enc a))) h1) (fun fr => ∃ y', fr = .nx (setS r S y') h1))
    (hE : ∀ y, Wp (G' (setS r S y) h1) D) : Wp (sSeq (sFor it (gmN k) B) G' r h) D :=
  Wp.for_ S (fun _ _ h => h = h1) e rfl (fun pre a post y h ex hh => by
    subst hh
    obtain ⟨y', e'⟩ := hB a (by rw [ex]; simp) y
    exact .inl ⟨y', _, e', rfl⟩) (fun y h hh => by subst hh; exact hE y)
theorem sFor_last {it : IM} {gm : GM} {B : SM} (k : Wp (sSeq (sFor it gm B) sNx r h) D) : Wp (sFor it gm B r h) D := by
  have : sSeq (sFor it gm B) sNx r h = sFor it gm B r h := by
    rw [s_sSeq]
    cases sFor it gm B r h <;> rfl
  rw [this] at k
  exact k
/-- the end of a turn -/
theorem turn {S : List Nat} {I : List α → (Nat → Option T) → MH → Prop} {pre : List α} {r' : Rho} (hr : r' = setS r0 S (fun i => r'.getD i none)) (hI : I pre (fun i => r'.getD i none) h) {Q : Prop} :
    (∃ y' h', Fr.nx r' h = .nx (setS r0 S y') h' ∧ I pre y' h') ∨ Q := .inl ⟨_, h, by rw [← hr], hI⟩
theorem turnK {S : List Nat} {r' : Rho} (hr : r' = setS r0 S (fun i => r'.getD i none)) : ∃ y', Fr.nx r' h = .nx (setS r0 S y') h := ⟨_, by rw [← hr]⟩
/-- while: a bound that falls -/
theorem whS_inv {t : TM} {B : SM} (S : List Nat) (I : Nat → (Nat → Option T) → MH → Prop) (D : Fr → Prop)
    (hB : ∀ k y h, I k y h → (∃ h1, t (setS r0 S y) h = .ok false h1 ∧ D (.nx (setS r0 S y) h1)) ∨ ∃ h1, t (setS r0 S y) h = .ok true h1 ∧ Wp (B (setS r0 S y) h1) (fun fr => (∃ y' h' j, fr = .nx (setS r0 S y') h' ∧ j < k ∧ I j y' h') ∨ ∃ x h', fr = .ret x h' ∧ D (.ret x h'))) :
    ∀ (fuel k : Nat) (y : Nat → Option T) (h : MH), k < fuel → I k y h → D (whS t B fuel (setS r0 S y) h)
  | 0, k, _, _, hk, _ => absurd hk (Nat.not_lt_zero k)
  | fuel + 1, k, y, h, hk, hI => by
    show D (lift (t (setS r0 S y) h) (setS r0 S y) fun b h1 => if b = true then (match B (setS r0 S y) h1 with
      | .nx r' h' => whS t B fuel r' h'
      | .ct r' h' => whS t B fuel r' h'
      | .bk r' h' => .nx r' h'
      | o => o) else .nx (setS r0 S y) h1)
    rcases hB k y h hI with ⟨h1, e, d⟩ | ⟨h1, e, w⟩
    · rw [e]
      exact d
    · rw [e]
      show D (match B (setS r0 S y) h1 with
        | .nx r' h' => whS t B fuel r' h'
        | .ct r' h' => whS t B fuel r' h'
        | .bk r' h' => .nx r' h'
        | o => o)
      rcases w with ⟨y', h', j, e2, hj, hI'⟩ | ⟨x, h', e2, d⟩
      · rw [e2]
        exact whS_inv S I D hB fuel j y' h' (by omega) hI'
      · rw [e2]
        exact d
theorem Wp.wh {t : TM} {B : SM} {fuel : Nat} (S : List Nat) (I : Nat → (Nat → Option T) → MH → Prop) (k : Nat) (hk : k < fuel) (hI : I k (fun i => r.getD i none) h)
    (hB : ∀ k y h, I k y h → (∃ h1, t (setS r S y) h = .ok false h1 ∧ Wp (G' (setS r S y) h1) D) ∨ ∃ h1, t (setS r S y) h = .ok true h1 ∧ Wp (B (setS r S y) h1) (fun fr => (∃ y' h' j, fr = .nx (setS r S y') h' ∧ j < k ∧ I j y' h') ∨ ∃ x h', fr = .ret x h' ∧ D (.ret x h'))) :
    Wp (sSeq (whS t B fuel) G' r h) D := by
  have q := whS_inv (r0 := r) (t := t) (B := B) S I (fun fr => D (thn fr G')) hB fuel k (fun i => r.getD i none) h hk hI
  rw [setS_own] at q
  exact q
/-- a comprehension over values -/
theorem lcE {it : IM} {k : Nat} {tt : TM} {te : EM} {vs : List Nat} {xs : List α} (p : α → Bool) (f : α → T) (e : it r h = .ok (xs.map enc, none) h) (hl : xs.length ≤ 10000)
    (ht : ∀ x ∈ xs, tt ((wipeR r vs).set k (some (enc x))) h = .ok (p x) h) (he : ∀ x ∈ xs, p x = true → te ((wipeR r vs).set k (some (enc x))) h = .ok (f x) h) :
    lcM lstK it (gmN k) tt te vs r h = .ok (.lst ((xs.filter p).map f)) h := by
  rw [s_lcM, e]
  show (lcS none (xs.map enc) (gmN k) tt te (wipeR r vs) (xs.map enc) h).bind lstK = _
  have : ∀ zs : List α, (∀ x ∈ zs, x ∈ xs) → lcS none (xs.map enc) (gmN k) tt te (wipeR r vs) (zs.map enc) h = .ok ((zs.filter p).map f) h := by
    intro zs
    induction zs with
    | nil => intro _; unfold lcS; rfl
    | cons z zs ih =>
      intro hz
      have ih := ih fun x hx => hz x (List.mem_cons_of_mem _ hx)
      have h1 := ht z (hz z List.mem_cons_self)
      have h2 := he z (hz z List.mem_cons_self)
      rw [List.map_cons]
      unfold lcS
      rw [if_pos (chk_none h)]
      show (calm (tt ((wipeR r vs).set k (some (enc z))) h)).bind _ = _
      rw [h1]
      show (if p z = true then _ else _) = _
      by_cases hp : p z = true
      · rw [if_pos hp, h2 hp]
        show (lcS none (xs.map enc) (gmN k) tt te (wipeR r vs) (zs.map enc) h).bind _ = _
        rw [ih, List.filter_cons_of_pos hp]
        rfl
      · rw [if_neg hp, ih, List.filter_cons_of_neg hp]
  rw [this xs fun _ h => h]
  refine w_lstK ?_
  rw [List.length_map]
  exact Nat.le_trans (List.length_filter_le _ _) (Nat.le_trans hl (by decide))
/-- a def by its body, on the empty heap -/
theorem pur_wp {n : Nat} {b : SM} {xs : List T} {x : T} {h : MH} (hl : lows 0 xs = true) (hx : low 0 x = true) (e : Wp (b (startR n xs) []) (fun fr => ∃ h', fr = .ret x h')) : pur (reg (fnB n b)) xs h = .ok x h := by
  obtain ⟨h', e⟩ := e
  exact pur_ret hl e hx
theorem pur_wpN {n : Nat} {b : SM} {xs : List T} {h : MH} (hl : lows 0 xs = true) (e : Wp (b (startR n xs) []) (fun fr => ∃ r h', fr = .nx r h')) : pur (reg (fnB n b)) xs h = .ok .non h := by
  obtain ⟨r, h', e⟩ := e
  rw [pur_nil _ _ _ hl]
  unfold reg fnB
  rw [e]
  rw [endR_nil rfl]
  rfl
end
section
variable {h : MH} {s t : List Int} {ss : List (List Int)} {i j : Int}
@[simp] theorem W_in_tp {neg : Bool} : inT neg (.int i) (tp s) h = .ok (.bl (if neg = true then !decide (i ∈ s) else decide (i ∈ s))) h := w_in_tp
@[simp] theorem W_in_ls {neg : Bool} : inT neg (.int i) (ls s) h = .ok (.bl (if neg = true then !decide (i ∈ s) else decide (i ∈ s))) h := inT_of h (in_ls h i s)
@[simp] theorem W_in_tts {neg : Bool} : inT neg (tp s) (tts ss) h = .ok (.bl (if neg = true then !decide (s ∈ ss) else decide (s ∈ ss))) h := w_in_tts
@[simp] theorem W_in_lts {neg : Bool} : inT neg (tp s) (lts ss) h = .ok (.bl (if neg = true then !decide (s ∈ ss) else decide (s ∈ ss))) h := w_in_lts
@[simp] theorem W_eq_int : eqT (.int i) (.int j) h = .ok (.bl (decide (i = j))) h := eq_int h i j
@[simp] theorem W_ne_int : neT (.int i) (.int j) h = .ok (.bl (!decide (i = j))) h := ne_int h i j
@[simp] theorem W_eq_tp : eqT (tp s) (tp t) h = .ok (.bl (decide (s = t))) h := eq_tp h s t
@[simp] theorem W_ne_tp : neT (tp s) (tp t) h = .ok (.bl (!decide (s = t))) h := ne_tp h s t
@[simp] theorem W_eq_tts {us : List (List Int)} : eqT (tts ss) (tts us) h = .ok (.bl (decide (ss = us))) h := eq_tts h ss us
@[simp] theorem W_ne_tts {us : List (List Int)} : neT (tts ss) (tts us) h = .ok (.bl (!decide (ss = us))) h := ne_tts h ss us
@[simp] theorem W_eq_lts {us : List (List Int)} : eqT (lts ss) (lts us) h = .ok (.bl (decide (ss = us))) h := eq_lts h ss us
@[simp] theorem W_ne_lts {us : List (List Int)} : neT (lts ss) (lts us) h = .ok (.bl (!decide (ss = us))) h := ne_lts h ss us
@[simp] theorem W_eq_ls0 : eqT (ls s) (.lst []) h = .ok (.bl (decide (s = []))) h := eq_ls h s []
@[simp] theorem W_ne_ls0 : neT (ls s) (.lst []) h = .ok (.bl (!decide (s = []))) h := ne_ls h s []
@[simp] theorem W_eq_lts0 : eqT (lts ss) (.lst []) h = .ok (.bl (decide (ss = []))) h := eq_lts h ss []
@[simp] theorem W_ne_lts0 : neT (lts ss) (.lst []) h = .ok (.bl (!decide (ss = []))) h := ne_lts h ss []
@[simp] theorem W_eq_tp0 : eqT (tp s) (.tup []) h = .ok (.bl (decide (s = []))) h := eq_tp h s []
@[simp] theorem W_ne_tp0 : neT (tp s) (.tup []) h = .ok (.bl (!decide (s = []))) h := ne_tp h s []
@[simp] theorem W_eq_tts0 : eqT (tts ss) (.tup []) h = .ok (.bl (decide (ss = []))) h := eq_tts h ss []
@[simp] theorem W_ne_tts0 : neT (tts ss) (.tup []) h = .ok (.bl (!decide (ss = []))) h := ne_tts h ss []
theorem ne_bool {a b : Bool} : neT (.bl a) (.bl b) h = .ok (.bl (!decide (a = b))) h := by
  cases a <;> cases b <;> rfl
@[simp] theorem W_ne_bl {a b : Bool} : neT (.bl a) (.bl b) h = .ok (.bl (!decide (a = b))) h := ne_bool
theorem eq_bool {a b : Bool} : eqT (.bl a) (.bl b) h = .ok (.bl (decide (a = b))) h := by
  cases a <;> cases b <;> rfl
@[simp] theorem W_eq_bl {a b : Bool} : eqT (.bl a) (.bl b) h = .ok (.bl (decide (a = b))) h := eq_bool
@[simp] theorem W_lst0 : lstK [] h = .ok (.lst []) h := rfl
@[simp] theorem W_tup0 : tupK [] h = .ok (.tup []) h := rfl
@[simp] theorem W_lst1 {a : T} : lstK [a] h = .ok (.lst [a]) h := rfl
@[simp] theorem W_lst2 {a b : T} : lstK [a, b] h = .ok (.lst [a, b]) h := rfl
@[simp] theorem W_lst3 {a b c : T} : lstK [a, b, c] h = .ok (.lst [a, b, c]) h := rfl
@[simp] theorem W_tup1 {a : T} : tupK [a] h = .ok (.tup [a]) h := rfl
@[simp] theorem W_tup2 {a b : T} : tupK [a, b] h = .ok (.tup [a, b]) h := rfl
@[simp] theorem W_tup3 {a b c : T} : tupK [a, b, c] h = .ok (.tup [a, b, c]) h := rfl
@[simp] theorem W_tup4 {a b c d : T} : tupK [a, b, c, d] h = .ok (.tup [a, b, c, d]) h := rfl
@[simp] theorem W_tupF_lst {xs : List T} : tupF [.lst xs] h = .ok (.tup xs) h := rfl
@[simp] theorem W_ix0 {a : T} {xs : List T} : ixT (.lst (a :: xs)) (.int 0) h = .ok a h := w_ix_lst (n := 0) rfl
@[simp] theorem W_ix1 {a b : T} {xs : List T} : ixT (.lst (a :: b :: xs)) (.int 1) h = .ok b h := w_ix_lst (n := 1) rfl
@[simp] theorem W_ix2 {a b c : T} {xs : List T} : ixT (.lst (a :: b :: c :: xs)) (.int 2) h = .ok c h := w_ix_lst (n := 2) rfl
@[simp] theorem W_jx0 {a : T} {xs : List T} : ixT (.tup (a :: xs)) (.int 0) h = .ok a h := w_ix_tup (n := 0) rfl
@[simp] theorem W_jx1 {a b : T} {xs : List T} : ixT (.tup (a :: b :: xs)) (.int 1) h = .ok b h := w_ix_tup (n := 1) rfl
@[simp] theorem W_jx2 {a b c : T} {xs : List T} : ixT (.tup (a :: b :: c :: xs)) (.int 2) h = .ok c h := w_ix_tup (n := 2) rfl
@[simp] theorem W_start {n : Nat} {xs : List T} : startR n xs = xs.map some ++ List.replicate (n - xs.length) none := rfl
@[simp] theorem W_par2 {i j : Nat} {a : AM} {r : Rho} : sPar2 i j a r h = lift (a r h) r fun xs h1 => match xs with
  | [x, y] => .nx ((r.set i (some x)).set j (some y)) h1
  | _ => .bad := rfl
@[simp] theorem W_wipe0 {r : Rho} : wipeR r [] = r := rfl
theorem iso_bl {x : T} {b c : Bool} : isNT b (.bl c) x h = isNT b (.bl c) x h := rfl
/-- a set of a tuple, sorted, as a tuple -/
def uni (s t : List Int) : List Int := sortI (onceI (s ++ t))
theorem mem_uni {s t : List Int} {x : Int} : x ∈ uni s t ↔ x ∈ s ∨ x ∈ t := by
  unfold uni
  rw [mem_sortI, mem_onceI, List.mem_append]
theorem onceI_len : ∀ s : List Int, (onceI s).length ≤ s.length
  | [] => Nat.le_refl _
  | x :: s => by
    unfold onceI
    have := onceI_len s
    split
    · exact Nat.le_succ_of_le this
    · simp only [List.length_cons]; omega
theorem w_set (hl : s.length < 63) : setF [tp s] h = .ok (.set s) h := by
  show (match mapO inOf (s.map T.int) with
    | some ns => if ns.length + 1 < scanBound then Res.ok (T.set ns) h else .bad
    | none => .bad) = _
  rw [mapO_inOf]
  exact if_pos (Nat.lt_of_lt_of_le (show s.length + 1 < 64 by omega) (by decide))
theorem w_sort_set (hl : s.length < 63) : sortF lstK [.set s] h = .ok (ls (sortI (onceI s))) h := by
  show (match (if s.length < 64 then some (onceI s) else none) with
    | some ns => lstK ((sortI ns).map T.int) h
    | none => .bad) = _
  rw [if_pos (by omega)]
  refine w_lstK ?_
  rw [List.length_map, sortI_len]
  exact Nat.le_trans (onceI_len s) (Nat.le_trans (Nat.le_of_lt hl) (by decide))
@[simp] theorem W_tupF_ls : tupF [ls s] h = .ok (tp s) h := rfl
@[simp] theorem W_tupF_lts : tupF [lts ss] h = .ok (tts ss) h := rfl
@[simp] theorem W_itOf_ls : itOf (ls s) h = .ok (s.map .int, none) h := rfl
@[simp] theorem W_itOf_tp : itOf (tp s) h = .ok (s.map .int, none) h := rfl
@[simp] theorem W_itOf_lts : itOf (lts ss) h = .ok (ss.map tp, none) h := rfl
@[simp] theorem W_itOf_tts : itOf (tts ss) h = .ok (ss.map tp, none) h := rfl
@[simp] theorem W_itOf_lls : itOf (lls ss) h = .ok (ss.map ls, none) h := rfl
/-- together, of two short rows -/
theorem w_uni (hl : s.length + t.length < 63) : (((adT lstK (tp s) (tp t) h).bind fun x h1 => .ok [x] h1).bind setF) = .ok (T.set (s ++ t)) h := by
  rw [w_ad_tp (Nat.le_trans (Nat.le_of_lt hl) (by decide))]
  show setF [tp (s ++ t)] h = _
  exact w_set (by rw [List.length_append]; omega)
/-! targets, methods, more walks -/
section
variable {r : Rho} {g : GM} {gs : GMs} {x y : T} {xs l t : List T} {f : EM} {a : AM} {n k : Nat} {kk : List T → MH → Res T}
@[simp] theorem s_sAsg : sAsg g f r h = lift (f r h) r fun x h1 => match g x r with
  | some r' => .nx r' h1
  | none => .bad := rfl
@[simp] theorem s_gmT : gmT n gs (.tup xs) r = if xs.length = n then gs xs r else none := rfl
@[simp] theorem s_gmCons : gmCons g gs (x :: xs) r = match g x r with
  | some r' => gs xs r'
  | none => none := rfl
@[simp] theorem s_emCallK {n j : Nat} {o : List T → List T → List T} {fm : FM} {b : AM} : emCallK n j o fm a b r h = (a r h).bind fun xs h1 => (b r h1).bind fun zs h2 => if xs.length = n ∧ zs.length = j then fm (o xs zs) h2 else .bad := rfl
@[simp] theorem s_isbl {neg b c : Bool} : isNT neg (.bl b) (.bl c) h = .ok (.bl (if neg = true then !decide (b = c) else decide (b = c))) h := rfl
@[simp] theorem s_isnon {neg : Bool} : isNT neg .non .non h = .ok (.bl (!neg)) h := rfl
@[simp] theorem s_istup {neg : Bool} : isNT neg (.tup xs) .non h = .ok (.bl neg) h := rfl
@[simp] theorem s_par3 {i j l : Nat} : sPar3 i j l a r h = lift (a r h) r fun xs h1 => match xs with
  | [x, y, z] => .nx (((r.set i (some x)).set j (some y)).set l (some z)) h1
  | _ => .bad := rfl
@[simp] theorem s_emSl {lo hi : PM} : emSl kk f lo hi r h = (f r h).bind fun x h1 => (lo r h1).bind fun l h2 => (hi r h2).bind fun u h3 => slT kk x l u h3 := rfl
@[simp] theorem s_pNo : pNo r h = .ok none h := rfl
@[simp] theorem s_pSo {i : Int} : pSo (cst (.int i)) r h = .ok (some i) h := rfl
@[simp] theorem s_gmNil : gmNil [] r = some r := rfl
@[simp] theorem s_emBm {ty : String} {m : GMt} : emBm ty m f a r h = (f r h).bind fun x h1 => if isTy ty h1 x = true then (a r h1).bind fun xs h2 => m x xs h2 else .bad := rfl
@[simp] theorem t_ls0 {o : MH} : isTy "list" (.lst l :: o) (.loc 0) = true := rfl
@[simp] theorem t_ls1 {o1 : MO} {o : MH} : isTy "list" (o1 :: .lst l :: o) (.loc 1) = true := rfl
@[simp] theorem t_ls2 {o1 o2 : MO} {o : MH} : isTy "list" (o1 :: o2 :: .lst l :: o) (.loc 2) = true := rfl
@[simp] theorem t_ls3 {o1 o2 o3 : MO} {o : MH} : isTy "list" (o1 :: o2 :: o3 :: .lst l :: o) (.loc 3) = true := rfl
@[simp] theorem t_ls4 {o1 o2 o3 o4 : MO} {o : MH} : isTy "list" (o1 :: o2 :: o3 :: o4 :: .lst l :: o) (.loc 4) = true := rfl
theorem ap0 {o : MH} (hl : l.length ≤ 100000) : apT (.loc 0) [y] (.lst l :: o) = .ok .non (.lst (l ++ [y]) :: o) := if_pos (Nat.lt_of_le_of_lt hl (by decide))
theorem ap1 {o1 : MO} {o : MH} (hl : l.length ≤ 100000) : apT (.loc 1) [y] (o1 :: .lst l :: o) = .ok .non (o1 :: .lst (l ++ [y]) :: o) := if_pos (Nat.lt_of_le_of_lt hl (by decide))
theorem ap2 {o1 o2 : MO} {o : MH} (hl : l.length ≤ 100000) : apT (.loc 2) [y] (o1 :: o2 :: .lst l :: o) = .ok .non (o1 :: o2 :: .lst (l ++ [y]) :: o) := if_pos (Nat.lt_of_le_of_lt hl (by decide))
theorem apn {n : Nat} (e : h[n]? = some (.lst l)) (hl : l.length ≤ 100000) : apT (.loc n) [y] h = .ok .non (h.set n (.lst (l ++ [y]))) := by
  unfold apT
  simp only [lstAt, e]
  exact if_pos (Nat.lt_of_le_of_lt hl (by decide))
theorem t_lsn {n : Nat} (e : h[n]? = some (.lst l)) : isTy "list" h (.loc n) = true := by
  simp only [isTy, e]
  rfl
@[simp] theorem it_loc0 {o : MH} : itOf (.loc 0) (.lst l :: o) = .ok (l, some (0, l)) (.lst l :: o) := rfl
@[simp] theorem tupF_loc0 {o : MH} : tupF [.loc 0] (.lst l :: o) = .ok (.tup l) (.lst l :: o) := rfl
@[simp] theorem s_emL2 : lstL [] h = .ok (.loc h.length) (h ++ [.lst []]) := rfl
@[simp] theorem W_len_tp : lenF [tp s] h = .ok (.int s.length) h := w_len_tp
@[simp] theorem W_len_ls : lenF [ls s] h = .ok (.int s.length) h := by
  rw [show ls s = .lst (s.map .int) from rfl, w_len_lst, List.length_map]
@[simp] theorem W_len_lst : lenF [.lst xs] h = .ok (.int xs.length) h := rfl
@[simp] theorem W_len_tup : lenF [.tup xs] h = .ok (.int xs.length) h := rfl
/-- a walk over ints, to the list of some of them -/
theorem lcInt {it : IM} {tt : TM} {vs : List Nat} (p : Int → Bool) (e : it r h = .ok (s.map .int, none) h) (hl : s.length ≤ 10000) (hk : k < (wipeR r vs).length)
    (ht : ∀ x ∈ s, tt ((wipeR r vs).set k (some (.int x))) h = .ok (p x) h) : lcM lstK it (gmN k) tt (vr k) vs r h = .ok (ls (s.filter p)) h := by
  refine lcE p T.int e hl ht fun x _ _ => s_vr ?_
  rw [List.getElem?_set_self hk]
theorem lcTup {it : IM} {tt : TM} {vs : List Nat} (p : List Int → Bool) (e : it r h = .ok (ss.map tp, none) h) (hl : ss.length ≤ 10000) (hk : k < (wipeR r vs).length)
    (ht : ∀ x ∈ ss, tt ((wipeR r vs).set k (some (tp x))) h = .ok (p x) h) : lcM lstK it (gmN k) tt (vr k) vs r h = .ok (lts (ss.filter p)) h := by
  refine lcE p tp e hl ht fun x _ _ => s_vr ?_
  rw [List.getElem?_set_self hk]
end
end
end TW
namespace TW
open PySem PySem.Spec L2

/-! ### zip of two lists, of two tuples -/
def fzL : T → Option (List T)
  | .lst xs => some xs
  | .klst xs => some xs
  | _ => none
theorem fzL_ok {x : T} {xs : List T} (h : MH) (e : fzL x = some xs) : lsOf h x = some xs ∧ srcOf x xs = none := by
  cases x <;> cases e <;> exact ⟨rfl, rfl⟩
def zipL (xs ys : List T) : List T := (xs.zip ys).map fun p => .tup [p.1, p.2]
def itZip (f : AM) : IM := fun r h => (f r h).bind fun zs h1 => match zs with
  | [x, y] => (match fzL x, fzL y with
    | some xs, some ys => .ok (zipL xs ys, none) h1
    | _, _ => (match tpOf x, tpOf y with
      | some xs, some ys => .ok (zipL xs ys, none) h1
      | _, _ => .bad))
  | _ => .bad
theorem pair2_new {G : Gx} {m : Ml} {H : Hp} {h : MH} {P : Addr} {x y : T} {v u : V} (rel : Rel G m H h) (hP : H P = none) (rx : R G m H x v) (ry : R G m H y u) : Stp m m H (upd H P (.tup [v, u])) ∧ Rel G m (upd H P (.tup [v, u])) h ∧ R G m (upd H P (.tup [v, u])) (.tup [x, y]) (.ref P) :=
  ⟨Stp.new hP, rel.new hP, tup_new rel (Rs.cons rx (Rs.cons ry Rs.nil)) hP⟩
theorem zipL_get {xs ys : List T} {i : Nat} {z : T} (e : (zipL xs ys)[i]? = some z) : ∃ x y, xs[i]? = some x ∧ ys[i]? = some y ∧ z = .tup [x, y] := by
  unfold zipL at e
  rw [List.getElem?_map] at e
  cases q : (xs.zip ys)[i]? with
  | none => rw [q] at e; cases e
  | some p =>
    rw [q] at e
    cases e
    rw [List.getElem?_zip_eq_some] at q
    exact ⟨p.1, p.2, q.1, q.2, rfl⟩
theorem zipL_len (xs ys : List T) : (zipL xs ys).length = min xs.length ys.length := by
  unfold zipL
  rw [List.length_map, List.length_zip]
section
variable {X : Cx} {cl : Cln} {W : WX} {e e2 : Expr} {fa : AM} {pos tpos p : Pos} {elts : List Expr} {kk : Nat}
theorem walk_zipL {G : Gx} {m : Ml} {H : Hp} {a b : Addr} {xs ys : List T} (h1 : ∀ m' H' h', Wk m m' H H' → Rel G m' H' h' → ∃ vs, SqL G.K H' a vs ∧ Rs G m' H' xs vs) (h2 : ∀ m' H' h', Wk m m' H H' → Rel G m' H' h' → ∃ vs, SqL G.K H' b vs ∧ Rs G m' H' ys vs) : WalkM G (Itz G.K a b) (zipL xs ys) none m H := by
  intro m' H' h' s rel c
  obtain ⟨vs, sq, rs⟩ := h1 m' H' h' s rel
  obtain ⟨ws, sq2, rs2⟩ := h2 m' H' h' s rel
  have hl := Rs.len rs
  have hl2 := Rs.len rs2
  rw [zipL_len]
  refine ⟨fun i hi => ⟨vs, ws, vs[i]'(by omega), ws[i]'(by omega), sq, sq2, by simp, by simp⟩, ⟨vs, ws, sq, sq2, by omega⟩, fun i y H'' z yl ez => ?_⟩
  obtain ⟨P, x, y2, rfl, hP, rfl, yl, yl2⟩ := yl
  obtain ⟨t, t2, e1, e2, rfl⟩ := zipL_get ez
  obtain ⟨u, e3, r1⟩ := Rs.get rs e1
  obtain ⟨u2, e4, r2⟩ := Rs.get rs2 e2
  have q := yl vs sq
  have q2 := yl2 ws sq2
  rw [e3] at q
  rw [e4] at q2
  cases q
  cases q2
  exact pair2_new rel hP r1 r2
theorem walk_zipT {G : Gx} {m : Ml} {H : Hp} {a b : Addr} {xs ys : List T} (h1 : ∀ m' H', Wk m m' H H' → ∃ vs, SqT G.K H' a vs ∧ Rs G m' H' xs vs) (h2 : ∀ m' H', Wk m m' H H' → ∃ vs, SqT G.K H' b vs ∧ Rs G m' H' ys vs) : WalkM G (RZ.ItzT G.K a b) (zipL xs ys) none m H := by
  intro m' H' h' s rel c
  obtain ⟨vs, sq, rs⟩ := h1 m' H' s
  obtain ⟨ws, sq2, rs2⟩ := h2 m' H' s
  have hl := Rs.len rs
  have hl2 := Rs.len rs2
  rw [zipL_len]
  refine ⟨fun i hi => ⟨vs, ws, vs[i]'(by omega), ws[i]'(by omega), sq, sq2, by simp, by simp⟩, ⟨vs, ws, sq, sq2, by omega⟩, fun i y H'' z yl ez => ?_⟩
  obtain ⟨P, x, y2, rfl, hP, rfl, yl, yl2⟩ := yl
  obtain ⟨t, t2, e1, e2, rfl⟩ := zipL_get ez
  obtain ⟨u, e3, r1⟩ := Rs.get rs e1
  obtain ⟨u2, e4, r2⟩ := Rs.get rs2 e2
  have q := yl vs sq
  have q2 := yl2 ws sq2
  rw [e3] at q
  rw [e4] at q2
  cases q
  cases q2
  exact pair2_new rel hP r1 r2
theorem mi_zip (hg : Gl X "zip") (hm : X.mg "zip" = none) (ha : MA X cl W [e, e2] fa) (hs : starEach [e, e2] X.env = (false, eval e X.env) :: starEach [e2] X.env := by rfl) (hpl : (backTo pos (starEach [e2] X.env)).any (·.1) = false := by rfl) : MI X cl W (.Tuple elts kk tpos) (.Call (.Name "zip" p) [e, e2] [] pos) (itZip fa) := by
  refine ⟨PI.imp (RZ.pi_zipA hg hm ha.pa hs hpl) fun σ H Q h => ?_⟩
  obtain ⟨r, hp, m, re, rel, p⟩ := h
  unfold itZip at p
  refine ⟨r, hp, m, re, rel, p.bind.mono (fun zs m' h' H' s q vs rv => ?_) fun _ _ _ z => z⟩
  obtain ⟨rel', p⟩ := q
  split at p
  · rename_i x y
    obtain ⟨v1, t, rfl, rv1, rt⟩ := Rs.cons_iff.mp rv
    obtain ⟨v2, t, rfl, rv2, rt⟩ := Rs.cons_iff.mp rt
    obtain rfl := Rs.nil_iff.mp rt
    split at p
    · rename_i xs ys e1 e3
      obtain ⟨q1, s1⟩ := fzL_ok h' e1
      obtain ⟨q2, s2⟩ := fzL_ok h' e3
      obtain ⟨a, ws, rfl, sq, rs⟩ := lsOf_ok rel' rv1 q1
      obtain ⟨b, us, rfl, sq2, rs2⟩ := lsOf_ok rel' rv2 q2
      have l1 := ls_later rel' rv1 q1
      have l2 := ls_later rel' rv2 q2
      rw [s1] at l1
      rw [s2] at l2
      exact ⟨a, b, ws, us, rfl, .inl ⟨sq, sq2, (p.ok_ rel') _ (walk_zipL (fun m1 H1 h1 w r => l1 m1 H1 h1 w r rfl) fun m1 H1 h1 w r => l2 m1 H1 h1 w r rfl)⟩⟩
    · split at p
      · rename_i xs ys e1 e3
        obtain ⟨a, ws, rfl, sq, rs⟩ := tpOf_ok rv1 e1
        obtain ⟨b, us, rfl, sq2, rs2⟩ := tpOf_ok rv2 e3
        exact ⟨a, b, ws, us, rfl, .inr ⟨sq, sq2, (p.ok_ rel') _ (walk_zipT (tp_later rv1 e1) (tp_later rv2 e3))⟩⟩
      · exact p.elim
  · exact p.elim
end
end TW
namespace TW
open PySem PySem.Spec L2

/-! ### plain data: == tells what is the same tree -/
def plT : Nat → T → Bool
  | _, .non => true
  | _, .int _ => true
  | _, .str _ => true
  | k + 1, .tup xs => xs.all (plT k)
  | k + 1, .lst xs => xs.all (plT k)
  | _, _ => false
theorem mapO_all {f : T → Option PyData} : ∀ {xs : List T}, (∀ x ∈ xs, ∃ d, f x = some d) → ∃ ds, mapO f xs = some ds
  | [], _ => ⟨[], rfl⟩
  | x :: xs, h => by
    obtain ⟨d, e⟩ := h x List.mem_cons_self
    obtain ⟨ds, e2⟩ := mapO_all (xs := xs) fun y hy => h y (List.mem_cons_of_mem _ hy)
    exact ⟨d :: ds, by simp only [mapO, e, e2]⟩
theorem pl_some (h : MH) : ∀ (k : Nat) (x : T), plT k x = true → ∃ d, toD h k x = some d
  | 0, x, e => by cases x <;> first | exact ⟨_, rfl⟩ | cases e
  | k + 1, x, e => by
    cases x with
    | tup xs =>
      have e : xs.all (plT k) = true := e
      obtain ⟨ds, q⟩ := mapO_all (f := toD h k) (xs := xs) fun y hy => pl_some h k y (List.all_eq_true.mp e y hy)
      exact ⟨.tuple ds, by show (mapO (toD h k) xs).map PyData.tuple = _; rw [q]; rfl⟩
    | lst xs =>
      have e : xs.all (plT k) = true := e
      obtain ⟨ds, q⟩ := mapO_all (f := toD h k) (xs := xs) fun y hy => pl_some h k y (List.all_eq_true.mp e y hy)
      exact ⟨.list ds, by show (mapO (toD h k) xs).map PyData.list = _; rw [q]; rfl⟩
    | non => exact ⟨_, rfl⟩
    | int i => exact ⟨_, rfl⟩
    | str s => exact ⟨_, rfl⟩
    | _ => cases e
theorem pl_eqvs {f : T → Option PyData} : ∀ (xs ys : List T) (ds es : List PyData), mapO f xs = some ds → mapO f ys = some es → (∀ x ∈ xs, ∀ y ∈ ys, ∀ d e, f x = some d → f y = some e → PyData.eqv d e = beqT x y) → PyData.eqvAll ds es = beqTs xs ys
  | [], [], _, _, e1, e2, _ => by cases e1; cases e2; simp [PyData.eqvAll, beqTs]
  | [], y :: ys, _, _, e1, e2, _ => by
    obtain ⟨z, zs, _, _, rfl⟩ := mapO_some e2
    cases e1
    simp [PyData.eqvAll, beqTs]
  | x :: xs, [], _, _, e1, e2, _ => by
    obtain ⟨z, zs, _, _, rfl⟩ := mapO_some e1
    cases e2
    simp [PyData.eqvAll, beqTs]
  | x :: xs, y :: ys, _, _, e1, e2, h => by
    obtain ⟨z, zs, f1, f2, rfl⟩ := mapO_some e1
    obtain ⟨w, ws, g1, g2, rfl⟩ := mapO_some e2
    simp only [PyData.eqvAll, beqTs]
    rw [h x List.mem_cons_self y List.mem_cons_self z w f1 g1, pl_eqvs xs ys zs ws f2 g2 fun a ha b hb => h a (List.mem_cons_of_mem _ ha) b (List.mem_cons_of_mem _ hb)]
theorem beq_dec {α : Type} [DecidableEq α] (a b : α) : (a == b) = decide (a = b) := by
  by_cases h : a = b
  · simp [h]
  · simp [h]
theorem pl_eqv (h : MH) : ∀ (k : Nat) (x y : T) (d e : PyData), plT k x = true → plT k y = true → toD h k x = some d → toD h k y = some e → PyData.eqv d e = beqT x y := by
  intro k
  induction k with
  | zero =>
    intro x y d e hx hy ex ey
    cases x <;> first | (cases hx; done) | (cases y <;> first | (cases hy; done) | (cases ex; cases ey; simp [PyData.eqv, beqT, beq_dec]))
  | succ k ih =>
    intro x y d e hx hy ex ey
    have tupE : ∀ {xs : List T} {d : PyData}, toD h (k + 1) (.tup xs) = some d → ∃ ds, mapO (toD h k) xs = some ds ∧ d = .tuple ds := fun {xs d} ex => by
      have ex : (mapO (toD h k) xs).map PyData.tuple = some d := ex
      obtain ⟨ds, q, rfl⟩ := Option.map_eq_some_iff.mp ex
      exact ⟨ds, q, rfl⟩
    have lstE : ∀ {xs : List T} {d : PyData}, toD h (k + 1) (.lst xs) = some d → ∃ ds, mapO (toD h k) xs = some ds ∧ d = .list ds := fun {xs d} ex => by
      have ex : (mapO (toD h k) xs).map PyData.list = some d := ex
      obtain ⟨ds, q, rfl⟩ := Option.map_eq_some_iff.mp ex
      exact ⟨ds, q, rfl⟩
    have all : ∀ {xs ys : List T}, xs.all (plT k) = true → ys.all (plT k) = true → ∀ x ∈ xs, ∀ y ∈ ys, ∀ d e, toD h k x = some d → toD h k y = some e → PyData.eqv d e = beqT x y := fun hx hy x hx' y hy' d e ex ey =>
      ih x y d e (List.all_eq_true.mp hx x hx') (List.all_eq_true.mp hy y hy') ex ey
    cases x with
    | tup xs =>
      obtain ⟨ds, q, rfl⟩ := tupE ex
      cases y with
      | tup ys =>
        obtain ⟨es, q2, rfl⟩ := tupE ey
        simp only [PyData.eqv, beqT]
        exact pl_eqvs xs ys ds es q q2 (all hx hy)
      | lst ys =>
        obtain ⟨es, q2, rfl⟩ := lstE ey
        simp [PyData.eqv, beqT]
      | _ => first | (cases hy; done) | (cases ey; simp [PyData.eqv, beqT])
    | lst xs =>
      obtain ⟨ds, q, rfl⟩ := lstE ex
      cases y with
      | lst ys =>
        obtain ⟨es, q2, rfl⟩ := lstE ey
        simp only [PyData.eqv, beqT]
        exact pl_eqvs xs ys ds es q q2 (all hx hy)
      | tup ys =>
        obtain ⟨es, q2, rfl⟩ := tupE ey
        simp [PyData.eqv, beqT]
      | _ => first | (cases hy; done) | (cases ey; simp [PyData.eqv, beqT])
    | non => cases y with
      | tup ys => obtain ⟨es, q2, rfl⟩ := tupE ey; cases ex; simp [PyData.eqv, beqT]
      | lst ys => obtain ⟨es, q2, rfl⟩ := lstE ey; cases ex; simp [PyData.eqv, beqT]
      | _ => first | (cases hy; done) | (cases ex; cases ey; simp [PyData.eqv, beqT])
    | int i => cases y with
      | tup ys => obtain ⟨es, q2, rfl⟩ := tupE ey; cases ex; simp [PyData.eqv, beqT]
      | lst ys => obtain ⟨es, q2, rfl⟩ := lstE ey; cases ex; simp [PyData.eqv, beqT]
      | _ => first | (cases hy; done) | (cases ex; cases ey; simp [PyData.eqv, beqT, beq_dec])
    | str s => cases y with
      | tup ys => obtain ⟨es, q2, rfl⟩ := tupE ey; cases ex; simp [PyData.eqv, beqT]
      | lst ys => obtain ⟨es, q2, rfl⟩ := lstE ey; cases ex; simp [PyData.eqv, beqT]
      | _ => first | (cases hy; done) | (cases ex; cases ey; simp [PyData.eqv, beqT, beq_dec])
    | _ => cases hx
section
variable {h : MH} {x y : T} {xs : List T} {k : Nat}
theorem pl_eq (hx : plT deep x = true) (hy : plT deep y = true) : eqT x y h = .ok (.bl (beqT x y)) h := by
  obtain ⟨d, e1⟩ := pl_some h deep x hx
  obtain ⟨e, e2⟩ := pl_some h deep y hy
  unfold eqT
  rw [e1, e2]
  simp only [pl_eqv h deep x y d e hx hy e1 e2]
theorem pl_ne (hx : plT deep x = true) (hy : plT deep y = true) : neT x y h = .ok (.bl (!beqT x y)) h := by
  obtain ⟨d, e1⟩ := pl_some h deep x hx
  obtain ⟨e, e2⟩ := pl_some h deep y hy
  unfold neT
  rw [e1, e2]
  simp only [pl_eqv h deep x y d e hx hy e1 e2]
theorem pl_any (hx : plT 13 x = true) : ∀ (xs : List T) (ds : List PyData) (d : PyData), xs.all (plT 13) = true → mapO (toD h 13) xs = some ds → toD h 13 x = some d → (ds.any fun z => PyData.eqv z d) = xs.any fun y => beqT y x
  | [], _, _, _, e, _ => by cases e; rfl
  | y :: xs, _, d, ha, e, ed => by
    obtain ⟨z, zs, e1, e2, rfl⟩ := mapO_some e
    simp only [List.all_cons, Bool.and_eq_true] at ha
    simp only [List.any_cons]
    rw [pl_any hx xs zs d ha.2 e2 ed, pl_eqv h 13 y x z d ha.1 hx e1 ed]
theorem toD_up (h : MH) : ∀ (k : Nat) (x : T) (d : PyData), plT k x = true → toD h k x = some d → toD h (k + 1) x = some d := by
  intro k
  induction k with
  | zero => intro x d hx e; cases x <;> first | exact e | cases hx
  | succ k ih =>
    intro x d hx e
    have go : ∀ (xs : List T) (ds : List PyData), xs.all (plT k) = true → mapO (toD h k) xs = some ds → mapO (toD h (k + 1)) xs = some ds := by
      intro xs
      induction xs with
      | nil => intro ds _ e; exact e
      | cons y ys ihs =>
        intro ds ha e
        obtain ⟨z, zs, e1, e2, rfl⟩ := mapO_some e
        simp only [List.all_cons, Bool.and_eq_true] at ha
        simp only [mapO, ih y z ha.1 e1, ihs zs ha.2 e2]
    cases x with
    | tup xs =>
      have e : (mapO (toD h k) xs).map PyData.tuple = some d := e
      obtain ⟨ds, q, rfl⟩ := Option.map_eq_some_iff.mp e
      show (mapO (toD h (k + 1)) xs).map PyData.tuple = _
      rw [go xs ds hx q]
      rfl
    | lst xs =>
      have e : (mapO (toD h k) xs).map PyData.list = some d := e
      obtain ⟨ds, q, rfl⟩ := Option.map_eq_some_iff.mp e
      show (mapO (toD h (k + 1)) xs).map PyData.list = _
      rw [go xs ds hx q]
      rfl
    | non => exact e
    | int i => exact e
    | str s => exact e
    | _ => cases hx
theorem pl_up : ∀ (k : Nat) (x : T), plT k x = true → plT (k + 1) x = true := by
  intro k
  induction k with
  | zero => intro x hx; cases x <;> first | rfl | cases hx
  | succ k ih =>
    intro x hx
    cases x with
    | tup xs => exact List.all_eq_true.mpr fun y hy => ih y (List.all_eq_true.mp hx y hy)
    | lst xs => exact List.all_eq_true.mpr fun y hy => ih y (List.all_eq_true.mp hx y hy)
    | non => rfl
    | int i => rfl
    | str s => rfl
    | _ => cases hx
theorem pl_inL {neg : Bool} (hx : plT 13 x = true) (ha : xs.all (plT 13) = true) : inT neg x (.lst xs) h = .ok (.bl (if neg = true then !(xs.any fun y => beqT y x) else xs.any fun y => beqT y x)) h := by
  refine inT_of h ?_
  obtain ⟨d, e1⟩ := pl_some h 13 x hx
  obtain ⟨ds, e2⟩ := mapO_all (f := toD h 13) (xs := xs) fun y hy => pl_some h 13 y (List.all_eq_true.mp ha y hy)
  unfold inB
  rw [dGet_lst, toD_up h 13 x d hx e1, show toD h deep (.lst xs) = some (.list ds) from by show (mapO (toD h 13) xs).map PyData.list = _; rw [e2]; rfl]
  show some (ds.any fun z => PyData.eqv z d) = _
  rw [pl_any hx xs ds d ha e2 e1]
theorem pl_inT {neg : Bool} (hx : plT 13 x = true) (ha : xs.all (plT 13) = true) : inT neg x (.tup xs) h = .ok (.bl (if neg = true then !(xs.any fun y => beqT y x) else xs.any fun y => beqT y x)) h := by
  refine inT_of h ?_
  obtain ⟨d, e1⟩ := pl_some h 13 x hx
  obtain ⟨ds, e2⟩ := mapO_all (f := toD h 13) (xs := xs) fun y hy => pl_some h 13 y (List.all_eq_true.mp ha y hy)
  unfold inB
  rw [dGet_tup, toD_up h 13 x d hx e1, show toD h deep (.tup xs) = some (.tuple ds) from by show (mapO (toD h 13) xs).map PyData.tuple = _; rw [e2]; rfl]
  show some (ds.any fun z => PyData.eqv z d) = _
  rw [pl_any hx xs ds d ha e2 e1]
theorem beqT_iff : beqT x y = true ↔ x = y := ⟨beqT_ok x y, fun e => e ▸ beqT_self x⟩
theorem any_beq : (xs.any fun y => beqT y x) = true ↔ x ∈ xs := by
  rw [List.any_eq_true]
  constructor
  · rintro ⟨y, hy, e⟩
    rw [← beqT_ok _ _ e]
    exact hy
  · exact fun hx => ⟨x, hx, beqT_self x⟩
theorem pl_tp (s : List Int) : plT (k + 1) (tp s) = true := List.all_eq_true.mpr fun y hy => by
  obtain ⟨i, _, rfl⟩ := List.mem_map.mp hy
  cases k <;> rfl
end
theorem cutX_one {α : Type} (xs : List α) : cutX xs (some 1) none = xs.drop 1 := by
  unfold cutX
  have h1 : HT.sIx xs.length 0 (some 1) = min 1 xs.length := by
    cases xs with
    | nil => rfl
    | cons a t => simp [HT.sIx]
  have h2 : HT.sIx xs.length xs.length none = xs.length := by simp [HT.sIx]
  rw [h1, h2]
  cases xs with
  | nil => rfl
  | cons a t =>
    rw [show min 1 (a :: t).length = 1 from by simp]
    simp
end TW
namespace TW
open PySem PySem.Spec L2
/-! ### a module's constant tuple -/
def GTup (K : PySem.W.Frag) (mg : Str → Option Value) (x : Str) (xs : List T) : Prop := ∃ a vs, mg x = some (.ref a) ∧ KTup K a vs ∧ ∀ (G : Gx) (m : Ml) (H : Hp), G.K = K → Rs G m H xs vs
theorem gtup_of {K : PySem.W.Frag} {mg : Str → Option Value} {x : Str} {xs : List T} (dvs : List He.Dv) (hm : mg x = some (.ref (He.ga K x))) (hb : He.tupB K x dvs = true) (hr : ∀ (G : Gx) (m : Ml) (H : Hp), Rs G m H xs (dvs.map (He.Dv.v K))) : GTup K mg x xs := by
  refine ⟨He.ga K x, _, hm, ?_, fun G m H _ => hr G m H⟩
  rcases He.tupB_ok hb (fun _ => none) with h | h
  · rcases h with h | ⟨_, h⟩ <;> cases h
  · exact h
section
variable {X : Cx} {cl : Cln} {W : WX} {pos : Pos}
theorem me_gtup {x : Str} {xs : List T} (hg : Gl X x) (hm : GTup X.K X.mg x xs) (hd : (x == ("__debug__" : Str)) = false := by decide) : ME X cl W (.Name x pos) (cst (.ktup xs)) := by
  obtain ⟨a, vs, h1, h2, h3⟩ := hm
  refine me_c (v := .ref a) (pe_glob hg h1 rfl hd) fun m H => ?_
  simp only [R]
  exact ⟨a, vs, rfl, h2, h3 _ _ _ rfl⟩
end
end TW
namespace TW
open PySem PySem.Spec L2
/-! ### more words -/
section
variable {h t : MH} {xs ys : List T} {n : Nat} {b : SM} {x : T}
theorem toD_cell (e : lstAt h n = some xs) (hx : xs.all (plT 13) = true) : ∃ ds, toD h deep (.loc n) = some (.list ds) ∧ toD h deep (.lst xs) = some (.list ds) := by
  obtain ⟨ds, q⟩ := mapO_all (f := toD h 13) (xs := xs) fun y hy => pl_some h 13 y (List.all_eq_true.mp hx y hy)
  refine ⟨ds, ?_, ?_⟩
  · show (match lstAt h n with
      | some xs => (mapO (toD h 13) xs).map PyData.list
      | none => none) = _
    rw [e]
    show (mapO (toD h 13) xs).map PyData.list = _
    rw [q]
    rfl
  · show (mapO (toD h 13) xs).map PyData.list = _
    rw [q]
    rfl
theorem eq_cell (e : lstAt h n = some xs) (hx : xs.all (plT 13) = true) (hy : ys.all (plT 13) = true) : eqT (.loc n) (.lst ys) h = .ok (.bl (beqT (.lst xs) (.lst ys))) h := by
  obtain ⟨ds, e1, e2⟩ := toD_cell e hx
  have q := pl_eq (h := h) (x := .lst xs) (y := .lst ys) hx hy
  unfold eqT at q ⊢
  rw [e2] at q
  rw [e1]
  exact q
theorem ne_cell (e : lstAt h n = some xs) (hx : xs.all (plT 13) = true) (hy : ys.all (plT 13) = true) : neT (.loc n) (.lst ys) h = .ok (.bl (!beqT (.lst xs) (.lst ys))) h := by
  obtain ⟨ds, e1, e2⟩ := toD_cell e hx
  have q := pl_ne (h := h) (x := .lst xs) (y := .lst ys) hx hy
  unfold neT at q ⊢
  rw [e2] at q
  rw [e1]
  exact q
theorem in_cell {neg : Bool} (e : lstAt h n = some xs) (hx : plT 13 x = true) (ha : xs.all (plT 13) = true) : inT neg x (.loc n) h = .ok (.bl (if neg = true then !(xs.any fun y => beqT y x) else xs.any fun y => beqT y x)) h := by
  refine inT_of h ?_
  obtain ⟨d, e1⟩ := pl_some h 13 x hx
  obtain ⟨ds, e2⟩ := mapO_all (f := toD h 13) (xs := xs) fun y hy => pl_some h 13 y (List.all_eq_true.mp ha y hy)
  have e3 : toD h deep (.loc n) = some (.list ds) := by
    show (match lstAt h n with
      | some xs => (mapO (toD h 13) xs).map PyData.list
      | none => none) = _
    rw [e]
    show (mapO (toD h 13) xs).map PyData.list = _
    rw [e2]
    rfl
  have e4 : dGet h (.loc n) x = none := by
    have ho : h[n]? = some (.lst xs) := by
      unfold lstAt at e
      split at e
      · rename_i ys q
        cases e
        exact q
      · cases e
    have d1 : dkOf h (.loc n) = none := by
      simp only [dkOf, ho]
    have d2 : dtOf h (.loc n) = none := by
      simp only [dtOf, ho]
    unfold dGet
    rw [d1, d2]
  unfold inB
  rw [e4, toD_up h 13 x d hx e1, e3]
  show some (ds.any fun z => PyData.eqv z d) = _
  rw [pl_any hx xs ds d ha e2 e1]
theorem beq_nil : beqT (.lst xs) (.lst []) = xs.isEmpty := by
  cases xs <;> simp [beqT, beqTs]
/-- a def that hands out its list -/
theorem pur_wpL {k : Nat} {zs : List T} (hl : lows 0 zs = true) (hx : lows 0 xs = true) (e : Wp (b (startR k zs) []) (fun fr => ∃ h', fr = .ret (.loc 0) (.lst xs :: h'))) : pur (reg (fnB k b)) zs h = .ok (.lst xs) h := by
  obtain ⟨h', e⟩ := e
  rw [pur_nil _ _ _ hl]
  unfold reg fnB
  rw [e]
  have ee : endR [] (.ok (.loc 0) (.lst xs :: h')) = .ok (.lst xs) [] := by
    unfold endR
    show (match (frWs _ xs).map T.lst with
      | some y => if okH [] _ = true then Res.ok y _ else .bad
      | none => .bad) = _
    rw [frWs_low _ _ hx]
    rfl
  show onH (endR [] (.ok (.loc 0) (.lst xs :: h'))) h = _
  rw [ee]
  rfl
end
section
variable {r : Rho} {h : MH} {D : Fr → Prop} {F G' : SM} {α : Type} {enc : α → T}
theorem seqNx (k : Wp (sSeq F sNx r h) D) : Wp (F r h) D := by
  have : sSeq F sNx r h = F r h := by
    rw [s_sSeq]
    cases F r h <;> rfl
  rw [this] at k
  exact k
theorem Wp.imp {f : Fr} {D' : Fr → Prop} (w : Wp f D') (i : D' f → D f) : Wp f D := i w
/-- if, known -/
theorem Wp.if_ {t : TM} {A B : SM} {c : Bool} {h1 : MH} (e : t r h = .ok c h1) (k : Wp (sSeq (if c = true then A else B) G' r h1) D) : Wp (sSeq (sIf t A B) G' r h) D := by
  have : sSeq (sIf t A B) G' r h = sSeq (if c = true then A else B) G' r h1 := by
    rw [s_sSeq, s_sIf, e, s_liftok]
    cases c <;> rfl
  rw [this]
  exact k
theorem Wp.assoc {A B C : SM} (k : Wp (sSeq A (sSeq B C) r h) D) : Wp (sSeq (sSeq A B) C r h) D := by
  have : sSeq (sSeq A B) C r h = sSeq A (sSeq B C) r h := by
    simp only [s_sSeq]
    cases A r h <;> rfl
  rw [this]
  exact k
end
end TW
namespace TW
open PySem PySem.Spec L2
/-! ### dict(a list of pairs), keys ints or texts -/
def pairO (x : T) : Option (Key × T) := match tpOf x with
  | some [a, b] => (match kyOf a with
    | some k => some (k, b)
    | none => none)
  | _ => none
def dictF (k : List (Key × T) → MH → Res T) : FM := on1 fun x h => match lsOf h x with
  | some xs => (match mapO pairO xs with
    | some kvs => k (mrgT kvs) h
    | none => .bad)
  | none => .bad
theorem n_dict {k : List (Key × T) → MH → Res T} (hk : k = dicK ∨ k = dicL) : NoXF (dictF k) := on1_nox fun x h c fs h' e => by
  split at e
  · split at e
    · rcases hk with rfl | rfl <;> cases e
    · cases e
  · cases e
section
variable {G : Gx} {m : Ml} {H : Hp}
theorem pairs_ok : ∀ {xs : List T} {vs : List V} {kvs : List (Key × T)}, Rs G m H xs vs → mapO pairO xs = some kvs →
    ∃ (ps : List Addr) (kv : List (Key × V)), vs = ps.map V.ref ∧ Paired (fun p kv => SqT G.K H p [kV kv.1, kv.2]) ps kv ∧ Rk G m H kvs kv
  | [], vs, kvs, rs, e => by
    cases e
    rw [Rs.nil_iff.mp rs]
    exact ⟨[], [], rfl, .nil, Rk.nil_iff.mpr rfl⟩
  | x :: xs, vs, kvs, rs, e => by
    obtain ⟨z, zs, e1, e2, rfl⟩ := mapO_some e
    obtain ⟨v, r, rfl, h1, h2⟩ := Rs.cons_iff.mp rs
    obtain ⟨ps, kv, rfl, pp, rk⟩ := pairs_ok h2 e2
    unfold pairO at e1
    split at e1
    · rename_i a b et
      obtain ⟨p, ws, rfl, sq, rw'⟩ := tpOf_ok h1 et
      obtain ⟨va, ta, rfl, ha, hb0⟩ := Rs.cons_iff.mp rw'
      obtain ⟨vb, tb, rfl, hb, hc⟩ := Rs.cons_iff.mp hb0
      obtain rfl := Rs.nil_iff.mp hc
      split at e1
      · rename_i k ek
        cases e1
        have := kyOf_ok ha ek
        subst this
        exact ⟨p :: ps, (k, vb) :: kv, rfl, .cons sq pp, Rk.cons_iff.mpr ⟨vb, kv, rfl, hb, rk⟩⟩
      · cases e1
    · cases e1
theorem dic_new {k : List (Key × T) → MH → Res T} (hk : k = dicK ∨ k = dicL) {h : MH} {kvs : List (Key × T)} {kv : List (Key × V)} {Q : VK} {W : XK} (rel : Rel G m H h) (rk : Rk G m H kvs kv)
    (p : Pst G m H (k kvs h) (fun z m' _ H' => ∀ u, R G m' H' z u → Q u H') W) : ∀ a, H a = none → Q (.ref a) (upd H a (.dK kv)) := by
  intro a ha
  rcases hk with rfl | rfl
  · have s : Stp m m H (upd H a (.dK kv)) := Stp.new ha
    refine p m _ s (rel.new ha) _ ?_
    simp only [R]
    have rk2 := rk.step s
    refine ⟨a, kv.map (·.2), rfl, ⟨.inl ?_, rel.freeZ ha⟩, by simpa using rk.len, rk2.2⟩
    rw [zip_unzip rk]
    exact upd_same
  · have s : Stp m (m.add a) H (upd H a (.dK kv)) := Stp.newc ha
    refine p (m.add a) _ s (rel.newc ha ⟨kv, upd_same, rk.step s⟩) _ ?_
    simp only [R]
    refine ⟨a, ?_, rfl⟩
    show (m.c ++ [a])[_]? = _
    rw [← rel.len, List.getElem?_append_right (Nat.le_refl _)]
    simp
end
section
variable {X : Cx} {cl : Cln}
theorem c_dict {k : List (Key × T) → MH → Res T} (hk : k = dicK ∨ k = dicL) (hc : X.calm = true) : CallR X (.type "dict") (rMC (gx X cl) (dictF k)) := CallR.imp (call_dictP hc) fun vs H Q q => by
  obtain ⟨m, hp, xs, rel, rs, p⟩ := q
  obtain ⟨x, v, rfl, rx, p⟩ := on1_ok rs p
  split at p
  · rename_i ys e1
    obtain ⟨a, ws, rfl, sq, rs2⟩ := lsOf_ok rel rx e1
    split at p
    · rename_i kvs ek
      obtain ⟨ps, kv, rfl, pp, rk⟩ := pairs_ok rs2 ek
      exact ⟨a, ps, kv, rfl, sq, pp, dic_new hk rel (Rk.merge rk (Rk.nil_iff.mpr rfl)) p⟩
    · exact p.elim
  · exact p.elim
end
end TW
namespace TW
open PySem PySem.Spec L2 PyProof.Rows
/-! ### t[lo:hi:step] of a tuple, step not 1 -/
def pkX {α : Type} (xs : List α) (lo hi : Option Int) (c : Int) : List α :=
  (List.range (Builtin.Slice.slicePlaces (Builtin.Slice.sliceAdjust lo hi c xs.length).1 (Builtin.Slice.sliceAdjust lo hi c xs.length).2 c)).filterMap fun (m : Nat) => xs[((Builtin.Slice.sliceAdjust lo hi c xs.length).1 + (m : Int) * c).toNat]?
theorem vals_at : ∀ {xs : List V} {us : List Value} (i : Nat), Vals xs us → (xs[i]? = none ∧ us[i]? = none) ∨ ∃ x u, xs[i]? = some x ∧ us[i]? = some u ∧ RelV x u
  | _, _, _, .nil => .inl ⟨rfl, rfl⟩
  | _, _, 0, .cons r _ => .inr ⟨_, _, rfl, rfl, r⟩
  | _, _, i + 1, .cons _ t => vals_at i t
theorem vals_fm {xs : List V} {us : List Value} (r : Vals xs us) (g : Nat → Nat) : ∀ ks : List Nat, Vals (ks.filterMap fun m => xs[g m]?) (ks.filterMap fun m => us[g m]?)
  | [] => .nil
  | k :: ks => by
    rcases vals_at (g k) r with ⟨h1, h2⟩ | ⟨x, u, h1, h2, h3⟩
    · simp only [List.filterMap_cons, h1, h2]
      exact vals_fm r g ks
    · simp only [List.filterMap_cons, h1, h2]
      exact .cons h3 (vals_fm r g ks)
theorem vals_pk {xs : List V} {us : List Value} (r : Vals xs us) (lo hi : Option Int) (c : Int) : Vals (pkX xs lo hi c) (pkX us lo hi c) := by
  unfold pkX
  rw [r.length]
  exact vals_fm r _ _
section
variable {G : Gx} {m : Ml} {H : Hp}
theorem rs_fm {xs : List T} {vs : List V} (r : Rs G m H xs vs) (g : Nat → Nat) : ∀ ks : List Nat, Rs G m H (ks.filterMap fun m => xs[g m]?) (ks.filterMap fun m => vs[g m]?)
  | [] => Rs.nil
  | k :: ks => by
    cases e : xs[g k]? with
    | none =>
      have : vs[g k]? = none := by
        rw [List.getElem?_eq_none_iff] at e ⊢
        rw [← Rs.len r]
        exact e
      simp only [List.filterMap_cons, e, this]
      exact rs_fm r g ks
    | some x =>
      obtain ⟨v, e2, h⟩ := Rs.get r e
      simp only [List.filterMap_cons, e, e2]
      exact Rs.cons h (rs_fm r g ks)
theorem rs_pk {xs : List T} {vs : List V} (r : Rs G m H xs vs) (lo hi : Option Int) (c : Int) : Rs G m H (pkX xs lo hi c) (pkX vs lo hi c) := by
  unfold pkX
  rw [Rs.len r]
  exact rs_fm r _ _
end
section
variable {prog : Program} {w : World} {A : Around} {E : Value → Shared → Prop} {s : Shared}
theorem partIx {v : Value} {o : Option Int} {Q : Option Int → Shared → Prop} (p : IsPart v o) (h : Q o s) : wpAny (model prog w) A (Builtin.Slice.slicePartIndex v) Q E s := HT.slicePart_ p h
theorem applied3 {sl : Addr} {v1 v2 v3 : Value} {l u c : Option Int} {k : Nat} {Q : Int × Int × Nat → Shared → Prop} (hs : s.heap.IsSliceOf sl v1 v2 v3) (p1 : IsPart v1 l) (p2 : IsPart v2 u) (p3 : IsPart v3 c) (c0 : c.getD 1 ≠ 0)
    (h : Q ((Builtin.Slice.sliceAdjust l u (c.getD 1) k).1, c.getD 1, Builtin.Slice.slicePlaces (Builtin.Slice.sliceAdjust l u (c.getD 1) k).1 (Builtin.Slice.sliceAdjust l u (c.getD 1) k).2 (c.getD 1)) s) :
    wpAny (model prog w) A (Builtin.Slice.sliceApplied (.ref sl) (pure (k : Int))) Q E s := by
  obtain ⟨o1, q1, q2, q3⟩ := id hs
  unfold Builtin.Slice.sliceApplied Builtin.Slice.sliceFields
  refine wpAny_bind (wpAny_bind (wpAny_field q1 q3 (x := v1) rfl (wpAny_bind (wpAny_field q1 q3 (x := v2) rfl (wpAny_bind (wpAny_field q1 q3 (x := v3) rfl (wpAny_pure ?_)))))))
  refine wpAny_bind (partIx p3 ?_)
  have cn : ¬ ((c.getD 1 == 0) = true) := fun z => c0 (eq_of_beq z)
  rw [if_neg cn]
  refine wpAny_bind (partIx p1 (wpAny_bind (partIx p2 (wpAny_bind (wpAny_pure ?_)))))
  exact wpAny_pure h
theorem getTupStep {t sl : Addr} {its : Array Value} {v1 v2 v3 : Value} {l u c : Option Int} {Q : Value → Shared → Prop} (tp : IsTup s.heap t its) (hs : s.heap.IsSliceOf sl v1 v2 v3) (p1 : IsPart v1 l) (p2 : IsPart v2 u) (p3 : IsPart v3 c) (c0 : c.getD 1 ≠ 0) (c1 : c.getD 1 ≠ 1)
    (zl : (pkX its.toList l u (c.getD 1)).length ≤ sizeLine)
    (h : Q (.ref s.heap.objs.size) { s with heap := s.heap.push { cls := .type "tuple", data := .seq (pkX its.toList l u (c.getD 1)).toArray } }) : wpAny (model prog w) A (getItem (.ref t) (.ref sl)) Q E s := by
  have z2 : sizeOk (.seq (pkX its.toList l u (c.getD 1)).toArray) := by
    show (pkX its.toList l u (c.getD 1)).toArray.size ≤ sizeLine
    rw [List.size_toArray]
    exact zl
  obtain ⟨o1, q1, q2, q3⟩ := id hs
  have tS : s.TypeIs (.ref sl) "slice" := ⟨o1, q1, q2⟩
  have eP : pkX its.toList l u (c.getD 1) = (List.range (Builtin.Slice.slicePlaces (Builtin.Slice.sliceAdjust l u (c.getD 1) its.size).1 (Builtin.Slice.sliceAdjust l u (c.getD 1) its.size).2 (c.getD 1))).filterMap fun (m : Nat) => its[((Builtin.Slice.sliceAdjust l u (c.getD 1) its.size).1 + (m : Int) * c.getD 1).toNat]? := by
    unfold pkX
    rw [Array.length_toList]
    simp only [Array.getElem?_toList]
  unfold getItem
  try with_reducible refine wpAny_holding ?_
  first | refine wpAny_bind (wpAny_pure ?_) | skip
  refine wpAny_bind (wpAny_sequenceKey tp.typeIs (by decide) ?_)
  refine wpAny_bind (wpAny_callSpecial?_slot (name := Str.ofString "__getitem__") tp.typeIs PyProof.Rows.slot_tuple_getitem
    (wpAny_call_entry PyProof.Rows.slot_tuple_getitem tp.typeIs entry_tuple_getitem ?_ (args_tuple_getitem _ _)))
  show wpAny _ _ (Builtin.Tuple.tupleItemsOf (.ref t) >>= _) _ _ s
  refine wpAny_bind (tupleItemsOf_ tp ?_)
  refine wpAny_bind (wpAny_typeOf tS ?_)
  rw [if_pos (by decide)]
  refine wpAny_bind (applied3 hs p1 p2 p3 c0 ?_)
  rw [eP] at h z2
  have no1 : (c.getD 1 == 1) = false := by
    cases z : (c.getD 1 == 1) with
    | false => rfl
    | true => exact absurd (eq_of_beq z) c1
  show wpAny _ _ (if ((Builtin.Slice.sliceAdjust l u (c.getD 1) its.size).1 == 0 && c.getD 1 == 1 && Builtin.Slice.slicePlaces (Builtin.Slice.sliceAdjust l u (c.getD 1) its.size).1 (Builtin.Slice.sliceAdjust l u (c.getD 1) its.size).2 (c.getD 1) == its.size) = true then _ else _) _ _ s
  rw [if_neg (by rw [no1, Bool.and_false, Bool.false_and]; exact Bool.false_ne_true)]
  first
    | exact wpAny_bind (m := Builtin.Tuple.tupleExact _) (wpAny_newObj_type (wpAny_pure ⟨_, rfl, wpAny_pure h⟩) z2)
    | exact wpAny_bind (m := Builtin.Tuple.tupleExact _) (wpAny_newObj_type (wpAny_bind (wpAny_pure (wpAny_pure ⟨_, rfl, wpAny_pure h⟩))) z2)
    | exact wpAny_bind (wpAny_bind (m := Builtin.Tuple.tupleExact _) (wpAny_newObj_type (wpAny_pure (wpAny_pure ⟨_, rfl, wpAny_pure h⟩)) z2))
    | exact wpAny_bind (wpAny_bind (m := Builtin.Tuple.tupleExact _) (wpAny_newObj_type (wpAny_pure ⟨_, rfl, wpAny_pure h⟩) z2))
end
section
variable {X : Cx} {cl : Cln} {W : WX} {a : Expr} {f : EM} {pos : Pos}
def rTSt (K : PySem.W.Frag) (x : V) (l u c : Option Int) (H : Hp) (Q : VK) : Prop := ∃ a xs, x = .ref a ∧ SqT K H a xs ∧ c.getD 1 ≠ 0 ∧ c.getD 1 ≠ 1 ∧ (pkX xs l u (c.getD 1)).length ≤ sizeLine ∧ ∀ p, H p = none → Q (.ref p) (upd H p (.tup (pkX xs l u (c.getD 1))))
theorem pe_tst {e : Expr} {te : TE} {lo hi : Option Expr} {st : Expr} {tl th ts : TO} {p2 : Pos} (he : PE X e te) (hl : PO X lo tl) (hu : PO X hi th) (hc : PO X (some st) ts) :
    PE X (.Subscript e (.Slice lo hi (some st) p2) pos) (fun σ H Q => te σ H fun x H1 => tl σ H1 fun l H2 => th σ H2 fun u H3 => ts σ H3 fun c H4 => rTSt X.K x l u c H4 Q) := by
  refine ⟨fun pins s σ H Q I h => ?_⟩
  refine Subscript_ (L2.thn (he.run pins s σ H _ I h) fun v s1 ⟨x, H1, I1, r1, g1⟩ => ?_)
  refine wpAny_Slice (L2.thn (hl.run pins s1 σ H1 _ I1 g1) fun vl s2 ⟨l, H2, I2, pl, g2⟩ => L2.thn (hu.run pins s2 σ H2 _ I2 g2) fun vu s3 ⟨u, H3, I3, pu, g3⟩ => L2.thn (hc.run pins s3 σ H3 _ I3 g3) fun vs s4 ⟨c, H4, I4, ps, g4⟩ => ?_)
  obtain ⟨a, xs, rfl, hx, c0, c1, zl, q⟩ := g4
  cases r1
  have I5 : Inv X pins σ H4 { s4 with heap := s4.heap.push { cls := .type "slice", data := .fields #[vl, vu, vs] } } := I4.kept (t' := s4.toks) fun b ob q => Heap.get?_push_of_some _ q
  obtain ⟨its, r, ht, hz⟩ := I5.tuple hx
  have rp := vals_pk r l u (c.getD 1)
  show wpAny (model X.prog X.w) X.A (subscriptTail e (.Slice lo hi (some st) p2) (.ref a) (.ref s4.heap.objs.size)) (EP X pins σ Q) X.xe { s4 with heap := s4.heap.push { cls := .type "slice", data := .fields #[vl, vu, vs] } }
  refine tail_any (ops := [.ref a, .ref s4.heap.objs.size]) ht.typeIs (PyProof.Rows.slot_tuple_getitem.lookup) ?_ (by with_unfolding_all rfl)
  refine getTupStep ht (Heap.IsSliceOf.new _ vl vu vs) pl pu ps c0 c1 (by
    show (pkX its l u (c.getD 1)).length ≤ sizeLine
    rw [← rp.length]
    exact zl) ?_
  refine ⟨.ref _, _, I5.laid (t' := s4.toks) (o := .tup (pkX xs l u (c.getD 1))) (fun b ob q => Heap.get?_push_of_some _ q) (Nat.le_refl _) ?_, rfl, q _ (I5.hok.fresh (Nat.le_refl _))⟩
  exact ⟨zl, _, rp, IsTup.new _ _⟩
/-- t[lo:hi:step] -/
def tsT (x : T) (l u c : Option Int) (hp : MH) : Res T := match x with
  | .tup xs => if c.getD 1 ≠ 0 ∧ c.getD 1 ≠ 1 ∧ (pkX xs l u (c.getD 1)).length ≤ sizeLine then .ok (.tup (pkX xs l u (c.getD 1))) hp else .bad
  | _ => .bad
def emSt (f : EM) (lo hi st : PM) : EM := fun r hp => (f r hp).bind fun x h1 => (lo r h1).bind fun l h2 => (hi r h2).bind fun u h3 => (st r h3).bind fun c h4 => tsT x l u c h4
theorem me_st {lo hi : Option Expr} {st : Expr} {pl ph pc : PM} {p2 : Pos} (ha : ME X cl W a f) (hl : MP X cl W lo pl) (hh : MP X cl W hi ph) (hc : MP X cl W (some st) pc) : ME X cl W (.Subscript a (.Slice lo hi (some st) p2) pos) (emSt f pl ph pc) := by
  refine ⟨PE.imp (pe_tst ha.pe hl.po hh.po hc.po) fun σ H Q h => ?_⟩
  obtain ⟨r, hp, m, re, rel, p⟩ := h
  refine ⟨r, hp, m, re, rel, p.bind.mono (fun x m1 h1 H1 s1 q v rv => ?_) fun _ _ _ z => z⟩
  refine ⟨r, h1, m1, re.step s1, q.1, q.2.bind.mono (fun l m2 h2 H2 s2 q2 => ?_) fun _ _ _ z => z⟩
  refine ⟨r, h2, m2, (re.step s1).step s2, q2.1, q2.2.bind.mono (fun u m3 h3 H3 s3 q3 => ?_) fun _ _ _ z => z⟩
  refine ⟨r, h3, m3, ((re.step s1).step s2).step s3, q3.1, q3.2.bind.mono (fun c m4 h4 H4 s4 q4 => ?_) fun _ _ _ z => z⟩
  obtain ⟨rel4, p4⟩ := q4
  have rx := R.step s4 _ _ (R.step s3 _ _ (R.step s2 _ _ rv))
  unfold tsT at p4
  split at p4
  · rename_i xs
    split at p4
    · rename_i z
      simp only [R] at rx
      obtain ⟨a, vs, rfl, f, rs⟩ := rx
      have rp := rs_pk rs l u (c.getD 1)
      refine ⟨a, vs, rfl, SqT.of f.1, z.1, z.2.1, by rw [← Rs.len rp]; exact z.2.2, fun p hp => ?_⟩
      exact p4 m4 _ (Stp.new hp) (rel4.new hp) _ (tup_new rel4 rp hp)
    · exact p4.elim
  · exact p4.elim
end
end TW
namespace K41
open PySem PySem.Spec L2 TW
def top (i : Nat) : Stmt := PySem.Challenge.pw_offerstands_k41_whole_two_sides_renamed.main.body.getD i (.Pass ⟨0, 0, 0, 0⟩)
variable {P : Program} {w : World} {K : PySem.W.Frag} {mg : Str → Option Value} {base : Heap} {cl : Cln}
abbrev s__law_deck : Stmt := top 43
theorem sc__law_deck : FnScope ["_law_script", "_law_cell", "_law_rest", "_law_mixed"] ["_law_script"] (defScope s__law_deck) := ⟨rfl, rfl, rfl, by decide +kernel, rfl, by decide +kernel, by decide +kernel⟩
def b__law_deck : SM := (sSeq (sPar2 2 3 (ac (lcM lstK (itE (emSl lstK (vr 0) pNo (pSo (cst (.int 64))))) (gmN 1) tYes (emOp modT (emCall intF (ac (vr 1) an)) (emOp (adT lstK) (emOp powT (cst (.int 10)) (cst (.int 18))) (cst (.int 9)))) [1]) (ac (cst (.int 10872034)) an)))
 (sSeq (sFor (itE (vr 2)) (gmN 1)
 (sSet 3 (emOp modT (emOp (adT lstK) (emOp (adT lstK) (emOp mulT (vr 3) (cst (.int 48271))) (vr 1)) (cst (.int 137))) (cst (.int 2147483629)))))
 (sRet (emD dicL [((cst (.str ("rest" : Str))), (em1 (rvT lstL) (vr 2))), ((cst (.str ("mixed" : Str))), (vr 3)), ((cst (.str ("draws" : Str))), (cst (.int 0)))]))))
def m__law_deck : FM := fnB 4 b__law_deck
theorem w__law_deck {f : Addr} {fd : FuncData} (F : FunD K "_law_deck" "_law_deck" (defArgs s__law_deck) (defBody s__law_deck) (defScope s__law_deck) [] [] f fd) (g_int : mg ("int" : Str) = none) : FnOk P w K mg base (L2.CX P w) 1 f fd ["_law_script"] (spM ⟨P, w, K, cl⟩ 1 m__law_deck) := by
  refine (fn_ok (k := 0) (N := ["_law_script", "_law_cell", "_law_rest", "_law_mixed"]) (ps := ["_law_script"]) (b := b__law_deck) F sc__law_deck fun cdv A outer s H E hcdv hr => ?_)
  unfold b__law_deck
  exact (mb_cons (ms_par2 2 3 rfl sc__law_deck.nd (ma_c (me_lc lK rfl sc__law_deck.nd (blkOk_by (own := [("_law_cell", 1)]) (by first | rfl | decide +kernel)) (mi_e (me_sl lK (me_v 0) mp_no (mp_so me_int))) (by decide) (fun _ _ _ _ _ => (mg_name 1 sc__law_deck.nd)) (fun _ _ _ _ _ => mts_nil) (fun _ _ _ _ _ => (me_op o_mod iT_nox (me_cT c_int n_int PyProof.Rows.boot_int (ma_c (me_v 1) ma_n) g_int) (me_op (o_ad lK) (n_ad lK) (me_op o_pow iT_nox me_int me_int) me_int)))) (ma_c me_int ma_n)))
 (mb_cons (ms_for (passes_of rfl) rfl (mi_e (me_v 2)) (mg_name 1 sc__law_deck.nd)
 (mb_one (ms_set 3 sc__law_deck.nd (me_op o_mod iT_nox (me_op (o_ad lK) (n_ad lK) (me_op (o_ad lK) (n_ad lK) (me_op o_mul n_mul (me_v 3) me_int) (me_v 1)) me_int) me_int))))
 (mb_one (ms_ret (me_dict dLL (mps_c me_str (me_rev lL (me_v 2)) (mps_c me_str (me_v 3) (mps_c me_str me_int mps_n))))))))
abbrev s__law_draw : Stmt := top 44
theorem sc__law_draw : FnScope ["_law_deck_here", "_law_below", "_law_number", "_law_cell"] ["_law_deck_here", "_law_below"] (defScope s__law_draw) := ⟨rfl, rfl, rfl, by decide +kernel, rfl, by decide +kernel, by decide +kernel⟩
def b__law_draw : SM := (sSeq (sSub (vr 0) (cst (.str ("draws" : Str))) (emOp (adT lstK) (emOp ixT (vr 0) (cst (.str ("draws" : Str)))) (cst (.int 1))))
 (sSeq (sIf (tmOf (emOp neT (emOp ixT (vr 0) (cst (.str ("rest" : Str)))) (emL lstK an)))
 (sSeq (sSet 3 (emBm "list" ppT (emOp ixT (vr 0) (cst (.str ("rest" : Str)))) an))
 (sSeq (sIf (tmOf (emOp geT (vr 3) (emOp powT (cst (.int 10)) (cst (.int 6)))))
 (sDrop (emBm "list" apT (emOp ixT (vr 0) (cst (.str ("rest" : Str)))) (ac (emOp fdvT (vr 3) (vr 1)) an)))
 sNx)
 (sRet (emOp modT (vr 3) (vr 1)))))
 sNx)
 (sSeq (sSet 2 (emOp modT (emOp (adT lstK) (emOp ixT (vr 0) (cst (.str ("mixed" : Str)))) (emOp mulT (emOp mulT (cst (.int 40692)) (emOp ixT (vr 0) (cst (.str ("draws" : Str))))) (emOp ixT (vr 0) (cst (.str ("draws" : Str)))))) (cst (.int 2147483399))))
 (sRet (emOp modT (emOp fdvT (emOp modT (emOp mulT (vr 2) (cst (.int 39373))) (cst (.int 2147483563))) (cst (.int 128))) (vr 1))))))
def m__law_draw : FM := pur (reg (fnB 4 b__law_draw))
theorem w__law_draw {f : Addr} {fd : FuncData} (F : FunD K "_law_draw" "_law_draw" (defArgs s__law_draw) (defBody s__law_draw) (defScope s__law_draw) [] [] f fd)  : FnOk P w K mg base (L2.CX P w) 1 f fd ["_law_deck_here", "_law_below"] (spM ⟨P, w, K, cl⟩ 2 m__law_draw) := by
  refine fn_pur (fn_reg (fn_ok (k := 0) (N := ["_law_deck_here", "_law_below", "_law_number", "_law_cell"]) (ps := ["_law_deck_here", "_law_below"]) (b := b__law_draw) F sc__law_draw fun cdv A outer s H E hcdv hr => ?_))
  unfold b__law_draw
  exact (mb_cons (ms_sub (hu_room hr) (me_op (o_ad lK) (n_ad lK) (me_ix (hu_room hr) (me_v 0) me_str) me_int) (me_v 0) me_str)
 (mb_cons (ms_if (mt_cmp (o_ne (hu_room hr)) n_ne (me_ix (hu_room hr) (me_v 0) me_str) (me_lst lK ma_n) (by first | exact nomark _ | rfl))
 (mb_cons (ms_set 3 sc__law_draw.nd (me_bm0 PySem.F.plainAttrs_list PySem.F.slot_list_pop PySem.F.type_list_pop mm_pp n_pp (me_ix (hu_room hr) (me_v 0) me_str)))
 (mb_cons (ms_if (mt_cmp o_ge iT_nox (me_v 3) (me_op o_pow iT_nox me_int me_int) (by first | exact nomark _ | rfl))
 (mb_one (ms_expr (me_bm PySem.F.plainAttrs_list PySem.F.slot_list_append PySem.F.type_list_append mm_ap n_ap (me_ix (hu_room hr) (me_v 0) me_str) (ma_c (me_op o_fdv iT_nox (me_v 3) (me_v 1)) ma_n))))
 mb_nil)
 (mb_one (ms_ret (me_op o_mod iT_nox (me_v 3) (me_v 1))))))
 mb_nil)
 (mb_cons (ms_set 2 sc__law_draw.nd (me_op o_mod iT_nox (me_op (o_ad lK) (n_ad lK) (me_ix (hu_room hr) (me_v 0) me_str) (me_op o_mul n_mul (me_op o_mul n_mul me_int (me_ix (hu_room hr) (me_v 0) me_str)) (me_ix (hu_room hr) (me_v 0) me_str))) me_int))
 (mb_one (ms_ret (me_op o_mod iT_nox (me_op o_fdv iT_nox (me_op o_mod iT_nox (me_op o_mul n_mul (me_v 2) me_int) me_int) me_int) (me_v 1)))))))
abbrev s__law_pick : Stmt := top 45
theorem sc__law_pick : FnScope ["_law_deck_here", "_law_some"] ["_law_deck_here", "_law_some"] (defScope s__law_pick) := ⟨rfl, rfl, rfl, by decide +kernel, rfl, by decide +kernel, by decide +kernel⟩
def b__law_pick : SM := (sRet (emOp ixT (vr 1) (emCall (arg 2 m__law_draw) (ac (vr 0) (ac (emCall lenF (ac (vr 1) an)) an)))))
def m__law_pick : FM := pur (reg (fnB 2 b__law_pick))
theorem w__law_pick {f : Addr} {fd : FuncData} (F : FunD K "_law_pick" "_law_pick" (defArgs s__law_pick) (defBody s__law_pick) (defScope s__law_pick) [] [] f fd) (o__law_draw : Own P w K mg base cl 1 ("_law_draw" : Str) 2 m__law_draw) (g_len : mg ("len" : Str) = none) : FnOk P w K mg base (L2.CX P w) 2 f fd ["_law_deck_here", "_law_some"] (spM ⟨P, w, K, cl⟩ 2 m__law_pick) := by
  refine fn_pur (fn_reg (fn_ok (k := 1) (N := ["_law_deck_here", "_law_some"]) (ps := ["_law_deck_here", "_law_some"]) (b := b__law_pick) F sc__law_pick fun cdv A outer s H E hcdv hr => ?_))
  unfold b__law_pick
  exact (mb_one (ms_ret (me_ix (hu_room hr) (me_v 1) (me_call o__law_draw (hr.mono (by decide)) (takes_of rfl rfl rfl rfl) (ma_c (me_v 0) (ma_c (me_cB c_len n_len boot_len (ma_c (me_v 1) ma_n) g_len) ma_n))))))
abbrev s_Chooser___len__ : Stmt := inClass (top 18) 1
theorem sc_Chooser___len__ : FnScope ["self"] ["self"] (defScope s_Chooser___len__) := ⟨rfl, rfl, rfl, by decide +kernel, rfl, by decide +kernel, by decide +kernel⟩
def b_Chooser___len__ : SM := (sRet (emCall lenF (ac (em1 (atT [("Chooser" : Str)] ("places" : Str)) (vr 0)) an)))
def m_Chooser___len__ : FM := pur (reg (fnB 1 b_Chooser___len__))
theorem w_Chooser___len__ {f : Addr} {fd : FuncData} (F : FunD K "__len__" "Chooser.__len__" (defArgs s_Chooser___len__) (defBody s_Chooser___len__) (defScope s_Chooser___len__) [] [] f fd) (g_len : mg ("len" : Str) = none) (a_places : AtOk K cl [("Chooser" : Str)] ("places" : Str)) : FnOk P w K mg base (L2.CX P w) 1 f fd ["self"] (spM ⟨P, w, K, cl⟩ 1 m_Chooser___len__) := by
  refine fn_pur (fn_reg (fn_ok (k := 0) (N := ["self"]) (ps := ["self"]) (b := b_Chooser___len__) F sc_Chooser___len__ fun cdv A outer s H E hcdv hr => ?_))
  unfold b_Chooser___len__
  exact (mb_one (ms_ret (me_cB c_len n_len boot_len (ma_c (me_at a_places (me_v 0)) ma_n) g_len)))
abbrev s_same_offers : Stmt := top 13
theorem sc_same_offers : FnScope ["things", "thing"] ["things"] (defScope s_same_offers) := ⟨rfl, rfl, rfl, by decide +kernel, rfl, by decide +kernel, by decide +kernel⟩
def b_same_offers : SM := (sFor (itE (vr 0)) (gmN 1)
 (sIf (tmOf (emOp neT (emCall (lenOF [(("Chooser" : Str), m_Chooser___len__)]) (ac (vr 1) an)) (emCall (lenOF [(("Chooser" : Str), m_Chooser___len__)]) (ac (emOp ixT (vr 0) (cst (.int 0))) an))))
 sBad
 sNx))
def m_same_offers : FM := pur (reg (fnB 2 b_same_offers))
theorem w_same_offers {f : Addr} {fd : FuncData} (F : FunD K "same_offers" "same_offers" (defArgs s_same_offers) (defBody s_same_offers) (defScope s_same_offers) [] [] f fd) (g_len : mg ("len" : Str) = none) (l_Chooser : LnO P w K mg base cl 1 ("Chooser" : Str) m_Chooser___len__) : FnOk P w K mg base (L2.CX P w) 3 f fd ["things"] (spM ⟨P, w, K, cl⟩ 1 m_same_offers) := by
  refine fn_pur (fn_reg (fn_ok (k := 2) (N := ["things", "thing"]) (ps := ["things"]) (b := b_same_offers) F sc_same_offers fun cdv A outer s H E hcdv hr => ?_))
  unfold b_same_offers
  exact (mb_one (ms_for (passes_of rfl) rfl (mi_e (me_v 0)) (mg_name 1 sc_same_offers.nd)
 (mb_one (ms_if (mt_cmp (o_ne (hu_room hr)) n_ne (me_cB (c_lenO (ms := [(("Chooser" : Str), m_Chooser___len__)]) (hr.mono (j := 2) (by decide)) (by intro q hq; simp only [List.mem_cons, List.not_mem_nil, or_false] at hq; subst hq; first | exact l_Chooser)) n_lenO boot_len (ma_c (me_v 1) ma_n) g_len) (me_cB (c_lenO (ms := [(("Chooser" : Str), m_Chooser___len__)]) (hr.mono (j := 2) (by decide)) (by intro q hq; simp only [List.mem_cons, List.not_mem_nil, or_false] at hq; subst hq; first | exact l_Chooser)) n_lenO boot_len (ma_c (me_ix (hu_room hr) (me_v 0) me_int) ma_n) g_len) (by first | exact nomark _ | rfl))
 (mb_one ms_bad)
 mb_nil))))
abbrev s_is_whole : Stmt := top 8
theorem sc_is_whole : FnScope ["thing"] ["thing"] (defScope s_is_whole) := ⟨rfl, rfl, rfl, by decide +kernel, rfl, by decide +kernel, by decide +kernel⟩
def b_is_whole : SM := (sRet (eAn (emCall isiTF (ac (vr 0) (ac (cst (.ty "int")) an))) (eNo (emCall isiTF (ac (vr 0) (ac (cst (.ty "bool")) an))))))
def m_is_whole : FM := pur (reg (fnB 1 b_is_whole))
theorem w_is_whole {f : Addr} {fd : FuncData} (F : FunD K "is_whole" "is_whole" (defArgs s_is_whole) (defBody s_is_whole) (defScope s_is_whole) [] [] f fd) (g_isinstance : mg ("isinstance" : Str) = none) (g_int : mg ("int" : Str) = none) (g_bool : mg ("bool" : Str) = none) : FnOk P w K mg base (L2.CX P w) 1 f fd ["thing"] (spM ⟨P, w, K, cl⟩ 1 m_is_whole) := by
  refine fn_pur (fn_reg (fn_ok (k := 0) (N := ["thing"]) (ps := ["thing"]) (b := b_is_whole) F sc_is_whole fun cdv A outer s H E hcdv hr => ?_))
  unfold b_is_whole
  exact (mb_one (ms_ret (me_and (me_cB c_isiT n_isiT PyProof.Rows.boot_isinstance (ma_c (me_v 0) (ma_c (me_ty g_int PyProof.Rows.boot_int) ma_n)) g_isinstance) (me_b1 (me_not (me_cB c_isiT n_isiT PyProof.Rows.boot_isinstance (ma_c (me_v 0) (ma_c (me_ty g_bool PyProof.Rows.boot_bool) ma_n)) g_isinstance))))))
abbrev s_is_set : Stmt := top 9
theorem sc_is_set : FnScope ["offers", "thing", "before", "one"] ["offers", "thing"] (defScope s_is_set) := ⟨rfl, rfl, rfl, by decide +kernel, rfl, by decide +kernel, by decide +kernel⟩
def b_is_set : SM := (sSeq (sIf (tNo (tmOf (emCall isiTF (ac (vr 1) (ac (cst (.ty "tuple")) an)))))
 (sRet (cst (.bl false)))
 sNx)
 (sSeq (sSet 2 (em1 ngT (cst (.int 1))))
 (sSeq (sFor (itE (vr 1)) (gmN 3)
 (sSeq (sIf (tOrr (tNo (tmOf (emCall (arg 1 m_is_whole) (ac (vr 3) an)))) (tNo (tmOf (emCh ltT ltT (vr 2) (vr 3) (vr 0)))))
 (sRet (cst (.bl false)))
 sNx)
 (sSet 2 (vr 3))))
 (sRet (cst (.bl true))))))
def m_is_set : FM := pur (reg (fnB 4 b_is_set))
theorem w_is_set {f : Addr} {fd : FuncData} (F : FunD K "is_set" "is_set" (defArgs s_is_set) (defBody s_is_set) (defScope s_is_set) [] [] f fd) (g_isinstance : mg ("isinstance" : Str) = none) (g_tuple : mg ("tuple" : Str) = none) (o_is_whole : Own P w K mg base cl 1 ("is_whole" : Str) 1 m_is_whole) : FnOk P w K mg base (L2.CX P w) 2 f fd ["offers", "thing"] (spM ⟨P, w, K, cl⟩ 2 m_is_set) := by
  refine fn_pur (fn_reg (fn_ok (k := 1) (N := ["offers", "thing", "before", "one"]) (ps := ["offers", "thing"]) (b := b_is_set) F sc_is_set fun cdv A outer s H E hcdv hr => ?_))
  unfold b_is_set
  exact (mb_cons (ms_if (mt_not (mt_val (me_cB c_isiT n_isiT PyProof.Rows.boot_isinstance (ma_c (me_v 1) (ma_c (me_ty g_tuple PyProof.Rows.boot_tuple) ma_n)) g_isinstance)))
 (mb_one (ms_ret me_bl))
 mb_nil)
 (mb_cons (ms_set 2 sc_is_set.nd (me_neg me_int))
 (mb_cons (ms_for (passes_of rfl) rfl (mi_e (me_v 1)) (mg_name 3 sc_is_set.nd)
 (mb_cons (ms_if (MW.mt (mw_or (mt_not (mt_val (me_call o_is_whole (hr.mono (by decide)) (takes_of rfl rfl rfl rfl) (ma_c (me_v 3) ma_n)))) (mw_o1 (mt_not (mt_chain o_lt iT_nox o_lt iT_nox (me_v 2) (me_v 3) (me_v 0))))))
 (mb_one (ms_ret me_bl))
 mb_nil)
 (mb_one (ms_set 2 sc_is_set.nd (me_v 3)))))
 (mb_one (ms_ret me_bl)))))
abbrev s_side_check_set : Stmt := top 20
theorem sc_side_check_set : FnScope ["chooser", "thing"] ["chooser", "thing"] (defScope s_side_check_set) := ⟨rfl, rfl, rfl, by decide +kernel, rfl, by decide +kernel, by decide +kernel⟩
def b_side_check_set : SM := (sIf (tNo (tmOf (emCall (arg 2 m_is_set) (ac (emCall (lenOF [(("Chooser" : Str), m_Chooser___len__)]) (ac (vr 0) an)) (ac (vr 1) an)))))
 sBad
 sNx)
def m_side_check_set : FM := pur (reg (fnB 2 b_side_check_set))
theorem w_side_check_set {f : Addr} {fd : FuncData} (F : FunD K "side_check_set" "side_check_set" (defArgs s_side_check_set) (defBody s_side_check_set) (defScope s_side_check_set) [] [] f fd) (o_is_set : Own P w K mg base cl 2 ("is_set" : Str) 2 m_is_set) (g_len : mg ("len" : Str) = none) (l_Chooser : LnO P w K mg base cl 1 ("Chooser" : Str) m_Chooser___len__) : FnOk P w K mg base (L2.CX P w) 3 f fd ["chooser", "thing"] (spM ⟨P, w, K, cl⟩ 2 m_side_check_set) := by
  refine fn_pur (fn_reg (fn_ok (k := 2) (N := ["chooser", "thing"]) (ps := ["chooser", "thing"]) (b := b_side_check_set) F sc_side_check_set fun cdv A outer s H E hcdv hr => ?_))
  unfold b_side_check_set
  exact (mb_one (ms_if (mt_not (mt_val (me_call o_is_set (hr.mono (by decide)) (takes_of rfl rfl rfl rfl) (ma_c (me_cB (c_lenO (ms := [(("Chooser" : Str), m_Chooser___len__)]) (hr.mono (j := 2) (by decide)) (by intro q hq; simp only [List.mem_cons, List.not_mem_nil, or_false] at hq; subst hq; first | exact l_Chooser)) n_lenO boot_len (ma_c (me_v 0) ma_n) g_len) (ma_c (me_v 1) ma_n)))))
 (mb_one ms_bad)
 mb_nil))
abbrev s_side_check_standing : Stmt := top 21
theorem sc_side_check_standing : FnScope ["near", "far", "standing"] ["near", "far", "standing"] (defScope s_side_check_standing) := ⟨rfl, rfl, rfl, by decide +kernel, rfl, by decide +kernel, by decide +kernel⟩
def b_side_check_standing : SM := (sSeq (sDrop (emCall (arg 1 m_same_offers) (ac (emL lstK (ac (vr 0) (ac (vr 1) an))) an)))
 (sDrop (emCall (arg 2 m_side_check_set) (ac (vr 0) (ac (vr 2) an)))))
def m_side_check_standing : FM := pur (reg (fnB 3 b_side_check_standing))
theorem w_side_check_standing {f : Addr} {fd : FuncData} (F : FunD K "side_check_standing" "side_check_standing" (defArgs s_side_check_standing) (defBody s_side_check_standing) (defScope s_side_check_standing) [] [] f fd) (o_same_offers : Own P w K mg base cl 3 ("same_offers" : Str) 1 m_same_offers) (o_side_check_set : Own P w K mg base cl 3 ("side_check_set" : Str) 2 m_side_check_set) : FnOk P w K mg base (L2.CX P w) 4 f fd ["near", "far", "standing"] (spM ⟨P, w, K, cl⟩ 3 m_side_check_standing) := by
  refine fn_pur (fn_reg (fn_ok (k := 3) (N := ["near", "far", "standing"]) (ps := ["near", "far", "standing"]) (b := b_side_check_standing) F sc_side_check_standing fun cdv A outer s H E hcdv hr => ?_))
  unfold b_side_check_standing
  exact (mb_cons (ms_expr (me_call o_same_offers (hr.mono (by decide)) (takes_of rfl rfl rfl rfl) (ma_c (me_lst lK (ma_c (me_v 0) (ma_c (me_v 1) ma_n))) ma_n)))
 (mb_one (ms_expr (me_call o_side_check_set (hr.mono (by decide)) (takes_of rfl rfl rfl rfl) (ma_c (me_v 0) (ma_c (me_v 2) ma_n))))))
abbrev s_together : Stmt := top 12
theorem sc_together : FnScope ["one", "other"] ["one", "other"] (defScope s_together) := ⟨rfl, rfl, rfl, by decide +kernel, rfl, by decide +kernel, by decide +kernel⟩
def b_together : SM := (sRet (emCall tupF (ac (emCall (sortF lstK) (ac (emCall setF (ac (emOp (adT lstK) (vr 0) (vr 1)) an)) an)) an)))
def m_together : FM := pur (reg (fnB 2 b_together))
theorem w_together {f : Addr} {fd : FuncData} (F : FunD K "together" "together" (defArgs s_together) (defBody s_together) (defScope s_together) [] [] f fd) (g_tuple : mg ("tuple" : Str) = none) (g_sorted : mg ("sorted" : Str) = none) (g_set : mg ("set" : Str) = none) : FnOk P w K mg base (L2.CX P w) 1 f fd ["one", "other"] (spM ⟨P, w, K, cl⟩ 2 m_together) := by
  refine fn_pur (fn_reg (fn_ok (k := 0) (N := ["one", "other"]) (ps := ["one", "other"]) (b := b_together) F sc_together fun cdv A outer s H E hcdv hr => ?_))
  unfold b_together
  exact (mb_one (ms_ret (me_cT c_tup n_tup PyProof.Rows.boot_tuple (ma_c (me_cB (c_sort lK rfl) (n_sort lK) PyProof.Rows.boot_sorted (ma_c (me_cT (c_set rfl) n_set PyProof.Rows.boot_set (ma_c (me_op (o_ad lK) (n_ad lK) (me_v 0) (me_v 1)) ma_n) g_set) ma_n) g_sorted) ma_n) g_tuple)))
abbrev s_rounds_of : Stmt := top 37
theorem sc_rounds_of : FnScope ["near", "far", "standing", "rows", "ever", "refused", "is_over", "proposed", "kept", "fresh", "offer"] ["near", "far", "standing"] (defScope s_rounds_of) := ⟨rfl, rfl, rfl, by decide +kernel, rfl, by decide +kernel, by decide +kernel⟩
def L_rounds_of_1 (m_together : FM) : SM := (sSeq (sSet 7 (emOp ixT (em1 (atT [("Chooser" : Str)] ("table" : Str)) (vr 0)) (emCall tupF (ac (lcM lstK (itE (vr 2)) (gmN 10) (tmOf (emOp (inT true) (vr 10) (vr 5))) (vr 10) [10]) an))))
 (sSeq (sSet 4 (emCall (arg 2 m_together) (ac (vr 4) (ac (vr 7) an))))
 (sSeq (sSet 8 (emOp ixT (em1 (atT [("Chooser" : Str)] ("table" : Str)) (vr 1)) (vr 4)))
 (sSeq (sDrop (emBm "list" apT (vr 3) (ac (emT (ac (vr 7) (ac (vr 8) an))) an)))
 (sSeq (sSet 9 (emCall tupF (ac (lcM lstK (itE (vr 4)) (gmN 10) (tmOf (emOp (inT true) (vr 10) (vr 8))) (vr 10) [10]) an)))
 (sAsg (gmT 2 (gmCons (gmN 6) (gmCons (gmN 5) gmNil))) (emT (ac (emOp eqT (vr 9) (vr 5)) (ac (vr 9) an)))))))))
def L_rounds_of_2 : TM := (tNo (tmOf (vr 6)))
def B_rounds_of (m_side_check_standing m_together : FM) : SM := (sSeq (sDrop (emCall (arg 3 m_side_check_standing) (ac (vr 0) (ac (vr 1) (ac (vr 2) an)))))
 (sSeq (sAsg (gmT 4 (gmCons (gmN 3) (gmCons (gmN 4) (gmCons (gmN 5) (gmCons (gmN 6) gmNil))))) (emT (ac (emL lstL an) (ac (emT an) (ac (emT an) (ac (cst (.bl false)) an))))))
 (sSeq (whS (L_rounds_of_2)
 (L_rounds_of_1 m_together) 1000000)
 (sRet (emCall tupF (ac (vr 3) an))))))
def b_rounds_of : SM := B_rounds_of m_side_check_standing m_together
def m_rounds_of : FM := pur (reg (fnB 11 b_rounds_of))
theorem w_rounds_of {f : Addr} {fd : FuncData} (F : FunD K "rounds_of" "rounds_of" (defArgs s_rounds_of) (defBody s_rounds_of) (defScope s_rounds_of) [] [] f fd) (o_side_check_standing : Own P w K mg base cl 4 ("side_check_standing" : Str) 3 m_side_check_standing) (a_table : AtOk K cl [("Chooser" : Str)] ("table" : Str)) (g_tuple : mg ("tuple" : Str) = none) (o_together : Own P w K mg base cl 1 ("together" : Str) 2 m_together) : FnOk P w K mg base (L2.CX P w) 5 f fd ["near", "far", "standing"] (spM ⟨P, w, K, cl⟩ 3 m_rounds_of) := by
  refine fn_pur (fn_reg (fn_ok (k := 4) (N := ["near", "far", "standing", "rows", "ever", "refused", "is_over", "proposed", "kept", "fresh", "offer"]) (ps := ["near", "far", "standing"]) (b := b_rounds_of) F sc_rounds_of fun cdv A outer s H E hcdv hr => ?_))
  unfold b_rounds_of B_rounds_of L_rounds_of_2 L_rounds_of_1
  exact (mb_cons (ms_expr (me_call o_side_check_standing (hr.mono (by decide)) (takes_of rfl rfl rfl rfl) (ma_c (me_v 0) (ma_c (me_v 1) (ma_c (me_v 2) ma_n)))))
 (mb_cons (ms_asg (me_tup (ma_c (me_lst lL ma_n) (ma_c (me_tup ma_n) (ma_c (me_tup ma_n) (ma_c me_bl ma_n))))) (mg_tup 4 rfl (mgs_cons (mg_name 3 sc_rounds_of.nd) (mgs_cons (mg_name 4 sc_rounds_of.nd) (mgs_cons (mg_name 5 sc_rounds_of.nd) (mgs_cons (mg_name 6 sc_rounds_of.nd) mgs_nil))))))
 (mb_cons (ms_while 1000000 (passes_of rfl) (mt_not (mt_val (me_v 6)))
 (mb_cons (ms_set 7 sc_rounds_of.nd (me_ix (hu_room hr) (me_at a_table (me_v 0)) (me_cT c_tup n_tup PyProof.Rows.boot_tuple (ma_c (me_lc lK rfl sc_rounds_of.nd (blkOk_by (own := [("offer", 10)]) (by first | rfl | decide +kernel)) (mi_e (me_v 2)) (by decide) (fun _ _ _ _ _ => (mg_name 10 sc_rounds_of.nd)) (fun _ _ _ _ _ => (mts_one (mt_cmp (o_notin (hu_room hr)) n_in (me_v 10) (me_v 5) (by first | exact nomark _ | rfl)))) (fun _ _ _ _ _ => (me_v 10))) ma_n) g_tuple)))
 (mb_cons (ms_set 4 sc_rounds_of.nd (me_call o_together (hr.mono (by decide)) (takes_of rfl rfl rfl rfl) (ma_c (me_v 4) (ma_c (me_v 7) ma_n))))
 (mb_cons (ms_set 8 sc_rounds_of.nd (me_ix (hu_room hr) (me_at a_table (me_v 1)) (me_v 4)))
 (mb_cons (ms_expr (me_bm PySem.F.plainAttrs_list PySem.F.slot_list_append PySem.F.type_list_append mm_ap n_ap (me_v 3) (ma_c (me_tup (ma_c (me_v 7) (ma_c (me_v 8) ma_n))) ma_n)))
 (mb_cons (ms_set 9 sc_rounds_of.nd (me_cT c_tup n_tup PyProof.Rows.boot_tuple (ma_c (me_lc lK rfl sc_rounds_of.nd (blkOk_by (own := [("offer", 10)]) (by first | rfl | decide +kernel)) (mi_e (me_v 4)) (by decide) (fun _ _ _ _ _ => (mg_name 10 sc_rounds_of.nd)) (fun _ _ _ _ _ => (mts_one (mt_cmp (o_notin (hu_room hr)) n_in (me_v 10) (me_v 8) (by first | exact nomark _ | rfl)))) (fun _ _ _ _ _ => (me_v 10))) ma_n) g_tuple))
 (mb_one (ms_asg (me_tup (ma_c (me_cmp (o_eq (hu_room hr)) n_eq (me_v 9) (me_v 5) (by first | exact nomark _ | rfl)) (ma_c (me_v 9) ma_n))) (mg_tup 2 rfl (mgs_cons (mg_name 6 sc_rounds_of.nd) (mgs_cons (mg_name 5 sc_rounds_of.nd) mgs_nil)))))))))))
 (mb_one (ms_ret (me_cT c_tup n_tup PyProof.Rows.boot_tuple (ma_c (me_v 3) ma_n) g_tuple))))))
abbrev s_best_settled : Stmt := top 38
theorem sc_best_settled : FnScope ["near", "far", "standing"] ["near", "far", "standing"] (defScope s_best_settled) := ⟨rfl, rfl, rfl, by decide +kernel, rfl, by decide +kernel, by decide +kernel⟩
def B_best_settled (m_rounds_of : FM) : SM := (sRet (emOp ixT (emOp ixT (emCall (arg 3 m_rounds_of) (ac (vr 0) (ac (vr 1) (ac (vr 2) an)))) (em1 ngT (cst (.int 1)))) (cst (.int 1))))
def b_best_settled : SM := B_best_settled m_rounds_of
def m_best_settled : FM := pur (reg (fnB 3 b_best_settled))
theorem w_best_settled {f : Addr} {fd : FuncData} (F : FunD K "best_settled" "best_settled" (defArgs s_best_settled) (defBody s_best_settled) (defScope s_best_settled) [] [] f fd) (o_rounds_of : Own P w K mg base cl 5 ("rounds_of" : Str) 3 m_rounds_of) : FnOk P w K mg base (L2.CX P w) 6 f fd ["near", "far", "standing"] (spM ⟨P, w, K, cl⟩ 3 m_best_settled) := by
  refine fn_pur (fn_reg (fn_ok (k := 5) (N := ["near", "far", "standing"]) (ps := ["near", "far", "standing"]) (b := b_best_settled) F sc_best_settled fun cdv A outer s H E hcdv hr => ?_))
  unfold b_best_settled B_best_settled
  exact (mb_one (ms_ret (me_ix (hu_room hr) (me_ix (hu_room hr) (me_call o_rounds_of (hr.mono (by decide)) (takes_of rfl rfl rfl rfl) (ma_c (me_v 0) (ma_c (me_v 1) (ma_c (me_v 2) ma_n)))) (me_neg me_int)) me_int)))
abbrev s_all_sets : Stmt := top 10
theorem sc_all_sets : FnScope ["offers", "size", "found", "rows", "row", "one"] ["offers"] (defScope s_all_sets) := ⟨rfl, rfl, rfl, by decide +kernel, rfl, by decide +kernel, by decide +kernel⟩
def b_all_sets : SM := (sSeq (sPar2 2 3 (ac (emL lstL (ac (emT an) an)) (ac (emL lstK (ac (emT an) an)) an)))
 (sSeq (sFor (itR1 (ac (vr 0) an)) (gmN 1)
 (sSeq (sSet 3 (lc2M lstK (itE (vr 3)) (gmN 4) tYes (itR2 (ac (eIf (tmOf (emOp neT (vr 4) (emT an))) (emOp (adT lstK) (emOp ixT (vr 4) (em1 ngT (cst (.int 1)))) (cst (.int 1))) (cst (.int 0))) (ac (vr 0) an))) (gmN 5) tYes (emOp (adT lstK) (vr 4) (emT (ac (vr 5) an))) [4, 5] [5]))
 (sDrop (emBm "list" exT (vr 2) (ac (vr 3) an)))))
 (sRet (emCall tupF (ac (vr 2) an)))))
def m_all_sets : FM := pur (reg (fnB 6 b_all_sets))
theorem w_all_sets {f : Addr} {fd : FuncData} (F : FunD K "all_sets" "all_sets" (defArgs s_all_sets) (defBody s_all_sets) (defScope s_all_sets) [] [] f fd) (g_range : mg ("range" : Str) = none) (g_tuple : mg ("tuple" : Str) = none) : FnOk P w K mg base (L2.CX P w) 1 f fd ["offers"] (spM ⟨P, w, K, cl⟩ 1 m_all_sets) := by
  refine fn_pur (fn_reg (fn_ok (k := 0) (N := ["offers", "size", "found", "rows", "row", "one"]) (ps := ["offers"]) (b := b_all_sets) F sc_all_sets fun cdv A outer s H E hcdv hr => ?_))
  unfold b_all_sets
  exact (mb_cons (ms_par2 2 3 rfl sc_all_sets.nd (ma_c (me_lst lL (ma_c (me_tup ma_n) ma_n)) (ma_c (me_lst lK (ma_c (me_tup ma_n) ma_n)) ma_n)))
 (mb_cons (ms_for (passes_of rfl) rfl (mi_r1 rfl g_range (ma_c (me_v 0) ma_n)) (mg_name 1 sc_all_sets.nd)
 (mb_cons (ms_setLc2 3 (vs1 := [5]) lK rfl sc_all_sets.nd (blkOk_by (own := [("row", 4), ("one", 5)]) (by first | rfl | decide +kernel)) (by decide) (mi_e (me_v 3)) (by decide) (by decide) (fun _ _ _ _ _ => (mg_name 4 sc_all_sets.nd)) (fun _ _ _ _ _ => mts_nil) (fun _ _ _ _ _ => (mi_r2 rfl g_range (ma_c (me_if (mt_cmp (o_ne (hu_room hr)) n_ne (me_v 4) (me_tup ma_n) (by first | exact nomark _ | rfl)) (me_op (o_ad lK) (n_ad lK) (me_ix (hu_room hr) (me_v 4) (me_neg me_int)) me_int) me_int) (ma_c (me_v 0) ma_n)))) (fun _ _ _ _ _ => (mg_name 5 sc_all_sets.nd)) (fun _ _ _ _ _ => mts_nil) (fun _ _ _ _ _ => (me_op (o_ad lK) (n_ad lK) (me_v 4) (me_tup (ma_c (me_v 5) ma_n)))))
 (mb_one (ms_expr (me_bm PySem.F.plainAttrs_list PySem.F.slot_list_extend PySem.F.type_list_extend mm_ex n_ex (me_v 2) (ma_c (me_v 3) ma_n))))))
 (mb_one (ms_ret (me_cT c_tup n_tup PyProof.Rows.boot_tuple (ma_c (me_v 2) ma_n) g_tuple)))))
abbrev s_chooser_is_part : Stmt := top 17
theorem sc_chooser_is_part : FnScope ["part", "some", "one"] ["part", "some"] (defScope s_chooser_is_part) := ⟨rfl, rfl, rfl, by decide +kernel, rfl, by decide +kernel, by decide +kernel⟩
def b_chooser_is_part : SM := (sSeq (sFor (itE (vr 0)) (gmN 2)
 (sIf (tmOf (emOp (inT true) (vr 2) (vr 1)))
 (sRet (cst (.bl false)))
 sNx))
 (sRet (cst (.bl true))))
def m_chooser_is_part : FM := pur (reg (fnB 3 b_chooser_is_part))
theorem w_chooser_is_part {f : Addr} {fd : FuncData} (F : FunD K "chooser_is_part" "chooser_is_part" (defArgs s_chooser_is_part) (defBody s_chooser_is_part) (defScope s_chooser_is_part) [] [] f fd)  : FnOk P w K mg base (L2.CX P w) 1 f fd ["part", "some"] (spM ⟨P, w, K, cl⟩ 2 m_chooser_is_part) := by
  refine fn_pur (fn_reg (fn_ok (k := 0) (N := ["part", "some", "one"]) (ps := ["part", "some"]) (b := b_chooser_is_part) F sc_chooser_is_part fun cdv A outer s H E hcdv hr => ?_))
  unfold b_chooser_is_part
  exact (mb_cons (ms_for (passes_of rfl) rfl (mi_e (me_v 0)) (mg_name 2 sc_chooser_is_part.nd)
 (mb_one (ms_if (mt_cmp (o_notin (hu_room hr)) n_in (me_v 2) (me_v 1) (by first | exact nomark _ | rfl))
 (mb_one (ms_ret me_bl))
 mb_nil)))
 (mb_one (ms_ret me_bl)))
abbrev s_Chooser___init__ : Stmt := inClass (top 18) 0
theorem sc_Chooser___init__ : FnScope ["self", "offers", "picks", "sets", "table", "number", "some", "pick"] ["self", "offers", "picks"] (defScope s_Chooser___init__) := ⟨rfl, rfl, rfl, by decide +kernel, rfl, by decide +kernel, by decide +kernel⟩
def L_Chooser___init___1 (m_is_set m_chooser_is_part : FM) : SM := (sSeq (sSet 7 (emOp ixT (vr 2) (vr 5)))
 (sSeq (sIf (tOrr (tNo (tmOf (emCall (arg 2 m_is_set) (ac (vr 1) (ac (vr 7) an))))) (tNo (tmOf (emCall (arg 2 m_chooser_is_part) (ac (vr 7) (ac (vr 6) an))))))
 sBad
 sNx)
 (sSub (vr 4) (vr 6) (vr 7))))
def B_Chooser___init__ (m_is_whole m_all_sets m_is_set m_chooser_is_part : FM) : SM := (sSeq (sIf (tOrr (tNo (tmOf (emCall (arg 1 m_is_whole) (ac (vr 1) an)))) (tNo (tmOf (emCh leT leT (cst (.int 1)) (vr 1) (cst (.int 6))))))
 sBad
 sNx)
 (sSeq (sSet 3 (emCall (arg 1 m_all_sets) (ac (vr 1) an)))
 (sSeq (sIf (tOrr (tNo (tmOf (emCall isiTF (ac (vr 2) (ac (cst (.ty "tuple")) an))))) (tmOf (emOp neT (emCall lenF (ac (vr 2) an)) (emCall lenF (ac (vr 3) an)))))
 sBad
 sNx)
 (sSeq (sSet 4 dnT)
 (sSeq (sFor (itEn (ac (vr 3) an)) (gmT 2 (gmCons (gmN 5) (gmCons (gmN 6) gmNil)))
 (L_Chooser___init___1 m_is_set m_chooser_is_part))
 (sSeq (sAtt [("Chooser" : Str)] ("offers" : Str) (vr 0) (vr 1))
 (sSeq (sAtt [("Chooser" : Str)] ("picks" : Str) (vr 0) (vr 2))
 (sSeq (sAtt [("Chooser" : Str)] ("table" : Str) (vr 0) (vr 4))
 (sAtt [("Chooser" : Str)] ("places" : Str) (vr 0) (emRgT (rg1 (vr 1))))))))))))
def b_Chooser___init__ : SM := B_Chooser___init__ m_is_whole m_all_sets m_is_set m_chooser_is_part
def m_Chooser___init__ : FM := fnB 8 b_Chooser___init__
theorem w_Chooser___init__ {f : Addr} {fd : FuncData} (F : FunD K "__init__" "Chooser.__init__" (defArgs s_Chooser___init__) (defBody s_Chooser___init__) (defScope s_Chooser___init__) [] [] f fd) (o_is_whole : Own P w K mg base cl 1 ("is_whole" : Str) 1 m_is_whole) (c_CHOOSER_MOST : ∃ t, mg ("CHOOSER_MOST" : Str) = some (.int 6 t)) (o_all_sets : Own P w K mg base cl 1 ("all_sets" : Str) 1 m_all_sets) (g_isinstance : mg ("isinstance" : Str) = none) (g_tuple : mg ("tuple" : Str) = none) (g_len : mg ("len" : Str) = none) (g_enumerate : mg ("enumerate" : Str) = none) (o_is_set : Own P w K mg base cl 2 ("is_set" : Str) 2 m_is_set) (o_chooser_is_part : Own P w K mg base cl 1 ("chooser_is_part" : Str) 2 m_chooser_is_part) (a_offers : AtOk K cl [("Chooser" : Str)] ("offers" : Str)) (a_picks : AtOk K cl [("Chooser" : Str)] ("picks" : Str)) (a_table : AtOk K cl [("Chooser" : Str)] ("table" : Str)) (g_range : mg ("range" : Str) = none) (a_places : AtOk K cl [("Chooser" : Str)] ("places" : Str)) : FnOk P w K mg base (L2.CX P w) 3 f fd ["self", "offers", "picks"] (spM ⟨P, w, K, cl⟩ 3 m_Chooser___init__) := by
  refine (fn_ok (k := 2) (N := ["self", "offers", "picks", "sets", "table", "number", "some", "pick"]) (ps := ["self", "offers", "picks"]) (b := b_Chooser___init__) F sc_Chooser___init__ fun cdv A outer s H E hcdv hr => ?_)
  unfold b_Chooser___init__ B_Chooser___init__ L_Chooser___init___1
  exact (mb_cons (ms_if (MW.mt (mw_or (mt_not (mt_val (me_call o_is_whole (hr.mono (by decide)) (takes_of rfl rfl rfl rfl) (ma_c (me_v 1) ma_n)))) (mw_o1 (mt_not (mt_chain o_le iT_nox o_le iT_nox me_int (me_v 1) (me_gint rfl c_CHOOSER_MOST))))))
 (mb_one ms_bad)
 mb_nil)
 (mb_cons (ms_set 3 sc_Chooser___init__.nd (me_call o_all_sets (hr.mono (by decide)) (takes_of rfl rfl rfl rfl) (ma_c (me_v 1) ma_n)))
 (mb_cons (ms_if (MW.mt (mw_or (mt_not (mt_val (me_cB c_isiT n_isiT PyProof.Rows.boot_isinstance (ma_c (me_v 2) (ma_c (me_ty g_tuple PyProof.Rows.boot_tuple) ma_n)) g_isinstance))) (mw_o1 (mt_cmp (o_ne (hu_room hr)) n_ne (me_cB c_len n_len boot_len (ma_c (me_v 2) ma_n) g_len) (me_cB c_len n_len boot_len (ma_c (me_v 3) ma_n) g_len) (by first | exact nomark _ | rfl)))))
 (mb_one ms_bad)
 mb_nil)
 (mb_cons (ms_set 4 sc_Chooser___init__.nd me_dnT)
 (mb_cons (ms_for (passes_of rfl) rfl (mi_en rfl g_enumerate (ma_c (me_v 3) ma_n)) (mg_tup 2 rfl (mgs_cons (mg_name 5 sc_Chooser___init__.nd) (mgs_cons (mg_name 6 sc_Chooser___init__.nd) mgs_nil)))
 (mb_cons (ms_set 7 sc_Chooser___init__.nd (me_ix (hu_room hr) (me_v 2) (me_v 5)))
 (mb_cons (ms_if (MW.mt (mw_or (mt_not (mt_val (me_call o_is_set (hr.mono (by decide)) (takes_of rfl rfl rfl rfl) (ma_c (me_v 1) (ma_c (me_v 7) ma_n))))) (mw_o1 (mt_not (mt_val (me_call o_chooser_is_part (hr.mono (by decide)) (takes_of rfl rfl rfl rfl) (ma_c (me_v 7) (ma_c (me_v 6) ma_n))))))))
 (mb_one ms_bad)
 mb_nil)
 (mb_one (ms_sub (hu_room hr) (me_v 7) (me_v 4) (me_v 6))))))
 (mb_cons (ms_att a_offers (me_v 1) (me_v 0))
 (mb_cons (ms_att a_picks (me_v 2) (me_v 0))
 (mb_cons (ms_att a_table (me_v 4) (me_v 0))
 (mb_one (ms_att a_places (me_rgT rfl g_tuple (mr_1 g_range (me_v 1))) (me_v 0)))))))))))
abbrev s__law_taken : Stmt := top 48
theorem sc__law_taken : FnScope ["_law_lists_here", "_law_some", "_law_found", "_law_row", "_law_there", "_law_offer"] ["_law_lists_here", "_law_some"] (defScope s__law_taken) := ⟨rfl, rfl, rfl, by decide +kernel, rfl, by decide +kernel, by decide +kernel⟩
def b__law_taken : SM := (sSeq (sSet 2 dnK)
 (sSeq (sFor (itE (vr 0)) (gmN 3)
 (sSeq (sSet 4 (lcM lstK (itE (vr 3)) (gmN 5) (tmOf (emOp (inT false) (vr 5) (vr 1))) (vr 5) [5]))
 (sIf (tmOf (emOp neT (vr 4) (emL lstK an)))
 (sSub (vr 2) (emOp ixT (vr 4) (cst (.int 0))) (cst (.bl true)))
 sNx)))
 (sRet (emCall tupF (ac (emCall (sortF lstK) (ac (vr 2) an)) an)))))
def m__law_taken : FM := pur (reg (fnB 6 b__law_taken))
theorem w__law_taken {f : Addr} {fd : FuncData} (F : FunD K "_law_taken" "_law_taken" (defArgs s__law_taken) (defBody s__law_taken) (defScope s__law_taken) [] [] f fd) (g_tuple : mg ("tuple" : Str) = none) (g_sorted : mg ("sorted" : Str) = none) : FnOk P w K mg base (L2.CX P w) 1 f fd ["_law_lists_here", "_law_some"] (spM ⟨P, w, K, cl⟩ 2 m__law_taken) := by
  refine fn_pur (fn_reg (fn_ok (k := 0) (N := ["_law_lists_here", "_law_some", "_law_found", "_law_row", "_law_there", "_law_offer"]) (ps := ["_law_lists_here", "_law_some"]) (b := b__law_taken) F sc__law_taken fun cdv A outer s H E hcdv hr => ?_))
  unfold b__law_taken
  exact (mb_cons (ms_set 2 sc__law_taken.nd me_dnK)
 (mb_cons (ms_for (passes_of rfl) rfl (mi_e (me_v 0)) (mg_name 3 sc__law_taken.nd)
 (mb_cons (ms_setLc 4 lK rfl sc__law_taken.nd (blkOk_by (own := [("_law_offer", 5)]) (by first | rfl | decide +kernel)) (mi_e (me_v 3)) (by decide) (fun _ _ _ _ _ => (mg_name 5 sc__law_taken.nd)) (fun _ _ _ _ _ => (mts_one (mt_cmp (o_in (hu_room hr)) n_in (me_v 5) (me_v 1) (by first | exact nomark _ | rfl)))) (fun _ _ _ _ _ => (me_v 5)))
 (mb_one (ms_if (mt_cmp (o_ne (hu_room hr)) n_ne (me_v 4) (me_lst lK ma_n) (by first | exact nomark _ | rfl))
 (mb_one (ms_sub (hu_room hr) me_bl (me_v 2) (me_ix (hu_room hr) (me_v 4) me_int)))
 mb_nil))))
 (mb_one (ms_ret (me_cT c_tup n_tup PyProof.Rows.boot_tuple (ma_c (me_cB (c_sort lK rfl) (n_sort lK) PyProof.Rows.boot_sorted (ma_c (me_v 2) ma_n) g_sorted) ma_n) g_tuple)))))
abbrev s__law_sets : Stmt := top 46
theorem sc__law_sets : FnScope ["_law_offers", "_law_found", "_law_offer", "_law_some"] ["_law_offers"] (defScope s__law_sets) := ⟨rfl, rfl, rfl, by decide +kernel, rfl, by decide +kernel, by decide +kernel⟩
def b__law_sets : SM := (sSeq (sSet 1 (emL lstK (ac (emT an) an)))
 (sSeq (sFor (itR1 (ac (vr 0) an)) (gmN 2)
 (sSet 1 (emOp (adT lstK) (vr 1) (lcM lstK (itE (vr 1)) (gmN 3) tYes (emOp (adT lstK) (vr 3) (emT (ac (vr 2) an))) [3]))))
 (sRet (em1 (sortKF lstK) (vr 1)))))
def m__law_sets : FM := pur (reg (fnB 4 b__law_sets))
theorem w__law_sets {f : Addr} {fd : FuncData} (F : FunD K "_law_sets" "_law_sets" (defArgs s__law_sets) (defBody s__law_sets) (defScope s__law_sets) [] [] f fd) (g_range : mg ("range" : Str) = none) (g_sorted : mg ("sorted" : Str) = none) (g_len : mg ("len" : Str) = none) {c0 P0 : Addr} (hcode : fd.code = .ref c0) (TB : LamX.TabB base mg c0 P0) (hT : (P0, (("_law_sets" : Str) ++ ".<locals>.") ++ "<lambda>") ∈ cl.tabs) (hTu : ∀ p ∈ cl.tabs, p.1 = P0 → p.2 = (("_law_sets" : Str) ++ ".<locals>.") ++ "<lambda>") : FnOk P w K mg base (L2.CX P w) 1 f fd ["_law_offers"] (spM ⟨P, w, K, cl⟩ 1 m__law_sets) := by
  refine fn_pur (fn_reg (fn_ok (k := 0) (N := ["_law_offers", "_law_found", "_law_offer", "_law_some"]) (ps := ["_law_offers"]) (b := b__law_sets) F sc__law_sets fun cdv A outer s H E hcdv hr => ?_))
  have hcd := hcdv.symm.trans hcode
  unfold b__law_sets
  exact (mb_cons (ms_set 1 sc__law_sets.nd (me_lst lK (ma_c (me_tup ma_n) ma_n)))
 (mb_cons (ms_for (passes_of rfl) rfl (mi_r1 rfl g_range (ma_c (me_v 0) ma_n)) (mg_name 2 sc__law_sets.nd)
 (mb_one (ms_set 1 sc__law_sets.nd (me_op (o_ad lK) (n_ad lK) (me_v 1) (me_lc lK rfl sc__law_sets.nd (blkOk_by (own := [("_law_some", 3)]) (by first | rfl | decide +kernel)) (mi_e (me_v 1)) (by decide) (fun _ _ _ _ _ => (mg_name 3 sc__law_sets.nd)) (fun _ _ _ _ _ => mts_nil) (fun _ _ _ _ _ => (me_op (o_ad lK) (n_ad lK) (me_v 3) (me_tup (ma_c (me_v 2) ma_n)))))))))
 (mb_one (ms_ret (me_sortKey lK hr g_sorted g_len TB hcd hT hTu ⟨rfl, rfl, rfl, by decide +kernel, rfl, rfl⟩ (me_v 1))))))
abbrev s__law_chooser : Stmt := top 49
theorem sc__law_chooser : FnScope ["_law_offers", "_law_lists_here", "_law_some"] ["_law_offers", "_law_lists_here"] (defScope s__law_chooser) := ⟨rfl, rfl, rfl, by decide +kernel, rfl, by decide +kernel, by decide +kernel⟩
def b__law_chooser : SM := (sRet (regE (emMk ("Chooser" : Str) 2 m_Chooser___init__ (ac (vr 0) (ac (emCall tupF (ac (lcM lstK (itE (emCall (arg 1 m__law_sets) (ac (vr 0) an))) (gmN 2) tYes (emCall (arg 2 m__law_taken) (ac (vr 1) (ac (vr 2) an))) [2]) an)) an)))))
def m__law_chooser : FM := pur (reg (fnB 3 b__law_chooser))
theorem w__law_chooser {f : Addr} {fd : FuncData} (F : FunD K "_law_chooser" "_law_chooser" (defArgs s__law_chooser) (defBody s__law_chooser) (defScope s__law_chooser) [] [] f fd) (k_mk_Chooser : Mkr P w K mg base cl 3 ("Chooser" : Str) 2 m_Chooser___init__) (g_tuple : mg ("tuple" : Str) = none) (o__law_sets : Own P w K mg base cl 1 ("_law_sets" : Str) 1 m__law_sets) (o__law_taken : Own P w K mg base cl 1 ("_law_taken" : Str) 2 m__law_taken) : FnOk P w K mg base (L2.CX P w) 5 f fd ["_law_offers", "_law_lists_here"] (spM ⟨P, w, K, cl⟩ 2 m__law_chooser) := by
  refine fn_pur (fn_reg (fn_ok (k := 4) (N := ["_law_offers", "_law_lists_here", "_law_some"]) (ps := ["_law_offers", "_law_lists_here"]) (b := b__law_chooser) F sc__law_chooser fun cdv A outer s H E hcdv hr => ?_))
  unfold b__law_chooser
  exact (mb_one (ms_ret (me_reg (me_make k_mk_Chooser (hr.mono (by decide)) (takes_of rfl rfl rfl rfl) (ma_c (me_v 0) (ma_c (me_cT c_tup n_tup PyProof.Rows.boot_tuple (ma_c (me_lc lK rfl sc__law_chooser.nd (blkOk_by (own := [("_law_some", 2)]) (by first | rfl | decide +kernel)) (mi_e (me_call o__law_sets (hr.mono (by decide)) (takes_of rfl rfl rfl rfl) (ma_c (me_v 0) ma_n))) (by decide) (fun _ _ _ _ _ => (mg_name 2 sc__law_chooser.nd)) (fun _ _ _ _ _ => mts_nil) (fun _ _ _ _ _ => (me_call o__law_taken (hr.mono (by decide)) takes0 (ma_c (me_v 1) (ma_c (me_v 2) ma_n))))) ma_n) g_tuple) ma_n))))))
abbrev s__law_in_order : Stmt := top 51
theorem sc__law_in_order : FnScope ["_law_sets_here"] ["_law_sets_here"] (defScope s__law_in_order) := ⟨rfl, rfl, rfl, by decide +kernel, rfl, by decide +kernel, by decide +kernel⟩
def B__law_in_order : SM := (sRet (emCall tupF (ac (em1 (sortKF lstK) (vr 0)) an)))
def b__law_in_order : SM := B__law_in_order 
def m__law_in_order : FM := pur (reg (fnB 1 b__law_in_order))
theorem w__law_in_order {f : Addr} {fd : FuncData} (F : FunD K "_law_in_order" "_law_in_order" (defArgs s__law_in_order) (defBody s__law_in_order) (defScope s__law_in_order) [] [] f fd) (g_tuple : mg ("tuple" : Str) = none) (g_sorted : mg ("sorted" : Str) = none) (g_len : mg ("len" : Str) = none) {c0 P0 : Addr} (hcode : fd.code = .ref c0) (TB : LamX.TabB base mg c0 P0) (hT : (P0, (("_law_in_order" : Str) ++ ".<locals>.") ++ "<lambda>") ∈ cl.tabs) (hTu : ∀ p ∈ cl.tabs, p.1 = P0 → p.2 = (("_law_in_order" : Str) ++ ".<locals>.") ++ "<lambda>") : FnOk P w K mg base (L2.CX P w) 1 f fd ["_law_sets_here"] (spM ⟨P, w, K, cl⟩ 1 m__law_in_order) := by
  refine fn_pur (fn_reg (fn_ok (k := 0) (N := ["_law_sets_here"]) (ps := ["_law_sets_here"]) (b := b__law_in_order) F sc__law_in_order fun cdv A outer s H E hcdv hr => ?_))
  have hcd := hcdv.symm.trans hcode
  unfold b__law_in_order B__law_in_order
  exact (mb_one (ms_ret (me_cT c_tup n_tup PyProof.Rows.boot_tuple (ma_c (me_sortKey lK hr g_sorted g_len TB hcd hT hTu ⟨rfl, rfl, rfl, by decide +kernel, rfl, rfl⟩ (me_v 0)) ma_n) g_tuple)))
abbrev s_renamed : Stmt := top 35
theorem sc_renamed : FnScope ["chooser", "order", "picks", "some", "elder", "one"] ["chooser", "order"] (defScope s_renamed) := ⟨rfl, rfl, rfl, by decide +kernel, rfl, by decide +kernel, by decide +kernel⟩
def L_renamed_1 (m_Chooser___len__ : FM) : SM := (sSeq (sSet 4 (emCall tupF (ac (lcM lstK (itR1 (ac (emCall (lenOF [(("Chooser" : Str), m_Chooser___len__)]) (ac (vr 0) an)) an)) (gmN 5) (tmOf (emOp (inT false) (emOp ixT (vr 1) (vr 5)) (vr 3))) (vr 5) [5]) an)))
 (sDrop (emBm "list" apT (vr 2) (ac (emCall tupF (ac (emCall (sortF lstK) (ac (lcM lstK (itE (emOp ixT (em1 (atT [("Chooser" : Str)] ("table" : Str)) (vr 0)) (vr 4))) (gmN 5) tYes (emOp ixT (vr 1) (vr 5)) [5]) an)) an)) an))))
def B_renamed (m_all_sets m_Chooser___len__ m_Chooser___init__ : FM) : SM := (sSeq (sSet 2 (emL lstL an))
 (sSeq (sFor (itE (emCall (arg 1 m_all_sets) (ac (emCall (lenOF [(("Chooser" : Str), m_Chooser___len__)]) (ac (vr 0) an)) an))) (gmN 3)
 (L_renamed_1 m_Chooser___len__))
 (sRet (regE (emMk ("Chooser" : Str) 2 m_Chooser___init__ (ac (emCall (lenOF [(("Chooser" : Str), m_Chooser___len__)]) (ac (vr 0) an)) (ac (emCall tupF (ac (vr 2) an)) an)))))))
def b_renamed : SM := B_renamed m_all_sets m_Chooser___len__ m_Chooser___init__
def m_renamed : FM := pur (reg (fnB 6 b_renamed))
theorem w_renamed {f : Addr} {fd : FuncData} (F : FunD K "renamed" "renamed" (defArgs s_renamed) (defBody s_renamed) (defScope s_renamed) [] [] f fd) (o_all_sets : Own P w K mg base cl 1 ("all_sets" : Str) 1 m_all_sets) (g_len : mg ("len" : Str) = none) (l_Chooser : LnO P w K mg base cl 1 ("Chooser" : Str) m_Chooser___len__) (g_tuple : mg ("tuple" : Str) = none) (g_range : mg ("range" : Str) = none) (g_sorted : mg ("sorted" : Str) = none) (a_table : AtOk K cl [("Chooser" : Str)] ("table" : Str)) (k_mk_Chooser : Mkr P w K mg base cl 3 ("Chooser" : Str) 2 m_Chooser___init__) : FnOk P w K mg base (L2.CX P w) 5 f fd ["chooser", "order"] (spM ⟨P, w, K, cl⟩ 2 m_renamed) := by
  refine fn_pur (fn_reg (fn_ok (k := 4) (N := ["chooser", "order", "picks", "some", "elder", "one"]) (ps := ["chooser", "order"]) (b := b_renamed) F sc_renamed fun cdv A outer s H E hcdv hr => ?_))
  unfold b_renamed B_renamed L_renamed_1
  exact (mb_cons (ms_set 2 sc_renamed.nd (me_lst lL ma_n))
 (mb_cons (ms_for (passes_of rfl) rfl (mi_e (me_call o_all_sets (hr.mono (by decide)) (takes_of rfl rfl rfl rfl) (ma_c (me_cB (c_lenO (ms := [(("Chooser" : Str), m_Chooser___len__)]) (hr.mono (j := 2) (by decide)) (by intro q hq; simp only [List.mem_cons, List.not_mem_nil, or_false] at hq; subst hq; first | exact l_Chooser)) n_lenO boot_len (ma_c (me_v 0) ma_n) g_len) ma_n))) (mg_name 3 sc_renamed.nd)
 (mb_cons (ms_set 4 sc_renamed.nd (me_cT c_tup n_tup PyProof.Rows.boot_tuple (ma_c (me_lc lK rfl sc_renamed.nd (blkOk_by (own := [("one", 5)]) (by first | rfl | decide +kernel)) (mi_r1 rfl g_range (ma_c (me_cB (c_lenO (ms := [(("Chooser" : Str), m_Chooser___len__)]) (hr.mono (j := 2) (by decide)) (by intro q hq; simp only [List.mem_cons, List.not_mem_nil, or_false] at hq; subst hq; first | exact l_Chooser)) n_lenO boot_len (ma_c (me_v 0) ma_n) g_len) ma_n)) (by decide) (fun _ _ _ _ _ => (mg_name 5 sc_renamed.nd)) (fun _ _ _ _ _ => (mts_one (mt_cmp (o_in (hu_room hr)) n_in (me_ix (hu_room hr) (me_v 1) (me_v 5)) (me_v 3) (by first | exact nomark _ | rfl)))) (fun _ _ _ _ _ => (me_v 5))) ma_n) g_tuple))
 (mb_one (ms_expr (me_bm PySem.F.plainAttrs_list PySem.F.slot_list_append PySem.F.type_list_append mm_ap n_ap (me_v 2) (ma_c (me_cT c_tup n_tup PyProof.Rows.boot_tuple (ma_c (me_cB (c_sort lK rfl) (n_sort lK) PyProof.Rows.boot_sorted (ma_c (me_lc lK rfl sc_renamed.nd (blkOk_by (own := [("one", 5)]) (by first | rfl | decide +kernel)) (mi_e (me_ix (hu_room hr) (me_at a_table (me_v 0)) (me_v 4))) (by decide) (fun _ _ _ _ _ => (mg_name 5 sc_renamed.nd)) (fun _ _ _ _ _ => mts_nil) (fun _ _ _ _ _ => (me_ix (hu_room hr) (me_v 1) (me_v 5)))) ma_n) g_sorted) ma_n) g_tuple) ma_n))))))
 (mb_one (ms_ret (me_reg (me_make k_mk_Chooser (hr.mono (by decide)) (takes_of rfl rfl rfl rfl) (ma_c (me_cB (c_lenO (ms := [(("Chooser" : Str), m_Chooser___len__)]) (hr.mono (j := 2) (by decide)) (by intro q hq; simp only [List.mem_cons, List.not_mem_nil, or_false] at hq; subst hq; first | exact l_Chooser)) n_lenO boot_len (ma_c (me_v 0) ma_n) g_len) (ma_c (me_cT c_tup n_tup PyProof.Rows.boot_tuple (ma_c (me_v 2) ma_n) g_tuple) ma_n))))))))
abbrev s__law_named : Stmt := top 50
theorem sc__law_named : FnScope ["_law_order", "_law_some", "_law_offer"] ["_law_order", "_law_some"] (defScope s__law_named) := ⟨rfl, rfl, rfl, by decide +kernel, rfl, by decide +kernel, by decide +kernel⟩
def B__law_named : SM := (sRet (emCall tupF (ac (emCall (sortF lstK) (ac (lcM lstK (itE (vr 1)) (gmN 2) tYes (emOp ixT (vr 0) (vr 2)) [2]) an)) an)))
def b__law_named : SM := B__law_named 
def m__law_named : FM := pur (reg (fnB 3 b__law_named))
theorem w__law_named {f : Addr} {fd : FuncData} (F : FunD K "_law_named" "_law_named" (defArgs s__law_named) (defBody s__law_named) (defScope s__law_named) [] [] f fd) (g_tuple : mg ("tuple" : Str) = none) (g_sorted : mg ("sorted" : Str) = none) : FnOk P w K mg base (L2.CX P w) 1 f fd ["_law_order", "_law_some"] (spM ⟨P, w, K, cl⟩ 2 m__law_named) := by
  refine fn_pur (fn_reg (fn_ok (k := 0) (N := ["_law_order", "_law_some", "_law_offer"]) (ps := ["_law_order", "_law_some"]) (b := b__law_named) F sc__law_named fun cdv A outer s H E hcdv hr => ?_))
  unfold b__law_named B__law_named
  exact (mb_one (ms_ret (me_cT c_tup n_tup PyProof.Rows.boot_tuple (ma_c (me_cB (c_sort lK rfl) (n_sort lK) PyProof.Rows.boot_sorted (ma_c (me_lc lK rfl sc__law_named.nd (blkOk_by (own := [("_law_offer", 2)]) (by first | rfl | decide +kernel)) (mi_e (me_v 1)) (by decide) (fun _ _ _ _ _ => (mg_name 2 sc__law_named.nd)) (fun _ _ _ _ _ => mts_nil) (fun _ _ _ _ _ => (me_ix (hu_room hr) (me_v 0) (me_v 2)))) ma_n) g_sorted) ma_n) g_tuple)))
abbrev s_subsets_of : Stmt := top 11
theorem sc_subsets_of : FnScope ["some", "places", "place"] ["some"] (defScope s_subsets_of) := ⟨rfl, rfl, rfl, by decide +kernel, rfl, by decide +kernel, by decide +kernel⟩
def b_subsets_of : SM := (sRet (lcM lstK (itE (emCall (arg 1 m_all_sets) (ac (emCall lenF (ac (vr 0) an)) an))) (gmN 1) tYes (emCall tupF (ac (lcM lstK (itE (vr 1)) (gmN 2) tYes (emOp ixT (vr 0) (vr 2)) [2]) an)) [1]))
def m_subsets_of : FM := pur (reg (fnB 3 b_subsets_of))
theorem w_subsets_of {f : Addr} {fd : FuncData} (F : FunD K "subsets_of" "subsets_of" (defArgs s_subsets_of) (defBody s_subsets_of) (defScope s_subsets_of) [] [] f fd) (o_all_sets : Own P w K mg base cl 1 ("all_sets" : Str) 1 m_all_sets) (g_len : mg ("len" : Str) = none) (g_tuple : mg ("tuple" : Str) = none) : FnOk P w K mg base (L2.CX P w) 2 f fd ["some"] (spM ⟨P, w, K, cl⟩ 1 m_subsets_of) := by
  refine fn_pur (fn_reg (fn_ok (k := 1) (N := ["some", "places", "place"]) (ps := ["some"]) (b := b_subsets_of) F sc_subsets_of fun cdv A outer s H E hcdv hr => ?_))
  unfold b_subsets_of
  exact (mb_one (ms_ret (me_lc lK rfl sc_subsets_of.nd (blkOk_by (own := [("places", 1)]) (by first | rfl | decide +kernel)) (mi_e (me_call o_all_sets (hr.mono (by decide)) (takes_of rfl rfl rfl rfl) (ma_c (me_cB c_len n_len boot_len (ma_c (me_v 0) ma_n) g_len) ma_n))) (by decide) (fun _ _ _ _ _ => (mg_name 1 sc_subsets_of.nd)) (fun _ _ _ _ _ => mts_nil) (fun _ _ _ _ _ => (me_cT c_tup n_tup PyProof.Rows.boot_tuple (ma_c (me_lc lK rfl sc_subsets_of.nd (blkOk_by (own := [("place", 2)]) (by first | rfl | decide +kernel)) (mi_e (me_v 1)) (by decide) (fun _ _ _ _ _ => (mg_name 2 sc_subsets_of.nd)) (fun _ _ _ _ _ => mts_nil) (fun _ _ _ _ _ => (me_ix (hu_room hr) (me_v 0) (me_v 2)))) ma_n) g_tuple)))))
abbrev s_agreed_by : Stmt := top 25
theorem sc_agreed_by : FnScope ["near", "far", "some"] ["near", "far", "some"] (defScope s_agreed_by) := ⟨rfl, rfl, rfl, by decide +kernel, rfl, by decide +kernel, by decide +kernel⟩
def b_agreed_by : SM := (sRet (eAn (emOp eqT (emOp ixT (em1 (atT [("Chooser" : Str)] ("table" : Str)) (vr 0)) (vr 2)) (vr 2)) (emOp eqT (emOp ixT (em1 (atT [("Chooser" : Str)] ("table" : Str)) (vr 1)) (vr 2)) (vr 2))))
def m_agreed_by : FM := pur (reg (fnB 3 b_agreed_by))
theorem w_agreed_by {f : Addr} {fd : FuncData} (F : FunD K "agreed_by" "agreed_by" (defArgs s_agreed_by) (defBody s_agreed_by) (defScope s_agreed_by) [] [] f fd) (a_table : AtOk K cl [("Chooser" : Str)] ("table" : Str)) : FnOk P w K mg base (L2.CX P w) 1 f fd ["near", "far", "some"] (spM ⟨P, w, K, cl⟩ 3 m_agreed_by) := by
  refine fn_pur (fn_reg (fn_ok (k := 0) (N := ["near", "far", "some"]) (ps := ["near", "far", "some"]) (b := b_agreed_by) F sc_agreed_by fun cdv A outer s H E hcdv hr => ?_))
  unfold b_agreed_by
  exact (mb_one (ms_ret (me_and (me_cmp (o_eq (hu_room hr)) n_eq (me_ix (hu_room hr) (me_at a_table (me_v 0)) (me_v 2)) (me_v 2) (by first | exact nomark _ | rfl)) (me_b1 (me_cmp (o_eq (hu_room hr)) n_eq (me_ix (hu_room hr) (me_at a_table (me_v 1)) (me_v 2)) (me_v 2) (by first | exact nomark _ | rfl))))))
abbrev s_side_set_with : Stmt := top 24
theorem sc_side_set_with : FnScope ["some", "offer"] ["some", "offer"] (defScope s_side_set_with) := ⟨rfl, rfl, rfl, by decide +kernel, rfl, by decide +kernel, by decide +kernel⟩
def b_side_set_with : SM := (sRet (emCall (arg 2 m_together) (ac (vr 0) (ac (emT (ac (vr 1) an)) an))))
def m_side_set_with : FM := pur (reg (fnB 2 b_side_set_with))
theorem w_side_set_with {f : Addr} {fd : FuncData} (F : FunD K "side_set_with" "side_set_with" (defArgs s_side_set_with) (defBody s_side_set_with) (defScope s_side_set_with) [] [] f fd) (o_together : Own P w K mg base cl 1 ("together" : Str) 2 m_together) : FnOk P w K mg base (L2.CX P w) 2 f fd ["some", "offer"] (spM ⟨P, w, K, cl⟩ 2 m_side_set_with) := by
  refine fn_pur (fn_reg (fn_ok (k := 1) (N := ["some", "offer"]) (ps := ["some", "offer"]) (b := b_side_set_with) F sc_side_set_with fun cdv A outer s H E hcdv hr => ?_))
  unfold b_side_set_with
  exact (mb_one (ms_ret (me_call o_together (hr.mono (by decide)) (takes_of rfl rfl rfl rfl) (ma_c (me_v 0) (ma_c (me_tup (ma_c (me_v 1) ma_n)) ma_n)))))
abbrev s_wished_beside : Stmt := top 26
theorem sc_wished_beside : FnScope ["near", "far", "standing", "some", "found", "offer", "whole"] ["near", "far", "standing", "some"] (defScope s_wished_beside) := ⟨rfl, rfl, rfl, by decide +kernel, rfl, by decide +kernel, by decide +kernel⟩
def b_wished_beside : SM := (sSeq (sSet 4 (emL lstL an))
 (sSeq (sFor (itE (vr 2)) (gmN 5)
 (sIf (tmOf (emOp (inT true) (vr 5) (vr 3)))
 (sSeq (sSet 6 (emCall (arg 2 m_side_set_with) (ac (vr 3) (ac (vr 5) an))))
 (sIf (tAn (tmOf (emOp (inT false) (vr 5) (emOp ixT (em1 (atT [("Chooser" : Str)] ("table" : Str)) (vr 0)) (vr 6)))) (tmOf (emOp (inT false) (vr 5) (emOp ixT (em1 (atT [("Chooser" : Str)] ("table" : Str)) (vr 1)) (vr 6)))))
 (sDrop (emBm "list" apT (vr 4) (ac (vr 5) an)))
 sNx))
 sNx))
 (sRet (emCall tupF (ac (vr 4) an)))))
def m_wished_beside : FM := pur (reg (fnB 7 b_wished_beside))
theorem w_wished_beside {f : Addr} {fd : FuncData} (F : FunD K "wished_beside" "wished_beside" (defArgs s_wished_beside) (defBody s_wished_beside) (defScope s_wished_beside) [] [] f fd) (o_side_set_with : Own P w K mg base cl 2 ("side_set_with" : Str) 2 m_side_set_with) (a_table : AtOk K cl [("Chooser" : Str)] ("table" : Str)) (g_tuple : mg ("tuple" : Str) = none) : FnOk P w K mg base (L2.CX P w) 3 f fd ["near", "far", "standing", "some"] (spM ⟨P, w, K, cl⟩ 4 m_wished_beside) := by
  refine fn_pur (fn_reg (fn_ok (k := 2) (N := ["near", "far", "standing", "some", "found", "offer", "whole"]) (ps := ["near", "far", "standing", "some"]) (b := b_wished_beside) F sc_wished_beside fun cdv A outer s H E hcdv hr => ?_))
  unfold b_wished_beside
  exact (mb_cons (ms_set 4 sc_wished_beside.nd (me_lst lL ma_n))
 (mb_cons (ms_for (passes_of rfl) rfl (mi_e (me_v 2)) (mg_name 5 sc_wished_beside.nd)
 (mb_one (ms_if (mt_cmp (o_notin (hu_room hr)) n_in (me_v 5) (me_v 3) (by first | exact nomark _ | rfl))
 (mb_cons (ms_set 6 sc_wished_beside.nd (me_call o_side_set_with (hr.mono (by decide)) (takes_of rfl rfl rfl rfl) (ma_c (me_v 3) (ma_c (me_v 5) ma_n))))
 (mb_one (ms_if (MW.mt (mw_and (mt_cmp (o_in (hu_room hr)) n_in (me_v 5) (me_ix (hu_room hr) (me_at a_table (me_v 0)) (me_v 6)) (by first | exact nomark _ | rfl)) (mw_a1 (mt_cmp (o_in (hu_room hr)) n_in (me_v 5) (me_ix (hu_room hr) (me_at a_table (me_v 1)) (me_v 6)) (by first | exact nomark _ | rfl)))))
 (mb_one (ms_expr (me_bm PySem.F.plainAttrs_list PySem.F.slot_list_append PySem.F.type_list_append mm_ap n_ap (me_v 4) (ma_c (me_v 5) ma_n))))
 mb_nil)))
 mb_nil)))
 (mb_one (ms_ret (me_cT c_tup n_tup PyProof.Rows.boot_tuple (ma_c (me_v 4) ma_n) g_tuple)))))
abbrev s_side_settled : Stmt := top 27
theorem sc_side_settled : FnScope ["near", "far", "standing", "part"] ["near", "far", "standing", "part"] (defScope s_side_settled) := ⟨rfl, rfl, rfl, by decide +kernel, rfl, by decide +kernel, by decide +kernel⟩
def b_side_settled : SM := (sRet (eAn (emCall (arg 3 m_agreed_by) (ac (vr 0) (ac (vr 1) (ac (vr 3) an)))) (emOp eqT (emCall (arg 4 m_wished_beside) (ac (vr 0) (ac (vr 1) (ac (vr 2) (ac (vr 3) an))))) (emT an))))
def m_side_settled : FM := pur (reg (fnB 4 b_side_settled))
theorem w_side_settled {f : Addr} {fd : FuncData} (F : FunD K "side_settled" "side_settled" (defArgs s_side_settled) (defBody s_side_settled) (defScope s_side_settled) [] [] f fd) (o_agreed_by : Own P w K mg base cl 1 ("agreed_by" : Str) 3 m_agreed_by) (o_wished_beside : Own P w K mg base cl 3 ("wished_beside" : Str) 4 m_wished_beside) : FnOk P w K mg base (L2.CX P w) 4 f fd ["near", "far", "standing", "part"] (spM ⟨P, w, K, cl⟩ 4 m_side_settled) := by
  refine fn_pur (fn_reg (fn_ok (k := 3) (N := ["near", "far", "standing", "part"]) (ps := ["near", "far", "standing", "part"]) (b := b_side_settled) F sc_side_settled fun cdv A outer s H E hcdv hr => ?_))
  unfold b_side_settled
  exact (mb_one (ms_ret (me_and (me_call o_agreed_by (hr.mono (by decide)) (takes_of rfl rfl rfl rfl) (ma_c (me_v 0) (ma_c (me_v 1) (ma_c (me_v 3) ma_n)))) (me_b1 (me_cmp (o_eq (hu_room hr)) n_eq (me_call o_wished_beside (hr.mono (by decide)) (takes_of rfl rfl rfl rfl) (ma_c (me_v 0) (ma_c (me_v 1) (ma_c (me_v 2) (ma_c (me_v 3) ma_n))))) (me_tup ma_n) (by first | exact nomark _ | rfl))))))
abbrev s_settled_among : Stmt := top 28
theorem sc_settled_among : FnScope ["near", "far", "standing", "part"] ["near", "far", "standing"] (defScope s_settled_among) := ⟨rfl, rfl, rfl, by decide +kernel, rfl, by decide +kernel, by decide +kernel⟩
def b_settled_among : SM := (sRet (emCall tupF (ac (lcM lstK (itE (emCall (arg 1 m_subsets_of) (ac (vr 2) an))) (gmN 3) (tmOf (emCall (arg 4 m_side_settled) (ac (vr 0) (ac (vr 1) (ac (vr 2) (ac (vr 3) an)))))) (vr 3) [3]) an)))
def m_settled_among : FM := pur (reg (fnB 4 b_settled_among))
theorem w_settled_among {f : Addr} {fd : FuncData} (F : FunD K "settled_among" "settled_among" (defArgs s_settled_among) (defBody s_settled_among) (defScope s_settled_among) [] [] f fd) (g_tuple : mg ("tuple" : Str) = none) (o_subsets_of : Own P w K mg base cl 2 ("subsets_of" : Str) 1 m_subsets_of) (o_side_settled : Own P w K mg base cl 4 ("side_settled" : Str) 4 m_side_settled) : FnOk P w K mg base (L2.CX P w) 5 f fd ["near", "far", "standing"] (spM ⟨P, w, K, cl⟩ 3 m_settled_among) := by
  refine fn_pur (fn_reg (fn_ok (k := 4) (N := ["near", "far", "standing", "part"]) (ps := ["near", "far", "standing"]) (b := b_settled_among) F sc_settled_among fun cdv A outer s H E hcdv hr => ?_))
  unfold b_settled_among
  exact (mb_one (ms_ret (me_cT c_tup n_tup PyProof.Rows.boot_tuple (ma_c (me_lc lK rfl sc_settled_among.nd (blkOk_by (own := [("part", 3)]) (by first | rfl | decide +kernel)) (mi_e (me_call o_subsets_of (hr.mono (by decide)) (takes_of rfl rfl rfl rfl) (ma_c (me_v 2) ma_n))) (by decide) (fun _ _ _ _ _ => (mg_name 3 sc_settled_among.nd)) (fun _ _ _ _ _ => (mts_one (mt_val (me_call o_side_settled (hr.mono (by decide)) takes0 (ma_c (me_v 0) (ma_c (me_v 1) (ma_c (me_v 2) (ma_c (me_v 3) ma_n)))))))) (fun _ _ _ _ _ => (me_v 3))) ma_n) g_tuple)))
abbrev s_settled_sets : Stmt := top 31
theorem sc_settled_sets : FnScope ["near", "far", "standing"] ["near", "far", "standing"] (defScope s_settled_sets) := ⟨rfl, rfl, rfl, by decide +kernel, rfl, by decide +kernel, by decide +kernel⟩
def b_settled_sets : SM := (sSeq (sDrop (emCall (arg 3 m_side_check_standing) (ac (vr 0) (ac (vr 1) (ac (vr 2) an)))))
 (sRet (emCall (arg 3 m_settled_among) (ac (vr 0) (ac (vr 1) (ac (vr 2) an))))))
def m_settled_sets : FM := pur (reg (fnB 3 b_settled_sets))
theorem w_settled_sets {f : Addr} {fd : FuncData} (F : FunD K "settled_sets" "settled_sets" (defArgs s_settled_sets) (defBody s_settled_sets) (defScope s_settled_sets) [] [] f fd) (o_side_check_standing : Own P w K mg base cl 4 ("side_check_standing" : Str) 3 m_side_check_standing) (o_settled_among : Own P w K mg base cl 5 ("settled_among" : Str) 3 m_settled_among) : FnOk P w K mg base (L2.CX P w) 6 f fd ["near", "far", "standing"] (spM ⟨P, w, K, cl⟩ 3 m_settled_sets) := by
  refine fn_pur (fn_reg (fn_ok (k := 5) (N := ["near", "far", "standing"]) (ps := ["near", "far", "standing"]) (b := b_settled_sets) F sc_settled_sets fun cdv A outer s H E hcdv hr => ?_))
  unfold b_settled_sets
  exact (mb_cons (ms_expr (me_call o_side_check_standing (hr.mono (by decide)) (takes_of rfl rfl rfl rfl) (ma_c (me_v 0) (ma_c (me_v 1) (ma_c (me_v 2) ma_n)))))
 (mb_one (ms_ret (me_call o_settled_among (hr.mono (by decide)) (takes_of rfl rfl rfl rfl) (ma_c (me_v 0) (ma_c (me_v 1) (ma_c (me_v 2) ma_n)))))))
abbrev s_wished_by_both : Stmt := top 29
theorem sc_wished_by_both : FnScope ["near", "far", "some"] ["near", "far", "some"] (defScope s_wished_by_both) := ⟨rfl, rfl, rfl, by decide +kernel, rfl, by decide +kernel, by decide +kernel⟩
def b_wished_by_both : SM := (sSeq (sDrop (emCall (arg 3 m_side_check_standing) (ac (vr 0) (ac (vr 1) (ac (vr 2) an)))))
 (sRet (emCall (arg 4 m_wished_beside) (ac (vr 0) (ac (vr 1) (ac (emRgT (rg1 (emCall (lenOF [(("Chooser" : Str), m_Chooser___len__)]) (ac (vr 0) an)))) (ac (vr 2) an)))))))
def m_wished_by_both : FM := pur (reg (fnB 3 b_wished_by_both))
theorem w_wished_by_both {f : Addr} {fd : FuncData} (F : FunD K "wished_by_both" "wished_by_both" (defArgs s_wished_by_both) (defBody s_wished_by_both) (defScope s_wished_by_both) [] [] f fd) (o_side_check_standing : Own P w K mg base cl 4 ("side_check_standing" : Str) 3 m_side_check_standing) (o_wished_beside : Own P w K mg base cl 3 ("wished_beside" : Str) 4 m_wished_beside) (g_tuple : mg ("tuple" : Str) = none) (g_range : mg ("range" : Str) = none) (g_len : mg ("len" : Str) = none) (l_Chooser : LnO P w K mg base cl 1 ("Chooser" : Str) m_Chooser___len__) : FnOk P w K mg base (L2.CX P w) 5 f fd ["near", "far", "some"] (spM ⟨P, w, K, cl⟩ 3 m_wished_by_both) := by
  refine fn_pur (fn_reg (fn_ok (k := 4) (N := ["near", "far", "some"]) (ps := ["near", "far", "some"]) (b := b_wished_by_both) F sc_wished_by_both fun cdv A outer s H E hcdv hr => ?_))
  unfold b_wished_by_both
  exact (mb_cons (ms_expr (me_call o_side_check_standing (hr.mono (by decide)) (takes_of rfl rfl rfl rfl) (ma_c (me_v 0) (ma_c (me_v 1) (ma_c (me_v 2) ma_n)))))
 (mb_one (ms_ret (me_call o_wished_beside (hr.mono (by decide)) (takes_of rfl rfl rfl rfl) (ma_c (me_v 0) (ma_c (me_v 1) (ma_c (me_rgT rfl g_tuple (mr_1 g_range (me_cB (c_lenO (ms := [(("Chooser" : Str), m_Chooser___len__)]) (hr.mono (j := 2) (by decide)) (by intro q hq; simp only [List.mem_cons, List.not_mem_nil, or_false] at hq; subst hq; first | exact l_Chooser)) n_lenO boot_len (ma_c (me_v 0) ma_n) g_len))) (ma_c (me_v 2) ma_n))))))))
abbrev s_sure_offers : Stmt := top 40
theorem sc_sure_offers : FnScope ["near", "far", "standing", "found", "offer", "part"] ["near", "far", "standing"] (defScope s_sure_offers) := ⟨rfl, rfl, rfl, by decide +kernel, rfl, by decide +kernel, by decide +kernel⟩
def B_sure_offers (m_settled_sets : FM) : SM := (sSeq (sSet 3 (emCall (arg 3 m_settled_sets) (ac (vr 0) (ac (vr 1) (ac (vr 2) an)))))
 (sRet (emCall tupF (ac (lcM lstK (itE (vr 2)) (gmN 4) (tmOf (emCall allF (ac (lcM lstK (itE (vr 3)) (gmN 5) tYes (emOp (inT false) (vr 4) (vr 5)) [5]) an))) (vr 4) [4]) an))))
def b_sure_offers : SM := B_sure_offers m_settled_sets
def m_sure_offers : FM := pur (reg (fnB 6 b_sure_offers))
theorem w_sure_offers {f : Addr} {fd : FuncData} (F : FunD K "sure_offers" "sure_offers" (defArgs s_sure_offers) (defBody s_sure_offers) (defScope s_sure_offers) [] [] f fd) (o_settled_sets : Own P w K mg base cl 6 ("settled_sets" : Str) 3 m_settled_sets) (g_tuple : mg ("tuple" : Str) = none) (g_all : mg ("all" : Str) = none) : FnOk P w K mg base (L2.CX P w) 7 f fd ["near", "far", "standing"] (spM ⟨P, w, K, cl⟩ 3 m_sure_offers) := by
  refine fn_pur (fn_reg (fn_ok (k := 6) (N := ["near", "far", "standing", "found", "offer", "part"]) (ps := ["near", "far", "standing"]) (b := b_sure_offers) F sc_sure_offers fun cdv A outer s H E hcdv hr => ?_))
  unfold b_sure_offers B_sure_offers
  exact (mb_cons (ms_set 3 sc_sure_offers.nd (me_call o_settled_sets (hr.mono (by decide)) (takes_of rfl rfl rfl rfl) (ma_c (me_v 0) (ma_c (me_v 1) (ma_c (me_v 2) ma_n)))))
 (mb_one (ms_ret (me_cT c_tup n_tup PyProof.Rows.boot_tuple (ma_c (me_lc lK rfl sc_sure_offers.nd (blkOk_by (own := [("offer", 4)]) (by first | rfl | decide +kernel)) (mi_e (me_v 2)) (by decide) (fun _ _ _ _ _ => (mg_name 4 sc_sure_offers.nd)) (fun _ _ _ _ _ => (mts_one (mt_val (me_cB (c_all rfl) n_all PyProof.Rows.boot_all (ma_c (me_lc lK rfl sc_sure_offers.nd (blkOk_by (own := [("part", 5)]) (by first | rfl | decide +kernel)) (mi_e (me_v 3)) (by decide) (fun _ _ _ _ _ => (mg_name 5 sc_sure_offers.nd)) (fun _ _ _ _ _ => mts_nil) (fun _ _ _ _ _ => (me_cmp (o_in (hu_room hr)) n_in (me_v 4) (me_v 5) (by first | exact nomark _ | rfl)))) ma_n) g_all)))) (fun _ _ _ _ _ => (me_v 4))) ma_n) g_tuple))))
abbrev s_vain_offers : Stmt := top 41
theorem sc_vain_offers : FnScope ["near", "far", "standing", "found", "offer", "part"] ["near", "far", "standing"] (defScope s_vain_offers) := ⟨rfl, rfl, rfl, by decide +kernel, rfl, by decide +kernel, by decide +kernel⟩
def B_vain_offers (m_settled_sets : FM) : SM := (sSeq (sSet 3 (emCall (arg 3 m_settled_sets) (ac (vr 0) (ac (vr 1) (ac (vr 2) an)))))
 (sRet (emCall tupF (ac (lcM lstK (itE (vr 2)) (gmN 4) (tNo (tmOf (emCall anyF (ac (lcM lstK (itE (vr 3)) (gmN 5) tYes (emOp (inT false) (vr 4) (vr 5)) [5]) an)))) (vr 4) [4]) an))))
def b_vain_offers : SM := B_vain_offers m_settled_sets
def m_vain_offers : FM := pur (reg (fnB 6 b_vain_offers))
theorem w_vain_offers {f : Addr} {fd : FuncData} (F : FunD K "vain_offers" "vain_offers" (defArgs s_vain_offers) (defBody s_vain_offers) (defScope s_vain_offers) [] [] f fd) (o_settled_sets : Own P w K mg base cl 6 ("settled_sets" : Str) 3 m_settled_sets) (g_tuple : mg ("tuple" : Str) = none) (g_any : mg ("any" : Str) = none) : FnOk P w K mg base (L2.CX P w) 7 f fd ["near", "far", "standing"] (spM ⟨P, w, K, cl⟩ 3 m_vain_offers) := by
  refine fn_pur (fn_reg (fn_ok (k := 6) (N := ["near", "far", "standing", "found", "offer", "part"]) (ps := ["near", "far", "standing"]) (b := b_vain_offers) F sc_vain_offers fun cdv A outer s H E hcdv hr => ?_))
  unfold b_vain_offers B_vain_offers
  exact (mb_cons (ms_set 3 sc_vain_offers.nd (me_call o_settled_sets (hr.mono (by decide)) (takes_of rfl rfl rfl rfl) (ma_c (me_v 0) (ma_c (me_v 1) (ma_c (me_v 2) ma_n)))))
 (mb_one (ms_ret (me_cT c_tup n_tup PyProof.Rows.boot_tuple (ma_c (me_lc lK rfl sc_vain_offers.nd (blkOk_by (own := [("offer", 4)]) (by first | rfl | decide +kernel)) (mi_e (me_v 2)) (by decide) (fun _ _ _ _ _ => (mg_name 4 sc_vain_offers.nd)) (fun _ _ _ _ _ => (mts_one (mt_not (mt_val (me_cB (c_any rfl) n_any PyProof.Rows.boot_any (ma_c (me_lc lK rfl sc_vain_offers.nd (blkOk_by (own := [("part", 5)]) (by first | rfl | decide +kernel)) (mi_e (me_v 3)) (by decide) (fun _ _ _ _ _ => (mg_name 5 sc_vain_offers.nd)) (fun _ _ _ _ _ => mts_nil) (fun _ _ _ _ _ => (me_cmp (o_in (hu_room hr)) n_in (me_v 4) (me_v 5) (by first | exact nomark _ | rfl)))) ma_n) g_any))))) (fun _ _ _ _ _ => (me_v 4))) ma_n) g_tuple))))
abbrev s__law_is_renamed : Stmt := top 52
theorem sc__law_is_renamed : FnScope ["_law_one", "_law_other", "_law_order", "_law_standing", "_law_told", "_law_ends", "_law_near", "_law_far", "_law_there", "_law_some", "_law_end"] ["_law_one", "_law_other", "_law_order", "_law_standing"] (defScope s__law_is_renamed) := ⟨rfl, rfl, rfl, by decide +kernel, rfl, by decide +kernel, by decide +kernel⟩
def B__law_is_renamed (m_renamed m__law_named m__law_in_order m_settled_sets m_wished_by_both m_rounds_of m_sure_offers m_vain_offers : FM) : SM := (sSeq (sPar3 6 7 8 (ac (emCall (arg 2 m_renamed) (ac (vr 0) (ac (vr 2) an))) (ac (emCall (arg 2 m_renamed) (ac (vr 1) (ac (vr 2) an))) (ac (emCall (arg 2 m__law_named) (ac (vr 2) (ac (vr 3) an))) an))))
 (sSeq (sSet 4 (emCall (arg 1 m__law_in_order) (ac (lcM lstK (itE (emCall (arg 3 m_settled_sets) (ac (vr 0) (ac (vr 1) (ac (vr 3) an))))) (gmN 9) tYes (emCall (arg 2 m__law_named) (ac (vr 2) (ac (vr 9) an))) [9]) an)))
 (sSeq (sIf (tmOf (emOp neT (emCall (arg 3 m_settled_sets) (ac (vr 6) (ac (vr 7) (ac (vr 8) an)))) (vr 4)))
 (sRet (cst (.bl false)))
 sNx)
 (sSeq (sIf (tmOf (emOp neT (emCall (arg 3 m_wished_by_both) (ac (vr 6) (ac (vr 7) (ac (emT an) an)))) (emCall (arg 2 m__law_named) (ac (vr 2) (ac (emCall (arg 3 m_wished_by_both) (ac (vr 0) (ac (vr 1) (ac (emT an) an)))) an)))))
 (sRet (cst (.bl false)))
 sNx)
 (sSeq (sIf (tmOf (emOp neT (emCall (arg 3 m_wished_by_both) (ac (vr 6) (ac (vr 7) (ac (vr 8) an)))) (emCall (arg 2 m__law_named) (ac (vr 2) (ac (emCall (arg 3 m_wished_by_both) (ac (vr 0) (ac (vr 1) (ac (vr 3) an)))) an)))))
 (sRet (cst (.bl false)))
 sNx)
 (sSeq (sSet 5 (emCall (arg 3 m_rounds_of) (ac (vr 0) (ac (vr 1) (ac (vr 3) an)))))
 (sSeq (sIf (tmOf (emOp neT (emCall (arg 3 m_rounds_of) (ac (vr 6) (ac (vr 7) (ac (vr 8) an)))) (emCall tupF (ac (lcM lstK (itE (vr 5)) (gmN 10) tYes (emT (ac (emCall (arg 2 m__law_named) (ac (vr 2) (ac (emOp ixT (vr 10) (cst (.int 0))) an))) (ac (emCall (arg 2 m__law_named) (ac (vr 2) (ac (emOp ixT (vr 10) (cst (.int 1))) an))) an))) [10]) an))))
 (sRet (cst (.bl false)))
 sNx)
 (sSeq (sIf (tmOf (emOp neT (emCall (arg 3 m_sure_offers) (ac (vr 6) (ac (vr 7) (ac (vr 8) an)))) (emCall (arg 2 m__law_named) (ac (vr 2) (ac (emCall (arg 3 m_sure_offers) (ac (vr 0) (ac (vr 1) (ac (vr 3) an)))) an)))))
 (sRet (cst (.bl false)))
 sNx)
 (sRet (emOp eqT (emCall (arg 3 m_vain_offers) (ac (vr 6) (ac (vr 7) (ac (vr 8) an)))) (emCall (arg 2 m__law_named) (ac (vr 2) (ac (emCall (arg 3 m_vain_offers) (ac (vr 0) (ac (vr 1) (ac (vr 3) an)))) an)))))))))))))
def b__law_is_renamed : SM := B__law_is_renamed m_renamed m__law_named m__law_in_order m_settled_sets m_wished_by_both m_rounds_of m_sure_offers m_vain_offers
def m__law_is_renamed : FM := pur (reg (fnB 11 b__law_is_renamed))
theorem w__law_is_renamed {f : Addr} {fd : FuncData} (F : FunD K "_law_is_renamed" "_law_is_renamed" (defArgs s__law_is_renamed) (defBody s__law_is_renamed) (defScope s__law_is_renamed) [] [] f fd) (o_renamed : Own P w K mg base cl 5 ("renamed" : Str) 2 m_renamed) (o__law_named : Own P w K mg base cl 1 ("_law_named" : Str) 2 m__law_named) (o__law_in_order : Own P w K mg base cl 1 ("_law_in_order" : Str) 1 m__law_in_order) (o_settled_sets : Own P w K mg base cl 6 ("settled_sets" : Str) 3 m_settled_sets) (o_wished_by_both : Own P w K mg base cl 5 ("wished_by_both" : Str) 3 m_wished_by_both) (o_rounds_of : Own P w K mg base cl 5 ("rounds_of" : Str) 3 m_rounds_of) (g_tuple : mg ("tuple" : Str) = none) (o_sure_offers : Own P w K mg base cl 7 ("sure_offers" : Str) 3 m_sure_offers) (o_vain_offers : Own P w K mg base cl 7 ("vain_offers" : Str) 3 m_vain_offers) : FnOk P w K mg base (L2.CX P w) 8 f fd ["_law_one", "_law_other", "_law_order", "_law_standing"] (spM ⟨P, w, K, cl⟩ 4 m__law_is_renamed) := by
  refine fn_pur (fn_reg (fn_ok (k := 7) (N := ["_law_one", "_law_other", "_law_order", "_law_standing", "_law_told", "_law_ends", "_law_near", "_law_far", "_law_there", "_law_some", "_law_end"]) (ps := ["_law_one", "_law_other", "_law_order", "_law_standing"]) (b := b__law_is_renamed) F sc__law_is_renamed fun cdv A outer s H E hcdv hr => ?_))
  unfold b__law_is_renamed B__law_is_renamed
  exact (mb_cons (ms_par3 6 7 8 rfl sc__law_is_renamed.nd (ma_c (me_call o_renamed (hr.mono (by decide)) (takes_of rfl rfl rfl rfl) (ma_c (me_v 0) (ma_c (me_v 2) ma_n))) (ma_c (me_call o_renamed (hr.mono (by decide)) (takes_of rfl rfl rfl rfl) (ma_c (me_v 1) (ma_c (me_v 2) ma_n))) (ma_c (me_call o__law_named (hr.mono (by decide)) (takes_of rfl rfl rfl rfl) (ma_c (me_v 2) (ma_c (me_v 3) ma_n))) ma_n))))
 (mb_cons (ms_set 4 sc__law_is_renamed.nd (me_call o__law_in_order (hr.mono (by decide)) (takes_of rfl rfl rfl rfl) (ma_c (me_lc lK rfl sc__law_is_renamed.nd (blkOk_by (own := [("_law_some", 9)]) (by first | rfl | decide +kernel)) (mi_e (me_call o_settled_sets (hr.mono (by decide)) (takes_of rfl rfl rfl rfl) (ma_c (me_v 0) (ma_c (me_v 1) (ma_c (me_v 3) ma_n))))) (by decide) (fun _ _ _ _ _ => (mg_name 9 sc__law_is_renamed.nd)) (fun _ _ _ _ _ => mts_nil) (fun _ _ _ _ _ => (me_call o__law_named (hr.mono (by decide)) takes0 (ma_c (me_v 2) (ma_c (me_v 9) ma_n))))) ma_n)))
 (mb_cons (ms_if (mt_cmp (o_ne (hu_room hr)) n_ne (me_call o_settled_sets (hr.mono (by decide)) (takes_of rfl rfl rfl rfl) (ma_c (me_v 6) (ma_c (me_v 7) (ma_c (me_v 8) ma_n)))) (me_v 4) (by first | exact nomark _ | rfl))
 (mb_one (ms_ret me_bl))
 mb_nil)
 (mb_cons (ms_if (mt_cmp (o_ne (hu_room hr)) n_ne (me_call o_wished_by_both (hr.mono (by decide)) (takes_of rfl rfl rfl rfl) (ma_c (me_v 6) (ma_c (me_v 7) (ma_c (me_tup ma_n) ma_n)))) (me_call o__law_named (hr.mono (by decide)) (takes_of rfl rfl rfl rfl) (ma_c (me_v 2) (ma_c (me_call o_wished_by_both (hr.mono (by decide)) (takes_of rfl rfl rfl rfl) (ma_c (me_v 0) (ma_c (me_v 1) (ma_c (me_tup ma_n) ma_n)))) ma_n))) (by first | exact nomark _ | rfl))
 (mb_one (ms_ret me_bl))
 mb_nil)
 (mb_cons (ms_if (mt_cmp (o_ne (hu_room hr)) n_ne (me_call o_wished_by_both (hr.mono (by decide)) (takes_of rfl rfl rfl rfl) (ma_c (me_v 6) (ma_c (me_v 7) (ma_c (me_v 8) ma_n)))) (me_call o__law_named (hr.mono (by decide)) (takes_of rfl rfl rfl rfl) (ma_c (me_v 2) (ma_c (me_call o_wished_by_both (hr.mono (by decide)) (takes_of rfl rfl rfl rfl) (ma_c (me_v 0) (ma_c (me_v 1) (ma_c (me_v 3) ma_n)))) ma_n))) (by first | exact nomark _ | rfl))
 (mb_one (ms_ret me_bl))
 mb_nil)
 (mb_cons (ms_set 5 sc__law_is_renamed.nd (me_call o_rounds_of (hr.mono (by decide)) (takes_of rfl rfl rfl rfl) (ma_c (me_v 0) (ma_c (me_v 1) (ma_c (me_v 3) ma_n)))))
 (mb_cons (ms_if (mt_cmp (o_ne (hu_room hr)) n_ne (me_call o_rounds_of (hr.mono (by decide)) (takes_of rfl rfl rfl rfl) (ma_c (me_v 6) (ma_c (me_v 7) (ma_c (me_v 8) ma_n)))) (me_cT c_tup n_tup PyProof.Rows.boot_tuple (ma_c (me_lc lK rfl sc__law_is_renamed.nd (blkOk_by (own := [("_law_end", 10)]) (by first | rfl | decide +kernel)) (mi_e (me_v 5)) (by decide) (fun _ _ _ _ _ => (mg_name 10 sc__law_is_renamed.nd)) (fun _ _ _ _ _ => mts_nil) (fun _ _ _ _ _ => (me_tup (ma_c (me_call o__law_named (hr.mono (by decide)) takes0 (ma_c (me_v 2) (ma_c (me_ix (hu_room hr) (me_v 10) me_int) ma_n))) (ma_c (me_call o__law_named (hr.mono (by decide)) takes0 (ma_c (me_v 2) (ma_c (me_ix (hu_room hr) (me_v 10) me_int) ma_n))) ma_n))))) ma_n) g_tuple) (by first | exact nomark _ | rfl))
 (mb_one (ms_ret me_bl))
 mb_nil)
 (mb_cons (ms_if (mt_cmp (o_ne (hu_room hr)) n_ne (me_call o_sure_offers (hr.mono (by decide)) (takes_of rfl rfl rfl rfl) (ma_c (me_v 6) (ma_c (me_v 7) (ma_c (me_v 8) ma_n)))) (me_call o__law_named (hr.mono (by decide)) (takes_of rfl rfl rfl rfl) (ma_c (me_v 2) (ma_c (me_call o_sure_offers (hr.mono (by decide)) (takes_of rfl rfl rfl rfl) (ma_c (me_v 0) (ma_c (me_v 1) (ma_c (me_v 3) ma_n)))) ma_n))) (by first | exact nomark _ | rfl))
 (mb_one (ms_ret me_bl))
 mb_nil)
 (mb_one (ms_ret (me_cmp (o_eq (hu_room hr)) n_eq (me_call o_vain_offers (hr.mono (by decide)) (takes_of rfl rfl rfl rfl) (ma_c (me_v 6) (ma_c (me_v 7) (ma_c (me_v 8) ma_n)))) (me_call o__law_named (hr.mono (by decide)) (takes_of rfl rfl rfl rfl) (ma_c (me_v 2) (ma_c (me_call o_vain_offers (hr.mono (by decide)) (takes_of rfl rfl rfl rfl) (ma_c (me_v 0) (ma_c (me_v 1) (ma_c (me_v 3) ma_n)))) ma_n))) (by first | exact nomark _ | rfl))))))))))))
abbrev s_side_is_part : Stmt := top 22
theorem sc_side_is_part : FnScope ["part", "some", "offer"] ["part", "some"] (defScope s_side_is_part) := ⟨rfl, rfl, rfl, by decide +kernel, rfl, by decide +kernel, by decide +kernel⟩
def b_side_is_part : SM := (sRet (emCall allF (ac (lcM lstK (itE (vr 0)) (gmN 2) tYes (emOp (inT false) (vr 2) (vr 1)) [2]) an)))
def m_side_is_part : FM := pur (reg (fnB 3 b_side_is_part))
theorem w_side_is_part {f : Addr} {fd : FuncData} (F : FunD K "side_is_part" "side_is_part" (defArgs s_side_is_part) (defBody s_side_is_part) (defScope s_side_is_part) [] [] f fd) (g_all : mg ("all" : Str) = none) : FnOk P w K mg base (L2.CX P w) 1 f fd ["part", "some"] (spM ⟨P, w, K, cl⟩ 2 m_side_is_part) := by
  refine fn_pur (fn_reg (fn_ok (k := 0) (N := ["part", "some", "offer"]) (ps := ["part", "some"]) (b := b_side_is_part) F sc_side_is_part fun cdv A outer s H E hcdv hr => ?_))
  unfold b_side_is_part
  exact (mb_one (ms_ret (me_cB (c_all rfl) n_all PyProof.Rows.boot_all (ma_c (me_lc lK rfl sc_side_is_part.nd (blkOk_by (own := [("offer", 2)]) (by first | rfl | decide +kernel)) (mi_e (me_v 0)) (by decide) (fun _ _ _ _ _ => (mg_name 2 sc_side_is_part.nd)) (fun _ _ _ _ _ => mts_nil) (fun _ _ _ _ _ => (me_cmp (o_in (hu_room hr)) n_in (me_v 2) (me_v 1) (by first | exact nomark _ | rfl)))) ma_n) g_all)))
abbrev s_side_check_part : Stmt := top 23
theorem sc_side_check_part : FnScope ["near", "far", "standing", "part"] ["near", "far", "standing", "part"] (defScope s_side_check_part) := ⟨rfl, rfl, rfl, by decide +kernel, rfl, by decide +kernel, by decide +kernel⟩
def b_side_check_part : SM := (sSeq (sDrop (emCall (arg 3 m_side_check_standing) (ac (vr 0) (ac (vr 1) (ac (vr 2) an)))))
 (sIf (tOrr (tNo (tmOf (emCall (arg 2 m_is_set) (ac (emCall (lenOF [(("Chooser" : Str), m_Chooser___len__)]) (ac (vr 0) an)) (ac (vr 3) an))))) (tNo (tmOf (emCall (arg 2 m_side_is_part) (ac (vr 3) (ac (vr 2) an))))))
 sBad
 sNx))
def m_side_check_part : FM := pur (reg (fnB 4 b_side_check_part))
theorem w_side_check_part {f : Addr} {fd : FuncData} (F : FunD K "side_check_part" "side_check_part" (defArgs s_side_check_part) (defBody s_side_check_part) (defScope s_side_check_part) [] [] f fd) (o_side_check_standing : Own P w K mg base cl 4 ("side_check_standing" : Str) 3 m_side_check_standing) (o_is_set : Own P w K mg base cl 2 ("is_set" : Str) 2 m_is_set) (g_len : mg ("len" : Str) = none) (l_Chooser : LnO P w K mg base cl 1 ("Chooser" : Str) m_Chooser___len__) (o_side_is_part : Own P w K mg base cl 1 ("side_is_part" : Str) 2 m_side_is_part) : FnOk P w K mg base (L2.CX P w) 5 f fd ["near", "far", "standing", "part"] (spM ⟨P, w, K, cl⟩ 4 m_side_check_part) := by
  refine fn_pur (fn_reg (fn_ok (k := 4) (N := ["near", "far", "standing", "part"]) (ps := ["near", "far", "standing", "part"]) (b := b_side_check_part) F sc_side_check_part fun cdv A outer s H E hcdv hr => ?_))
  unfold b_side_check_part
  exact (mb_cons (ms_expr (me_call o_side_check_standing (hr.mono (by decide)) (takes_of rfl rfl rfl rfl) (ma_c (me_v 0) (ma_c (me_v 1) (ma_c (me_v 2) ma_n)))))
 (mb_one (ms_if (MW.mt (mw_or (mt_not (mt_val (me_call o_is_set (hr.mono (by decide)) (takes_of rfl rfl rfl rfl) (ma_c (me_cB (c_lenO (ms := [(("Chooser" : Str), m_Chooser___len__)]) (hr.mono (j := 2) (by decide)) (by intro q hq; simp only [List.mem_cons, List.not_mem_nil, or_false] at hq; subst hq; first | exact l_Chooser)) n_lenO boot_len (ma_c (me_v 0) ma_n) g_len) (ma_c (me_v 3) ma_n))))) (mw_o1 (mt_not (mt_val (me_call o_side_is_part (hr.mono (by decide)) (takes_of rfl rfl rfl rfl) (ma_c (me_v 3) (ma_c (me_v 2) ma_n))))))))
 (mb_one ms_bad)
 mb_nil)))
abbrev s_is_settled : Stmt := top 30
theorem sc_is_settled : FnScope ["near", "far", "standing", "part"] ["near", "far", "standing", "part"] (defScope s_is_settled) := ⟨rfl, rfl, rfl, by decide +kernel, rfl, by decide +kernel, by decide +kernel⟩
def b_is_settled : SM := (sSeq (sDrop (emCall (arg 4 m_side_check_part) (ac (vr 0) (ac (vr 1) (ac (vr 2) (ac (vr 3) an))))))
 (sRet (emCall (arg 4 m_side_settled) (ac (vr 0) (ac (vr 1) (ac (vr 2) (ac (vr 3) an)))))))
def m_is_settled : FM := pur (reg (fnB 4 b_is_settled))
theorem w_is_settled {f : Addr} {fd : FuncData} (F : FunD K "is_settled" "is_settled" (defArgs s_is_settled) (defBody s_is_settled) (defScope s_is_settled) [] [] f fd) (o_side_check_part : Own P w K mg base cl 5 ("side_check_part" : Str) 4 m_side_check_part) (o_side_settled : Own P w K mg base cl 4 ("side_settled" : Str) 4 m_side_settled) : FnOk P w K mg base (L2.CX P w) 6 f fd ["near", "far", "standing", "part"] (spM ⟨P, w, K, cl⟩ 4 m_is_settled) := by
  refine fn_pur (fn_reg (fn_ok (k := 5) (N := ["near", "far", "standing", "part"]) (ps := ["near", "far", "standing", "part"]) (b := b_is_settled) F sc_is_settled fun cdv A outer s H E hcdv hr => ?_))
  unfold b_is_settled
  exact (mb_cons (ms_expr (me_call o_side_check_part (hr.mono (by decide)) (takes_of rfl rfl rfl rfl) (ma_c (me_v 0) (ma_c (me_v 1) (ma_c (me_v 2) (ma_c (me_v 3) ma_n))))))
 (mb_one (ms_ret (me_call o_side_settled (hr.mono (by decide)) (takes_of rfl rfl rfl rfl) (ma_c (me_v 0) (ma_c (me_v 1) (ma_c (me_v 2) (ma_c (me_v 3) ma_n))))))))
abbrev s__law_parts_right : Stmt := top 53
theorem sc__law_parts_right : FnScope ["_law_deck_here", "_law_one", "_law_other", "_law_standing", "_law_sets_here", "_law_some", "_law_part", "_law_wished", "_law_wide", "_law_is_between", "_law_offer", "_law_x"] ["_law_deck_here", "_law_one", "_law_other", "_law_standing", "_law_sets_here"] (defScope s__law_parts_right) := ⟨rfl, rfl, rfl, by decide +kernel, rfl, by decide +kernel, by decide +kernel⟩
def L__law_parts_right_1 (m_is_settled : FM) : SM := (sSeq (sSet 9 (emOp eqT (emOp (adT lstK) (lcM lstK (itE (vr 5)) (gmN 11) (tmOf (emOp (inT true) (vr 11) (vr 6))) (vr 11) [11]) (lcM lstK (itE (vr 6)) (gmN 11) (tmOf (emOp (inT true) (vr 11) (vr 3))) (vr 11) [11])) (emL lstK an)))
 (sIf (tAn (tmOf (vr 9)) (tNo (tmOf (emCall (arg 4 m_is_settled) (ac (vr 1) (ac (vr 2) (ac (vr 6) (ac (vr 5) an))))))))
 (sRet (cst (.bl false)))
 sNx))
def B__law_parts_right (m__law_pick m_settled_sets m_is_settled m_wished_by_both : FM) : SM := (sSeq (sSet 5 (emCall (arg 2 m__law_pick) (ac (vr 0) (ac (emCall (listF lstK) (ac (emCall (arg 3 m_settled_sets) (ac (vr 1) (ac (vr 2) (ac (vr 3) an)))) an)) an))))
 (sSeq (sIf (tNo (tmOf (emCall (arg 4 m_is_settled) (ac (vr 1) (ac (vr 2) (ac (vr 5) (ac (vr 5) an)))))))
 (sRet (cst (.bl false)))
 sNx)
 (sSeq (sFor (itE (vr 4)) (gmN 6)
 (L__law_parts_right_1 m_is_settled))
 (sSeq (sSet 7 (emCall (arg 3 m_wished_by_both) (ac (vr 1) (ac (vr 2) (ac (vr 5) an)))))
 (sSeq (sSet 8 (emCall tupF (ac (lcM lstK (itE (emOp ixT (vr 4) (em1 ngT (cst (.int 1))))) (gmN 10) (tmOf (emOp (inT true) (vr 10) (vr 7))) (vr 10) [10]) an)))
 (sRet (eAn (emCall (arg 4 m_is_settled) (ac (vr 1) (ac (vr 2) (ac (vr 8) (ac (vr 5) an))))) (emOp eqT (lcM lstK (itE (vr 7)) (gmN 10) (tmOf (emOp (inT false) (vr 10) (vr 3))) (vr 10) [10]) (emL lstK an)))))))))
def b__law_parts_right : SM := B__law_parts_right m__law_pick m_settled_sets m_is_settled m_wished_by_both
def m__law_parts_right : FM := pur (reg (fnB 12 b__law_parts_right))
theorem w__law_parts_right {f : Addr} {fd : FuncData} (F : FunD K "_law_parts_right" "_law_parts_right" (defArgs s__law_parts_right) (defBody s__law_parts_right) (defScope s__law_parts_right) [] [] f fd) (o__law_pick : Own P w K mg base cl 2 ("_law_pick" : Str) 2 m__law_pick) (g_list : mg ("list" : Str) = none) (o_settled_sets : Own P w K mg base cl 6 ("settled_sets" : Str) 3 m_settled_sets) (o_is_settled : Own P w K mg base cl 6 ("is_settled" : Str) 4 m_is_settled) (o_wished_by_both : Own P w K mg base cl 5 ("wished_by_both" : Str) 3 m_wished_by_both) (g_tuple : mg ("tuple" : Str) = none) : FnOk P w K mg base (L2.CX P w) 7 f fd ["_law_deck_here", "_law_one", "_law_other", "_law_standing", "_law_sets_here"] (spM ⟨P, w, K, cl⟩ 5 m__law_parts_right) := by
  refine fn_pur (fn_reg (fn_ok (k := 6) (N := ["_law_deck_here", "_law_one", "_law_other", "_law_standing", "_law_sets_here", "_law_some", "_law_part", "_law_wished", "_law_wide", "_law_is_between", "_law_offer", "_law_x"]) (ps := ["_law_deck_here", "_law_one", "_law_other", "_law_standing", "_law_sets_here"]) (b := b__law_parts_right) F sc__law_parts_right fun cdv A outer s H E hcdv hr => ?_))
  unfold b__law_parts_right B__law_parts_right L__law_parts_right_1
  exact (mb_cons (ms_set 5 sc__law_parts_right.nd (me_call o__law_pick (hr.mono (by decide)) (takes_of rfl rfl rfl rfl) (ma_c (me_v 0) (ma_c (me_cT (c_list lK) (n_list lK) PyProof.Rows.boot_list (ma_c (me_call o_settled_sets (hr.mono (by decide)) (takes_of rfl rfl rfl rfl) (ma_c (me_v 1) (ma_c (me_v 2) (ma_c (me_v 3) ma_n)))) ma_n) g_list) ma_n))))
 (mb_cons (ms_if (mt_not (mt_val (me_call o_is_settled (hr.mono (by decide)) (takes_of rfl rfl rfl rfl) (ma_c (me_v 1) (ma_c (me_v 2) (ma_c (me_v 5) (ma_c (me_v 5) ma_n)))))))
 (mb_one (ms_ret me_bl))
 mb_nil)
 (mb_cons (ms_for (passes_of rfl) rfl (mi_e (me_v 4)) (mg_name 6 sc__law_parts_right.nd)
 (mb_cons (ms_set 9 sc__law_parts_right.nd (me_cmp (o_eq (hu_room hr)) n_eq (me_op (o_ad lK) (n_ad lK) (me_lc lK rfl sc__law_parts_right.nd (blkOk_by (own := [("_law_x", 11)]) (by first | rfl | decide +kernel)) (mi_e (me_v 5)) (by decide) (fun _ _ _ _ _ => (mg_name 11 sc__law_parts_right.nd)) (fun _ _ _ _ _ => (mts_one (mt_cmp (o_notin (hu_room hr)) n_in (me_v 11) (me_v 6) (by first | exact nomark _ | rfl)))) (fun _ _ _ _ _ => (me_v 11))) (me_lc lK rfl sc__law_parts_right.nd (blkOk_by (own := [("_law_x", 11)]) (by first | rfl | decide +kernel)) (mi_e (me_v 6)) (by decide) (fun _ _ _ _ _ => (mg_name 11 sc__law_parts_right.nd)) (fun _ _ _ _ _ => (mts_one (mt_cmp (o_notin (hu_room hr)) n_in (me_v 11) (me_v 3) (by first | exact nomark _ | rfl)))) (fun _ _ _ _ _ => (me_v 11)))) (me_lst lK ma_n) (by first | exact nomark _ | rfl)))
 (mb_one (ms_if (MW.mt (mw_and (mt_val (me_v 9)) (mw_a1 (mt_not (mt_val (me_call o_is_settled (hr.mono (by decide)) (takes_of rfl rfl rfl rfl) (ma_c (me_v 1) (ma_c (me_v 2) (ma_c (me_v 6) (ma_c (me_v 5) ma_n))))))))))
 (mb_one (ms_ret me_bl))
 mb_nil))))
 (mb_cons (ms_set 7 sc__law_parts_right.nd (me_call o_wished_by_both (hr.mono (by decide)) (takes_of rfl rfl rfl rfl) (ma_c (me_v 1) (ma_c (me_v 2) (ma_c (me_v 5) ma_n)))))
 (mb_cons (ms_set 8 sc__law_parts_right.nd (me_cT c_tup n_tup PyProof.Rows.boot_tuple (ma_c (me_lc lK rfl sc__law_parts_right.nd (blkOk_by (own := [("_law_offer", 10)]) (by first | rfl | decide +kernel)) (mi_e (me_ix (hu_room hr) (me_v 4) (me_neg me_int))) (by decide) (fun _ _ _ _ _ => (mg_name 10 sc__law_parts_right.nd)) (fun _ _ _ _ _ => (mts_one (mt_cmp (o_notin (hu_room hr)) n_in (me_v 10) (me_v 7) (by first | exact nomark _ | rfl)))) (fun _ _ _ _ _ => (me_v 10))) ma_n) g_tuple))
 (mb_one (ms_ret (me_and (me_call o_is_settled (hr.mono (by decide)) (takes_of rfl rfl rfl rfl) (ma_c (me_v 1) (ma_c (me_v 2) (ma_c (me_v 8) (ma_c (me_v 5) ma_n))))) (me_b1 (me_cmp (o_eq (hu_room hr)) n_eq (me_lc lK rfl sc__law_parts_right.nd (blkOk_by (own := [("_law_offer", 10)]) (by first | rfl | decide +kernel)) (mi_e (me_v 7)) (by decide) (fun _ _ _ _ _ => (mg_name 10 sc__law_parts_right.nd)) (fun _ _ _ _ _ => (mts_one (mt_cmp (o_in (hu_room hr)) n_in (me_v 10) (me_v 3) (by first | exact nomark _ | rfl)))) (fun _ _ _ _ _ => (me_v 10))) (me_lst lK ma_n) (by first | exact nomark _ | rfl)))))))))))
abbrev s_made_rest : Stmt := top 33
theorem sc_made_rest : FnScope ["some", "gone", "one"] ["some", "gone"] (defScope s_made_rest) := ⟨rfl, rfl, rfl, by decide +kernel, rfl, by decide +kernel, by decide +kernel⟩
def B_made_rest : SM := (sRet (emCall tupF (ac (lcM lstK (itE (vr 0)) (gmN 2) (tmOf (emOp (inT true) (vr 2) (vr 1))) (vr 2) [2]) an)))
def b_made_rest : SM := B_made_rest 
def m_made_rest : FM := pur (reg (fnB 3 b_made_rest))
theorem w_made_rest {f : Addr} {fd : FuncData} (F : FunD K "made_rest" "made_rest" (defArgs s_made_rest) (defBody s_made_rest) (defScope s_made_rest) [] [] f fd) (g_tuple : mg ("tuple" : Str) = none) : FnOk P w K mg base (L2.CX P w) 1 f fd ["some", "gone"] (spM ⟨P, w, K, cl⟩ 2 m_made_rest) := by
  refine fn_pur (fn_reg (fn_ok (k := 0) (N := ["some", "gone", "one"]) (ps := ["some", "gone"]) (b := b_made_rest) F sc_made_rest fun cdv A outer s H E hcdv hr => ?_))
  unfold b_made_rest B_made_rest
  exact (mb_one (ms_ret (me_cT c_tup n_tup PyProof.Rows.boot_tuple (ma_c (me_lc lK rfl sc_made_rest.nd (blkOk_by (own := [("one", 2)]) (by first | rfl | decide +kernel)) (mi_e (me_v 0)) (by decide) (fun _ _ _ _ _ => (mg_name 2 sc_made_rest.nd)) (fun _ _ _ _ _ => (mts_one (mt_cmp (o_notin (hu_room hr)) n_in (me_v 2) (me_v 1) (by first | exact nomark _ | rfl)))) (fun _ _ _ _ _ => (me_v 2))) ma_n) g_tuple)))
abbrev s_leaving_out : Stmt := top 34
theorem sc_leaving_out : FnScope ["chooser", "some", "picks", "other"] ["chooser", "some"] (defScope s_leaving_out) := ⟨rfl, rfl, rfl, by decide +kernel, rfl, by decide +kernel, by decide +kernel⟩
def B_leaving_out (m_is_set m_Chooser___len__ m_all_sets m_made_rest m_Chooser___init__ : FM) : SM := (sSeq (sIf (tNo (tmOf (emCall (arg 2 m_is_set) (ac (emCall (lenOF [(("Chooser" : Str), m_Chooser___len__)]) (ac (vr 0) an)) (ac (vr 1) an)))))
 sBad
 sNx)
 (sSeq (sSet 2 (lcM lstK (itE (emCall (arg 1 m_all_sets) (ac (emCall (lenOF [(("Chooser" : Str), m_Chooser___len__)]) (ac (vr 0) an)) an))) (gmN 3) tYes (emOp ixT (em1 (atT [("Chooser" : Str)] ("table" : Str)) (vr 0)) (emCall (arg 2 m_made_rest) (ac (vr 3) (ac (vr 1) an)))) [3]))
 (sRet (regE (emMk ("Chooser" : Str) 2 m_Chooser___init__ (ac (emCall (lenOF [(("Chooser" : Str), m_Chooser___len__)]) (ac (vr 0) an)) (ac (emCall tupF (ac (vr 2) an)) an)))))))
def b_leaving_out : SM := B_leaving_out m_is_set m_Chooser___len__ m_all_sets m_made_rest m_Chooser___init__
def m_leaving_out : FM := pur (reg (fnB 4 b_leaving_out))
theorem w_leaving_out {f : Addr} {fd : FuncData} (F : FunD K "leaving_out" "leaving_out" (defArgs s_leaving_out) (defBody s_leaving_out) (defScope s_leaving_out) [] [] f fd) (o_is_set : Own P w K mg base cl 2 ("is_set" : Str) 2 m_is_set) (g_len : mg ("len" : Str) = none) (l_Chooser : LnO P w K mg base cl 1 ("Chooser" : Str) m_Chooser___len__) (o_all_sets : Own P w K mg base cl 1 ("all_sets" : Str) 1 m_all_sets) (a_table : AtOk K cl [("Chooser" : Str)] ("table" : Str)) (o_made_rest : Own P w K mg base cl 1 ("made_rest" : Str) 2 m_made_rest) (k_mk_Chooser : Mkr P w K mg base cl 3 ("Chooser" : Str) 2 m_Chooser___init__) (g_tuple : mg ("tuple" : Str) = none) : FnOk P w K mg base (L2.CX P w) 5 f fd ["chooser", "some"] (spM ⟨P, w, K, cl⟩ 2 m_leaving_out) := by
  refine fn_pur (fn_reg (fn_ok (k := 4) (N := ["chooser", "some", "picks", "other"]) (ps := ["chooser", "some"]) (b := b_leaving_out) F sc_leaving_out fun cdv A outer s H E hcdv hr => ?_))
  unfold b_leaving_out B_leaving_out
  exact (mb_cons (ms_if (mt_not (mt_val (me_call o_is_set (hr.mono (by decide)) (takes_of rfl rfl rfl rfl) (ma_c (me_cB (c_lenO (ms := [(("Chooser" : Str), m_Chooser___len__)]) (hr.mono (j := 2) (by decide)) (by intro q hq; simp only [List.mem_cons, List.not_mem_nil, or_false] at hq; subst hq; first | exact l_Chooser)) n_lenO boot_len (ma_c (me_v 0) ma_n) g_len) (ma_c (me_v 1) ma_n)))))
 (mb_one ms_bad)
 mb_nil)
 (mb_cons (ms_setLc 2 lK rfl sc_leaving_out.nd (blkOk_by (own := [("other", 3)]) (by first | rfl | decide +kernel)) (mi_e (me_call o_all_sets (hr.mono (by decide)) (takes_of rfl rfl rfl rfl) (ma_c (me_cB (c_lenO (ms := [(("Chooser" : Str), m_Chooser___len__)]) (hr.mono (j := 2) (by decide)) (by intro q hq; simp only [List.mem_cons, List.not_mem_nil, or_false] at hq; subst hq; first | exact l_Chooser)) n_lenO boot_len (ma_c (me_v 0) ma_n) g_len) ma_n))) (by decide) (fun _ _ _ _ _ => (mg_name 3 sc_leaving_out.nd)) (fun _ _ _ _ _ => mts_nil) (fun _ _ _ _ _ => (me_ix (hu_room hr) (me_at a_table (me_v 0)) (me_call o_made_rest (hr.mono (by decide)) takes0 (ma_c (me_v 3) (ma_c (me_v 1) ma_n))))))
 (mb_one (ms_ret (me_reg (me_make k_mk_Chooser (hr.mono (by decide)) (takes_of rfl rfl rfl rfl) (ma_c (me_cB (c_lenO (ms := [(("Chooser" : Str), m_Chooser___len__)]) (hr.mono (j := 2) (by decide)) (by intro q hq; simp only [List.mem_cons, List.not_mem_nil, or_false] at hq; subst hq; first | exact l_Chooser)) n_lenO boot_len (ma_c (me_v 0) ma_n) g_len) (ma_c (me_cT c_tup n_tup PyProof.Rows.boot_tuple (ma_c (me_v 2) ma_n) g_tuple) ma_n))))))))
abbrev s__law_lists : Stmt := top 47
theorem sc__law_lists : FnScope ["_law_deck_here", "_law_offers", "_law_found", "_law_turn", "_law_step", "_law_left", "_law_row"] ["_law_deck_here", "_law_offers"] (defScope s__law_lists) := ⟨rfl, rfl, rfl, by decide +kernel, rfl, by decide +kernel, by decide +kernel⟩
def b__law_lists : SM := (sSeq (sSet 2 (emL lstL an))
 (sSeq (sFor (itR1 (ac (emCall (arg 2 m__law_pick) (ac (vr 0) (ac (emL lstK (ac (cst (.int 2)) (ac (cst (.int 1)) (ac (cst (.int 3)) (ac (cst (.int 2)) (ac (cst (.int 0)) (ac (cst (.int 1)) (ac (cst (.int 3)) (ac (cst (.int 2)) an))))))))) an))) an)) (gmN 3)
 (sSeq (sPar2 5 6 (ac (emRgL lstL (rg1 (vr 1))) (ac (emL lstL an) an)))
 (sSeq (sFor (itR1 (ac (emOp subT (vr 1) (emCall (arg 2 m__law_pick) (ac (vr 0) (ac (emL lstK (ac (cst (.int 0)) (ac (cst (.int 0)) (ac (cst (.int 0)) (ac (cst (.int 1)) an))))) an)))) an)) (gmN 4)
 (sDrop (emBm "list" apT (vr 6) (ac (emBm "list" paT (vr 5) (ac (emCall (arg 2 m__law_draw) (ac (vr 0) (ac (emCall lenF (ac (vr 5) an)) an))) an)) an))))
 (sDrop (emBm "list" apT (vr 2) (ac (vr 6) an))))))
 (sRet (vr 2))))
def m__law_lists : FM := pur (reg (fnB 7 b__law_lists))
theorem w__law_lists {f : Addr} {fd : FuncData} (F : FunD K "_law_lists" "_law_lists" (defArgs s__law_lists) (defBody s__law_lists) (defScope s__law_lists) [] [] f fd) (g_range : mg ("range" : Str) = none) (o__law_pick : Own P w K mg base cl 2 ("_law_pick" : Str) 2 m__law_pick) (g_list : mg ("list" : Str) = none) (o__law_draw : Own P w K mg base cl 1 ("_law_draw" : Str) 2 m__law_draw) (g_len : mg ("len" : Str) = none) : FnOk P w K mg base (L2.CX P w) 3 f fd ["_law_deck_here", "_law_offers"] (spM ⟨P, w, K, cl⟩ 2 m__law_lists) := by
  refine fn_pur (fn_reg (fn_ok (k := 2) (N := ["_law_deck_here", "_law_offers", "_law_found", "_law_turn", "_law_step", "_law_left", "_law_row"]) (ps := ["_law_deck_here", "_law_offers"]) (b := b__law_lists) F sc__law_lists fun cdv A outer s H E hcdv hr => ?_))
  unfold b__law_lists
  exact (mb_cons (ms_set 2 sc__law_lists.nd (me_lst lL ma_n))
 (mb_cons (ms_for (passes_of rfl) rfl (mi_r1 rfl g_range (ma_c (me_call o__law_pick (hr.mono (by decide)) (takes_of rfl rfl rfl rfl) (ma_c (me_v 0) (ma_c (me_lst lK (ma_c me_int (ma_c me_int (ma_c me_int (ma_c me_int (ma_c me_int (ma_c me_int (ma_c me_int (ma_c me_int ma_n))))))))) ma_n))) ma_n)) (mg_name 3 sc__law_lists.nd)
 (mb_cons (ms_par2 5 6 rfl sc__law_lists.nd (ma_c (me_rgL lL rfl g_list (mr_1 g_range (me_v 1))) (ma_c (me_lst lL ma_n) ma_n)))
 (mb_cons (ms_for (passes_of rfl) rfl (mi_r1 rfl g_range (ma_c (me_op o_sub iT_nox (me_v 1) (me_call o__law_pick (hr.mono (by decide)) (takes_of rfl rfl rfl rfl) (ma_c (me_v 0) (ma_c (me_lst lK (ma_c me_int (ma_c me_int (ma_c me_int (ma_c me_int ma_n))))) ma_n)))) ma_n)) (mg_name 4 sc__law_lists.nd)
 (mb_one (ms_expr (me_bm PySem.F.plainAttrs_list PySem.F.slot_list_append PySem.F.type_list_append mm_ap n_ap (me_v 6) (ma_c (me_bm PySem.F.plainAttrs_list PySem.F.slot_list_pop PySem.F.type_list_pop mm_pa n_pa (me_v 5) (ma_c (me_call o__law_draw (hr.mono (by decide)) (takes_of rfl rfl rfl rfl) (ma_c (me_v 0) (ma_c (me_cB c_len n_len boot_len (ma_c (me_v 5) ma_n) g_len) ma_n))) ma_n)) ma_n)))))
 (mb_one (ms_expr (me_bm PySem.F.plainAttrs_list PySem.F.slot_list_append PySem.F.type_list_append mm_ap n_ap (me_v 2) (ma_c (me_v 6) ma_n)))))))
 (mb_one (ms_ret (me_v 2)))))
abbrev s_law : Stmt := top 54
theorem sc_law : FnScope ["_law_script", "_law_deck_here", "_law_offers", "_law_turn", "_law_standing", "_law_out", "_law_best", "_law_ever", "_law_refused", "_law_rest", "_law_one", "_law_other", "_law_sets_here", "_law_left", "_law_order", "_law_some", "_law_sure", "_law_near", "_law_far", "_law_proposed", "_law_kept", "_law_offer"] ["_law_script"] (defScope s_law) := ⟨rfl, rfl, rfl, by decide +kernel, rfl, by decide +kernel, by decide +kernel⟩
def L_law_1 (m__law_draw : FM) : SM := (sDrop (emBm "list" apT (vr 14) (ac (emBm "list" paT (vr 13) (ac (emCall (arg 2 m__law_draw) (ac (vr 1) (ac (emCall lenF (ac (vr 13) an)) an))) an)) an)))
def L_law_2 : SM := (sSet 7 (emOp (adT lstK) (vr 7) (lcM lstK (itE (vr 19)) (gmN 21) (tmOf (emOp (inT true) (vr 21) (vr 7))) (vr 21) [21])))
def B_law (m__law_deck m__law_draw m__law_chooser m__law_lists m__law_sets m__law_pick m__law_is_renamed m_settled_sets m_sure_offers m__law_parts_right m_leaving_out m_best_settled m_rounds_of m_vain_offers : FM) : SM := (sSeq (sSet 1 (emCall (arg 1 m__law_deck) (ac (vr 0) an)))
 (sSeq (sSet 2 (emOp (adT lstK) (cst (.int 1)) (emCall (arg 2 m__law_draw) (ac (vr 1) (ac (cst (.int 4)) an)))))
 (sSeq (sAsg (gmT 2 (gmCons (gmN 10) (gmCons (gmN 11) gmNil))) (emT (ac (emCall (arg 2 m__law_chooser) (ac (vr 2) (ac (emCall (arg 2 m__law_lists) (ac (vr 1) (ac (vr 2) an))) an))) (ac (emCall (arg 2 m__law_chooser) (ac (vr 2) (ac (emCall (arg 2 m__law_lists) (ac (vr 1) (ac (vr 2) an))) an))) an))))
 (sSeq (sPar3 12 13 14 (ac (emCall (arg 1 m__law_sets) (ac (vr 2) an)) (ac (emRgL lstL (rg1 (vr 2))) (ac (emL lstL an) an))))
 (sSeq (sFor (itR1 (ac (vr 2) an)) (gmN 3)
 (L_law_1 m__law_draw))
 (sSeq (sSet 4 (emCall (arg 2 m__law_pick) (ac (vr 1) (ac (emL lstK (ac (emOp ixT (vr 12) (em1 ngT (cst (.int 1)))) (ac (emCall (arg 2 m__law_pick) (ac (vr 1) (ac (vr 12) an))) (ac (emCall (arg 2 m__law_pick) (ac (vr 1) (ac (vr 12) an))) an)))) an))))
 (sSeq (sIf (tNo (tmOf (emCall (arg 4 m__law_is_renamed) (ac (vr 10) (ac (vr 11) (ac (emCall tupF (ac (vr 14) an)) (ac (vr 4) an)))))))
 (sRet (cst (.bl false)))
 sNx)
 (sSeq (sPar2 15 16 (ac (emCall (arg 3 m_settled_sets) (ac (vr 10) (ac (vr 11) (ac (vr 4) an)))) (ac (emCall (arg 3 m_sure_offers) (ac (vr 10) (ac (vr 11) (ac (vr 4) an)))) an)))
 (sSeq (sIf (tOrr (tmOf (emOp neT (emCall (arg 3 m_settled_sets) (ac (vr 11) (ac (vr 10) (ac (vr 4) an)))) (vr 15))) (tmOf (emOp neT (emCall (arg 3 m_sure_offers) (ac (vr 11) (ac (vr 10) (ac (vr 4) an)))) (vr 16))))
 (sRet (cst (.bl false)))
 sNx)
 (sSeq (sIf (tNo (tmOf (emCall (arg 5 m__law_parts_right) (ac (vr 1) (ac (vr 10) (ac (vr 11) (ac (vr 4) (ac (vr 12) an))))))))
 (sRet (cst (.bl false)))
 sNx)
 (sSeq (sSet 5 (emCall tupF (ac (lcM lstK (itE (emOp ixT (vr 12) (em1 ngT (cst (.int 1))))) (gmN 21) (tmOf (emOp (inT true) (vr 21) (vr 4))) (vr 21) [21]) an)))
 (sSeq (sPar2 17 18 (ac (emCall (arg 2 m_leaving_out) (ac (vr 10) (ac (vr 5) an))) (ac (emCall (arg 2 m_leaving_out) (ac (vr 11) (ac (vr 5) an))) an)))
 (sSeq (sSet 6 (emCall (arg 3 m_best_settled) (ac (vr 10) (ac (vr 11) (ac (vr 4) an)))))
 (sSeq (sIf (tOrr (tmOf (emOp neT (emCall (arg 3 m_settled_sets) (ac (vr 17) (ac (vr 18) (ac (emOp ixT (vr 12) (em1 ngT (cst (.int 1)))) an)))) (vr 15))) (tmOf (emOp neT (emCall (arg 3 m_best_settled) (ac (vr 17) (ac (vr 18) (ac (emOp ixT (vr 12) (em1 ngT (cst (.int 1)))) an)))) (vr 6))))
 (sRet (cst (.bl false)))
 sNx)
 (sSeq (sIf (tOrr (tmOf (emOp neT (emCall (arg 3 m_settled_sets) (ac (vr 17) (ac (vr 11) (ac (emOp ixT (vr 12) (em1 ngT (cst (.int 1)))) an)))) (vr 15))) (tmOf (emOp neT (emCall (arg 3 m_settled_sets) (ac (vr 10) (ac (vr 18) (ac (emOp ixT (vr 12) (em1 ngT (cst (.int 1)))) an)))) (vr 15))))
 (sRet (cst (.bl false)))
 sNx)
 (sSeq (sSet 7 (emL lstK an))
 (sSeq (sFor (itE (emCall (arg 3 m_rounds_of) (ac (vr 10) (ac (vr 11) (ac (vr 4) an))))) (gmT 2 (gmCons (gmN 19) (gmCons (gmN 20) gmNil)))
 (L_law_2))
 (sSeq (sSet 8 (lcM lstK (itE (vr 7)) (gmN 21) (tmOf (emOp (inT true) (vr 21) (vr 6))) (vr 21) [21]))
 (sSeq (sIf (tmOf (emOp neT (lcM lstK (itE (vr 8)) (gmN 21) (tmOf (emOp (inT true) (vr 21) (emCall (arg 3 m_vain_offers) (ac (vr 10) (ac (vr 11) (ac (vr 4) an)))))) (vr 21) [21]) (emL lstK an)))
 (sRet (cst (.bl false)))
 sNx)
 (sSeq (sSet 9 (emCall tupF (ac (lcM lstK (itE (vr 4)) (gmN 21) (tmOf (emOp (inT true) (vr 21) (vr 8))) (vr 21) [21]) an)))
 (sRet (emOp eqT (emCall (arg 3 m_best_settled) (ac (vr 10) (ac (vr 11) (ac (vr 9) an)))) (vr 6)))))))))))))))))))))))
def b_law : SM := B_law m__law_deck m__law_draw m__law_chooser m__law_lists m__law_sets m__law_pick m__law_is_renamed m_settled_sets m_sure_offers m__law_parts_right m_leaving_out m_best_settled m_rounds_of m_vain_offers
def m_law : FM := pur (reg (fnB 22 b_law))
theorem w_law {f : Addr} {fd : FuncData} (F : FunD K "law" "law" (defArgs s_law) (defBody s_law) (defScope s_law) [] [] f fd) (o__law_deck : Own P w K mg base cl 1 ("_law_deck" : Str) 1 m__law_deck) (o__law_draw : Own P w K mg base cl 1 ("_law_draw" : Str) 2 m__law_draw) (o__law_chooser : Own P w K mg base cl 5 ("_law_chooser" : Str) 2 m__law_chooser) (o__law_lists : Own P w K mg base cl 3 ("_law_lists" : Str) 2 m__law_lists) (o__law_sets : Own P w K mg base cl 1 ("_law_sets" : Str) 1 m__law_sets) (g_list : mg ("list" : Str) = none) (g_range : mg ("range" : Str) = none) (g_len : mg ("len" : Str) = none) (o__law_pick : Own P w K mg base cl 2 ("_law_pick" : Str) 2 m__law_pick) (o__law_is_renamed : Own P w K mg base cl 8 ("_law_is_renamed" : Str) 4 m__law_is_renamed) (g_tuple : mg ("tuple" : Str) = none) (o_settled_sets : Own P w K mg base cl 6 ("settled_sets" : Str) 3 m_settled_sets) (o_sure_offers : Own P w K mg base cl 7 ("sure_offers" : Str) 3 m_sure_offers) (o__law_parts_right : Own P w K mg base cl 7 ("_law_parts_right" : Str) 5 m__law_parts_right) (o_leaving_out : Own P w K mg base cl 5 ("leaving_out" : Str) 2 m_leaving_out) (o_best_settled : Own P w K mg base cl 6 ("best_settled" : Str) 3 m_best_settled) (o_rounds_of : Own P w K mg base cl 5 ("rounds_of" : Str) 3 m_rounds_of) (o_vain_offers : Own P w K mg base cl 7 ("vain_offers" : Str) 3 m_vain_offers) : FnOk P w K mg base (L2.CX P w) 9 f fd ["_law_script"] (spM ⟨P, w, K, cl⟩ 1 m_law) := by
  refine fn_pur (fn_reg (fn_ok (k := 8) (N := ["_law_script", "_law_deck_here", "_law_offers", "_law_turn", "_law_standing", "_law_out", "_law_best", "_law_ever", "_law_refused", "_law_rest", "_law_one", "_law_other", "_law_sets_here", "_law_left", "_law_order", "_law_some", "_law_sure", "_law_near", "_law_far", "_law_proposed", "_law_kept", "_law_offer"]) (ps := ["_law_script"]) (b := b_law) F sc_law fun cdv A outer s H E hcdv hr => ?_))
  unfold b_law B_law L_law_2 L_law_1
  exact (mb_cons (ms_set 1 sc_law.nd (me_call o__law_deck (hr.mono (by decide)) (takes_of rfl rfl rfl rfl) (ma_c (me_v 0) ma_n)))
 (mb_cons (ms_set 2 sc_law.nd (me_op (o_ad lK) (n_ad lK) me_int (me_call o__law_draw (hr.mono (by decide)) (takes_of rfl rfl rfl rfl) (ma_c (me_v 1) (ma_c me_int ma_n)))))
 (mb_cons (ms_asg (me_tup (ma_c (me_call o__law_chooser (hr.mono (by decide)) (takes_of rfl rfl rfl rfl) (ma_c (me_v 2) (ma_c (me_call o__law_lists (hr.mono (by decide)) (takes_of rfl rfl rfl rfl) (ma_c (me_v 1) (ma_c (me_v 2) ma_n))) ma_n))) (ma_c (me_call o__law_chooser (hr.mono (by decide)) (takes_of rfl rfl rfl rfl) (ma_c (me_v 2) (ma_c (me_call o__law_lists (hr.mono (by decide)) (takes_of rfl rfl rfl rfl) (ma_c (me_v 1) (ma_c (me_v 2) ma_n))) ma_n))) ma_n))) (mg_tup 2 rfl (mgs_cons (mg_name 10 sc_law.nd) (mgs_cons (mg_name 11 sc_law.nd) mgs_nil))))
 (mb_cons (ms_par3 12 13 14 rfl sc_law.nd (ma_c (me_call o__law_sets (hr.mono (by decide)) (takes_of rfl rfl rfl rfl) (ma_c (me_v 2) ma_n)) (ma_c (me_rgL lL rfl g_list (mr_1 g_range (me_v 2))) (ma_c (me_lst lL ma_n) ma_n))))
 (mb_cons (ms_for (passes_of rfl) rfl (mi_r1 rfl g_range (ma_c (me_v 2) ma_n)) (mg_name 3 sc_law.nd)
 (mb_one (ms_expr (me_bm PySem.F.plainAttrs_list PySem.F.slot_list_append PySem.F.type_list_append mm_ap n_ap (me_v 14) (ma_c (me_bm PySem.F.plainAttrs_list PySem.F.slot_list_pop PySem.F.type_list_pop mm_pa n_pa (me_v 13) (ma_c (me_call o__law_draw (hr.mono (by decide)) (takes_of rfl rfl rfl rfl) (ma_c (me_v 1) (ma_c (me_cB c_len n_len boot_len (ma_c (me_v 13) ma_n) g_len) ma_n))) ma_n)) ma_n)))))
 (mb_cons (ms_set 4 sc_law.nd (me_call o__law_pick (hr.mono (by decide)) (takes_of rfl rfl rfl rfl) (ma_c (me_v 1) (ma_c (me_lst lK (ma_c (me_ix (hu_room hr) (me_v 12) (me_neg me_int)) (ma_c (me_call o__law_pick (hr.mono (by decide)) (takes_of rfl rfl rfl rfl) (ma_c (me_v 1) (ma_c (me_v 12) ma_n))) (ma_c (me_call o__law_pick (hr.mono (by decide)) (takes_of rfl rfl rfl rfl) (ma_c (me_v 1) (ma_c (me_v 12) ma_n))) ma_n)))) ma_n))))
 (mb_cons (ms_if (mt_not (mt_val (me_call o__law_is_renamed (hr.mono (by decide)) (takes_of rfl rfl rfl rfl) (ma_c (me_v 10) (ma_c (me_v 11) (ma_c (me_cT c_tup n_tup PyProof.Rows.boot_tuple (ma_c (me_v 14) ma_n) g_tuple) (ma_c (me_v 4) ma_n)))))))
 (mb_one (ms_ret me_bl))
 mb_nil)
 (mb_cons (ms_par2 15 16 rfl sc_law.nd (ma_c (me_call o_settled_sets (hr.mono (by decide)) (takes_of rfl rfl rfl rfl) (ma_c (me_v 10) (ma_c (me_v 11) (ma_c (me_v 4) ma_n)))) (ma_c (me_call o_sure_offers (hr.mono (by decide)) (takes_of rfl rfl rfl rfl) (ma_c (me_v 10) (ma_c (me_v 11) (ma_c (me_v 4) ma_n)))) ma_n)))
 (mb_cons (ms_if (MW.mt (mw_or (mt_cmp (o_ne (hu_room hr)) n_ne (me_call o_settled_sets (hr.mono (by decide)) (takes_of rfl rfl rfl rfl) (ma_c (me_v 11) (ma_c (me_v 10) (ma_c (me_v 4) ma_n)))) (me_v 15) (by first | exact nomark _ | rfl)) (mw_o1 (mt_cmp (o_ne (hu_room hr)) n_ne (me_call o_sure_offers (hr.mono (by decide)) (takes_of rfl rfl rfl rfl) (ma_c (me_v 11) (ma_c (me_v 10) (ma_c (me_v 4) ma_n)))) (me_v 16) (by first | exact nomark _ | rfl)))))
 (mb_one (ms_ret me_bl))
 mb_nil)
 (mb_cons (ms_if (mt_not (mt_val (me_call o__law_parts_right (hr.mono (by decide)) (takes_of rfl rfl rfl rfl) (ma_c (me_v 1) (ma_c (me_v 10) (ma_c (me_v 11) (ma_c (me_v 4) (ma_c (me_v 12) ma_n))))))))
 (mb_one (ms_ret me_bl))
 mb_nil)
 (mb_cons (ms_set 5 sc_law.nd (me_cT c_tup n_tup PyProof.Rows.boot_tuple (ma_c (me_lc lK rfl sc_law.nd (blkOk_by (own := [("_law_offer", 21)]) (by first | rfl | decide +kernel)) (mi_e (me_ix (hu_room hr) (me_v 12) (me_neg me_int))) (by decide) (fun _ _ _ _ _ => (mg_name 21 sc_law.nd)) (fun _ _ _ _ _ => (mts_one (mt_cmp (o_notin (hu_room hr)) n_in (me_v 21) (me_v 4) (by first | exact nomark _ | rfl)))) (fun _ _ _ _ _ => (me_v 21))) ma_n) g_tuple))
 (mb_cons (ms_par2 17 18 rfl sc_law.nd (ma_c (me_call o_leaving_out (hr.mono (by decide)) (takes_of rfl rfl rfl rfl) (ma_c (me_v 10) (ma_c (me_v 5) ma_n))) (ma_c (me_call o_leaving_out (hr.mono (by decide)) (takes_of rfl rfl rfl rfl) (ma_c (me_v 11) (ma_c (me_v 5) ma_n))) ma_n)))
 (mb_cons (ms_set 6 sc_law.nd (me_call o_best_settled (hr.mono (by decide)) (takes_of rfl rfl rfl rfl) (ma_c (me_v 10) (ma_c (me_v 11) (ma_c (me_v 4) ma_n)))))
 (mb_cons (ms_if (MW.mt (mw_or (mt_cmp (o_ne (hu_room hr)) n_ne (me_call o_settled_sets (hr.mono (by decide)) (takes_of rfl rfl rfl rfl) (ma_c (me_v 17) (ma_c (me_v 18) (ma_c (me_ix (hu_room hr) (me_v 12) (me_neg me_int)) ma_n)))) (me_v 15) (by first | exact nomark _ | rfl)) (mw_o1 (mt_cmp (o_ne (hu_room hr)) n_ne (me_call o_best_settled (hr.mono (by decide)) (takes_of rfl rfl rfl rfl) (ma_c (me_v 17) (ma_c (me_v 18) (ma_c (me_ix (hu_room hr) (me_v 12) (me_neg me_int)) ma_n)))) (me_v 6) (by first | exact nomark _ | rfl)))))
 (mb_one (ms_ret me_bl))
 mb_nil)
 (mb_cons (ms_if (MW.mt (mw_or (mt_cmp (o_ne (hu_room hr)) n_ne (me_call o_settled_sets (hr.mono (by decide)) (takes_of rfl rfl rfl rfl) (ma_c (me_v 17) (ma_c (me_v 11) (ma_c (me_ix (hu_room hr) (me_v 12) (me_neg me_int)) ma_n)))) (me_v 15) (by first | exact nomark _ | rfl)) (mw_o1 (mt_cmp (o_ne (hu_room hr)) n_ne (me_call o_settled_sets (hr.mono (by decide)) (takes_of rfl rfl rfl rfl) (ma_c (me_v 10) (ma_c (me_v 18) (ma_c (me_ix (hu_room hr) (me_v 12) (me_neg me_int)) ma_n)))) (me_v 15) (by first | exact nomark _ | rfl)))))
 (mb_one (ms_ret me_bl))
 mb_nil)
 (mb_cons (ms_set 7 sc_law.nd (me_lst lK ma_n))
 (mb_cons (ms_for (passes_of rfl) rfl (mi_e (me_call o_rounds_of (hr.mono (by decide)) (takes_of rfl rfl rfl rfl) (ma_c (me_v 10) (ma_c (me_v 11) (ma_c (me_v 4) ma_n))))) (mg_tup 2 rfl (mgs_cons (mg_name 19 sc_law.nd) (mgs_cons (mg_name 20 sc_law.nd) mgs_nil)))
 (mb_one (ms_set 7 sc_law.nd (me_op (o_ad lK) (n_ad lK) (me_v 7) (me_lc lK rfl sc_law.nd (blkOk_by (own := [("_law_offer", 21)]) (by first | rfl | decide +kernel)) (mi_e (me_v 19)) (by decide) (fun _ _ _ _ _ => (mg_name 21 sc_law.nd)) (fun _ _ _ _ _ => (mts_one (mt_cmp (o_notin (hu_room hr)) n_in (me_v 21) (me_v 7) (by first | exact nomark _ | rfl)))) (fun _ _ _ _ _ => (me_v 21)))))))
 (mb_cons (ms_set 8 sc_law.nd (me_lc lK rfl sc_law.nd (blkOk_by (own := [("_law_offer", 21)]) (by first | rfl | decide +kernel)) (mi_e (me_v 7)) (by decide) (fun _ _ _ _ _ => (mg_name 21 sc_law.nd)) (fun _ _ _ _ _ => (mts_one (mt_cmp (o_notin (hu_room hr)) n_in (me_v 21) (me_v 6) (by first | exact nomark _ | rfl)))) (fun _ _ _ _ _ => (me_v 21))))
 (mb_cons (ms_if (mt_cmp (o_ne (hu_room hr)) n_ne (me_lc lK rfl sc_law.nd (blkOk_by (own := [("_law_offer", 21)]) (by first | rfl | decide +kernel)) (mi_e (me_v 8)) (by decide) (fun _ _ _ _ _ => (mg_name 21 sc_law.nd)) (fun _ _ _ _ _ => (mts_one (mt_cmp (o_notin (hu_room hr)) n_in (me_v 21) (me_call o_vain_offers (hr.mono (by decide)) takes0 (ma_c (me_v 10) (ma_c (me_v 11) (ma_c (me_v 4) ma_n)))) (by first | exact nomark _ | rfl)))) (fun _ _ _ _ _ => (me_v 21))) (me_lst lK ma_n) (by first | exact nomark _ | rfl))
 (mb_one (ms_ret me_bl))
 mb_nil)
 (mb_cons (ms_set 9 sc_law.nd (me_cT c_tup n_tup PyProof.Rows.boot_tuple (ma_c (me_lc lK rfl sc_law.nd (blkOk_by (own := [("_law_offer", 21)]) (by first | rfl | decide +kernel)) (mi_e (me_v 4)) (by decide) (fun _ _ _ _ _ => (mg_name 21 sc_law.nd)) (fun _ _ _ _ _ => (mts_one (mt_cmp (o_notin (hu_room hr)) n_in (me_v 21) (me_v 8) (by first | exact nomark _ | rfl)))) (fun _ _ _ _ _ => (me_v 21))) ma_n) g_tuple))
 (mb_one (ms_ret (me_cmp (o_eq (hu_room hr)) n_eq (me_call o_best_settled (hr.mono (by decide)) (takes_of rfl rfl rfl rfl) (ma_c (me_v 10) (ma_c (me_v 11) (ma_c (me_v 9) ma_n)))) (me_v 6) (by first | exact nomark _ | rfl))))))))))))))))))))))))

def d__law_deck : He.DefD := ⟨("_law_deck", none), "_law_deck", "_law_deck", defArgs s__law_deck, defBody s__law_deck, defScope s__law_deck, [], []⟩
def d__law_draw : He.DefD := ⟨("_law_draw", none), "_law_draw", "_law_draw", defArgs s__law_draw, defBody s__law_draw, defScope s__law_draw, [], []⟩
def d__law_pick : He.DefD := ⟨("_law_pick", none), "_law_pick", "_law_pick", defArgs s__law_pick, defBody s__law_pick, defScope s__law_pick, [], []⟩
def d_Chooser___len__ : He.DefD := ⟨("Chooser", some "__len__"), "__len__", "Chooser.__len__", defArgs s_Chooser___len__, defBody s_Chooser___len__, defScope s_Chooser___len__, [], []⟩
def d_same_offers : He.DefD := ⟨("same_offers", none), "same_offers", "same_offers", defArgs s_same_offers, defBody s_same_offers, defScope s_same_offers, [], []⟩
def d_is_whole : He.DefD := ⟨("is_whole", none), "is_whole", "is_whole", defArgs s_is_whole, defBody s_is_whole, defScope s_is_whole, [], []⟩
def d_is_set : He.DefD := ⟨("is_set", none), "is_set", "is_set", defArgs s_is_set, defBody s_is_set, defScope s_is_set, [], []⟩
def d_side_check_set : He.DefD := ⟨("side_check_set", none), "side_check_set", "side_check_set", defArgs s_side_check_set, defBody s_side_check_set, defScope s_side_check_set, [], []⟩
def d_side_check_standing : He.DefD := ⟨("side_check_standing", none), "side_check_standing", "side_check_standing", defArgs s_side_check_standing, defBody s_side_check_standing, defScope s_side_check_standing, [], []⟩
def d_together : He.DefD := ⟨("together", none), "together", "together", defArgs s_together, defBody s_together, defScope s_together, [], []⟩
def d_rounds_of : He.DefD := ⟨("rounds_of", none), "rounds_of", "rounds_of", defArgs s_rounds_of, defBody s_rounds_of, defScope s_rounds_of, [], []⟩
def d_best_settled : He.DefD := ⟨("best_settled", none), "best_settled", "best_settled", defArgs s_best_settled, defBody s_best_settled, defScope s_best_settled, [], []⟩
def d_all_sets : He.DefD := ⟨("all_sets", none), "all_sets", "all_sets", defArgs s_all_sets, defBody s_all_sets, defScope s_all_sets, [], []⟩
def d_chooser_is_part : He.DefD := ⟨("chooser_is_part", none), "chooser_is_part", "chooser_is_part", defArgs s_chooser_is_part, defBody s_chooser_is_part, defScope s_chooser_is_part, [], []⟩
def d_Chooser___init__ : He.DefD := ⟨("Chooser", some "__init__"), "__init__", "Chooser.__init__", defArgs s_Chooser___init__, defBody s_Chooser___init__, defScope s_Chooser___init__, [], []⟩
def d__law_taken : He.DefD := ⟨("_law_taken", none), "_law_taken", "_law_taken", defArgs s__law_taken, defBody s__law_taken, defScope s__law_taken, [], []⟩
def d__law_sets : He.DefD := ⟨("_law_sets", none), "_law_sets", "_law_sets", defArgs s__law_sets, defBody s__law_sets, defScope s__law_sets, [], []⟩
def d__law_chooser : He.DefD := ⟨("_law_chooser", none), "_law_chooser", "_law_chooser", defArgs s__law_chooser, defBody s__law_chooser, defScope s__law_chooser, [], []⟩
def d__law_in_order : He.DefD := ⟨("_law_in_order", none), "_law_in_order", "_law_in_order", defArgs s__law_in_order, defBody s__law_in_order, defScope s__law_in_order, [], []⟩
def d_renamed : He.DefD := ⟨("renamed", none), "renamed", "renamed", defArgs s_renamed, defBody s_renamed, defScope s_renamed, [], []⟩
def d__law_named : He.DefD := ⟨("_law_named", none), "_law_named", "_law_named", defArgs s__law_named, defBody s__law_named, defScope s__law_named, [], []⟩
def d_subsets_of : He.DefD := ⟨("subsets_of", none), "subsets_of", "subsets_of", defArgs s_subsets_of, defBody s_subsets_of, defScope s_subsets_of, [], []⟩
def d_agreed_by : He.DefD := ⟨("agreed_by", none), "agreed_by", "agreed_by", defArgs s_agreed_by, defBody s_agreed_by, defScope s_agreed_by, [], []⟩
def d_side_set_with : He.DefD := ⟨("side_set_with", none), "side_set_with", "side_set_with", defArgs s_side_set_with, defBody s_side_set_with, defScope s_side_set_with, [], []⟩
def d_wished_beside : He.DefD := ⟨("wished_beside", none), "wished_beside", "wished_beside", defArgs s_wished_beside, defBody s_wished_beside, defScope s_wished_beside, [], []⟩
def d_side_settled : He.DefD := ⟨("side_settled", none), "side_settled", "side_settled", defArgs s_side_settled, defBody s_side_settled, defScope s_side_settled, [], []⟩
def d_settled_among : He.DefD := ⟨("settled_among", none), "settled_among", "settled_among", defArgs s_settled_among, defBody s_settled_among, defScope s_settled_among, [], []⟩
def d_settled_sets : He.DefD := ⟨("settled_sets", none), "settled_sets", "settled_sets", defArgs s_settled_sets, defBody s_settled_sets, defScope s_settled_sets, [], []⟩
def d_wished_by_both : He.DefD := ⟨("wished_by_both", none), "wished_by_both", "wished_by_both", defArgs s_wished_by_both, defBody s_wished_by_both, defScope s_wished_by_both, [], []⟩
def d_sure_offers : He.DefD := ⟨("sure_offers", none), "sure_offers", "sure_offers", defArgs s_sure_offers, defBody s_sure_offers, defScope s_sure_offers, [], []⟩
def d_vain_offers : He.DefD := ⟨("vain_offers", none), "vain_offers", "vain_offers", defArgs s_vain_offers, defBody s_vain_offers, defScope s_vain_offers, [], []⟩
def d__law_is_renamed : He.DefD := ⟨("_law_is_renamed", none), "_law_is_renamed", "_law_is_renamed", defArgs s__law_is_renamed, defBody s__law_is_renamed, defScope s__law_is_renamed, [], []⟩
def d_side_is_part : He.DefD := ⟨("side_is_part", none), "side_is_part", "side_is_part", defArgs s_side_is_part, defBody s_side_is_part, defScope s_side_is_part, [], []⟩
def d_side_check_part : He.DefD := ⟨("side_check_part", none), "side_check_part", "side_check_part", defArgs s_side_check_part, defBody s_side_check_part, defScope s_side_check_part, [], []⟩
def d_is_settled : He.DefD := ⟨("is_settled", none), "is_settled", "is_settled", defArgs s_is_settled, defBody s_is_settled, defScope s_is_settled, [], []⟩
def d__law_parts_right : He.DefD := ⟨("_law_parts_right", none), "_law_parts_right", "_law_parts_right", defArgs s__law_parts_right, defBody s__law_parts_right, defScope s__law_parts_right, [], []⟩
def d_made_rest : He.DefD := ⟨("made_rest", none), "made_rest", "made_rest", defArgs s_made_rest, defBody s_made_rest, defScope s_made_rest, [], []⟩
def d_leaving_out : He.DefD := ⟨("leaving_out", none), "leaving_out", "leaving_out", defArgs s_leaving_out, defBody s_leaving_out, defScope s_leaving_out, [], []⟩
def d__law_lists : He.DefD := ⟨("_law_lists", none), "_law_lists", "_law_lists", defArgs s__law_lists, defBody s__law_lists, defScope s__law_lists, [], []⟩
def d_law : He.DefD := ⟨("law", none), "law", "law", defArgs s_law, defBody s_law, defScope s_law, [], []⟩
def fn : List He.DefD := [d__law_deck, d__law_draw, d__law_pick, d_Chooser___len__, d_same_offers, d_is_whole, d_is_set, d_side_check_set, d_side_check_standing, d_together, d_rounds_of, d_best_settled, d_all_sets, d_chooser_is_part, d_Chooser___init__, d__law_taken, d__law_sets, d__law_chooser, d__law_in_order, d_renamed, d__law_named, d_subsets_of, d_agreed_by, d_side_set_with, d_wished_beside, d_side_settled, d_settled_among, d_settled_sets, d_wished_by_both, d_sure_offers, d_vain_offers, d__law_is_renamed, d_side_is_part, d_side_check_part, d_is_settled, d__law_parts_right, d_made_rest, d_leaving_out, d__law_lists, d_law]
def fa : List He.Fa := [.glo "_law_deck", .glo "_law_draw", .glo "_law_pick", .glo "same_offers", .glo "is_whole", .glo "is_set", .glo "side_check_set", .glo "side_check_standing", .glo "together", .glo "rounds_of", .glo "best_settled", .glo "all_sets", .glo "chooser_is_part", .glo "_law_taken", .glo "_law_sets", .glo "_law_chooser", .glo "_law_in_order", .glo "renamed", .glo "_law_named", .glo "subsets_of", .glo "agreed_by", .glo "side_set_with", .glo "wished_beside", .glo "side_settled", .glo "settled_among", .glo "settled_sets", .glo "wished_by_both", .glo "sure_offers", .glo "vain_offers", .glo "_law_is_renamed", .glo "side_is_part", .glo "side_check_part", .glo "is_settled", .glo "_law_parts_right", .glo "made_rest", .glo "leaving_out", .glo "_law_lists", .glo "law", .free "int", .free "len", .noat "Chooser" "places", .meth "Chooser" "__len__", .free "isinstance", .free "bool", .free "tuple", .free "sorted", .free "set", .noat "Chooser" "table", .free "range", .int "CHOOSER_MOST" 6, .free "enumerate", .noat "Chooser" "offers", .noat "Chooser" "picks", .mkr "Chooser", .free "all", .free "any", .free "list", .glo "Chooser", .cls "Chooser"]
def tf : List He.Defn := [("_law_sets", none), ("_law_in_order", none)]
def exI (K : PySem.W.Frag) : Bool := true
def exL (K : PySem.W.Frag) : Bool := !decide ((He.cT K ("_law_sets", none)).2 = (He.cT K ("_law_in_order", none)).2)
def exT (K : PySem.W.Frag) : Bool := true && exL K
def ex (K : PySem.W.Frag) : Bool := exI K && exT K
abbrev Rw : PySem.W.OpenRow := PySem.W.OpenLaw.row PySem.Challenge.rw_offerstands_k41_whole_two_sides_renamed
abbrev hk : PySem.W.Hook := He.hookX 6 fa fn [] tf ex
def ob (s : PySem.W.SharedT) : He.AlX := He.obsX 6 fa fn [] tf ex (HandSHeadRun.getT s)
theorem ob_eq (s : PySem.W.SharedT) : ob s = hk.obs s.abs := He.obsX_eq (HandSHeadRun.getT_eq s)
def loose0 : List Str := ["__name__", "OfferError", "OtherOffers", "BadText", "BadChooser", "BadSet", "CHOOSER_MOST", "is_whole", "is_set", "all_sets", "subsets_of", "together", "same_offers", "chooser_line", "chooser_head", "chooser_part", "chooser_is_part", "Chooser", "side_check_set", "side_check_standing", "side_is_part", "side_check_part", "side_set_with", "agreed_by", "wished_beside", "side_settled", "settled_among", "wished_by_both", "is_settled", "settled_sets"]
def loose1 : List Str := ["made_rest", "leaving_out", "renamed", "rounds_of", "best_settled", "sure_offers", "vain_offers", "_law_deck", "_law_draw", "_law_pick", "_law_sets", "_law_lists", "_law_taken", "_law_chooser", "_law_named", "_law_in_order", "_law_is_renamed", "_law_parts_right"]
def loose : List Str := loose0 ++ loose1
theorem run (w : World) : HandSHeadRun.RunEq Rw (PySem.W.view Rw.prog [54]) hk ob 4000 loose w := by
  intro os
  kernel_rfl
def clf (K : PySem.W.Frag) : Cln := ⟨fun c => if c = ("Chooser" : Str) then some (He.ga K "Chooser") else none, [((He.cT K ("_law_sets", none)).2, (("_law_sets" : Str) ++ ".<locals>.") ++ "<lambda>"), ((He.cT K ("_law_in_order", none)).2, (("_law_in_order" : Str) ++ ".<locals>.") ++ "<lambda>")]⟩
abbrev law_ : PySem.W.OpenLaw := PySem.Challenge.rw_offerstands_k41_whole_two_sides_renamed
theorem facts {w : World} {h : Heap} {K : PySem.W.Frag} {mg : Str → Option Value} {f : Addr} (X : K.In h) (G : h.Ns mainGlobals mg) (hfa : mg ("law" : Str) = some (.ref f)) (c : He.SaysX fa fn [] tf ex w h K) (LT : LawT m_law 63) : LamX.LawAtS law_ w K (L2.CX law_.prog w) 9 63 "_law_script" mg f h := by
  have cd := c.t.d
  obtain ⟨fd__law_deck, F__law_deck⟩ := cd.def_ 0 (d := d__law_deck) rfl
  obtain ⟨fd__law_draw, F__law_draw⟩ := cd.def_ 1 (d := d__law_draw) rfl
  obtain ⟨fd__law_pick, F__law_pick⟩ := cd.def_ 2 (d := d__law_pick) rfl
  obtain ⟨fd_Chooser___len__, F_Chooser___len__⟩ := cd.def_ 3 (d := d_Chooser___len__) rfl
  obtain ⟨fd_same_offers, F_same_offers⟩ := cd.def_ 4 (d := d_same_offers) rfl
  obtain ⟨fd_is_whole, F_is_whole⟩ := cd.def_ 5 (d := d_is_whole) rfl
  obtain ⟨fd_is_set, F_is_set⟩ := cd.def_ 6 (d := d_is_set) rfl
  obtain ⟨fd_side_check_set, F_side_check_set⟩ := cd.def_ 7 (d := d_side_check_set) rfl
  obtain ⟨fd_side_check_standing, F_side_check_standing⟩ := cd.def_ 8 (d := d_side_check_standing) rfl
  obtain ⟨fd_together, F_together⟩ := cd.def_ 9 (d := d_together) rfl
  obtain ⟨fd_rounds_of, F_rounds_of⟩ := cd.def_ 10 (d := d_rounds_of) rfl
  obtain ⟨fd_best_settled, F_best_settled⟩ := cd.def_ 11 (d := d_best_settled) rfl
  obtain ⟨fd_all_sets, F_all_sets⟩ := cd.def_ 12 (d := d_all_sets) rfl
  obtain ⟨fd_chooser_is_part, F_chooser_is_part⟩ := cd.def_ 13 (d := d_chooser_is_part) rfl
  obtain ⟨fd_Chooser___init__, F_Chooser___init__⟩ := cd.def_ 14 (d := d_Chooser___init__) rfl
  obtain ⟨fd__law_taken, F__law_taken⟩ := cd.def_ 15 (d := d__law_taken) rfl
  obtain ⟨fd__law_sets, F__law_sets⟩ := cd.def_ 16 (d := d__law_sets) rfl
  obtain ⟨fd__law_chooser, F__law_chooser⟩ := cd.def_ 17 (d := d__law_chooser) rfl
  obtain ⟨fd__law_in_order, F__law_in_order⟩ := cd.def_ 18 (d := d__law_in_order) rfl
  obtain ⟨fd_renamed, F_renamed⟩ := cd.def_ 19 (d := d_renamed) rfl
  obtain ⟨fd__law_named, F__law_named⟩ := cd.def_ 20 (d := d__law_named) rfl
  obtain ⟨fd_subsets_of, F_subsets_of⟩ := cd.def_ 21 (d := d_subsets_of) rfl
  obtain ⟨fd_agreed_by, F_agreed_by⟩ := cd.def_ 22 (d := d_agreed_by) rfl
  obtain ⟨fd_side_set_with, F_side_set_with⟩ := cd.def_ 23 (d := d_side_set_with) rfl
  obtain ⟨fd_wished_beside, F_wished_beside⟩ := cd.def_ 24 (d := d_wished_beside) rfl
  obtain ⟨fd_side_settled, F_side_settled⟩ := cd.def_ 25 (d := d_side_settled) rfl
  obtain ⟨fd_settled_among, F_settled_among⟩ := cd.def_ 26 (d := d_settled_among) rfl
  obtain ⟨fd_settled_sets, F_settled_sets⟩ := cd.def_ 27 (d := d_settled_sets) rfl
  obtain ⟨fd_wished_by_both, F_wished_by_both⟩ := cd.def_ 28 (d := d_wished_by_both) rfl
  obtain ⟨fd_sure_offers, F_sure_offers⟩ := cd.def_ 29 (d := d_sure_offers) rfl
  obtain ⟨fd_vain_offers, F_vain_offers⟩ := cd.def_ 30 (d := d_vain_offers) rfl
  obtain ⟨fd__law_is_renamed, F__law_is_renamed⟩ := cd.def_ 31 (d := d__law_is_renamed) rfl
  obtain ⟨fd_side_is_part, F_side_is_part⟩ := cd.def_ 32 (d := d_side_is_part) rfl
  obtain ⟨fd_side_check_part, F_side_check_part⟩ := cd.def_ 33 (d := d_side_check_part) rfl
  obtain ⟨fd_is_settled, F_is_settled⟩ := cd.def_ 34 (d := d_is_settled) rfl
  obtain ⟨fd__law_parts_right, F__law_parts_right⟩ := cd.def_ 35 (d := d__law_parts_right) rfl
  obtain ⟨fd_made_rest, F_made_rest⟩ := cd.def_ 36 (d := d_made_rest) rfl
  obtain ⟨fd_leaving_out, F_leaving_out⟩ := cd.def_ 37 (d := d_leaving_out) rfl
  obtain ⟨fd__law_lists, F__law_lists⟩ := cd.def_ 38 (d := d__law_lists) rfl
  obtain ⟨fd_law, F_law⟩ := cd.def_ 39 (d := d_law) rfl
  have e0 := hfa.symm.trans (He.glo_ok X G (cd.fact 37 (f := .glo "law") rfl))
  cases e0
  refine ⟨fd_law, tf.map (He.cT K), spM ⟨law_.prog, w, K, clf K⟩ 1 m_law, fun p hp => ?_, fun p hp => ?_, fun p hp => ?_, fun s u => FunD.bindsA (ps := ["_law_script"]) F_law (fun _ _ _ _ _ _ us hl => match us, hl with | [_], _ => rfl) s [u] rfl, fun H a ns hl _ hT hS => law_sp LT hl (fun p hp => ?_) hS, fun base KX Gb TB => ?_⟩
  · obtain ⟨q, hq, rfl⟩ := List.mem_map.mp hp
    exact c.empty q hq
  · obtain ⟨q, hq, rfl⟩ := List.mem_map.mp hp
    exact c.out q hq
  · obtain ⟨q, hq, rfl⟩ := List.mem_map.mp hp
    exact PySem.W.codeHd_of_K X (c.hd q hq)
  · have hp2 : p ∈ (clf K).tabs := hp
    simp only [clf, List.mem_cons, List.not_mem_nil, or_false] at hp2
    rcases hp2 with rfl | rfl
    · exact hT (He.cT K ("_law_sets", none)) (List.mem_map.mpr ⟨_, by simp [tf], rfl⟩)
    · exact hT (He.cT K ("_law_in_order", none)) (List.mem_map.mpr ⟨_, by simp [tf], rfl⟩)
  have g_all := He.free_ok KX Gb (cd.fact 54 (f := .free "all") rfl)
  have g_any := He.free_ok KX Gb (cd.fact 55 (f := .free "any") rfl)
  have g_bool := He.free_ok KX Gb (cd.fact 43 (f := .free "bool") rfl)
  have g_enumerate := He.free_ok KX Gb (cd.fact 50 (f := .free "enumerate") rfl)
  have g_int := He.free_ok KX Gb (cd.fact 38 (f := .free "int") rfl)
  have g_isinstance := He.free_ok KX Gb (cd.fact 42 (f := .free "isinstance") rfl)
  have g_len := He.free_ok KX Gb (cd.fact 39 (f := .free "len") rfl)
  have g_list := He.free_ok KX Gb (cd.fact 56 (f := .free "list") rfl)
  have g_range := He.free_ok KX Gb (cd.fact 48 (f := .free "range") rfl)
  have g_set := He.free_ok KX Gb (cd.fact 46 (f := .free "set") rfl)
  have g_sorted := He.free_ok KX Gb (cd.fact 45 (f := .free "sorted") rfl)
  have g_tuple := He.free_ok KX Gb (cd.fact 44 (f := .free "tuple") rfl)
  have c_CHOOSER_MOST := He.int_ok KX Gb (cd.fact 49 (f := .int "CHOOSER_MOST" 6) rfl)
  have k_Chooser : mg ("Chooser" : Str) = some (.ref (He.ga K "Chooser")) ∧ clf K ("Chooser" : Str) = some (He.ga K "Chooser") := ⟨He.glo_ok KX Gb (cd.fact 57 (f := .glo "Chooser") rfl), by simp [clf]⟩
  have kc_Chooser : Cls K (He.ga K "Chooser") := He.cls_ok (cd.fact 58 (f := .cls "Chooser") rfl)
  have a_offers : AtOk K (clf K) [("Chooser" : Str)] ("offers" : Str) := by
    intro c hc C hC
    simp only [List.mem_cons, List.not_mem_nil, or_false] at hc
    subst hc
    · rw [k_Chooser.2] at hC
      cases hC
      exact ⟨kc_Chooser, He.noat_ok (cd.fact 51 (f := .noat "Chooser" "offers") rfl)⟩
  have a_picks : AtOk K (clf K) [("Chooser" : Str)] ("picks" : Str) := by
    intro c hc C hC
    simp only [List.mem_cons, List.not_mem_nil, or_false] at hc
    subst hc
    · rw [k_Chooser.2] at hC
      cases hC
      exact ⟨kc_Chooser, He.noat_ok (cd.fact 52 (f := .noat "Chooser" "picks") rfl)⟩
  have a_places : AtOk K (clf K) [("Chooser" : Str)] ("places" : Str) := by
    intro c hc C hC
    simp only [List.mem_cons, List.not_mem_nil, or_false] at hc
    subst hc
    · rw [k_Chooser.2] at hC
      cases hC
      exact ⟨kc_Chooser, He.noat_ok (cd.fact 40 (f := .noat "Chooser" "places") rfl)⟩
  have a_table : AtOk K (clf K) [("Chooser" : Str)] ("table" : Str) := by
    intro c hc C hC
    simp only [List.mem_cons, List.not_mem_nil, or_false] at hc
    subst hc
    · rw [k_Chooser.2] at hC
      cases hC
      exact ⟨kc_Chooser, He.noat_ok (cd.fact 47 (f := .noat "Chooser" "table") rfl)⟩
  have w__law_deck_ := w__law_deck (P := law_.prog) (w := w) (K := K) (mg := mg) (base := base) (cl := clf K) F__law_deck g_int
  have w__law_draw_ := w__law_draw (P := law_.prog) (w := w) (K := K) (mg := mg) (base := base) (cl := clf K) F__law_draw 
  have o__law_draw : Own law_.prog w K mg base (clf K) 1 ("_law_draw" : Str) 2 m__law_draw := ⟨_, _, _, w__law_draw_, He.glo_ok KX Gb (cd.fact 1 (f := .glo "_law_draw") rfl), F__law_draw.kp, F__law_draw.bindsN fun _ _ _ _ _ _ us hl => match us, hl with | [_, _], _ => rfl⟩
  have w__law_pick_ := w__law_pick (P := law_.prog) (w := w) (K := K) (mg := mg) (base := base) (cl := clf K) F__law_pick o__law_draw g_len
  have w_Chooser___len___ := w_Chooser___len__ (P := law_.prog) (w := w) (K := K) (mg := mg) (base := base) (cl := clf K) F_Chooser___len__ g_len a_places
  have l_Chooser : LnO law_.prog w K mg base (clf K) 1 ("Chooser" : Str) m_Chooser___len__ := ⟨fun C hC => by
    rw [k_Chooser.2] at hC
    cases hC
    have me := He.meth_ok (cd.fact 41 (f := .meth "Chooser" "__len__") rfl)
    exact ⟨_, _, _, w_Chooser___len___, kc_Chooser, me.at_, me.fn, F_Chooser___len__.bindsN fun _ _ _ _ _ _ us hl => match us, hl with | [_], _ => rfl⟩⟩
  have w_same_offers_ := w_same_offers (P := law_.prog) (w := w) (K := K) (mg := mg) (base := base) (cl := clf K) F_same_offers g_len l_Chooser
  have w_is_whole_ := w_is_whole (P := law_.prog) (w := w) (K := K) (mg := mg) (base := base) (cl := clf K) F_is_whole g_isinstance g_int g_bool
  have o_is_whole : Own law_.prog w K mg base (clf K) 1 ("is_whole" : Str) 1 m_is_whole := ⟨_, _, _, w_is_whole_, He.glo_ok KX Gb (cd.fact 4 (f := .glo "is_whole") rfl), F_is_whole.kp, F_is_whole.bindsN fun _ _ _ _ _ _ us hl => match us, hl with | [_], _ => rfl⟩
  have w_is_set_ := w_is_set (P := law_.prog) (w := w) (K := K) (mg := mg) (base := base) (cl := clf K) F_is_set g_isinstance g_tuple o_is_whole
  have o_is_set : Own law_.prog w K mg base (clf K) 2 ("is_set" : Str) 2 m_is_set := ⟨_, _, _, w_is_set_, He.glo_ok KX Gb (cd.fact 5 (f := .glo "is_set") rfl), F_is_set.kp, F_is_set.bindsN fun _ _ _ _ _ _ us hl => match us, hl with | [_, _], _ => rfl⟩
  have w_side_check_set_ := w_side_check_set (P := law_.prog) (w := w) (K := K) (mg := mg) (base := base) (cl := clf K) F_side_check_set o_is_set g_len l_Chooser
  have o_same_offers : Own law_.prog w K mg base (clf K) 3 ("same_offers" : Str) 1 m_same_offers := ⟨_, _, _, w_same_offers_, He.glo_ok KX Gb (cd.fact 3 (f := .glo "same_offers") rfl), F_same_offers.kp, F_same_offers.bindsN fun _ _ _ _ _ _ us hl => match us, hl with | [_], _ => rfl⟩
  have o_side_check_set : Own law_.prog w K mg base (clf K) 3 ("side_check_set" : Str) 2 m_side_check_set := ⟨_, _, _, w_side_check_set_, He.glo_ok KX Gb (cd.fact 6 (f := .glo "side_check_set") rfl), F_side_check_set.kp, F_side_check_set.bindsN fun _ _ _ _ _ _ us hl => match us, hl with | [_, _], _ => rfl⟩
  have w_side_check_standing_ := w_side_check_standing (P := law_.prog) (w := w) (K := K) (mg := mg) (base := base) (cl := clf K) F_side_check_standing o_same_offers o_side_check_set
  have w_together_ := w_together (P := law_.prog) (w := w) (K := K) (mg := mg) (base := base) (cl := clf K) F_together g_tuple g_sorted g_set
  have o_side_check_standing : Own law_.prog w K mg base (clf K) 4 ("side_check_standing" : Str) 3 m_side_check_standing := ⟨_, _, _, w_side_check_standing_, He.glo_ok KX Gb (cd.fact 7 (f := .glo "side_check_standing") rfl), F_side_check_standing.kp, F_side_check_standing.bindsN fun _ _ _ _ _ _ us hl => match us, hl with | [_, _, _], _ => rfl⟩
  have o_together : Own law_.prog w K mg base (clf K) 1 ("together" : Str) 2 m_together := ⟨_, _, _, w_together_, He.glo_ok KX Gb (cd.fact 8 (f := .glo "together") rfl), F_together.kp, F_together.bindsN fun _ _ _ _ _ _ us hl => match us, hl with | [_, _], _ => rfl⟩
  have w_rounds_of_ := w_rounds_of (P := law_.prog) (w := w) (K := K) (mg := mg) (base := base) (cl := clf K) F_rounds_of o_side_check_standing a_table g_tuple o_together
  have o_rounds_of : Own law_.prog w K mg base (clf K) 5 ("rounds_of" : Str) 3 m_rounds_of := ⟨_, _, _, w_rounds_of_, He.glo_ok KX Gb (cd.fact 9 (f := .glo "rounds_of") rfl), F_rounds_of.kp, F_rounds_of.bindsN fun _ _ _ _ _ _ us hl => match us, hl with | [_, _, _], _ => rfl⟩
  have w_best_settled_ := w_best_settled (P := law_.prog) (w := w) (K := K) (mg := mg) (base := base) (cl := clf K) F_best_settled o_rounds_of
  have w_all_sets_ := w_all_sets (P := law_.prog) (w := w) (K := K) (mg := mg) (base := base) (cl := clf K) F_all_sets g_range g_tuple
  have w_chooser_is_part_ := w_chooser_is_part (P := law_.prog) (w := w) (K := K) (mg := mg) (base := base) (cl := clf K) F_chooser_is_part 
  have o_all_sets : Own law_.prog w K mg base (clf K) 1 ("all_sets" : Str) 1 m_all_sets := ⟨_, _, _, w_all_sets_, He.glo_ok KX Gb (cd.fact 11 (f := .glo "all_sets") rfl), F_all_sets.kp, F_all_sets.bindsN fun _ _ _ _ _ _ us hl => match us, hl with | [_], _ => rfl⟩
  have o_chooser_is_part : Own law_.prog w K mg base (clf K) 1 ("chooser_is_part" : Str) 2 m_chooser_is_part := ⟨_, _, _, w_chooser_is_part_, He.glo_ok KX Gb (cd.fact 12 (f := .glo "chooser_is_part") rfl), F_chooser_is_part.kp, F_chooser_is_part.bindsN fun _ _ _ _ _ _ us hl => match us, hl with | [_, _], _ => rfl⟩
  have w_Chooser___init___ := w_Chooser___init__ (P := law_.prog) (w := w) (K := K) (mg := mg) (base := base) (cl := clf K) F_Chooser___init__ o_is_whole c_CHOOSER_MOST o_all_sets g_isinstance g_tuple g_len g_enumerate o_is_set o_chooser_is_part a_offers a_picks a_table g_range a_places
  have w__law_taken_ := w__law_taken (P := law_.prog) (w := w) (K := K) (mg := mg) (base := base) (cl := clf K) F__law_taken g_tuple g_sorted
  have cq__law_sets : ∃ c0, fd__law_sets.code = .ref c0 := by
    obtain ⟨oc, od, dV, kV, doc, pm, an, cdv, ct, osl, e1, lk, hcd, hD, hK⟩ := F__law_sets.ex
    obtain ⟨c0, e2⟩ := He.codeIn_ref hcd
    exact ⟨c0, by rw [e1]; exact e2⟩
  have cr__law_sets : fd__law_sets.code = .ref (He.cT K ("_law_sets", none)).1 := by
    obtain ⟨c0, e2⟩ := cq__law_sets
    obtain ⟨oc, od, dV, kV, doc, pm, an, cdv, ct, osl, e1, lk, hcd, hD, hK⟩ := F__law_sets.ex
    have e3 := He.codeOf_eq (p := ("_law_sets", none)) lk e2
    rw [e2]
    exact congrArg Value.ref e3.symm
  have w__law_sets_ := w__law_sets (P := law_.prog) (w := w) (K := K) (mg := mg) (base := base) (cl := clf K) F__law_sets g_range g_sorted g_len cr__law_sets (TB _ (List.mem_map.mpr ⟨("_law_sets", none), by simp [tf], rfl⟩)) (by simp [clf]) (by intro p hp e; have hp2 : p ∈ (clf K).tabs := hp; simp only [clf, List.mem_cons, List.not_mem_nil, or_false] at hp2; have hx0 : ex K = true := c.more; have hx : exT K = true := (Bool.and_eq_true _ _ ▸ hx0 : exI K = true ∧ exT K = true).2; simp only [exT, Bool.and_eq_true] at hx; have hL := hx.2; simp only [exL, Bool.not_eq_true', decide_eq_false_iff_not, Bool.and_eq_true] at hL; rcases hp2 with rfl | rfl; (exact rfl); (exact absurd e.symm hL))
  have k_mk_Chooser : Mkr law_.prog w K mg base (clf K) 3 ("Chooser" : Str) 2 m_Chooser___init__ := ⟨He.ga K "Chooser", _, _, _, k_Chooser.2, k_Chooser.1, He.mkr_ok (cd.fact 53 (f := .mkr "Chooser") rfl), w_Chooser___init___, F_Chooser___init__.bindsN fun _ _ _ _ _ _ us hl => match us, hl with | [_, _, _], _ => rfl⟩
  have o__law_sets : Own law_.prog w K mg base (clf K) 1 ("_law_sets" : Str) 1 m__law_sets := ⟨_, _, _, w__law_sets_, He.glo_ok KX Gb (cd.fact 14 (f := .glo "_law_sets") rfl), F__law_sets.kp, F__law_sets.bindsN fun _ _ _ _ _ _ us hl => match us, hl with | [_], _ => rfl⟩
  have o__law_taken : Own law_.prog w K mg base (clf K) 1 ("_law_taken" : Str) 2 m__law_taken := ⟨_, _, _, w__law_taken_, He.glo_ok KX Gb (cd.fact 13 (f := .glo "_law_taken") rfl), F__law_taken.kp, F__law_taken.bindsN fun _ _ _ _ _ _ us hl => match us, hl with | [_, _], _ => rfl⟩
  have w__law_chooser_ := w__law_chooser (P := law_.prog) (w := w) (K := K) (mg := mg) (base := base) (cl := clf K) F__law_chooser k_mk_Chooser g_tuple o__law_sets o__law_taken
  have cq__law_in_order : ∃ c0, fd__law_in_order.code = .ref c0 := by
    obtain ⟨oc, od, dV, kV, doc, pm, an, cdv, ct, osl, e1, lk, hcd, hD, hK⟩ := F__law_in_order.ex
    obtain ⟨c0, e2⟩ := He.codeIn_ref hcd
    exact ⟨c0, by rw [e1]; exact e2⟩
  have cr__law_in_order : fd__law_in_order.code = .ref (He.cT K ("_law_in_order", none)).1 := by
    obtain ⟨c0, e2⟩ := cq__law_in_order
    obtain ⟨oc, od, dV, kV, doc, pm, an, cdv, ct, osl, e1, lk, hcd, hD, hK⟩ := F__law_in_order.ex
    have e3 := He.codeOf_eq (p := ("_law_in_order", none)) lk e2
    rw [e2]
    exact congrArg Value.ref e3.symm
  have w__law_in_order_ := w__law_in_order (P := law_.prog) (w := w) (K := K) (mg := mg) (base := base) (cl := clf K) F__law_in_order g_tuple g_sorted g_len cr__law_in_order (TB _ (List.mem_map.mpr ⟨("_law_in_order", none), by simp [tf], rfl⟩)) (by simp [clf]) (by intro p hp e; have hp2 : p ∈ (clf K).tabs := hp; simp only [clf, List.mem_cons, List.not_mem_nil, or_false] at hp2; have hx0 : ex K = true := c.more; have hx : exT K = true := (Bool.and_eq_true _ _ ▸ hx0 : exI K = true ∧ exT K = true).2; simp only [exT, Bool.and_eq_true] at hx; have hL := hx.2; simp only [exL, Bool.not_eq_true', decide_eq_false_iff_not, Bool.and_eq_true] at hL; rcases hp2 with rfl | rfl; (exact absurd e hL); (exact rfl))
  have w_renamed_ := w_renamed (P := law_.prog) (w := w) (K := K) (mg := mg) (base := base) (cl := clf K) F_renamed o_all_sets g_len l_Chooser g_tuple g_range g_sorted a_table k_mk_Chooser
  have w__law_named_ := w__law_named (P := law_.prog) (w := w) (K := K) (mg := mg) (base := base) (cl := clf K) F__law_named g_tuple g_sorted
  have w_subsets_of_ := w_subsets_of (P := law_.prog) (w := w) (K := K) (mg := mg) (base := base) (cl := clf K) F_subsets_of o_all_sets g_len g_tuple
  have w_agreed_by_ := w_agreed_by (P := law_.prog) (w := w) (K := K) (mg := mg) (base := base) (cl := clf K) F_agreed_by a_table
  have w_side_set_with_ := w_side_set_with (P := law_.prog) (w := w) (K := K) (mg := mg) (base := base) (cl := clf K) F_side_set_with o_together
  have o_side_set_with : Own law_.prog w K mg base (clf K) 2 ("side_set_with" : Str) 2 m_side_set_with := ⟨_, _, _, w_side_set_with_, He.glo_ok KX Gb (cd.fact 21 (f := .glo "side_set_with") rfl), F_side_set_with.kp, F_side_set_with.bindsN fun _ _ _ _ _ _ us hl => match us, hl with | [_, _], _ => rfl⟩
  have w_wished_beside_ := w_wished_beside (P := law_.prog) (w := w) (K := K) (mg := mg) (base := base) (cl := clf K) F_wished_beside o_side_set_with a_table g_tuple
  have o_agreed_by : Own law_.prog w K mg base (clf K) 1 ("agreed_by" : Str) 3 m_agreed_by := ⟨_, _, _, w_agreed_by_, He.glo_ok KX Gb (cd.fact 20 (f := .glo "agreed_by") rfl), F_agreed_by.kp, F_agreed_by.bindsN fun _ _ _ _ _ _ us hl => match us, hl with | [_, _, _], _ => rfl⟩
  have o_wished_beside : Own law_.prog w K mg base (clf K) 3 ("wished_beside" : Str) 4 m_wished_beside := ⟨_, _, _, w_wished_beside_, He.glo_ok KX Gb (cd.fact 22 (f := .glo "wished_beside") rfl), F_wished_beside.kp, F_wished_beside.bindsN fun _ _ _ _ _ _ us hl => match us, hl with | [_, _, _, _], _ => rfl⟩
  have w_side_settled_ := w_side_settled (P := law_.prog) (w := w) (K := K) (mg := mg) (base := base) (cl := clf K) F_side_settled o_agreed_by o_wished_beside
  have o_subsets_of : Own law_.prog w K mg base (clf K) 2 ("subsets_of" : Str) 1 m_subsets_of := ⟨_, _, _, w_subsets_of_, He.glo_ok KX Gb (cd.fact 19 (f := .glo "subsets_of") rfl), F_subsets_of.kp, F_subsets_of.bindsN fun _ _ _ _ _ _ us hl => match us, hl with | [_], _ => rfl⟩
  have o_side_settled : Own law_.prog w K mg base (clf K) 4 ("side_settled" : Str) 4 m_side_settled := ⟨_, _, _, w_side_settled_, He.glo_ok KX Gb (cd.fact 23 (f := .glo "side_settled") rfl), F_side_settled.kp, F_side_settled.bindsN fun _ _ _ _ _ _ us hl => match us, hl with | [_, _, _, _], _ => rfl⟩
  have w_settled_among_ := w_settled_among (P := law_.prog) (w := w) (K := K) (mg := mg) (base := base) (cl := clf K) F_settled_among g_tuple o_subsets_of o_side_settled
  have o_settled_among : Own law_.prog w K mg base (clf K) 5 ("settled_among" : Str) 3 m_settled_among := ⟨_, _, _, w_settled_among_, He.glo_ok KX Gb (cd.fact 24 (f := .glo "settled_among") rfl), F_settled_among.kp, F_settled_among.bindsN fun _ _ _ _ _ _ us hl => match us, hl with | [_, _, _], _ => rfl⟩
  have w_settled_sets_ := w_settled_sets (P := law_.prog) (w := w) (K := K) (mg := mg) (base := base) (cl := clf K) F_settled_sets o_side_check_standing o_settled_among
  have w_wished_by_both_ := w_wished_by_both (P := law_.prog) (w := w) (K := K) (mg := mg) (base := base) (cl := clf K) F_wished_by_both o_side_check_standing o_wished_beside g_tuple g_range g_len l_Chooser
  have o_settled_sets : Own law_.prog w K mg base (clf K) 6 ("settled_sets" : Str) 3 m_settled_sets := ⟨_, _, _, w_settled_sets_, He.glo_ok KX Gb (cd.fact 25 (f := .glo "settled_sets") rfl), F_settled_sets.kp, F_settled_sets.bindsN fun _ _ _ _ _ _ us hl => match us, hl with | [_, _, _], _ => rfl⟩
  have w_sure_offers_ := w_sure_offers (P := law_.prog) (w := w) (K := K) (mg := mg) (base := base) (cl := clf K) F_sure_offers o_settled_sets g_tuple g_all
  have w_vain_offers_ := w_vain_offers (P := law_.prog) (w := w) (K := K) (mg := mg) (base := base) (cl := clf K) F_vain_offers o_settled_sets g_tuple g_any
  have o_renamed : Own law_.prog w K mg base (clf K) 5 ("renamed" : Str) 2 m_renamed := ⟨_, _, _, w_renamed_, He.glo_ok KX Gb (cd.fact 17 (f := .glo "renamed") rfl), F_renamed.kp, F_renamed.bindsN fun _ _ _ _ _ _ us hl => match us, hl with | [_, _], _ => rfl⟩
  have o__law_named : Own law_.prog w K mg base (clf K) 1 ("_law_named" : Str) 2 m__law_named := ⟨_, _, _, w__law_named_, He.glo_ok KX Gb (cd.fact 18 (f := .glo "_law_named") rfl), F__law_named.kp, F__law_named.bindsN fun _ _ _ _ _ _ us hl => match us, hl with | [_, _], _ => rfl⟩
  have o__law_in_order : Own law_.prog w K mg base (clf K) 1 ("_law_in_order" : Str) 1 m__law_in_order := ⟨_, _, _, w__law_in_order_, He.glo_ok KX Gb (cd.fact 16 (f := .glo "_law_in_order") rfl), F__law_in_order.kp, F__law_in_order.bindsN fun _ _ _ _ _ _ us hl => match us, hl with | [_], _ => rfl⟩
  have o_wished_by_both : Own law_.prog w K mg base (clf K) 5 ("wished_by_both" : Str) 3 m_wished_by_both := ⟨_, _, _, w_wished_by_both_, He.glo_ok KX Gb (cd.fact 26 (f := .glo "wished_by_both") rfl), F_wished_by_both.kp, F_wished_by_both.bindsN fun _ _ _ _ _ _ us hl => match us, hl with | [_, _, _], _ => rfl⟩
  have o_sure_offers : Own law_.prog w K mg base (clf K) 7 ("sure_offers" : Str) 3 m_sure_offers := ⟨_, _, _, w_sure_offers_, He.glo_ok KX Gb (cd.fact 27 (f := .glo "sure_offers") rfl), F_sure_offers.kp, F_sure_offers.bindsN fun _ _ _ _ _ _ us hl => match us, hl with | [_, _, _], _ => rfl⟩
  have o_vain_offers : Own law_.prog w K mg base (clf K) 7 ("vain_offers" : Str) 3 m_vain_offers := ⟨_, _, _, w_vain_offers_, He.glo_ok KX Gb (cd.fact 28 (f := .glo "vain_offers") rfl), F_vain_offers.kp, F_vain_offers.bindsN fun _ _ _ _ _ _ us hl => match us, hl with | [_, _, _], _ => rfl⟩
  have w__law_is_renamed_ := w__law_is_renamed (P := law_.prog) (w := w) (K := K) (mg := mg) (base := base) (cl := clf K) F__law_is_renamed o_renamed o__law_named o__law_in_order o_settled_sets o_wished_by_both o_rounds_of g_tuple o_sure_offers o_vain_offers
  have w_side_is_part_ := w_side_is_part (P := law_.prog) (w := w) (K := K) (mg := mg) (base := base) (cl := clf K) F_side_is_part g_all
  have o_side_is_part : Own law_.prog w K mg base (clf K) 1 ("side_is_part" : Str) 2 m_side_is_part := ⟨_, _, _, w_side_is_part_, He.glo_ok KX Gb (cd.fact 30 (f := .glo "side_is_part") rfl), F_side_is_part.kp, F_side_is_part.bindsN fun _ _ _ _ _ _ us hl => match us, hl with | [_, _], _ => rfl⟩
  have w_side_check_part_ := w_side_check_part (P := law_.prog) (w := w) (K := K) (mg := mg) (base := base) (cl := clf K) F_side_check_part o_side_check_standing o_is_set g_len l_Chooser o_side_is_part
  have o_side_check_part : Own law_.prog w K mg base (clf K) 5 ("side_check_part" : Str) 4 m_side_check_part := ⟨_, _, _, w_side_check_part_, He.glo_ok KX Gb (cd.fact 31 (f := .glo "side_check_part") rfl), F_side_check_part.kp, F_side_check_part.bindsN fun _ _ _ _ _ _ us hl => match us, hl with | [_, _, _, _], _ => rfl⟩
  have w_is_settled_ := w_is_settled (P := law_.prog) (w := w) (K := K) (mg := mg) (base := base) (cl := clf K) F_is_settled o_side_check_part o_side_settled
  have o__law_pick : Own law_.prog w K mg base (clf K) 2 ("_law_pick" : Str) 2 m__law_pick := ⟨_, _, _, w__law_pick_, He.glo_ok KX Gb (cd.fact 2 (f := .glo "_law_pick") rfl), F__law_pick.kp, F__law_pick.bindsN fun _ _ _ _ _ _ us hl => match us, hl with | [_, _], _ => rfl⟩
  have o_is_settled : Own law_.prog w K mg base (clf K) 6 ("is_settled" : Str) 4 m_is_settled := ⟨_, _, _, w_is_settled_, He.glo_ok KX Gb (cd.fact 32 (f := .glo "is_settled") rfl), F_is_settled.kp, F_is_settled.bindsN fun _ _ _ _ _ _ us hl => match us, hl with | [_, _, _, _], _ => rfl⟩
  have w__law_parts_right_ := w__law_parts_right (P := law_.prog) (w := w) (K := K) (mg := mg) (base := base) (cl := clf K) F__law_parts_right o__law_pick g_list o_settled_sets o_is_settled o_wished_by_both g_tuple
  have w_made_rest_ := w_made_rest (P := law_.prog) (w := w) (K := K) (mg := mg) (base := base) (cl := clf K) F_made_rest g_tuple
  have o_made_rest : Own law_.prog w K mg base (clf K) 1 ("made_rest" : Str) 2 m_made_rest := ⟨_, _, _, w_made_rest_, He.glo_ok KX Gb (cd.fact 34 (f := .glo "made_rest") rfl), F_made_rest.kp, F_made_rest.bindsN fun _ _ _ _ _ _ us hl => match us, hl with | [_, _], _ => rfl⟩
  have w_leaving_out_ := w_leaving_out (P := law_.prog) (w := w) (K := K) (mg := mg) (base := base) (cl := clf K) F_leaving_out o_is_set g_len l_Chooser o_all_sets a_table o_made_rest k_mk_Chooser g_tuple
  have w__law_lists_ := w__law_lists (P := law_.prog) (w := w) (K := K) (mg := mg) (base := base) (cl := clf K) F__law_lists g_range o__law_pick g_list o__law_draw g_len
  have o__law_deck : Own law_.prog w K mg base (clf K) 1 ("_law_deck" : Str) 1 m__law_deck := ⟨_, _, _, w__law_deck_, He.glo_ok KX Gb (cd.fact 0 (f := .glo "_law_deck") rfl), F__law_deck.kp, F__law_deck.bindsN fun _ _ _ _ _ _ us hl => match us, hl with | [_], _ => rfl⟩
  have o__law_chooser : Own law_.prog w K mg base (clf K) 5 ("_law_chooser" : Str) 2 m__law_chooser := ⟨_, _, _, w__law_chooser_, He.glo_ok KX Gb (cd.fact 15 (f := .glo "_law_chooser") rfl), F__law_chooser.kp, F__law_chooser.bindsN fun _ _ _ _ _ _ us hl => match us, hl with | [_, _], _ => rfl⟩
  have o__law_lists : Own law_.prog w K mg base (clf K) 3 ("_law_lists" : Str) 2 m__law_lists := ⟨_, _, _, w__law_lists_, He.glo_ok KX Gb (cd.fact 36 (f := .glo "_law_lists") rfl), F__law_lists.kp, F__law_lists.bindsN fun _ _ _ _ _ _ us hl => match us, hl with | [_, _], _ => rfl⟩
  have o__law_is_renamed : Own law_.prog w K mg base (clf K) 8 ("_law_is_renamed" : Str) 4 m__law_is_renamed := ⟨_, _, _, w__law_is_renamed_, He.glo_ok KX Gb (cd.fact 29 (f := .glo "_law_is_renamed") rfl), F__law_is_renamed.kp, F__law_is_renamed.bindsN fun _ _ _ _ _ _ us hl => match us, hl with | [_, _, _, _], _ => rfl⟩
  have o__law_parts_right : Own law_.prog w K mg base (clf K) 7 ("_law_parts_right" : Str) 5 m__law_parts_right := ⟨_, _, _, w__law_parts_right_, He.glo_ok KX Gb (cd.fact 33 (f := .glo "_law_parts_right") rfl), F__law_parts_right.kp, F__law_parts_right.bindsN fun _ _ _ _ _ _ us hl => match us, hl with | [_, _, _, _, _], _ => rfl⟩
  have o_leaving_out : Own law_.prog w K mg base (clf K) 5 ("leaving_out" : Str) 2 m_leaving_out := ⟨_, _, _, w_leaving_out_, He.glo_ok KX Gb (cd.fact 35 (f := .glo "leaving_out") rfl), F_leaving_out.kp, F_leaving_out.bindsN fun _ _ _ _ _ _ us hl => match us, hl with | [_, _], _ => rfl⟩
  have o_best_settled : Own law_.prog w K mg base (clf K) 6 ("best_settled" : Str) 3 m_best_settled := ⟨_, _, _, w_best_settled_, He.glo_ok KX Gb (cd.fact 10 (f := .glo "best_settled") rfl), F_best_settled.kp, F_best_settled.bindsN fun _ _ _ _ _ _ us hl => match us, hl with | [_, _, _], _ => rfl⟩
  have w_law_ := w_law (P := law_.prog) (w := w) (K := K) (mg := mg) (base := base) (cl := clf K) F_law o__law_deck o__law_draw o__law_chooser o__law_lists o__law_sets g_list g_range g_len o__law_pick o__law_is_renamed g_tuple o_settled_sets o_sure_offers o__law_parts_right o_leaving_out o_best_settled o_rounds_of o_vain_offers
  exact w_law_
end K41
namespace K41
open PySem PySem.Spec L2 TW
section
/-- the sets of n offers, in their order -/
def sets : Nat → List (List Int)
  | 1 => [[], [0]]
  | 2 => [[], [0], [1], [0, 1]]
  | 3 => [[], [0], [1], [2], [0, 1], [0, 2], [1, 2], [0, 1, 2]]
  | 4 => [[], [0], [1], [2], [3], [0, 1], [0, 2], [0, 3], [1, 2], [1, 3], [2, 3], [0, 1, 2], [0, 1, 3], [0, 2, 3], [1, 2, 3], [0, 1, 2, 3]]
  | 5 => [[], [0], [1], [2], [3], [4], [0, 1], [0, 2], [0, 3], [0, 4], [1, 2], [1, 3], [1, 4], [2, 3], [2, 4], [3, 4], [0, 1, 2], [0, 1, 3], [0, 1, 4], [0, 2, 3], [0, 2, 4], [0, 3, 4], [1, 2, 3], [1, 2, 4], [1, 3, 4], [2, 3, 4], [0, 1, 2, 3], [0, 1, 2, 4], [0, 1, 3, 4], [0, 2, 3, 4], [1, 2, 3, 4], [0, 1, 2, 3, 4]]
  | _ => []
def rng (n : Nat) : List Int := (List.range n).map Int.ofNat
def sub (s t : List Int) : Bool := s.all fun x => decide (x ∈ t)
def ns4 : List Nat := [1, 2, 3, 4, 5]
theorem f_all : (ns4.all fun n => isOk (m_all_sets [.int n] []) (tts (sets n))) = true := by decide +kernel
theorem f_isset : (ns4.all fun n => (sets n).all fun s => isOk (m_is_set [.int n, tp s] []) (.bl true)) = true := by decide +kernel
theorem f_part : (ns4.all fun n => (sets n).all fun s => (sets n).all fun t => isOk (m_chooser_is_part [tp s, tp t] []) (.bl (sub s t))) = true := by decide +kernel
theorem f_spart : (ns4.all fun n => (sets n).all fun s => (sets n).all fun t => isOk (m_side_is_part [tp s, tp t] []) (.bl (sub s t))) = true := by decide +kernel
theorem f_with : (ns4.all fun n => (sets n).all fun s => (rng n).all fun x => isOk (m_side_set_with [tp s, .int x] []) (tp (sortI (onceI (s ++ [x]))))) = true := by decide +kernel
theorem f_subsets : (ns4.all fun n => (sets n).all fun s => isOk (m_subsets_of [tp s] []) (lts ((sets n).filter fun t => sub t s))) = true := by decide +kernel
end
section
/-- as the law finds them -/
def un : Nat → List (List Int)
  | 0 => [[]]
  | n + 1 => un n ++ (un n).map fun s => s ++ [(n : Int)]
def pos : Nat → List Nat
  | 1 => [0, 1]
  | 2 => [0, 1, 2, 3]
  | 3 => [0, 1, 2, 4, 3, 5, 6, 7]
  | 4 => [0, 1, 2, 5, 3, 6, 8, 11, 4, 7, 9, 12, 10, 13, 14, 15]
  | 5 => [0, 1, 2, 6, 3, 7, 10, 16, 4, 8, 11, 17, 13, 19, 22, 26, 5, 9, 12, 18, 14, 20, 23, 27, 15, 21, 24, 28, 25, 29, 30, 31]
  | _ => []
def at_ (n i : Nat) : T := tp ((sets n).getD i [])
theorem f_pos : (ns4.all fun n => decide ((pos n).map (fun i => (sets n).getD i []) = un n ∧ (List.range (2 ^ n)).map (fun i => (sets n).getD i []) = sets n ∧ (pos n).Perm (List.range (2 ^ n)))) = true := by decide +kernel
theorem f_key : (ns4.all fun n => ((un n).map tp).all (keyOk []) && ((un n).map tp).all fun a => ((un n).map tp).all fun b => PySem.W.alike (keyD [] a) (keyD [] b)) = true := by decide +kernel
theorem f_le : (ns4.all fun n => (pos n).all fun i => (pos n).all fun j => decide (i ≤ j) == PySem.W.dataLe false (keyD []) (at_ n i) (at_ n j)) = true := by decide +kernel
theorem sort_pos (n : Nat) (hn : n ∈ ns4) : (pos n).mergeSort (fun i j => decide (i ≤ j)) = List.range (2 ^ n) := by
  have f := f_pos
  rw [List.all_eq_true] at f
  have q := (of_decide_eq_true (f n hn)).2.2
  have p1 : ((pos n).mergeSort (fun i j => decide (i ≤ j))).Perm (List.range (2 ^ n)) := (List.mergeSort_perm _ _).trans q
  have s1 : ((pos n).mergeSort (fun i j => decide (i ≤ j))).Pairwise (fun i j => decide (i ≤ j) = true) := List.pairwise_mergeSort (fun a b c h1 h2 => by simp at *; omega) (fun a b => by simp; omega) _
  have s2 : (List.range (2 ^ n)).Pairwise (fun i j => decide (i ≤ j) = true) := by
    refine (List.pairwise_lt_range (n := 2 ^ n)).imp ?_
    intro a b h
    simp
    omega
  exact List.Perm.eq_of_pairwise (fun a b _ _ h1 h2 => by simp at *; omega) s1 s2 p1
theorem sets_len : ∀ n ∈ ns4, (sets n).length ≤ 32 := by decide +kernel
theorem sort_sets (n : Nat) (hn : n ∈ ns4) : sortKF lstK (.lst ((un n).map tp)) [] = .ok (lts (sets n)) [] := by
  have f := f_pos
  rw [List.all_eq_true] at f
  obtain ⟨q1, q2, _⟩ := of_decide_eq_true (f n hn)
  have k := f_key
  rw [List.all_eq_true] at k
  have l := f_le
  rw [List.all_eq_true] at l
  have l := l n hn
  show (if (((un n).map tp).all (keyOk []) && ((un n).map tp).all fun a => ((un n).map tp).all fun b => PySem.W.alike (keyD [] a) (keyD [] b)) = true then lstK (((un n).map tp).mergeSort (PySem.W.dataLe false (keyD []))) [] else .bad) = _
  rw [if_pos (k n hn)]
  have e : ((un n).map tp).mergeSort (PySem.W.dataLe false (keyD [])) = (sets n).map tp := by
    have u : (un n).map tp = (pos n).map (at_ n) := by
      rw [← q1, List.map_map]
      rfl
    rw [u, ← List.map_mergeSort (r := fun i j => decide (i ≤ j)), sort_pos n hn]
    · conv => rhs; rw [← q2, List.map_map]
      rfl
    · intro a ha b hb
      have z := List.all_eq_true.mp (List.all_eq_true.mp l a ha) b hb
      exact beq_iff_eq.mp z
  rw [e]
  refine w_lstK ?_
  rw [List.length_map]
  exact Nat.le_trans (sets_len n hn) (by decide)
theorem low_lts (ss : List (List Int)) : low 0 (lts ss) = true := lows_tp ss
theorem x_law_sets (n : Nat) (hn : n ∈ ns4) (h : MH) : m__law_sets [.int n] h = .ok (lts (sets n)) h := by
  refine pur_ret rfl (x := lts (sets n)) (h' := []) ?_ (low_lts _)
  have S := sort_sets n hn
  have e : ∃ r, sSeq (sSet 1 (emL lstK (ac (emT an) an))) (sFor (itR1 (ac (vr 0) an)) (gmN 2) (sSet 1 (emOp (adT lstK) (vr 1) (lcM lstK (itE (vr 1)) (gmN 3) tYes (emOp (adT lstK) (vr 3) (emT (ac (vr 2) an))) [3])))) (startR 4 [.int n]) [] = .nx r [] ∧ vr 1 r [] = .ok (.lst ((un n).map tp)) [] := by
    simp only [ns4, List.mem_cons, List.not_mem_nil, or_false] at hn
    rcases hn with rfl | rfl | rfl | rfl | rfl <;> exact ⟨_, rfl, rfl⟩
  obtain ⟨r, e1, e2⟩ := e
  unfold b__law_sets
  generalize hA : sSet 1 (emL lstK (ac (emT an) an)) = A at e1 ⊢
  generalize hB : sFor (itR1 (ac (vr 0) an)) (gmN 2) (sSet 1 (emOp (adT lstK) (vr 1) (lcM lstK (itE (vr 1)) (gmN 3) tYes (emOp (adT lstK) (vr 3) (emT (ac (vr 2) an))) [3]))) = B at e1 ⊢
  rw [s_sSeq] at e1 ⊢
  cases qA : A (startR 4 [.int n]) [] with
  | nx r1 h1 =>
    rw [qA] at e1
    replace e1 : B r1 h1 = .nx r [] := e1
    show sSeq B (sRet (em1 (sortKF lstK) (vr 1))) r1 h1 = _
    rw [s_sSeq, e1]
    show lift ((vr 1 r []).bind (sortKF lstK)) r _ = _
    rw [e2]
    show lift (sortKF lstK (.lst ((un n).map tp)) []) r _ = _
    rw [S]
    rfl
  | _ => rw [qA] at e1; cases e1
end
section
def firsts (c : List (List Int)) (s : List Int) : List Int := c.filterMap fun row => (row.filter fun x => decide (x ∈ s)).head?
def addK (acc : List Int) (x : Int) : List Int := if x ∈ acc then acc else acc ++ [x]
def dkeys (acc fs : List Int) : List Int := fs.foldl addK acc
def taken (c : List (List Int)) (s : List Int) : List Int := sortI (dkeys [] (firsts c s))
theorem mem_addK {acc : List Int} {x k : Int} : k ∈ addK acc x ↔ k ∈ acc ∨ k = x := by
  unfold addK
  split
  · rename_i h
    constructor
    · exact .inl
    · rintro (h' | rfl)
      · exact h'
      · exact h
  · simp
theorem nd_addK {acc : List Int} {x : Int} (h : acc.Nodup) : (addK acc x).Nodup := by
  unfold addK
  split
  · exact h
  · rename_i hx
    rw [List.nodup_append]
    refine ⟨h, by simp, fun a ha b hb => ?_⟩
    simp only [List.mem_singleton] at hb
    rintro rfl
    exact hx (hb ▸ ha)
theorem mem_dkeys {k : Int} : ∀ {fs acc : List Int}, k ∈ dkeys acc fs ↔ k ∈ acc ∨ k ∈ fs
  | [], acc => by simp [dkeys]
  | f :: fs, acc => by
    show k ∈ dkeys (addK acc f) fs ↔ _
    rw [mem_dkeys, mem_addK, List.mem_cons, or_assoc]
theorem nd_dkeys : ∀ {fs acc : List Int}, acc.Nodup → (dkeys acc fs).Nodup
  | [], acc, h => h
  | f :: fs, acc, h => nd_dkeys (fs := fs) (nd_addK h)
theorem len_dkeys : ∀ {fs acc : List Int}, (dkeys acc fs).length ≤ acc.length + fs.length
  | [], acc => by simp [dkeys]
  | f :: fs, acc => by
    have h := len_dkeys (fs := fs) (acc := addK acc f)
    have : (addK acc f).length ≤ acc.length + 1 := by
      unfold addK
      split
      · exact Nat.le_succ _
      · simp
    show (dkeys (addK acc f) fs).length ≤ _
    rw [List.length_cons]
    omega
def kv (k : Int) : Key × T := (.inl k, .bl true)
theorem put_kv (acc : List Int) (x : Int) : putT (acc.map kv) (.inl x) (.bl true) = (addK acc x).map kv := by
  unfold putT addK
  by_cases h : x ∈ acc
  · rw [if_pos h, if_pos]
    · rw [List.map_map]
      refine congrFun (congrArg _ (funext fun y => ?_)) _
      show (if (kv y).1 = .inl x then ((kv y).1, .bl true) else kv y) = _
      split <;> rfl
    · rw [List.any_map, List.any_eq_true]
      exact ⟨x, h, decide_eq_true rfl⟩
  · rw [if_neg h, if_neg]
    · simp [kv]
    · rw [List.any_map, List.any_eq_true]
      rintro ⟨y, hy, e⟩
      have e := of_decide_eq_true e
      injection e with e
      exact h (e ▸ hy)
def Sz (c : List (List Int)) : Prop := c.length ≤ 1000 ∧ ∀ row ∈ c, row.length ≤ 1000
theorem firsts_cons (row : List Int) (c : List (List Int)) (s : List Int) : firsts (row :: c) s = match row.filter (fun x => decide (x ∈ s)) with
    | [] => firsts c s
    | x :: _ => x :: firsts c s := by
  unfold firsts
  rw [List.filterMap_cons]
  cases row.filter (fun x => decide (x ∈ s)) <;> rfl
theorem firsts_len (c : List (List Int)) (s : List Int) : (firsts c s).length ≤ c.length := List.length_filterMap_le _ _
def bTak : SM := (sSeq (sSet 4 (lcM lstK (itE (vr 3)) (gmN 5) (tmOf (emOp (inT false) (vr 5) (vr 1))) (vr 5) [5]))
 (sIf (tmOf (emOp neT (vr 4) (emL lstK an)))
 (sSub (vr 2) (emOp ixT (vr 4) (cst (.int 0))) (cst (.bl true)))
 sNx))
theorem bTak_run (s row acc : List Int) (l0 : T) (x4 x5 : Option T) (hrow : row.length ≤ 1000) (ha : acc.length ≤ 1000) : bTak [some l0, some (tp s), some (.loc 0), some (ls row), x4, x5] [.dK (acc.map kv)] = .nx [some l0, some (tp s), some (.loc 0), some (ls row), some (ls (row.filter fun x => decide (x ∈ s))), x5] [.dK ((dkeys acc (firsts [row] s)).map kv)] := by
  have e1 : lcM lstK (itE (vr 3)) (gmN 5) (tmOf (emOp (inT false) (vr 5) (vr 1))) (vr 5) [5] [some l0, some (tp s), some (.loc 0), some (ls row), x4, x5] [.dK (acc.map kv)] = .ok (ls (row.filter fun x => decide (x ∈ s))) [.dK (acc.map kv)] := by
    show (lcS none (row.map T.int) (gmN 5) _ _ [some l0, some (tp s), some (.loc 0), some (ls row), x4, none] (row.map T.int) _).bind lstK = _
    rw [lc_ints (fun x => decide (x ∈ s)) (show 5 < 6 from by decide)]
    · refine w_lstK ?_
      rw [List.length_map]
      exact Nat.le_trans (List.length_filter_le _ _) (Nat.le_trans hrow (by decide))
    · intro x hx
      show (inT false (.int x) (tp s) _).bind isBl = _
      rw [w_in_tp]
      rfl
  unfold bTak
  rw [s_sSeq, s_sSet, e1]
  have e2 : neT (ls (row.filter fun x => decide (x ∈ s))) (.lst []) [.dK (acc.map kv)] = .ok (.bl (!decide ((row.filter fun x => decide (x ∈ s)) = []))) [.dK (acc.map kv)] := ne_ls _ _ []
  rw [firsts_cons]
  cases hf : row.filter (fun x => decide (x ∈ s)) with
  | nil =>
    rw [hf] at e2
    show lift ((neT (ls []) (.lst []) _).bind isBl) _ _ = _
    rw [e2]
    rfl
  | cons z zs =>
    rw [hf, show (!decide (z :: zs = [])) = true from by simp] at e2
    show lift ((neT (ls (z :: zs)) (.lst []) _).bind isBl) _ _ = _
    rw [e2]
    have e5 : stT (.loc 0) (.int z) (.bl true) [.dK (acc.map kv)] = some [.dK ((addK acc z).map kv)] := by
      show (if (acc.map kv).length < sizeLine then some [MO.dK (putT (acc.map kv) (.inl z) (.bl true))] else none) = _
      rw [if_pos (by rw [List.length_map]; exact Nat.lt_of_le_of_lt ha (by decide)), put_kv]
    have e6 : ixT (ls (z :: zs)) (.int 0) [.dK (acc.map kv)] = .ok (.int z) [.dK (acc.map kv)] := w_ix_lst (n := 0) rfl
    show (lift (ixT (ls (z :: zs)) (.int 0) [.dK (acc.map kv)]) [some l0, some (tp s), some (.loc 0), some (ls row), some (ls (z :: zs)), x5] fun y h3 => match stT (.loc 0) y (.bl true) h3 with
      | some h4 => Fr.nx [some l0, some (tp s), some (.loc 0), some (ls row), some (ls (z :: zs)), x5] h4
      | none => .bad) = _
    rw [e6]
    show (match stT (.loc 0) (.int z) (.bl true) [.dK (acc.map kv)] with
      | some h4 => Fr.nx [some l0, some (tp s), some (.loc 0), some (ls row), some (ls (z :: zs)), x5] h4
      | none => .bad) = _
    rw [e5]
    rfl
theorem taken_loop (s : List Int) (l0 : T) (all : List T) : ∀ (c : List (List Int)) (acc : List Int) (x3 x4 x5 : Option T), acc.length + c.length ≤ 1000 → (∀ row ∈ c, row.length ≤ 1000) →
    ∃ y3 y4, forS none all (gmN 3) bTak (c.map ls) [some l0, some (tp s), some (.loc 0), x3, x4, x5] [.dK (acc.map kv)] = .nx [some l0, some (tp s), some (.loc 0), y3, y4, x5] [.dK ((dkeys acc (firsts c s)).map kv)]
  | [], acc, x3, x4, x5, _, _ => ⟨x3, x4, rfl⟩
  | row :: c, acc, x3, x4, x5, hl, hr => by
    have hrow := hr row List.mem_cons_self
    rw [List.length_cons] at hl
    have eb := bTak_run s row acc l0 x4 x5 hrow (by omega)
    have el : (dkeys acc (firsts [row] s)).length + c.length ≤ 1000 := by
      have := len_dkeys (fs := firsts [row] s) (acc := acc)
      have := firsts_len [row] s
      simp at this
      omega
    obtain ⟨y3, y4, ih⟩ := taken_loop s l0 all c (dkeys acc (firsts [row] s)) (some (ls row)) (some (ls (row.filter fun x => decide (x ∈ s)))) x5 el fun row h => hr row (List.mem_cons_of_mem _ h)
    refine ⟨y3, y4, ?_⟩
    rw [List.map_cons, s_forSn]
    show (match bTak [some l0, some (tp s), some (.loc 0), some (ls row), x4, x5] [.dK (acc.map kv)] with
      | .nx r' h' => forS none all (gmN 3) bTak (c.map ls) r' h'
      | .ct r' h' => forS none all (gmN 3) bTak (c.map ls) r' h'
      | .bk r' h' => .nx r' h'
      | o => o) = _
    rw [eb]
    show forS none all (gmN 3) bTak (c.map ls) _ _ = _
    rw [ih]
    congr 3
    rw [firsts_cons row c, firsts_cons row []]
    cases row.filter (fun x => decide (x ∈ s)) <;> rfl
theorem so_kv (acc : List Int) : soOf [.dK (acc.map kv)] (.loc 0) = some acc := by
  show mapO (fun q : Key × T => match q.1 with
          | .inl i => some i
          | .inr _ => none) (acc.map kv) = _
  induction acc with
  | nil => rfl
  | cons x acc ih =>
    simp only [List.map_cons, mapO, ih]
    rfl
theorem taken_len (c : List (List Int)) (s : List Int) : (taken c s).length ≤ c.length := by
  unfold taken
  rw [sortI_len]
  have := len_dkeys (fs := firsts c s) (acc := [])
  have := firsts_len c s
  simp at *
  omega
theorem low_lls (c : List (List Int)) : low 0 (lls c) = true := lows_ls c
theorem x_taken (c : List (List Int)) (s : List Int) (hc : Sz c) (h : MH) : m__law_taken [lls c, tp s] h = .ok (tp (taken c s)) h := by
  refine pur_ret ?_ (x := tp (taken c s)) (h' := [.dK ((dkeys [] (firsts c s)).map kv)]) ?_ (low_tp _)
  · simp only [lows, low_lls, low_tp, Bool.and_self]
  obtain ⟨y3, y4, e⟩ := taken_loop s (lls c) (c.map ls) c [] none none none (by simpa using hc.1) hc.2
  show (match forS none (c.map ls) (gmN 3) bTak (c.map ls) [some (lls c), some (tp s), some (.loc 0), none, none, none] [.dK ([].map kv)] with
    | .nx r' h' => sRet (emCall tupF (ac (emCall (sortF lstK) (ac (vr 2) an)) an)) r' h'
    | o => o) = _
  rw [e]
  show lift ((((match soOf [.dK ((dkeys [] (firsts c s)).map kv)] (.loc 0) with
    | some ns => lstK ((sortI ns).map T.int) [.dK ((dkeys [] (firsts c s)).map kv)]
    | none => .bad) : Res T).bind fun x h1 => .ok [x] h1).bind tupF) _ _ = _
  rw [so_kv]
  show lift (((lstK ((taken c s).map T.int) _ : Res T).bind fun x h1 => .ok [x] h1).bind tupF) _ _ = _
  rw [w_lstK (by rw [List.length_map]; exact Nat.le_trans (taken_len c s) (Nat.le_trans hc.1 (by decide)))]
  rfl
end
section
theorem fm_congr {α β : Type} {f g : α → Option β} : ∀ {l : List α}, (∀ x ∈ l, f x = g x) → l.filterMap f = l.filterMap g
  | [], _ => rfl
  | a :: l, h => by
    rw [List.filterMap_cons, List.filterMap_cons, h a List.mem_cons_self, fm_congr fun x hx => h x (List.mem_cons_of_mem _ hx)]
theorem taken_lt (c : List (List Int)) (s : List Int) : (taken c s).Pairwise (· < ·) := by
  have nd : (taken c s).Nodup := (sortI_perm _).nodup_iff.mpr (nd_dkeys (by simp))
  have le := sortI_le (dkeys [] (firsts c s))
  have := List.Pairwise.and le nd
  exact this.imp fun {a b} h => by
    have h1 : a ≤ b := h.1
    have h2 : a ≠ b := h.2
    omega
theorem mem_taken {c : List (List Int)} {s : List Int} {x : Int} : x ∈ taken c s ↔ ∃ row ∈ c, (row.filter fun y => decide (y ∈ s)).head? = some x := by
  unfold taken
  rw [mem_sortI, mem_dkeys]
  unfold firsts
  rw [List.mem_filterMap]
  simp
theorem taken_sub {c : List (List Int)} {s : List Int} {x : Int} (h : x ∈ taken c s) : x ∈ s := by
  obtain ⟨row, _, e⟩ := mem_taken.mp h
  have := List.mem_of_head? e
  rw [List.mem_filter] at this
  exact of_decide_eq_true this.2
/-- taken tells by the members alone -/
theorem taken_ext {c : List (List Int)} {s t : List Int} (h : ∀ x, x ∈ s ↔ x ∈ t) : taken c s = taken c t := by
  have : (fun y => decide (y ∈ s)) = fun y : Int => decide (y ∈ t) := funext fun y => decide_eq_decide.mpr (h y)
  unfold taken firsts
  rw [this]
theorem head_sub (row s t : List Int) (h : ∀ x ∈ s, x ∈ t) : (row.filter fun y => decide (y ∈ s)) = ((row.filter fun y => decide (y ∈ t)).filter fun y => decide (y ∈ s)) := by
  rw [List.filter_filter]
  refine List.filter_congr fun x _ => ?_
  by_cases hx : x ∈ s
  · simp [hx, h x hx]
  · simp [hx]
/-- what is taken of more, of less too -/
theorem taken_less {c : List (List Int)} {s t : List Int} {x : Int} (h : ∀ x ∈ s, x ∈ t) (hx : x ∈ s) (ht : x ∈ taken c t) : x ∈ taken c s := by
  obtain ⟨row, hr, e⟩ := mem_taken.mp ht
  refine mem_taken.mpr ⟨row, hr, ?_⟩
  rw [head_sub row s t h]
  cases q : row.filter fun y => decide (y ∈ t) with
  | nil => rw [q] at e; cases e
  | cons a l =>
    rw [q] at e
    cases e
    rw [List.filter_cons_of_pos (by simpa using hx)]
    rfl
/-- with all that is taken there, the same -/
theorem taken_same {c : List (List Int)} {s t : List Int} (h : ∀ x ∈ s, x ∈ t) (hs : ∀ x ∈ taken c t, x ∈ s) : taken c s = taken c t := by
  unfold taken
  congr 2
  unfold firsts
  refine fm_congr ?_
  intro row hr
  rw [head_sub row s t h]
  cases q : row.filter fun y => decide (y ∈ t) with
  | nil => rfl
  | cons a l =>
    have ha : a ∈ taken c t := mem_taken.mpr ⟨row, hr, by rw [q]; rfl⟩
    rw [List.filter_cons_of_pos (by simpa using hs a ha)]
    rfl
theorem lt_eq : ∀ {s t : List Int}, s.Pairwise (· < ·) → t.Pairwise (· < ·) → (∀ x, x ∈ s ↔ x ∈ t) → s = t := fun hs ht h =>
  (sorted_lt_eq hs h).trans (sorted_lt_eq ht fun k => Iff.rfl).symm
theorem f_filter (n : Nat) (hn : n ∈ ns4) (p : Int → Bool) : (rng n).filter p ∈ sets n := by
  simp only [ns4, List.mem_cons, List.not_mem_nil, or_false] at hn
  rcases hn with rfl | rfl | rfl | rfl | rfl
  · show ([0] : List Int).filter p ∈ sets 1
    simp only [List.filter]
    cases p 0 <;> decide
  · show ([0, 1] : List Int).filter p ∈ sets 2
    simp only [List.filter]
    cases p 0 <;> cases p 1 <;> decide
  · show ([0, 1, 2] : List Int).filter p ∈ sets 3
    simp only [List.filter]
    cases p 0 <;> cases p 1 <;> cases p 2 <;> decide
  · show ([0, 1, 2, 3] : List Int).filter p ∈ sets 4
    simp only [List.filter]
    cases p 0 <;> cases p 1 <;> cases p 2 <;> cases p 3 <;> decide
  · show ([0, 1, 2, 3, 4] : List Int).filter p ∈ sets 5
    simp only [List.filter]
    cases p 0 <;> cases p 1 <;> cases p 2 <;> cases p 3 <;> cases p 4 <;> decide
theorem rng_lt : ∀ n ∈ ns4, (rng n).Pairwise (· < ·) := by decide +kernel
theorem sets_lt : ∀ n ∈ ns4, ∀ s ∈ sets n, s.Pairwise (· < ·) := by decide +kernel
theorem sets_rng : ∀ n ∈ ns4, ∀ s ∈ sets n, ∀ x ∈ s, x ∈ rng n := by decide +kernel
theorem sets_nd : ∀ n ∈ ns4, (sets n).Nodup := by decide +kernel
/-- all rising rows below n are there -/
theorem sets_mem {n : Nat} (hn : n ∈ ns4) {s : List Int} (h : s.Pairwise (· < ·)) (hr : ∀ x ∈ s, x ∈ rng n) : s ∈ sets n := by
  have e : s = (rng n).filter fun x => decide (x ∈ s) := lt_eq h ((rng_lt n hn).filter _) fun x => by
    rw [List.mem_filter]
    constructor
    · exact fun hx => ⟨hr x hx, decide_eq_true hx⟩
    · exact fun hx => of_decide_eq_true hx.2
  rw [e]
  exact f_filter n hn _
theorem taken_mem {n : Nat} (hn : n ∈ ns4) (c : List (List Int)) {s : List Int} (hs : s ∈ sets n) : taken c s ∈ sets n := sets_mem hn (taken_lt c s) fun x hx => sets_rng n hn s hs x (taken_sub hx)
theorem sub_iff {s t : List Int} : sub s t = true ↔ ∀ x ∈ s, x ∈ t := by
  unfold sub
  rw [List.all_eq_true]
  simp
end
section
variable {n : Nat} {h : MH}
theorem all4 {q : Nat → Bool} (e : ns4.all q = true) (hn : n ∈ ns4) : q n = true := List.all_eq_true.mp e n hn
theorem x_all_sets (hn : n ∈ ns4) : m_all_sets [.int n] h = .ok (tts (sets n)) h := by
  have e : isOk (m_all_sets [.int n] []) (tts (sets n)) = true := List.all_eq_true.mp f_all n hn
  have e := isOk_eq e
  unfold m_all_sets at e ⊢
  exact pur_any e (by simp only [lows, low, Bool.and_self])
theorem x_is_set (hn : n ∈ ns4) {s : List Int} (hs : s ∈ sets n) : m_is_set [.int n, tp s] h = .ok (.bl true) h := pur_is (List.all_eq_true.mp (all4 f_isset hn) s hs) (by simp only [lows, low, low_tp, Bool.and_self])
theorem x_part (hn : n ∈ ns4) {s t : List Int} (hs : s ∈ sets n) (ht : t ∈ sets n) : m_chooser_is_part [tp s, tp t] h = .ok (.bl (sub s t)) h := pur_is (List.all_eq_true.mp (List.all_eq_true.mp (all4 f_part hn) s hs) t ht) (by simp only [lows, low, low_tp, Bool.and_self])
theorem x_spart (hn : n ∈ ns4) {s t : List Int} (hs : s ∈ sets n) (ht : t ∈ sets n) : m_side_is_part [tp s, tp t] h = .ok (.bl (sub s t)) h := pur_is (List.all_eq_true.mp (List.all_eq_true.mp (all4 f_spart hn) s hs) t ht) (by simp only [lows, low, low_tp, Bool.and_self])
theorem x_with (hn : n ∈ ns4) {s : List Int} {x : Int} (hs : s ∈ sets n) (hx : x ∈ rng n) : m_side_set_with [tp s, .int x] h = .ok (tp (sortI (onceI (s ++ [x])))) h := pur_is (List.all_eq_true.mp (List.all_eq_true.mp (all4 f_with hn) s hs) x hx) (by simp only [lows, low, low_tp, Bool.and_self])
theorem x_subsets (hn : n ∈ ns4) {s : List Int} (hs : s ∈ sets n) : m_subsets_of [tp s] h = .ok (lts ((sets n).filter fun t => sub t s)) h := pur_is (List.all_eq_true.mp (all4 f_subsets hn) s hs) (by simp only [lows, low, low_tp, Bool.and_self])
theorem x_is_whole (i : Int) : m_is_whole [.int i] h = .ok (.bl true) h := pur_any rfl rfl
/-- a chooser of n offers, f what it takes -/
def chO (n : Nat) (f : List Int → List Int) : T := .obj "Chooser" ["offers", "picks", "table", "places"] [.int n, tts ((sets n).map f), .dT ((sets n).map keyL) ((sets n).map fun s => tp (f s)), tp (rng n)]
theorem lows_tpf (f : List Int → List Int) : ∀ ss : List (List Int), lows 0 (ss.map fun s => tp (f s)) = true
  | [] => rfl
  | s :: ss => by
    simp only [List.map_cons, lows, low_tp, Bool.true_and]
    exact lows_tpf f ss
theorem low_tts (ss : List (List Int)) : low 0 (tts ss) = true := lows_tp ss
theorem low_chO (f : List Int → List Int) : low 0 (chO n f) = true := by
  show lows 0 [_, _, _, _] = true
  simp only [lows, low_tts, low_tp, Bool.and_true, Bool.true_and]
  exact lows_tpf f _
def kvf (f : List Int → List Int) (s : List Int) : List Key × T := (keyL s, tp (f s))
theorem put_kvf (f : List Int → List Int) (done : List (List Int)) (s : List Int) (hs : s ∉ done) : putT (done.map (kvf f)) (keyL s) (tp (f s)) = (done ++ [s]).map (kvf f) := by
  unfold putT
  rw [if_neg]
  · simp [kvf]
  · rw [List.any_map, List.any_eq_true]
    rintro ⟨y, hy, e⟩
    have e := of_decide_eq_true e
    exact hs (keyL_inj e ▸ hy)
def bIni : SM := (sSeq (sSet 7 (emOp ixT (vr 2) (vr 5)))
 (sSeq (sIf (tOrr (tNo (tmOf (emCall (arg 2 m_is_set) (ac (vr 1) (ac (vr 7) an))))) (tNo (tmOf (emCall (arg 2 m_chooser_is_part) (ac (vr 7) (ac (vr 6) an))))))
 sBad
 sNx)
 (sSub (vr 4) (vr 6) (vr 7))))
theorem bIni_run (hn : n ∈ ns4) (f : List Int → List Int) (hf : ∀ s ∈ sets n, f s ∈ sets n ∧ sub (f s) s = true) (done : List (List Int)) (s : List Int) (rest : List (List Int)) (hd : sets n = done ++ s :: rest) (x0 x3 x7 : Option T) :
    bIni [x0, some (.int n), some (tts ((sets n).map f)), x3, some (.loc 1), some (.int done.length), some (tp s), x7] [.ins "Chooser" [], .dT (done.map (kvf f))] = .nx [x0, some (.int n), some (tts ((sets n).map f)), x3, some (.loc 1), some (.int done.length), some (tp s), some (tp (f s))] [.ins "Chooser" [], .dT ((done ++ [s]).map (kvf f))] := by
  have hs : s ∈ sets n := by rw [hd]; simp
  have nd := sets_nd n hn
  rw [hd] at nd
  have hs' : s ∉ done := by
    intro hx
    rw [List.nodup_append] at nd
    exact nd.2.2 s hx s List.mem_cons_self rfl
  have e1 : ∀ h : MH, ixT (tts ((sets n).map f)) (.int done.length) h = .ok (tp (f s)) h := fun h => w_ix_tup (by
    rw [hd]
    simp)
  have hl : done.length < sizeLine := by
    have := sets_len n hn
    rw [hd] at this
    simp at this
    exact Nat.lt_of_le_of_lt (show done.length ≤ 32 by omega) (by decide)
  have e2 : ∀ h : MH, m_is_set [.int n, tp (f s)] h = .ok (.bl true) h := fun h => x_is_set hn (hf s hs).1
  have e3 : ∀ h : MH, m_chooser_is_part [tp (f s), tp s] h = .ok (.bl true) h := fun h => by rw [x_part hn (hf s hs).1 hs, (hf s hs).2]
  have e4 : stT (.loc 1) (tp s) (tp (f s)) [.ins "Chooser" [], .dT (done.map (kvf f))] = some [.ins "Chooser" [], .dT ((done ++ [s]).map (kvf f))] := by
    show (match kysOf (tp s) with
      | some k => if (done.map (kvf f)).length < sizeLine then some (([.ins "Chooser" [], .dT (done.map (kvf f))] : MH).set 1 (MO.dT (putT (done.map (kvf f)) k (tp (f s))))) else none
      | none => none) = _
    rw [kys_tp]
    show (if (done.map (kvf f)).length < sizeLine then some ([.ins "Chooser" [], MO.dT (putT (done.map (kvf f)) (keyL s) (tp (f s)))]) else none) = _
    rw [if_pos (by rw [List.length_map]; exact hl), put_kvf f done s hs']
  unfold bIni
  simp [e1, e2, e3, sSub, e4]
theorem ini_loop (hn : n ∈ ns4) (f : List Int → List Int) (hf : ∀ s ∈ sets n, f s ∈ sets n ∧ sub (f s) s = true) (x0 x3 : Option T) (all : List T) : ∀ (rest done : List (List Int)) (x5 x6 x7 : Option T), sets n = done ++ rest →
    ∃ y5 y6 y7, forS none all (gmT 2 (gmCons (gmN 5) (gmCons (gmN 6) gmNil))) bIni (enL done.length (rest.map tp)) [x0, some (.int n), some (tts ((sets n).map f)), x3, some (.loc 1), x5, x6, x7] [.ins "Chooser" [], .dT (done.map (kvf f))] =
      .nx [x0, some (.int n), some (tts ((sets n).map f)), x3, some (.loc 1), y5, y6, y7] [.ins "Chooser" [], .dT ((sets n).map (kvf f))]
  | [], done, x5, x6, x7, hd => ⟨x5, x6, x7, by rw [hd, List.append_nil]; rfl⟩
  | s :: rest, done, x5, x6, x7, hd => by
    obtain ⟨y5, y6, y7, ih⟩ := ini_loop hn f hf x0 x3 all rest (done ++ [s]) (some (.int done.length)) (some (tp s)) (some (tp (f s))) (by rw [hd]; simp)
    refine ⟨y5, y6, y7, ?_⟩
    have eb := bIni_run hn f hf done s rest hd x0 x3 x7
    show (match bIni [x0, some (.int n), some (tts ((sets n).map f)), x3, some (.loc 1), some (.int done.length), some (tp s), x7] [.ins "Chooser" [], .dT (done.map (kvf f))] with
      | .nx r' h' => forS none all (gmT 2 (gmCons (gmN 5) (gmCons (gmN 6) gmNil))) bIni (enL (done.length + 1) (rest.map tp)) r' h'
      | .ct r' h' => forS none all (gmT 2 (gmCons (gmN 5) (gmCons (gmN 6) gmNil))) bIni (enL (done.length + 1) (rest.map tp)) r' h'
      | .bk r' h' => .nx r' h'
      | o => o) = _
    rw [eb]
    rw [List.length_append] at ih
    exact ih
end
section
variable {n : Nat} {h : MH}
def iniA : SM := (sIf (tOrr (tNo (tmOf (emCall (arg 1 m_is_whole) (ac (vr 1) an)))) (tNo (tmOf (emCh leT leT (cst (.int 1)) (vr 1) (cst (.int 6))))))
 sBad
 sNx)
def iniB : SM := (sIf (tOrr (tNo (tmOf (emCall isiTF (ac (vr 2) (ac (cst (.ty "tuple")) an))))) (tmOf (emOp neT (emCall lenF (ac (vr 2) an)) (emCall lenF (ac (vr 3) an)))))
 sBad
 sNx)
def iniZ : SM := (sSeq (sAtt [("Chooser" : Str)] ("offers" : Str) (vr 0) (vr 1))
 (sSeq (sAtt [("Chooser" : Str)] ("picks" : Str) (vr 0) (vr 2))
 (sSeq (sAtt [("Chooser" : Str)] ("table" : Str) (vr 0) (vr 4))
 (sAtt [("Chooser" : Str)] ("places" : Str) (vr 0) (emRgT (rg1 (vr 1)))))))
theorem ini_eq : b_Chooser___init__ = sSeq iniA (sSeq (sSet 3 (emCall (arg 1 m_all_sets) (ac (vr 1) an))) (sSeq iniB (sSeq (sSet 4 dnT) (sSeq (sFor (itEn (ac (vr 3) an)) (gmT 2 (gmCons (gmN 5) (gmCons (gmN 6) gmNil))) bIni) iniZ)))) := rfl
theorem rg_rng (hn : n ∈ ns4) : emRgT (rg1 (cst (.int n))) [] h = .ok (tp (rng n)) h := by
  simp only [ns4, List.mem_cons, List.not_mem_nil, or_false] at hn
  rcases hn with rfl | rfl | rfl | rfl | rfl <;> rfl
theorem ini_A (hn : n ∈ ns4) (x0 : Option T) (l : Rho) (h : MH) : iniA (x0 :: some (.int n) :: l) h = .nx (x0 :: some (.int n) :: l) h := by
  have : (1 : Int) ≤ n ∧ (n : Int) ≤ 6 := by
    simp only [ns4, List.mem_cons, List.not_mem_nil, or_false] at hn
    omega
  unfold iniA
  simp [x_is_whole, this.1, this.2]
theorem isi_tup (xs : List T) : isiTF [.tup xs, .ty "tuple"] h = .ok (.bl true) h := rfl
theorem ini_B (f : List Int → List Int) (x0 x1 : Option T) (l : Rho) (h : MH) : iniB (x0 :: x1 :: some (tts ((sets n).map f)) :: some (tts (sets n)) :: l) h = .nx (x0 :: x1 :: some (tts ((sets n).map f)) :: some (tts (sets n)) :: l) h := by
  have e2 : lenF [tts ((sets n).map f)] h = .ok (.int (sets n).length) h := by
    rw [show tts ((sets n).map f) = .tup (((sets n).map f).map tp) from rfl, w_len_tup, List.length_map, List.length_map]
  have e3 : lenF [tts (sets n)] h = .ok (.int (sets n).length) h := by
    rw [show tts (sets n) = .tup ((sets n).map tp) from rfl, w_len_tup, List.length_map]
  unfold iniB
  simp [e2, e3, ne_int, show isiTF [tts ((sets n).map f), .ty "tuple"] h = .ok (.bl true) h from isi_tup _]
def fsO (n : Nat) (f : List Int → List Int) : List (Str × T) := [(("offers" : Str), .int n), (("picks" : Str), tts ((sets n).map f)), (("table" : Str), .loc 1), (("places" : Str), tp (rng n))]
theorem put_p1 (x y : T) : putA ("picks" : Str) y [(("offers" : Str), x)] = [(("offers" : Str), x), (("picks" : Str), y)] := by
  simp [putA, show ("offers" : Str) ≠ "picks" from by decide]
theorem put_p2 (x y z : T) : putA ("table" : Str) z [(("offers" : Str), x), (("picks" : Str), y)] = [(("offers" : Str), x), (("picks" : Str), y), (("table" : Str), z)] := by
  simp [putA, show ("offers" : Str) ≠ "table" from by decide, show ("picks" : Str) ≠ "table" from by decide]
theorem put_p3 (x y z w : T) : putA ("places" : Str) w [(("offers" : Str), x), (("picks" : Str), y), (("table" : Str), z)] = [(("offers" : Str), x), (("picks" : Str), y), (("table" : Str), z), (("places" : Str), w)] := by
  simp [putA, show ("offers" : Str) ≠ "places" from by decide, show ("picks" : Str) ≠ "places" from by decide, show ("table" : Str) ≠ "places" from by decide]
theorem at_1 {nm : Str} {v : EM} {z : T} {fs fs' : List (Str × T)} {l : Rho} {q : MO} (e1 : v (some (.loc 0) :: l) [.ins "Chooser" fs, q] = .ok z [.ins "Chooser" fs, q]) (e2 : fs.length < 1000) (e3 : putA nm z fs = fs') : sAtt [("Chooser" : Str)] nm (vr 0) v (some (.loc 0) :: l) [.ins "Chooser" fs, q] = .nx (some (.loc 0) :: l) [.ins "Chooser" fs', q] := by
  unfold sAtt
  rw [e1]
  show (if ("Chooser" : Str) ∈ [("Chooser" : Str)] ∧ fs.length < 1000 then Fr.nx (some (.loc 0) :: l) [.ins "Chooser" (putA nm z fs), q] else .bad) = _
  rw [if_pos ⟨List.mem_cons_self, e2⟩, e3]
theorem ini_Z (hn : n ∈ ns4) (f : List Int → List Int) (x3 y5 y6 y7 : Option T) (q : MO) : iniZ [some (.loc 0), some (.int n), some (tts ((sets n).map f)), x3, some (.loc 1), y5, y6, y7] [.ins "Chooser" [], q] = .nx [some (.loc 0), some (.int n), some (tts ((sets n).map f)), x3, some (.loc 1), y5, y6, y7] [.ins "Chooser" (fsO n f), q] := by
  have eR : ∀ (h : MH) (x0 : Option T) (l : Rho), emRgT (rg1 (vr 1)) (x0 :: some (.int n) :: l) h = .ok (tp (rng n)) h := fun h x0 l => rg_rng (h := h) hn
  unfold iniZ
  rw [s_sSeq, at_1 (v := vr 1) (z := .int n) (fs := []) (fs' := [(("offers" : Str), .int n)]) (s_vrS.trans s_vr0) (Nat.zero_lt_of_lt (Nat.lt_succ_self 999)) rfl]
  show sSeq _ _ _ _ = _
  rw [s_sSeq, at_1 (v := vr 2) (z := tts ((sets n).map f)) (fs := [(("offers" : Str), .int n)]) (s_vrS.trans (s_vrS.trans s_vr0)) (by simp) (put_p1 _ _)]
  show sSeq _ _ _ _ = _
  rw [s_sSeq, at_1 (v := vr 4) (z := .loc 1) (fs := [(("offers" : Str), .int n), (("picks" : Str), tts ((sets n).map f))]) (s_vrS.trans (s_vrS.trans (s_vrS.trans (s_vrS.trans s_vr0)))) (by simp) (put_p2 _ _ _)]
  show sAtt _ _ _ _ _ _ = _
  rw [at_1 (fs := [(("offers" : Str), .int n), (("picks" : Str), tts ((sets n).map f)), (("table" : Str), .loc 1)]) (eR _ _ _) (by simp) (put_p3 _ _ _ _)]
  rfl
def fin (n : Nat) (f : List Int → List Int) : MH := [.ins "Chooser" (fsO n f), .dT ((sets n).map (kvf f))]
theorem g_ini3 (F : FM) (hF : ∀ h : MH, F [.int n] h = .ok (tts (sets n)) h) (x0 x2 x3 : Option T) (l : Rho) : sSet 3 (emCall (arg 1 F) (ac (vr 1) an)) (x0 :: some (.int n) :: x2 :: x3 :: l) h = .nx (x0 :: some (.int n) :: x2 :: some (tts (sets n)) :: l) h := by
  simp [hF]
theorem ini_3 (hn : n ∈ ns4) (x0 x2 x3 : Option T) (l : Rho) : sSet 3 (emCall (arg 1 m_all_sets) (ac (vr 1) an)) (x0 :: some (.int n) :: x2 :: x3 :: l) h = .nx (x0 :: some (.int n) :: x2 :: some (tts (sets n)) :: l) h := g_ini3 m_all_sets (fun _ => x_all_sets hn) _ _ _ _
theorem w_itEn {f : EM} {r : Rho} {xs : List T} (e : f r h = .ok (.tup xs) h) : itEn (ac f an) r h = .ok (enL 0 xs, none) h := by
  unfold itEn
  rw [s_ac, e]
  rfl
theorem x_init (hn : n ∈ ns4) (f : List Int → List Int) (hf : ∀ s ∈ sets n, f s ∈ sets n ∧ sub (f s) s = true) : m_Chooser___init__ [.loc 0, .int n, tts ((sets n).map f)] [.ins "Chooser" []] = .ok .non (fin n f) := by
  obtain ⟨y5, y6, y7, eL⟩ := ini_loop hn f hf (some (.loc 0)) (some (tts (sets n))) (enL 0 ((sets n).map tp)) (sets n) [] none none none rfl
  simp only [List.length_nil, List.map_nil] at eL
  have e : sSeq iniA (sSeq (sSet 3 (emCall (arg 1 m_all_sets) (ac (vr 1) an))) (sSeq iniB (sSeq (sSet 4 dnT) (sSeq (sFor (itEn (ac (vr 3) an)) (gmT 2 (gmCons (gmN 5) (gmCons (gmN 6) gmNil))) bIni) iniZ)))) [some (.loc 0), some (.int n), some (tts ((sets n).map f)), none, none, none, none, none] [.ins "Chooser" []] = .nx [some (.loc 0), some (.int n), some (tts ((sets n).map f)), some (tts (sets n)), some (.loc 1), y5, y6, y7] (fin n f) := by
    rw [s_sSeq, ini_A hn]
    simp only []
    rw [s_sSeq, ini_3 hn]
    simp only []
    rw [s_sSeq, ini_B]
    simp only []
    rw [s_sSeq, show sSet 4 dnT [some (.loc 0), some (.int n), some (tts ((sets n).map f)), some (tts (sets n)), none, none, none, none] [.ins "Chooser" []] = .nx [some (.loc 0), some (.int n), some (tts ((sets n).map f)), some (tts (sets n)), some (.loc 1), none, none, none] [.ins "Chooser" [], .dT []] from rfl]
    simp only []
    rw [s_sSeq, s_sFor, show ∀ (x0 x1 x2 : Option T) (l : Rho) (h : MH), itEn (ac (vr 3) an) (x0 :: x1 :: x2 :: some (tts (sets n)) :: l) h = .ok (enL 0 ((sets n).map tp), none) h from fun _ _ _ _ _ => rfl, s_liftok, eL]
    simp only []
    rw [ini_Z hn]
    rfl
  unfold m_Chooser___init__ fnB
  rw [ini_eq, show startR 8 [.loc 0, .int n, tts ((sets n).map f)] = [some (.loc 0), some (.int n), some (tts ((sets n).map f)), none, none, none, none, none] from rfl, e]
theorem frWs_cons {g : Nat → Option T} {x y : T} {xs ys : List T} (e : frW g x = some y) (e2 : frWs g xs = some ys) : frWs g (x :: xs) = some (y :: ys) := by
  unfold frWs
  rw [e, e2]
theorem fin_frz (f : List Int → List Int) : frz (fin n f) 0 (.loc 0) = some (chO n f) := by
  have t : frL (fin n f) 0 4 1 = some (.dT ((sets n).map keyL) ((sets n).map fun s => tp (f s))) := by
    show (frWs (frL (fin n f) 0 3) (((sets n).map (kvf f)).map (·.2))).map (T.dT (((sets n).map (kvf f)).map (·.1))) = _
    rw [List.map_map, List.map_map, show (fun x : List Key × T => x.2) ∘ kvf f = fun s => tp (f s) from rfl, frWs_low _ _ (lows_tpf f _)]
    rfl
  show (frWs (frL (fin n f) 0 4) [.int n, tts ((sets n).map f), .loc 1, tp (rng n)]).map (T.obj "Chooser" ["offers", "picks", "table", "places"]) = _
  rw [frWs_cons (frW_low _ _ rfl) (frWs_cons (frW_low _ _ (low_tts _)) (frWs_cons (show frW (frL (fin n f) 0 4) (.loc 1) = _ from t) (frWs_cons (frW_low _ _ (low_tp _)) (show frWs _ [] = some [] from rfl))))]
  rfl
theorem w_mk (F : FM) (c : Str) (h' : MH) (z y : T) (hF : F [.loc 0, z, y] [.ins c []] = .ok .non h') {r : Rho} {g : AM} (hg : g r [] = .ok [z, y] []) : regE (emMk c 2 F g) r [] = endR [] (.ok (.loc 0) h') := by
  unfold regE emMk
  rw [hg]
  show endR [] ((F [.loc 0, z, y] [.ins c []]).bind _) = _
  rw [hF]
  rfl
theorem x_mk (hn : n ∈ ns4) (f : List Int → List Int) (hf : ∀ s ∈ sets n, f s ∈ sets n ∧ sub (f s) s = true) {r : Rho} {g : AM} (hg : g r [] = .ok [.int n, tts ((sets n).map f)] []) : regE (emMk ("Chooser" : Str) 2 m_Chooser___init__ g) r [] = .ok (chO n f) [] := by
  rw [w_mk m_Chooser___init__ _ _ _ _ (x_init hn f hf) hg]
  unfold endR
  show (match frz (fin n f) 0 (.loc 0) with
    | some y => if okH [] (fin n f) = true then Res.ok y ((fin n f).take 0) else .bad
    | none => .bad) = _
  rw [fin_frz]
  rfl
theorem taken_ok (hn : n ∈ ns4) (c : List (List Int)) : ∀ s ∈ sets n, taken c s ∈ sets n ∧ sub (taken c s) s = true := fun s hs => ⟨taken_mem hn c hs, sub_iff.mpr fun x hx => taken_sub hx⟩
/-- a comprehension over tuples that calls, tuples told -/
theorem lc_call {ss : List (List Int)} {xs' : List T} {k : Nat} {te : EM} {r0 : Rho} (G : List Int → List Int) (he : ∀ s ∈ ss, te (r0.set k (some (tp s))) h = .ok (tp (G s)) h) : lcS none xs' (gmN k) tYes te r0 (ss.map tp) h = .ok ((ss.map G).map tp) h := by
  have : ∃ F : T → T, ∀ s : List Int, F (tp s) = tp (G s) := ⟨fun x => match x with
    | .tup xs => (match mapO inOf xs with
      | some s => tp (G s)
      | none => .non)
    | _ => .non, fun s => by
      show (match mapO inOf (s.map T.int) with
        | some s => tp (G s)
        | none => .non) = _
      rw [mapO_inOf]⟩
  obtain ⟨F, hF⟩ := this
  rw [lc_pure (p := fun _ => true) (f := F)]
  · rw [List.filter_eq_self.mpr (fun _ _ => rfl), List.map_map, List.map_map]
    congr 1
    exact List.map_congr_left fun s _ => hF s
  · intro x _
    rfl
  · intro x hx _
    obtain ⟨s, hs, rfl⟩ := List.mem_map.mp hx
    rw [he s hs, hF]
theorem g_cho (F1 F2 : FM) (G : List Int → List Int) (l : T) (ss : List (List Int)) (hl : ss.length ≤ 32) (h1 : F1 [.int n] [] = .ok (lts ss) []) (h2 : ∀ s, F2 [l, tp s] [] = .ok (tp (G s)) []) :
    ac (vr 0) (ac (emCall tupF (ac (lcM lstK (itE (emCall (arg 1 F1) (ac (vr 0) an))) (gmN 2) tYes (emCall (arg 2 F2) (ac (vr 1) (ac (vr 2) an))) [2]) an)) an) [some (.int n), some l, none] [] = .ok [.int n, tts (ss.map G)] [] := by
  have e : lcM lstK (itE (emCall (arg 1 F1) (ac (vr 0) an))) (gmN 2) tYes (emCall (arg 2 F2) (ac (vr 1) (ac (vr 2) an))) [2] [some (.int n), some l, none] [] = .ok (lts (ss.map G)) [] := by
    rw [s_lcM, s_itE]
    have e1 : emCall (arg 1 F1) (ac (vr 0) an) [some (.int n), some l, none] [] = .ok (lts ss) [] := h1
    rw [e1, s_bindok, show itOf (lts ss) [] = .ok (ss.map tp, none) [] from rfl, s_bindok]
    show (lcS none (ss.map tp) (gmN 2) tYes _ [some (.int n), some l, none] (ss.map tp) []).bind lstK = _
    rw [lc_call G (fun s _ => h2 s), s_bindok, w_lstK]
    · rfl
    · rw [List.length_map, List.length_map]
      exact Nat.le_trans hl (by decide)
  rw [s_ac, s_vr0, s_bindok, s_ac, s_emCall, s_ac, e]
  rfl
theorem x_chooser (hn : n ∈ ns4) (c : List (List Int)) (hc : Sz c) : m__law_chooser [.int n, lls c] h = .ok (chO n (taken c)) h := by
  refine pur_ret ?_ (x := chO n (taken c)) (h' := []) ?_ (low_chO _)
  · simp only [lows, low, low_lls, Bool.and_self]
  unfold b__law_chooser
  rw [show startR 3 [.int n, lls c] = [some (.int n), some (lls c), none] from rfl, s_sRet, x_mk hn (taken c) (taken_ok hn c) (g_cho m__law_sets m__law_taken (taken c) (lls c) (sets n) (sets_len n hn) (x_law_sets n hn []) fun s => x_taken c s hc []), s_liftok]
end
section
variable {n : Nat} {h : MH} {f g : List Int → List Int}
/-- s with x -/
def ins (s : List Int) (x : Int) : List Int := sortI (onceI (s ++ [x]))
theorem f_ins : ∀ n ∈ ns4, ∀ s ∈ sets n, ∀ x ∈ rng n, ins s x ∈ sets n := by decide +kernel
theorem mem_ins {s : List Int} {x y : Int} : y ∈ ins s x ↔ y ∈ s ∨ y = x := by
  unfold ins
  rw [mem_sortI, mem_onceI]
  simp
theorem at_table : atT [("Chooser" : Str)] ("table" : Str) (chO n f) h = .ok (.dT ((sets n).map keyL) ((sets n).map fun s => tp (f s))) h := rfl
theorem at_places : atT [("Chooser" : Str)] ("places" : Str) (chO n f) h = .ok (tp (rng n)) h := rfl
theorem at_offers : atT [("Chooser" : Str)] ("offers" : Str) (chO n f) h = .ok (.int n) h := rfl
theorem at_picks : atT [("Chooser" : Str)] ("picks" : Str) (chO n f) h = .ok (tts ((sets n).map f)) h := rfl
theorem rng_len (n : Nat) : (rng n).length = n := by unfold rng; simp
theorem x_len : m_Chooser___len__ [chO n f] h = .ok (.int n) h := by
  refine pur_ret ?_ (x := .int n) (h' := []) ?_ rfl
  · simp only [lows, low_chO, Bool.and_self]
  rw [show startR 1 [chO n f] = [some (chO n f)] from rfl]
  unfold b_Chooser___len__
  simp [at_places, w_len_tp, rng_len]
theorem g_len1 (F : FM) (x : T) (i : Int) (c : Str) (fs : List (Str × T)) (hx : obOf h x = some (c, fs)) (hF : F [x] h = .ok (.int i) h) (hi : 0 ≤ i ∧ i < 2 ^ 63) : lenOF [(c, F)] [x] h = .ok (.int i) h := by
  unfold lenOF on1
  simp only [hx, TW.lk, if_true, hF, calm, s_bindok, -Int.reducePow]
  rw [if_pos hi]
theorem g_lenO (F : FM) (hn : n ∈ ns4) (hF : F [chO n f] h = .ok (.int n) h) : lenOF [(("Chooser" : Str), F)] [chO n f] h = .ok (.int n) h :=
  g_len1 F _ n _ _ rfl hF (by
    simp only [ns4, List.mem_cons, List.not_mem_nil, or_false] at hn
    omega)
theorem x_lenO (hn : n ∈ ns4) : lenOF [(("Chooser" : Str), m_Chooser___len__)] [chO n f] h = .ok (.int n) h := g_lenO _ hn x_len
theorem g_same (F : FM) (hf : ∀ h, F [chO n f] h = .ok (.int n) h) (hg : ∀ h, F [chO n g] h = .ok (.int n) h) : sFor (itE (vr 0)) (gmN 1) (sIf (tmOf (emOp neT (emCall F (ac (vr 1) an)) (emCall F (ac (emOp ixT (vr 0) (cst (.int 0))) an)))) sBad sNx) [some (.lst [chO n f, chO n g]), none] [] = .nx [some (.lst [chO n f, chO n g]), some (chO n g)] [] := by
  have e : ∀ h, ixT (.lst [chO n f, chO n g]) (.int 0) h = .ok (chO n f) h := fun h => w_ix_lst (n := 0) rfl
  simp [hf, hg, e, ne_int]
theorem pur_nx {n : Nat} {b : SM} {xs : List T} {r : Rho} {h h' : MH} (hl : lows 0 xs = true) (e : b (startR n xs) [] = .nx r h') : pur (reg (fnB n b)) xs h = .ok .non h := by
  rw [pur_nil _ _ _ hl]
  unfold reg fnB
  rw [e]
  rw [endR_nil rfl]
  rfl
theorem x_same (hn : n ∈ ns4) : m_same_offers [.lst [chO n f, chO n g]] h = .ok .non h :=
  pur_nx (by simp only [lows, low, low_chO, Bool.and_self]) (g_same (lenOF [(("Chooser" : Str), m_Chooser___len__)]) (fun _ => x_lenO hn) (fun _ => x_lenO hn))
theorem g_cset (F1 F2 : FM) (s : List Int) (h1 : ∀ h, F1 [chO n f] h = .ok (.int n) h) (h2 : ∀ h, F2 [.int n, tp s] h = .ok (.bl true) h) : sIf (tNo (tmOf (emCall (arg 2 F2) (ac (emCall F1 (ac (vr 0) an)) (ac (vr 1) an))))) sBad sNx [some (chO n f), some (tp s)] [] = .nx [some (chO n f), some (tp s)] [] := by
  simp [h1, h2]
theorem x_cset (hn : n ∈ ns4) {s : List Int} (hs : s ∈ sets n) : m_side_check_set [chO n f, tp s] h = .ok .non h :=
  pur_nx (by simp only [lows, low_tp, low_chO, Bool.and_self]) (g_cset _ m_is_set s (fun _ => x_lenO hn) (fun _ => x_is_set hn hs))
theorem g_cst (F1 F2 : FM) (s : List Int) (h1 : ∀ h, F1 [.lst [chO n f, chO n g]] h = .ok .non h) (h2 : ∀ h, F2 [chO n f, tp s] h = .ok .non h) : sSeq (sDrop (emCall (arg 1 F1) (ac (emL lstK (ac (vr 0) (ac (vr 1) an))) an)))
  (sDrop (emCall (arg 2 F2) (ac (vr 0) (ac (vr 2) an)))) [some (chO n f), some (chO n g), some (tp s)] [] = .nx [some (chO n f), some (chO n g), some (tp s)] [] := by
  have e : lstK [chO n f, chO n g] [] = .ok (.lst [chO n f, chO n g]) [] := w_lstK (show 2 ≤ sizeLine by decide)
  simp [h1, h2, e]
theorem x_cst (hn : n ∈ ns4) {s : List Int} (hs : s ∈ sets n) : m_side_check_standing [chO n f, chO n g, tp s] h = .ok .non h :=
  pur_nx (by simp only [lows, low_tp, low_chO, Bool.and_self]) (g_cst m_same_offers m_side_check_set s (fun _ => x_same hn) (fun _ => x_cset hn hs))
theorem g_cpart (F1 F2 F3 F4 : FM) (s t : List Int) (h1 : ∀ h, F1 [chO n f, chO n g, tp s] h = .ok .non h) (h2 : ∀ h, F2 [chO n f] h = .ok (.int n) h) (h3 : ∀ h, F3 [.int n, tp t] h = .ok (.bl true) h) (h4 : ∀ h, F4 [tp t, tp s] h = .ok (.bl true) h) :
    sSeq (sDrop (emCall (arg 3 F1) (ac (vr 0) (ac (vr 1) (ac (vr 2) an)))))
      (sIf (tOrr (tNo (tmOf (emCall (arg 2 F3) (ac (emCall F2 (ac (vr 0) an)) (ac (vr 3) an))))) (tNo (tmOf (emCall (arg 2 F4) (ac (vr 3) (ac (vr 2) an))))))
        sBad
        sNx) [some (chO n f), some (chO n g), some (tp s), some (tp t)] [] = .nx [some (chO n f), some (chO n g), some (tp s), some (tp t)] [] := by
  simp [h1, h2, h3, h4]
theorem x_cpart (hn : n ∈ ns4) {s t : List Int} (hs : s ∈ sets n) (ht : t ∈ sets n) (hts : sub t s = true) : m_side_check_part [chO n f, chO n g, tp s, tp t] h = .ok .non h :=
  pur_nx (by simp only [lows, low_tp, low_chO, Bool.and_self]) (g_cpart m_side_check_standing _ m_is_set m_side_is_part s t (fun _ => x_cst hn hs) (fun _ => x_lenO hn) (fun _ => x_is_set hn ht) (fun _ => by rw [x_spart hn ht hs, hts]))
def agr (f g : List Int → List Int) (s : List Int) : Bool := decide (f s = s) && decide (g s = s)
theorem x_agreed {s : List Int} (hs : s ∈ sets n) : m_agreed_by [chO n f, chO n g, tp s] h = .ok (.bl (agr f g s)) h := by
  refine pur_ret ?_ (x := .bl (agr f g s)) (h' := []) ?_ rfl
  · simp only [lows, low_tp, low_chO, Bool.and_self]
  rw [show startR 3 [chO n f, chO n g, tp s] = [some (chO n f), some (chO n g), some (tp s)] from rfl]
  unfold b_agreed_by
  have e1 : ∀ h, ixT (.dT ((sets n).map keyL) ((sets n).map fun s => tp (f s))) (tp s) h = .ok (tp (f s)) h := fun h => w_ix_dT (f := fun s => tp (f s)) hs
  have e2 : ∀ h, ixT (.dT ((sets n).map keyL) ((sets n).map fun s => tp (g s))) (tp s) h = .ok (tp (g s)) h := fun h => w_ix_dT (f := fun s => tp (g s)) hs
  unfold agr
  simp [at_table, e1, e2, eq_tp]
  by_cases q : f s = s <;> simp [q]
/-- wished beside s: of st -/
def wis (f g : List Int → List Int) (st s : List Int) : List Int := st.filter fun x => !decide (x ∈ s) && (decide (x ∈ f (ins s x)) && decide (x ∈ g (ins s x)))
def bWis (F : FM) : SM := (sIf (tmOf (emOp (inT true) (vr 5) (vr 3)))
 (sSeq (sSet 6 (emCall (arg 2 F) (ac (vr 3) (ac (vr 5) an))))
 (sIf (tAn (tmOf (emOp (inT false) (vr 5) (emOp ixT (em1 (atT [("Chooser" : Str)] ("table" : Str)) (vr 0)) (vr 6)))) (tmOf (emOp (inT false) (vr 5) (emOp ixT (em1 (atT [("Chooser" : Str)] ("table" : Str)) (vr 1)) (vr 6)))))
 (sDrop (emBm "list" apT (vr 4) (ac (vr 5) an)))
 sNx))
 sNx)
theorem w_app {acc : List T} {y : T} (hl : acc.length < sizeLine) : apT (.loc 0) [y] [.lst acc] = .ok .non [.lst (acc ++ [y])] := if_pos hl
theorem w_isl {acc : List T} : isTy "list" [.lst acc] (.loc 0) = true := rfl
theorem g_wis (F : FM) (s : List Int) (x : Int) (hF : ∀ h, F [tp s, .int x] h = .ok (tp (ins s x)) h) (hw : ins s x ∈ sets n) (acc : List T) (hl : acc.length < sizeLine) (x2 x6 : Option T) :
    ∃ y6, bWis F [some (chO n f), some (chO n g), x2, some (tp s), some (.loc 0), some (.int x), x6] [.lst acc] = .nx [some (chO n f), some (chO n g), x2, some (tp s), some (.loc 0), some (.int x), y6] [.lst (acc ++ ((([x] : List Int).filter fun x => !decide (x ∈ s) && (decide (x ∈ f (ins s x)) && decide (x ∈ g (ins s x))))).map .int)] := by
  have e1 : ∀ h, ixT (.dT ((sets n).map keyL) ((sets n).map fun s => tp (f s))) (tp (ins s x)) h = .ok (tp (f (ins s x))) h := fun h => w_ix_dT (f := fun s => tp (f s)) hw
  have e2 : ∀ h, ixT (.dT ((sets n).map keyL) ((sets n).map fun s => tp (g s))) (tp (ins s x)) h = .ok (tp (g (ins s x))) h := fun h => w_ix_dT (f := fun s => tp (g s)) hw
  unfold bWis
  by_cases h1 : x ∈ s
  · refine ⟨x6, ?_⟩
    simp [w_in_tp, h1]
  · refine ⟨some (tp (ins s x)), ?_⟩
    by_cases h2 : x ∈ f (ins s x)
    · by_cases h3 : x ∈ g (ins s x)
      · simp [w_in_tp, h1, hF, at_table, e1, e2, h2, h3, emBm, w_isl, w_app hl]
      · simp [w_in_tp, h1, hF, at_table, e1, e2, h2, h3]
    · simp [w_in_tp, h1, hF, at_table, e1, e2, h2]
theorem wis_loop (F : FM) (s : List Int) (x2 : Option T) (all : List T) : ∀ (st : List Int), (∀ x ∈ st, (∀ h, F [tp s, .int x] h = .ok (tp (ins s x)) h) ∧ ins s x ∈ sets n) → ∀ (acc : List T) (x5 x6 : Option T), acc.length + st.length ≤ 1000 →
    ∃ y5 y6, forS none all (gmN 5) (bWis F) (st.map .int) [some (chO n f), some (chO n g), x2, some (tp s), some (.loc 0), x5, x6] [.lst acc] = .nx [some (chO n f), some (chO n g), x2, some (tp s), some (.loc 0), y5, y6] [.lst (acc ++ (wis f g st s).map .int)]
  | [], _, acc, x5, x6, _ => ⟨x5, x6, by simp [wis]⟩
  | x :: st, hx, acc, x5, x6, hl => by
    rw [List.length_cons] at hl
    obtain ⟨z6, e⟩ := g_wis (f := f) (g := g) F s x (hx x List.mem_cons_self).1 (hx x List.mem_cons_self).2 acc (Nat.lt_of_le_of_lt (show acc.length ≤ 1000 by omega) (by decide)) x2 x6
    obtain ⟨y5, y6, ih⟩ := wis_loop F s x2 all st (fun y hy => hx y (List.mem_cons_of_mem _ hy)) (acc ++ ((([x] : List Int).filter fun x => !decide (x ∈ s) && (decide (x ∈ f (ins s x)) && decide (x ∈ g (ins s x))))).map .int) (some (.int x)) z6 (by
      have : (([x] : List Int).filter fun x => !decide (x ∈ s) && (decide (x ∈ f (ins s x)) && decide (x ∈ g (ins s x)))).length ≤ 1 := List.length_filter_le _ _
      simp only [List.length_append, List.length_map]
      omega)
    refine ⟨y5, y6, ?_⟩
    rw [List.map_cons, s_forSn]
    show (match bWis F [some (chO n f), some (chO n g), x2, some (tp s), some (.loc 0), some (.int x), x6] [.lst acc] with
      | .nx r' h' => forS none all (gmN 5) (bWis F) (st.map .int) r' h'
      | .ct r' h' => forS none all (gmN 5) (bWis F) (st.map .int) r' h'
      | .bk r' h' => .nx r' h'
      | o => o) = _
    rw [e]
    simp only []
    rw [ih]
    congr 3
    rw [List.append_assoc, ← List.map_append]
    congr 2
    unfold wis
    rw [← List.filter_append]
    rfl
end
section
variable {n : Nat} {h : MH} {f g : List Int → List Int}
theorem x_wis (hn : n ∈ ns4) {st s : List Int} (hst : st ∈ sets n) (hs : s ∈ sets n) : m_wished_beside [chO n f, chO n g, tp st, tp s] h = .ok (tp (wis f g st s)) h := by
  have hx : ∀ x ∈ st, (∀ h, m_side_set_with [tp s, .int x] h = .ok (tp (ins s x)) h) ∧ ins s x ∈ sets n := fun x hx => ⟨fun h => x_with hn hs (sets_rng n hn st hst x hx), f_ins n hn s hs x (sets_rng n hn st hst x hx)⟩
  have hl : st.length ≤ 1000 := by
    have : ∀ n ∈ ns4, ∀ s ∈ sets n, s.length ≤ 5 := by decide +kernel
    exact Nat.le_trans (this n hn st hst) (by decide)
  have hl2 : (wis f g st s).length ≤ sizeLine := Nat.le_trans (List.length_filter_le _ _) (Nat.le_trans hl (by decide))
  obtain ⟨y5, y6, e⟩ := wis_loop (f := f) (g := g) m_side_set_with s (some (tp st)) (st.map .int) st hx [] none none (by simpa using hl)
  refine pur_ret ?_ (x := tp (wis f g st s)) (h' := [.lst ((wis f g st s).map .int)]) ?_ (low_tp _)
  · simp only [lows, low_tp, low_chO, Bool.and_self]
  have key : ∀ F : FM, forS none (st.map .int) (gmN 5) (bWis F) (st.map .int) [some (chO n f), some (chO n g), some (tp st), some (tp s), some (.loc 0), none, none] [.lst []] = .nx [some (chO n f), some (chO n g), some (tp st), some (tp s), some (.loc 0), y5, y6] [.lst ((wis f g st s).map .int)] →
      sSeq (sSet 4 (emL lstL an)) (sSeq (sFor (itE (vr 2)) (gmN 5) (bWis F)) (sRet (emCall tupF (ac (vr 4) an)))) [some (chO n f), some (chO n g), some (tp st), some (tp s), none, none, none] [] = .ret (tp (wis f g st s)) [.lst ((wis f g st s).map .int)] := fun F e => by
    rw [s_sSeq, show sSet 4 (emL lstL an) [some (chO n f), some (chO n g), some (tp st), some (tp s), none, none, none] [] = .nx [some (chO n f), some (chO n g), some (tp st), some (tp s), some (.loc 0), none, none] [.lst []] from rfl]
    simp only []
    rw [s_sSeq, s_sFor, s_itE, show ∀ (x0 x1 : Option T) (l : Rho) (h : MH), ((vr 2 (x0 :: x1 :: some (tp st) :: l) h).bind itOf) = .ok (st.map .int, none) h from fun _ _ _ _ => rfl, s_liftok, e]
    rfl
  exact key m_side_set_with (by simpa using e)
def stl (f g : List Int → List Int) (st s : List Int) : Bool := agr f g s && decide (wis f g st s = [])
theorem g_stl (F1 F2 : FM) (x2 : T) (s w : List Int) (b : Bool) (h1 : ∀ h, F1 [chO n f, chO n g, tp s] h = .ok (.bl b) h) (h2 : ∀ h, F2 [chO n f, chO n g, x2, tp s] h = .ok (tp w) h) :
    sRet (eAn (emCall (arg 3 F1) (ac (vr 0) (ac (vr 1) (ac (vr 3) an)))) (emOp eqT (emCall (arg 4 F2) (ac (vr 0) (ac (vr 1) (ac (vr 2) (ac (vr 3) an))))) (emT an))) [some (chO n f), some (chO n g), some x2, some (tp s)] [] = .ret (.bl (b && decide (w = []))) [] := by
  have e0 : ∀ h, tupK [] h = .ok (tp []) h := fun h => rfl
  cases b <;> simp [h1, h2, e0, eq_tp]
theorem x_stl (hn : n ∈ ns4) {st s : List Int} (hst : st ∈ sets n) (hs : s ∈ sets n) : m_side_settled [chO n f, chO n g, tp st, tp s] h = .ok (.bl (stl f g st s)) h :=
  pur_ret (by simp only [lows, low_tp, low_chO, Bool.and_self]) (g_stl m_agreed_by m_wished_beside (tp st) s (wis f g st s) (agr f g s) (fun _ => x_agreed hs) (fun _ => x_wis hn hst hs)) rfl
theorem g_among (F1 F2 : FM) (st : List Int) (ss : List (List Int)) (p : List Int → Bool) (hl : ss.length ≤ 32) (h1 : ∀ h, F1 [tp st] h = .ok (lts ss) h) (h2 : ∀ s ∈ ss, ∀ h, F2 [chO n f, chO n g, tp st, tp s] h = .ok (.bl (p s)) h) :
    sRet (emCall tupF (ac (lcM lstK (itE (emCall (arg 1 F1) (ac (vr 2) an))) (gmN 3) (tmOf (emCall (arg 4 F2) (ac (vr 0) (ac (vr 1) (ac (vr 2) (ac (vr 3) an)))))) (vr 3) [3]) an)) [some (chO n f), some (chO n g), some (tp st), none] [] = .ret (tts (ss.filter p)) [] := by
  have e : lcM lstK (itE (emCall (arg 1 F1) (ac (vr 2) an))) (gmN 3) (tmOf (emCall (arg 4 F2) (ac (vr 0) (ac (vr 1) (ac (vr 2) (ac (vr 3) an)))))) (vr 3) [3] [some (chO n f), some (chO n g), some (tp st), none] [] = .ok (lts (ss.filter p)) [] := by
    rw [s_lcM, s_itE]
    have e1 : emCall (arg 1 F1) (ac (vr 2) an) [some (chO n f), some (chO n g), some (tp st), none] [] = .ok (lts ss) [] := h1 []
    rw [e1, s_bindok, show itOf (lts ss) [] = .ok (ss.map tp, none) [] from rfl, s_bindok]
    show (lcS none (ss.map tp) (gmN 3) _ _ [some (chO n f), some (chO n g), some (tp st), none] (ss.map tp) []).bind lstK = _
    rw [lc_tups p (show 3 < 4 from by decide), s_bindok, w_lstK]
    · rfl
    · rw [List.length_map]
      exact Nat.le_trans (List.length_filter_le _ _) (Nat.le_trans hl (by decide))
    · intro s hs
      show ((F2 [chO n f, chO n g, tp st, tp s] []).bind isBl) = _
      rw [h2 s hs]
      rfl
  rw [s_sRet, s_emCall, s_ac, e]
  rfl
theorem x_among (hn : n ∈ ns4) {st : List Int} (hst : st ∈ sets n) : m_settled_among [chO n f, chO n g, tp st] h = .ok (tts (((sets n).filter fun t => sub t st).filter (stl f g st))) h :=
  pur_ret (by simp only [lows, low_tp, low_chO, Bool.and_self]) (g_among m_subsets_of m_side_settled st _ (stl f g st) (Nat.le_trans (List.length_filter_le _ _) (sets_len n hn)) (fun _ => x_subsets hn hst) (fun s hs _ => x_stl hn hst (List.mem_filter.mp hs).1)) (low_tts _)
theorem g_two (F1 F2 : FM) (s : List Int) (x : T) (h1 : ∀ h, F1 [chO n f, chO n g, tp s] h = .ok .non h) (h2 : ∀ h, F2 [chO n f, chO n g, tp s] h = .ok x h) :
    sSeq (sDrop (emCall (arg 3 F1) (ac (vr 0) (ac (vr 1) (ac (vr 2) an))))) (sRet (emCall (arg 3 F2) (ac (vr 0) (ac (vr 1) (ac (vr 2) an))))) [some (chO n f), some (chO n g), some (tp s)] [] = .ret x [] := by
  simp [h1, h2]
theorem x_ssets (hn : n ∈ ns4) {st : List Int} (hst : st ∈ sets n) : m_settled_sets [chO n f, chO n g, tp st] h = .ok (tts (((sets n).filter fun t => sub t st).filter (stl f g st))) h :=
  pur_ret (by simp only [lows, low_tp, low_chO, Bool.and_self]) (g_two m_side_check_standing m_settled_among st _ (fun _ => x_cst hn hst) (fun _ => x_among hn hst)) (low_tts _)
theorem g_isst (F1 F2 : FM) (s t : List Int) (x : T) (h1 : ∀ h, F1 [chO n f, chO n g, tp s, tp t] h = .ok .non h) (h2 : ∀ h, F2 [chO n f, chO n g, tp s, tp t] h = .ok x h) :
    sSeq (sDrop (emCall (arg 4 F1) (ac (vr 0) (ac (vr 1) (ac (vr 2) (ac (vr 3) an)))))) (sRet (emCall (arg 4 F2) (ac (vr 0) (ac (vr 1) (ac (vr 2) (ac (vr 3) an)))))) [some (chO n f), some (chO n g), some (tp s), some (tp t)] [] = .ret x [] := by
  simp [h1, h2]
theorem x_isst (hn : n ∈ ns4) {s t : List Int} (hs : s ∈ sets n) (ht : t ∈ sets n) (hts : sub t s = true) : m_is_settled [chO n f, chO n g, tp s, tp t] h = .ok (.bl (stl f g s t)) h :=
  pur_ret (by simp only [lows, low_tp, low_chO, Bool.and_self]) (g_isst m_side_check_part m_side_settled s t _ (fun _ => x_cpart hn hs ht hts) (fun _ => x_stl hn hs ht)) rfl
theorem g_wbb (F1 F2 F3 : FM) (hn : n ∈ ns4) (s : List Int) (x : T) (h1 : ∀ h, F1 [chO n f, chO n g, tp s] h = .ok .non h) (h2 : ∀ h, F2 [chO n f, chO n g, tp (rng n), tp s] h = .ok x h) (h3 : ∀ h, F3 [chO n f] h = .ok (.int n) h) :
    sSeq (sDrop (emCall (arg 3 F1) (ac (vr 0) (ac (vr 1) (ac (vr 2) an))))) (sRet (emCall (arg 4 F2) (ac (vr 0) (ac (vr 1) (ac (emRgT (rg1 (emCall F3 (ac (vr 0) an)))) (ac (vr 2) an)))))) [some (chO n f), some (chO n g), some (tp s)] [] = .ret x [] := by
  have e : ∀ h, emRgT (rg1 (emCall F3 (ac (vr 0) an))) [some (chO n f), some (chO n g), some (tp s)] h = .ok (tp (rng n)) h := fun h => by
    have e1 : emCall F3 (ac (vr 0) an) [some (chO n f), some (chO n g), some (tp s)] h = .ok (.int n) h := h3 h
    have e2 := rg_rng (h := h) hn
    unfold emRgT rg1 at e2 ⊢
    rw [e1]
    exact e2
  simp [h1, h2, e]
theorem rng_mem (hn : n ∈ ns4) : rng n ∈ sets n := sets_mem hn (rng_lt n hn) fun x hx => hx
theorem x_wbb (hn : n ∈ ns4) {s : List Int} (hs : s ∈ sets n) : m_wished_by_both [chO n f, chO n g, tp s] h = .ok (tp (wis f g (rng n) s)) h :=
  pur_ret (by simp only [lows, low_tp, low_chO, Bool.and_self]) (g_wbb m_side_check_standing m_wished_beside _ hn s _ (fun _ => x_cst hn hs) (fun _ => x_wis hn (rng_mem hn) hs) (fun _ => x_lenO hn)) (low_tp _)
end
section
open PySem.W (Datum Tup)
variable {n : Nat} {h : MH} {f g : List Int → List Int}
theorem mapO_ls (k : Nat) : ∀ c : List (List Int), mapO (toD h (k + 1)) (c.map ls) = some (c.map Datum.toD)
  | [] => rfl
  | s :: c => by
    have e : toD h (k + 1) (ls s) = some (Datum.toD s) := by
      show (mapO (toD h k) (s.map T.int)).map PyData.list = _
      rw [mapO_int]
      rfl
    simp only [List.map_cons, mapO, e, mapO_ls k c]
theorem mapO_lls (k : Nat) : ∀ cs : List (List (List Int)), mapO (toD h (k + 2)) (cs.map lls) = some (cs.map Datum.toD)
  | [] => rfl
  | c :: cs => by
    have e : toD h (k + 2) (lls c) = some (Datum.toD c) := by
      show (mapO (toD h (k + 1)) (c.map ls)).map PyData.list = _
      rw [mapO_ls]
      rfl
    simp only [List.map_cons, mapO, e, mapO_lls k cs]
theorem toD_llls (cs : List (List (List Int))) : toD h deep (.lst (cs.map lls)) = some (Datum.toD cs) := by
  show (mapO (toD h 13) (cs.map lls)).map PyData.list = _
  rw [mapO_lls]
  rfl
theorem eq_llls (cs ds : List (List (List Int))) : eqT (.lst (cs.map lls)) (.lst (ds.map lls)) h = .ok (.bl (decide (cs = ds))) h := by
  unfold eqT
  rw [toD_llls, toD_llls]
  simp only [Datum.eqv]
theorem lc_two {xs' : List T} {k : Nat} {tt : TM} {r0 : Rho} {x y : T} {b1 b2 : Bool} (hk : k < r0.length) (h1 : tt (r0.set k (some x)) h = .ok b1 h) (h2 : tt (r0.set k (some y)) h = .ok b2 h) : lcS none xs' (gmN k) tt (vr k) r0 [x, y] h = .ok ((if b1 = true then [x] else []) ++ (if b2 = true then [y] else [])) h := by
  have v1 : vr k (r0.set k (some x)) h = .ok x h := s_vr (List.getElem?_set_self hk)
  have v2 : vr k (r0.set k (some y)) h = .ok y h := s_vr (List.getElem?_set_self hk)
  unfold lcS
  unfold lcS
  unfold lcS
  cases b1 <;> cases b2 <;> simp [h1, h2, v1, v2, calm]
/-- no side of the world is found by the test -/
theorem g_none {k : Nat} {tt : TM} {r : Rho} {c1 c2 : List (List Int)} {b1 b2 : Bool} (hk : k < r.length) (e0 : vr 0 r h = .ok (.tup [lls c1, lls c2]) h) (h1 : tt ((r.set k none).set k (some (lls c1))) h = .ok b1 h) (h2 : tt ((r.set k none).set k (some (lls c2))) h = .ok b2 h) :
    emOp eqT (lcM lstK (itE (vr 0)) (gmN k) tt (vr k) [k]) (emL lstK an) r h = .ok (.bl (!b1 && !b2)) h := by
  rw [s_emOp, s_lcM, s_itE, e0, s_bindok, s_itOf_tup, s_bindok]
  show ((lcS none [lls c1, lls c2] (gmN k) tt (vr k) (r.set k none) [lls c1, lls c2] h).bind lstK).bind _ = _
  rw [lc_two (by rw [List.length_set]; exact hk) h1 h2, s_bindok]
  have hl : ((if b1 = true then [lls c1] else []) ++ (if b2 = true then [lls c2] else [])).length ≤ sizeLine := by
    refine Nat.le_trans (m := 2) ?_ (by decide)
    cases b1 <;> cases b2 <;> simp
  rw [w_lstK hl, s_bindok, s_emL, s_an, s_bindok, show lstK [] h = .ok (.lst []) h from rfl, s_bindok]
  have e : ∀ cs : List (List (List Int)), eqT (.lst (cs.map lls)) (.lst []) h = .ok (.bl (decide (cs = []))) h := fun cs => eq_llls cs []
  have q : (if b1 = true then [lls c1] else []) ++ (if b2 = true then [lls c2] else []) = (((if b1 = true then [c1] else []) ++ (if b2 = true then [c2] else [])) : List (List (List Int))).map lls := by
    cases b1 <;> cases b2 <;> rfl
  rw [q, e]
  cases b1 <;> cases b2 <;> simp
abbrev wld (c1 c2 : List (List Int)) : T := .tup [lls c1, lls c2]
theorem low_wld (c1 c2 : List (List Int)) : low 0 (wld c1 c2) = true := by
  simp only [low, lows, low_lls, Bool.and_self]
theorem g_lagr (F : FM) (c1 c2 : List (List Int)) (s w1 w2 : List Int) (h1 : ∀ h, F [lls c1, tp s] h = .ok (tp w1) h) (h2 : ∀ h, F [lls c2, tp s] h = .ok (tp w2) h) :
    sRet (emOp eqT (lcM lstK (itE (vr 0)) (gmN 2) (tmOf (emOp neT (emCall (arg 2 F) (ac (vr 2) (ac (vr 1) an))) (vr 1))) (vr 2) [2]) (emL lstK an)) [some (wld c1 c2), some (tp s), none] [] = .ret (.bl (decide (w1 = s) && decide (w2 = s))) [] := by
  rw [s_sRet, g_none (c1 := c1) (c2 := c2) (b1 := !decide (w1 = s)) (b2 := !decide (w2 = s)) (show 2 < 3 from by decide) rfl]
  · simp
  · simp [h1, ne_tp]
  · simp [h2, ne_tp]
def bLw (F : FM) : SM := (sSeq (sSet 5 (emCall tupF (ac (emCall (sortF lstK) (ac (emOp (adT lstK) (vr 2) (emT (ac (vr 4) an))) an)) an)))
 (sIf (tAn (tmOf (emOp (inT true) (vr 4) (vr 2))) (tmOf (emOp eqT (lcM lstK (itE (vr 0)) (gmN 6) (tmOf (emOp (inT true) (vr 4) (emCall (arg 2 F) (ac (vr 6) (ac (vr 5) an))))) (vr 6) [6]) (emL lstK an))))
 (sDrop (emBm "list" apT (vr 3) (ac (vr 4) an)))
 sNx))
theorem g_lw (F : FM) (c1 c2 : List (List Int)) (s : List Int) (f g : List Int → List Int) (h1 : ∀ s h, F [lls c1, tp s] h = .ok (tp (f s)) h) (h2 : ∀ s h, F [lls c2, tp s] h = .ok (tp (g s)) h) (hsl : s.length ≤ 1000) (x : Int) (acc : List T) (hl : acc.length < sizeLine) (x1 x5 : Option T) :
    bLw F [some (wld c1 c2), x1, some (tp s), some (.loc 0), some (.int x), x5, none] [.lst acc] = .nx [some (wld c1 c2), x1, some (tp s), some (.loc 0), some (.int x), some (tp (sortI (s ++ [x]))), none] [.lst (acc ++ ((([x] : List Int).filter fun x => !decide (x ∈ s) && (decide (x ∈ f (sortI (s ++ [x]))) && decide (x ∈ g (sortI (s ++ [x])))))).map .int)] := by
  have hs2 : s.length + [x].length ≤ sizeLine := Nat.le_trans (show s.length + 1 ≤ 1001 by omega) (by decide)
  have hs3 : (s ++ [x]).length ≤ sizeLine := by rw [List.length_append]; exact hs2
  have e1 : ∀ h, tupK [.int x] h = .ok (tp [x]) h := fun h => rfl
  have e2 : ∀ h, adT lstK (tp s) (tp [x]) h = .ok (tp (s ++ [x])) h := fun h => w_ad_tp hs2
  have e3 : ∀ h, sortF lstK [tp (s ++ [x])] h = .ok (ls (sortI (s ++ [x]))) h := fun h => w_sort_tp hs3
  have e4 : ∀ (l : List Int) h, tupF [ls l] h = .ok (tp l) h := fun l h => rfl
  have eN := g_none (h := [.lst acc]) (k := 6) (tt := tmOf (emOp (inT true) (vr 4) (emCall (arg 2 F) (ac (vr 6) (ac (vr 5) an))))) (r := [some (wld c1 c2), x1, some (tp s), some (.loc 0), some (.int x), some (tp (sortI (s ++ [x]))), none]) (c1 := c1) (c2 := c2) (b1 := !decide (x ∈ f (sortI (s ++ [x])))) (b2 := !decide (x ∈ g (sortI (s ++ [x])))) (show 6 < 7 from by decide) rfl (by simp [h1, w_in_tp]) (by simp [h2, w_in_tp])
  unfold bLw
  rw [s_sSeq, show sSet 5 (emCall tupF (ac (emCall (sortF lstK) (ac (emOp (adT lstK) (vr 2) (emT (ac (vr 4) an))) an)) an)) [some (wld c1 c2), x1, some (tp s), some (.loc 0), some (.int x), x5, none] [.lst acc] = .nx [some (wld c1 c2), x1, some (tp s), some (.loc 0), some (.int x), some (tp (sortI (s ++ [x]))), none] [.lst acc] from by simp [e1, e2, e3, e4]]
  simp only []
  rw [s_sIf, s_tAn]
  have e5 : tmOf (emOp (inT true) (vr 4) (vr 2)) [some (wld c1 c2), x1, some (tp s), some (.loc 0), some (.int x), some (tp (sortI (s ++ [x]))), none] [.lst acc] = .ok (!decide (x ∈ s)) [.lst acc] := by simp [w_in_tp]
  rw [e5, s_bindok]
  by_cases q1 : x ∈ s
  · simp [q1]
  · rw [s_tmOf, eN]
    by_cases q2 : x ∈ f (sortI (s ++ [x]))
    · by_cases q3 : x ∈ g (sortI (s ++ [x]))
      · simp [q1, q2, q3, emBm, w_isl, w_app hl]
      · simp [q1, q2, q3]
    · simp [q1, q2]
theorem lw_loop (F : FM) (c1 c2 : List (List Int)) (s : List Int) (f g : List Int → List Int) (h1 : ∀ s h, F [lls c1, tp s] h = .ok (tp (f s)) h) (h2 : ∀ s h, F [lls c2, tp s] h = .ok (tp (g s)) h) (hsl : s.length ≤ 1000) (x1 : Option T) (all : List T) : ∀ (st : List Int) (acc : List T) (x4 x5 : Option T), acc.length + st.length ≤ 1000 →
    ∃ y4 y5, forS none all (gmN 4) (bLw F) (st.map .int) [some (wld c1 c2), x1, some (tp s), some (.loc 0), x4, x5, none] [.lst acc] = .nx [some (wld c1 c2), x1, some (tp s), some (.loc 0), y4, y5, none] [.lst (acc ++ ((st.filter fun x => !decide (x ∈ s) && (decide (x ∈ f (sortI (s ++ [x]))) && decide (x ∈ g (sortI (s ++ [x])))))).map .int)]
  | [], acc, x4, x5, _ => ⟨x4, x5, by simp⟩
  | x :: st, acc, x4, x5, hl => by
    rw [List.length_cons] at hl
    have e := g_lw F c1 c2 s f g h1 h2 hsl x acc (Nat.lt_of_le_of_lt (show acc.length ≤ 1000 by omega) (by decide)) x1 x5
    obtain ⟨y4, y5, ih⟩ := lw_loop F c1 c2 s f g h1 h2 hsl x1 all st (acc ++ ((([x] : List Int).filter fun x => !decide (x ∈ s) && (decide (x ∈ f (sortI (s ++ [x]))) && decide (x ∈ g (sortI (s ++ [x])))))).map .int) (some (.int x)) (some (tp (sortI (s ++ [x])))) (by
      have : (([x] : List Int).filter fun x => !decide (x ∈ s) && (decide (x ∈ f (sortI (s ++ [x]))) && decide (x ∈ g (sortI (s ++ [x]))))).length ≤ 1 := List.length_filter_le _ _
      simp only [List.length_append, List.length_map]
      omega)
    refine ⟨y4, y5, ?_⟩
    rw [List.map_cons, s_forSn]
    show (match bLw F [some (wld c1 c2), x1, some (tp s), some (.loc 0), some (.int x), x5, none] [.lst acc] with
      | .nx r' h' => forS none all (gmN 4) (bLw F) (st.map .int) r' h'
      | .ct r' h' => forS none all (gmN 4) (bLw F) (st.map .int) r' h'
      | .bk r' h' => .nx r' h'
      | o => o) = _
    rw [e]
    simp only []
    rw [ih]
    congr 3
    rw [List.append_assoc, ← List.map_append]
    congr 2
    rw [← List.filter_append]
    rfl
theorem wis_law {c1 c2 : List (List Int)} {s : List Int} (st : List Int) : (st.filter fun x => !decide (x ∈ s) && (decide (x ∈ taken c1 (sortI (s ++ [x]))) && decide (x ∈ taken c2 (sortI (s ++ [x]))))) = wis (taken c1) (taken c2) st s := by
  unfold wis
  refine List.filter_congr fun x _ => ?_
  have e : ∀ y, y ∈ sortI (s ++ [x]) ↔ y ∈ ins s x := fun y => by rw [mem_sortI, mem_ins]; simp
  rw [taken_ext e, taken_ext e]
theorem rg_one (hn : n ∈ ns4) {r : Rho} {f : EM} (e : f r h = .ok (.int n) h) : itR1 (ac f an) r h = .ok ((rng n).map .int, none) h := by
  unfold itR1
  rw [s_ac, e, s_bindok, s_an, s_bindok, s_bindok]
  simp only [ns4, List.mem_cons, List.not_mem_nil, or_false] at hn
  rcases hn with rfl | rfl | rfl | rfl | rfl <;> rfl
end
section
variable {n : Nat} {h : MH} {f g : List Int → List Int}
/-- a row filtered, against the empty row -/
theorem g_ints {k : Nat} {f0 : EM} {tt : TM} {r : Rho} {s : List Int} {p : Int → Bool} {x0 : T} (hk : k < r.length) (hl : s.length ≤ 1000) (e0 : f0 r h = .ok x0 h) (e1 : itOf x0 h = .ok (s.map .int, none) h) (ht : ∀ x ∈ s, tt ((r.set k none).set k (some (.int x))) h = .ok (p x) h) :
    emOp eqT (lcM lstK (itE f0) (gmN k) tt (vr k) [k]) (emL lstK an) r h = .ok (.bl (decide (s.filter p = []))) h := by
  rw [s_emOp, s_lcM, s_itE, e0, s_bindok, e1, s_bindok]
  show ((lcS none (s.map T.int) (gmN k) tt (vr k) (r.set k none) (s.map T.int) h).bind lstK).bind _ = _
  rw [lc_ints p (by rw [List.length_set]; exact hk) ht, s_bindok, w_lstK (by rw [List.length_map]; exact Nat.le_trans (List.length_filter_le _ _) (Nat.le_trans hl (by decide))), s_bindok, s_emL, s_an, s_bindok, show lstK [] h = .ok (.lst []) h from rfl, s_bindok]
  exact eq_ls h _ []
theorem set_len (hn : n ∈ ns4) {s : List Int} (hs : s ∈ sets n) : s.length ≤ 1000 := by
  have : ∀ n ∈ ns4, ∀ s ∈ sets n, s.length ≤ 5 := by decide +kernel
  exact Nat.le_trans (this n hn s hs) (by decide)
def bLs (F1 F2 : FM) : SM := (sIf (tAn (tmOf (emOp eqT (lcM lstK (itE (vr 4)) (gmN 5) (tmOf (emOp (inT true) (vr 5) (vr 2))) (vr 5) [5]) (emL lstK an))) (tmOf (emCall (arg 2 F1) (ac (vr 0) (ac (vr 4) an)))))
 (sIf (tmOf (emOp eqT (lcM lstK (itE (emCall (arg 3 F2) (ac (vr 0) (ac (vr 1) (ac (vr 4) an))))) (gmN 5) (tmOf (emOp (inT false) (vr 5) (vr 2))) (vr 5) [5]) (emL lstK an)))
 (sDrop (emBm "list" apT (vr 3) (ac (vr 4) an)))
 sNx)
 sNx)
theorem sub_nil {s t : List Int} : decide (s.filter (fun x => !decide (x ∈ t)) = []) = sub s t := by
  rw [Bool.eq_iff_iff, decide_eq_true_eq, sub_iff, List.filter_eq_nil_iff]
  simp
def lset (a : List Int → Bool) (w : List Int → List Int) (st s : List Int) : Bool := sub s st && (a s && decide ((w s).filter (fun x => decide (x ∈ st)) = []))
theorem g_ls (F1 F2 : FM) (W x1 : T) (st s : List Int) (a : List Int → Bool) (w : List Int → List Int) (h1 : ∀ h, F1 [W, tp s] h = .ok (.bl (a s)) h) (h2 : ∀ h, F2 [W, x1, tp s] h = .ok (tp (w s)) h) (hs : s.length ≤ 1000) (hw : (w s).length ≤ 1000) (acc : List (List Int)) (hl : acc.length < sizeLine) :
    bLs F1 F2 [some W, some x1, some (tp st), some (.loc 0), some (tp s), none] [.lst (acc.map tp)] = .nx [some W, some x1, some (tp st), some (.loc 0), some (tp s), none] [.lst ((acc ++ ([s] : List (List Int)).filter (lset a w st)).map tp)] := by
  have e1 := g_ints (h := [.lst (acc.map tp)]) (k := 5) (f0 := vr 4) (tt := tmOf (emOp (inT true) (vr 5) (vr 2))) (r := [some W, some x1, some (tp st), some (.loc 0), some (tp s), none]) (s := s) (p := fun x => !decide (x ∈ st)) (show 5 < 6 from by decide) hs rfl rfl (fun x _ => by simp [w_in_tp])
  have e2 := g_ints (h := [.lst (acc.map tp)]) (k := 5) (f0 := emCall (arg 3 F2) (ac (vr 0) (ac (vr 1) (ac (vr 4) an)))) (tt := tmOf (emOp (inT false) (vr 5) (vr 2))) (r := [some W, some x1, some (tp st), some (.loc 0), some (tp s), none]) (s := w s) (p := fun x => decide (x ∈ st)) (x0 := tp (w s)) (show 5 < 6 from by decide) hw (by simp [h2]) rfl (fun x _ => by simp [w_in_tp])
  have e3 : tmOf (emCall (arg 2 F1) (ac (vr 0) (ac (vr 4) an))) [some W, some x1, some (tp st), some (.loc 0), some (tp s), none] [.lst (acc.map tp)] = .ok (a s) [.lst (acc.map tp)] := by simp [h1]
  have hl' : (acc.map tp).length < sizeLine := by rw [List.length_map]; exact hl
  rw [sub_nil] at e1
  unfold bLs
  rw [s_sIf, s_tAn, s_tmOf, e1, s_bindok, s_isBl, s_bindok]
  by_cases q1 : sub s st = true
  · rw [if_pos q1, e3, s_liftok]
    by_cases q2 : a s = true
    · rw [if_pos q2, s_sIf, s_tmOf, e2, s_bindok, s_isBl, s_liftok]
      by_cases q3 : (w s).filter (fun x => decide (x ∈ st)) = []
      · have : lset a w st s = true := by unfold lset; simp [q1, q2, q3]
        simp [this, q3, emBm, w_isl, w_app hl']
      · have : lset a w st s = false := by unfold lset; simp [q1, q2, q3]
        rw [if_neg (by simpa using q3), List.filter_cons_of_neg (by simp [this])]
        simp
    · have : lset a w st s = false := by unfold lset; simp [q2]
      rw [if_neg q2, List.filter_cons_of_neg (by simp [this])]
      simp
  · have : lset a w st s = false := by unfold lset; simp [q1]
    rw [if_neg q1, s_liftok, if_neg (by simp), List.filter_cons_of_neg (by simp [this])]
    simp
theorem ls_loop (F1 F2 : FM) (W x1 : T) (st : List Int) (a : List Int → Bool) (w : List Int → List Int) (all : List T) : ∀ (ss : List (List Int)), (∀ s ∈ ss, (∀ h, F1 [W, tp s] h = .ok (.bl (a s)) h) ∧ (∀ h, F2 [W, x1, tp s] h = .ok (tp (w s)) h) ∧ s.length ≤ 1000 ∧ (w s).length ≤ 1000) → ∀ (acc : List (List Int)) (x4 : Option T), acc.length + ss.length ≤ 1000 →
    ∃ y4, forS none all (gmN 4) (bLs F1 F2) (ss.map tp) [some W, some x1, some (tp st), some (.loc 0), x4, none] [.lst (acc.map tp)] = .nx [some W, some x1, some (tp st), some (.loc 0), y4, none] [.lst ((acc ++ ss.filter (lset a w st)).map tp)]
  | [], _, acc, x4, _ => ⟨x4, by simp⟩
  | s :: ss, hx, acc, x4, hl => by
    rw [List.length_cons] at hl
    obtain ⟨q1, q2, q3, q4⟩ := hx s List.mem_cons_self
    have e := g_ls F1 F2 W x1 st s a w q1 q2 q3 q4 acc (Nat.lt_of_le_of_lt (show acc.length ≤ 1000 by omega) (by decide))
    obtain ⟨y4, ih⟩ := ls_loop F1 F2 W x1 st a w all ss (fun y hy => hx y (List.mem_cons_of_mem _ hy)) (acc ++ ([s] : List (List Int)).filter (lset a w st)) (some (tp s)) (by
      have : (([s] : List (List Int)).filter (lset a w st)).length ≤ 1 := List.length_filter_le _ _
      simp only [List.length_append]
      omega)
    refine ⟨y4, ?_⟩
    rw [List.map_cons, s_forSn]
    show (match bLs F1 F2 [some W, some x1, some (tp st), some (.loc 0), some (tp s), none] [.lst (acc.map tp)] with
      | .nx r' h' => forS none all (gmN 4) (bLs F1 F2) (ss.map tp) r' h'
      | .ct r' h' => forS none all (gmN 4) (bLs F1 F2) (ss.map tp) r' h'
      | .bk r' h' => .nx r' h'
      | o => o) = _
    rw [e]
    simp only []
    rw [ih, List.append_assoc, ← List.filter_append]
    rfl
theorem wis_len (st s : List Int) : (wis f g st s).length ≤ st.length := List.length_filter_le _ _
theorem lset_stl (hn : n ∈ ns4) {c1 c2 : List (List Int)} {st : List Int} (hst : st ∈ sets n) (ss : List (List Int)) : ss.filter (lset (agr (taken c1) (taken c2)) (wis (taken c1) (taken c2) (rng n)) st) = (ss.filter fun t => sub t st).filter (stl (taken c1) (taken c2) st) := by
  rw [List.filter_filter]
  refine List.filter_congr fun s _ => ?_
  unfold lset stl
  have : decide ((wis (taken c1) (taken c2) (rng n) s).filter (fun x => decide (x ∈ st)) = []) = decide (wis (taken c1) (taken c2) st s = []) := by
    rw [decide_eq_decide]
    unfold wis
    rw [List.filter_filter, List.filter_eq_nil_iff, List.filter_eq_nil_iff]
    constructor
    · intro q x hx z
      have := q x (sets_rng n hn st hst x hx)
      simp only [hx, decide_true, Bool.true_and] at this
      exact this z
    · intro q x hx z
      simp only [Bool.and_eq_true, decide_eq_true_eq] at z
      refine q x z.1 ?_
      simp only [Bool.and_eq_true, decide_eq_true_eq]
      exact z.2
  rw [this]
  cases sub s st <;> cases agr (taken c1) (taken c2) s <;> simp
end
section
variable {n : Nat} {h : MH}
theorem settled_at (hn : n ∈ ns4) (c1 c2 : List (List Int)) {st : List Int} (hst : st ∈ sets n) : ∀ (k : Nat) (A : List Int), A.length ≤ k → (∀ x ∈ A, x ∈ st) → (∀ x ∈ st, x ∉ A → x ∉ taken c2 (taken c1 A ++ [x])) → ∃ s ∈ sets n, sub s st = true ∧ stl (taken c1) (taken c2) st s = true := by
  intro k
  induction k with
  | zero =>
    intro A hA h1 h2
    have hA : A = [] := List.eq_nil_of_length_eq_zero (Nat.le_zero.mp hA)
    subst hA
    have e0 : ∀ c, taken c [] = [] := fun c => List.eq_nil_iff_forall_not_mem.mpr fun x hx => by simpa using taken_sub hx
    refine ⟨[], sets_mem hn .nil (by simp), rfl, ?_⟩
    have hw : wis (taken c1) (taken c2) st [] = [] := by
      unfold wis
      rw [List.filter_eq_nil_iff]
      intro x hx z
      simp only [Bool.and_eq_true, decide_eq_true_eq] at z
      have := h2 x hx (by simp)
      rw [e0, taken_ext (t := ins [] x) (fun y => by rw [mem_ins]; simp)] at this
      exact this z.2.2
    unfold stl agr
    rw [e0, e0, hw]
    rfl
  | succ k ih =>
    intro A hA h1 h2
    have SA : ∀ x ∈ taken c1 A, x ∈ A := fun x hx => taken_sub hx
    by_cases q : ∃ x ∈ taken c1 A, x ∉ taken c2 (taken c1 A)
    · obtain ⟨x, x1, x2⟩ := q
      have xA := SA x x1
      have fl : (A.filter fun y => decide (y ≠ x)).length < A.length := by
        refine Nat.lt_of_le_of_ne (List.length_filter_le _ _) fun z => ?_
        have := List.length_filter_eq_length_iff.mp z x xA
        simp at this
      have less : ∀ y ∈ A.filter fun y => decide (y ≠ x), y ∈ A := fun y hy => (List.mem_filter.mp hy).1
      have keep : ∀ y ∈ taken c1 A, y ≠ x → y ∈ taken c1 (A.filter fun y => decide (y ≠ x)) := fun y hy ne =>
        taken_less less (List.mem_filter.mpr ⟨SA y hy, by simpa using ne⟩) hy
      refine ih _ (by omega) (fun y hy => h1 y (less y hy)) fun y hy hn' z => ?_
      by_cases yx : y = x
      · subst yx
        refine x2 (taken_less (t := taken c1 (A.filter fun z => decide (z ≠ y)) ++ [y]) (fun w hw => ?_) x1 z)
        by_cases wy : w = y
        · simp [wy]
        · exact List.mem_append_left _ (keep w hw wy)
      · have yA : y ∉ A := fun hyA => hn' (List.mem_filter.mpr ⟨hyA, by simpa using yx⟩)
        have yn := h2 y hy yA
        refine yn ?_
        have e1 : y ∈ taken c2 ((taken c1 A).filter (fun w => decide (w ≠ x)) ++ [y]) := by
          refine taken_less (t := taken c1 (A.filter fun z => decide (z ≠ x)) ++ [y]) (fun w hw => ?_) (by simp) z
          rcases List.mem_append.mp hw with hw | hw
          · have := List.mem_filter.mp hw
            exact List.mem_append_left _ (keep w this.1 (by simpa using this.2))
          · exact List.mem_append_right _ hw
        have e2 : taken c2 ((taken c1 A).filter (fun w => decide (w ≠ x)) ++ [y]) = taken c2 (taken c1 A ++ [y]) := by
          refine taken_same (fun w hw => ?_) fun w hw => ?_
          · rcases List.mem_append.mp hw with hw | hw
            · exact List.mem_append_left _ (List.mem_filter.mp hw).1
            · exact List.mem_append_right _ hw
          · rcases List.mem_append.mp (taken_sub hw) with hw' | hw'
            · refine List.mem_append_left _ (List.mem_filter.mpr ⟨hw', ?_⟩)
              have : w ≠ x := fun wx => x2 (by
                subst wx
                exact taken_less (t := taken c1 A ++ [y]) (fun v hv => List.mem_append_left _ hv) x1 hw)
              simpa using this
            · exact List.mem_append_right _ hw'
        rw [← e2]
        exact e1
    · have all2 : ∀ x ∈ taken c1 A, x ∈ taken c2 (taken c1 A) := fun x hx => Classical.byContradiction fun hx2 => q ⟨x, hx, hx2⟩
      have a1 : taken c1 (taken c1 A) = taken c1 A := taken_same SA fun x hx => hx
      have a2 : taken c2 (taken c1 A) = taken c1 A := lt_eq (taken_lt _ _) (taken_lt _ _) fun x => ⟨fun hx => taken_sub hx, all2 x⟩
      refine ⟨taken c1 A, sets_mem hn (taken_lt _ _) (fun x hx => sets_rng n hn st hst x (h1 x (SA x hx))), sub_iff.mpr fun x hx => h1 x (SA x hx), ?_⟩
      have hw : wis (taken c1) (taken c2) st (taken c1 A) = [] := by
        unfold wis
        rw [List.filter_eq_nil_iff]
        intro x hx z
        simp only [Bool.and_eq_true, decide_eq_true_eq, Bool.not_eq_true', decide_eq_false_iff_not] at z
        obtain ⟨z1, z2, z3⟩ := z
        have ei : ∀ c, taken c (ins (taken c1 A) x) = taken c (taken c1 A ++ [x]) := fun c => taken_ext fun y => by rw [mem_ins]; simp
        rw [ei] at z2 z3
        by_cases xA : x ∈ A
        · have : taken c1 (taken c1 A ++ [x]) = taken c1 A := taken_same (fun y hy => by
            rcases List.mem_append.mp hy with hy | hy
            · exact SA y hy
            · rw [List.mem_singleton.mp hy]; exact xA) fun y hy => List.mem_append_left _ hy
          rw [this] at z2
          exact z1 z2
        · exact h2 x hx xA z3
      unfold stl agr
      rw [a1, a2, hw]
      simp
theorem settled_some (hn : n ∈ ns4) (c1 c2 : List (List Int)) {st : List Int} (hst : st ∈ sets n) : ((sets n).filter fun t => sub t st).filter (stl (taken c1) (taken c2) st) ≠ [] := by
  obtain ⟨s, h1, h2, h3⟩ := settled_at hn c1 c2 hst st.length st (Nat.le_refl _) (fun x hx => hx) fun x hx hx' => absurd hx hx'
  intro z
  have : s ∈ ((sets n).filter fun t => sub t st).filter (stl (taken c1) (taken c2) st) := List.mem_filter.mpr ⟨List.mem_filter.mpr ⟨h1, h2⟩, h3⟩
  rw [z] at this
  exact nomatch this
/-- what is agreed stays so with less -/
theorem agr_less {c1 c2 : List (List Int)} {s t : List Int} (h : sub s t = true) (hs : s.Pairwise (· < ·)) (ht : agr (taken c1) (taken c2) t = true) : agr (taken c1) (taken c2) s = true := by
  have hst := sub_iff.mp h
  unfold agr at ht ⊢
  simp only [Bool.and_eq_true, decide_eq_true_eq] at ht ⊢
  have one : ∀ c, taken c t = t → taken c s = s := fun c e => lt_eq (taken_lt c s) hs fun x => ⟨taken_sub, fun hx => taken_less hst hx (by rw [e]; exact hst x hx)⟩
  exact ⟨one c1 ht.1, one c2 ht.2⟩
end
section
open PySem.W (Datum Tup)
section
variable {h : MH} {i j : Int}
theorem w_mod (hj : 0 < j) : modT (.int i) (.int j) h = .ok (.int (i % j)) h := by
  show (if decide (0 < j) = true then Res.ok (T.int (i % j)) h else .bad) = _
  rw [if_pos (decide_eq_true hj)]
theorem w_fdv (hj : 0 < j) (hk : j < 1073741824) : fdvT (.int i) (.int j) h = .ok (.int (i / j)) h := by
  show (if decide (CDiv i j) = true then Res.ok (T.int (i / j)) h else .bad) = _
  rw [if_pos (decide_eq_true ⟨hj, hk⟩)]
theorem w_mul (hj : (-(2 ^ 64) < i ∧ i < 2 ^ 64) ∨ (-(2 ^ 64) < j ∧ j < 2 ^ 64)) : mulT (.int i) (.int j) h = .ok (.int (i * j)) h := by
  show (if CMul i j then Res.ok (T.int (i * j)) h else .bad) = _
  exact if_pos (show CMul i j from hj)
theorem w_pow6 : powT (.int 10) (.int 6) h = .ok (.int 1000000) h := rfl
end
def kv3 (m d : Int) : List (Key × T) := [(.inr ("rest" : Str), .loc 0), (.inr ("mixed" : Str), .int m), (.inr ("draws" : Str), .int d)]
def dkH (R : List Int) (m d : Int) (tl : MH) : MH := .lst (R.map .int) :: .dK (kv3 m d) :: tl
section
variable {R : List Int} {m d : Int} {tl : MH}
theorem ix_rest : ixT (.loc 1) (.str ("rest" : Str)) (dkH R m d tl) = .ok (.loc 0) (dkH R m d tl) := rfl
theorem ix_mixed : ixT (.loc 1) (.str ("mixed" : Str)) (dkH R m d tl) = .ok (.int m) (dkH R m d tl) := rfl
theorem ix_draws : ixT (.loc 1) (.str ("draws" : Str)) (dkH R m d tl) = .ok (.int d) (dkH R m d tl) := rfl
theorem st_draws (e : Int) : stT (.loc 1) (.str ("draws" : Str)) (.int e) (dkH R m d tl) = some (dkH R m e tl) := rfl
theorem toD_loc0 : toD (dkH R m d tl) deep (.loc 0) = some (Datum.toD R) := by
  show (mapO (toD (dkH R m d tl) 13) (R.map T.int)).map PyData.list = _
  rw [mapO_int]
  rfl
theorem ne_rest : neT (.loc 0) (.lst []) (dkH R m d tl) = .ok (.bl (!decide (R = []))) (dkH R m d tl) := by
  unfold neT
  rw [toD_loc0, show toD (dkH R m d tl) deep (.lst []) = some (Datum.toD ([] : List Int)) from toD_ls _ []]
  simp only [Datum.eqv]
theorem pp_rest (x : Int) : ppT (.loc 0) [] (dkH (R ++ [x]) m d tl) = .ok (.int x) (dkH R m d tl) := by
  show (match ((R ++ [x]).map T.int)[((R ++ [x]).map T.int).length - 1]? with
      | some y => Res.ok y (.lst (((R ++ [x]).map T.int).dropLast) :: .dK (kv3 m d) :: tl)
      | none => .bad) = _
  have e : ((R ++ [x]).map T.int)[((R ++ [x]).map T.int).length - 1]? = some (.int x) := by simp
  have e2 : ((R ++ [x]).map T.int).dropLast = R.map T.int := by simp
  rw [e, e2]
  rfl
theorem ap_rest (x : Int) (hl : R.length < sizeLine) : apT (.loc 0) [.int x] (dkH R m d tl) = .ok .non (dkH (R ++ [x]) m d tl) := by
  show (if (R.map T.int).length < sizeLine then Res.ok T.non (.lst (R.map T.int ++ [.int x]) :: .dK (kv3 m d) :: tl) else .bad) = _
  rw [if_pos (by rw [List.length_map]; exact hl)]
  unfold dkH
  rw [List.map_append]
  rfl
theorem isl_rest : isTy "list" (dkH R m d tl) (.loc 0) = true := rfl
end
def bDr1 : SM := (sIf (tmOf (emOp neT (emOp ixT (vr 0) (cst (.str ("rest" : Str)))) (emL lstK an)))
 (sSeq (sSet 3 (emBm "list" ppT (emOp ixT (vr 0) (cst (.str ("rest" : Str)))) an))
 (sSeq (sIf (tmOf (emOp geT (vr 3) (emOp powT (cst (.int 10)) (cst (.int 6)))))
 (sDrop (emBm "list" apT (emOp ixT (vr 0) (cst (.str ("rest" : Str)))) (ac (emOp fdvT (vr 3) (vr 1)) an)))
 sNx)
 (sRet (emOp modT (vr 3) (vr 1)))))
 sNx)
def bDr2 : SM := (sSeq (sSet 2 (emOp modT (emOp (adT lstK) (emOp ixT (vr 0) (cst (.str ("mixed" : Str)))) (emOp mulT (emOp mulT (cst (.int 40692)) (emOp ixT (vr 0) (cst (.str ("draws" : Str))))) (emOp ixT (vr 0) (cst (.str ("draws" : Str)))))) (cst (.int 2147483399))))
 (sRet (emOp modT (emOp fdvT (emOp modT (emOp mulT (vr 2) (cst (.int 39373))) (cst (.int 2147483563))) (cst (.int 128))) (vr 1))))
theorem draw_eq : b__law_draw = sSeq (sSub (vr 0) (cst (.str ("draws" : Str))) (emOp (adT lstK) (emOp ixT (vr 0) (cst (.str ("draws" : Str)))) (cst (.int 1)))) (sSeq bDr1 bDr2) := rfl
theorem lows_ints (N : Nat) : ∀ R : List Int, lows N (R.map .int) = true
  | [] => rfl
  | x :: R => by simp only [List.map_cons, lows, low, lows_ints N R, Bool.and_self]
theorem low_dk {R : List Int} {m d : Int} {tl : MH} {N : Nat} (hN : N = (dkH R m d tl).length) (ht : tl.all (lowO N) = true) : lowH N (dkH R m d tl) = true := by
  unfold lowH
  rw [hN, List.take_length, ← hN]
  show (lowO N (.lst (R.map .int)) && (lowO N (.dK (kv3 m d)) && tl.all (lowO N))) = true
  have e1 : lowO N (.lst (R.map .int)) = true := by
    exact lows_ints N R
  have e2 : lowO N (.dK (kv3 m d)) = true := by
    show (Nat.blt 0 N && (true && (true && true))) = true
    have : 0 < N := by rw [hN]; exact Nat.succ_pos _
    rw [show Nat.blt 0 N = true from by unfold Nat.blt; exact Nat.ble_eq.mpr this]
    rfl
  rw [e1, e2, ht]
  rfl
theorem endR_dk {R R' : List Int} {m d d' v : Int} {tl : MH} (ht : tl.all (lowO (2 + tl.length)) = true) : endR (dkH R m d tl) (.ok (.int v) (dkH R' m d' tl)) = .ok (.int v) (dkH R' m d' tl) := by
  unfold endR
  show (if okH (dkH R m d tl) (dkH R' m d' tl) = true then Res.ok (T.int v) ((dkH R' m d' tl).take (dkH R m d tl).length) else .bad) = _
  have hN : (dkH R m d tl).length = (dkH R' m d' tl).length := rfl
  have e : okH (dkH R m d tl) (dkH R' m d' tl) = true := by
    unfold okH
    rw [low_dk hN (by
      rw [show (dkH R m d tl).length = 2 + tl.length from by show tl.length + 1 + 1 = _; omega]
      exact ht), Bool.or_true]
  rw [if_pos e, hN, List.take_length]
theorem x_draw {b : Int} (hb : 0 < b) (hb2 : b < 1000000) (R : List Int) (m d : Int) (tl : MH) (ht : tl.all (lowO (2 + tl.length)) = true) (hR : R.length ≤ 1000) (hd : 0 ≤ d ∧ d ≤ 1000) :
    ∃ R' v, m__law_draw [.loc 1, .int b] (dkH R m d tl) = .ok (.int v) (dkH R' m (d + 1) tl) ∧ 0 ≤ v ∧ v < b ∧ R'.length ≤ R.length := by
  have core : ∃ R' v, b__law_draw [some (.loc 1), some (.int b), none, none] (dkH R m d tl) = .ret (.int v) (dkH R' m (d + 1) tl) ∧ 0 ≤ v ∧ v < b ∧ R'.length ≤ R.length := by
    have e1 : sSub (vr 0) (cst (.str ("draws" : Str))) (emOp (adT lstK) (emOp ixT (vr 0) (cst (.str ("draws" : Str)))) (cst (.int 1))) [some (.loc 1), some (.int b), none, none] (dkH R m d tl) = .nx [some (.loc 1), some (.int b), none, none] (dkH R m (d + 1) tl) := by
      unfold sSub
      simp [ix_draws, st_draws]
    rw [draw_eq, s_sSeq, e1]
    simp only []
    rw [s_sSeq]
    rcases List.eq_nil_or_concat R with rfl | ⟨R0, x, rfl⟩
    · have e2 : bDr1 [some (.loc 1), some (.int b), none, none] (dkH [] m (d + 1) tl) = .nx [some (.loc 1), some (.int b), none, none] (dkH [] m (d + 1) tl) := by
        unfold bDr1
        simp [ix_rest, show ∀ h, lstK [] h = .ok (.lst []) h from fun _ => rfl, ne_rest]
      rw [e2]
      simp only []
      refine ⟨[], ((m + 40692 * (d + 1) * (d + 1)) % 2147483399 * 39373 % 2147483563 / 128) % b, ?_, ?_, ?_, Nat.le_refl _⟩
      · have m1 : ∀ h, mulT (.int 40692) (.int (d + 1)) h = .ok (.int (40692 * (d + 1))) h := fun h => w_mul (.inl (by omega))
        have m2 : ∀ h, mulT (.int (40692 * (d + 1))) (.int (d + 1)) h = .ok (.int (40692 * (d + 1) * (d + 1))) h := fun h => w_mul (.inr (by omega))
        have m3 : ∀ i h, mulT (.int i) (.int 39373) h = .ok (.int (i * 39373)) h := fun i h => w_mul (.inr (by omega))
        have d1 : ∀ i h, modT (.int i) (.int 2147483399) h = .ok (.int (i % 2147483399)) h := fun i h => w_mod (by omega)
        have d2 : ∀ i h, modT (.int i) (.int 2147483563) h = .ok (.int (i % 2147483563)) h := fun i h => w_mod (by omega)
        have d3 : ∀ i h, fdvT (.int i) (.int 128) h = .ok (.int (i / 128)) h := fun i h => w_fdv (by omega) (by omega)
        have d4 : ∀ i h, modT (.int i) (.int b) h = .ok (.int (i % b)) h := fun i h => w_mod hb
        unfold bDr2
        simp [ix_draws, ix_mixed, m1, m2, m3, d1, d2, d3, d4]
      · exact Int.emod_nonneg _ (by omega)
      · exact Int.emod_lt_of_pos _ hb
    · rw [List.concat_eq_append] at hR ⊢
      have hR0 : R0.length < sizeLine := by
        rw [List.length_append] at hR
        exact Nat.lt_of_le_of_lt (show R0.length ≤ 1000 by omega) (by decide)
      have d4 : ∀ i h, modT (.int i) (.int b) h = .ok (.int (i % b)) h := fun i h => w_mod hb
      have d5 : ∀ i h, fdvT (.int i) (.int b) h = .ok (.int (i / b)) h := fun i h => w_fdv hb (by omega)
      have e0 : (!decide (R0 ++ [x] = [])) = true := by simp
      have e3 : ∀ h, geT (.int x) (.int 1000000) h = .ok (.bl (decide (1000000 ≤ x))) h := fun h => s_ge
      by_cases hx : 1000000 ≤ x
      · refine ⟨R0 ++ [x / b], x % b, ?_, Int.emod_nonneg _ (by omega), Int.emod_lt_of_pos _ hb, by simp⟩
        have e2 : bDr1 [some (.loc 1), some (.int b), none, none] (dkH (R0 ++ [x]) m (d + 1) tl) = .ret (.int (x % b)) (dkH (R0 ++ [x / b]) m (d + 1) tl) := by
          unfold bDr1
          simp [ix_rest, show ∀ h, lstK [] h = .ok (.lst []) h from fun _ => rfl, ne_rest, emBm, isl_rest, pp_rest, ap_rest _ hR0, w_pow6, hx, d4, d5]
        rw [e2]
      · refine ⟨R0, x % b, ?_, Int.emod_nonneg _ (by omega), Int.emod_lt_of_pos _ hb, by simp⟩
        have e2 : bDr1 [some (.loc 1), some (.int b), none, none] (dkH (R0 ++ [x]) m (d + 1) tl) = .ret (.int (x % b)) (dkH R0 m (d + 1) tl) := by
          unfold bDr1
          simp [ix_rest, show ∀ h, lstK [] h = .ok (.lst []) h from fun _ => rfl, ne_rest, emBm, isl_rest, pp_rest, w_pow6, hx, d4]
        rw [e2]
  obtain ⟨R', v, e, h1, h2, h3⟩ := core
  refine ⟨R', v, ?_, h1, h2, h3⟩
  unfold m__law_draw pur
  rw [if_neg (by simp [lows, low, Nat.blt])]
  unfold reg fnB
  rw [show startR 4 [.loc 1, .int b] = [some (.loc 1), some (.int b), none, none] from rfl, e]
  exact endR_dk ht
end
section
open PySem.W (Datum Tup)
theorem endR_dkx {R R' : List Int} {m d d' : Int} {x : T} {tl : MH} (hx : low 0 x = true) (ht : tl.all (lowO (2 + tl.length)) = true) : endR (dkH R m d tl) (.ok x (dkH R' m d' tl)) = .ok x (dkH R' m d' tl) := by
  unfold endR
  show (match frW (frL (dkH R' m d' tl) (dkH R m d tl).length frD) x with
    | some y => if okH (dkH R m d tl) (dkH R' m d' tl) = true then Res.ok y ((dkH R' m d' tl).take (dkH R m d tl).length) else .bad
    | none => .bad) = _
  rw [frW_low _ _ hx]
  have hN : (dkH R m d tl).length = (dkH R' m d' tl).length := rfl
  have e : okH (dkH R m d tl) (dkH R' m d' tl) = true := by
    unfold okH
    rw [low_dk hN (by
      rw [show (dkH R m d tl).length = 2 + tl.length from by show tl.length + 1 + 1 = _; omega]
      exact ht), Bool.or_true]
  simp only [if_pos e, hN, List.take_length]
def DrawOk (F : FM) : Prop := ∀ (b : Int), 0 < b → b < 1000000 → ∀ (R : List Int) (m d : Int) (tl : MH), tl.all (lowO (2 + tl.length)) = true → R.length ≤ 1000 → 0 ≤ d ∧ d ≤ 1000 →
    ∃ R' v, F [.loc 1, .int b] (dkH R m d tl) = .ok (.int v) (dkH R' m (d + 1) tl) ∧ 0 ≤ v ∧ v < b ∧ R'.length ≤ R.length
theorem drawOk : DrawOk m__law_draw := fun b hb hb2 R m d tl ht hR hd => x_draw hb hb2 R m d tl ht hR hd
def PickOk (F : FM) : Prop := ∀ (xs : List T), xs ≠ [] → xs.length < 1000000 → (∀ x ∈ xs, low 0 x = true) → ∀ (R : List Int) (m d : Int) (tl : MH), tl.all (lowO (2 + tl.length)) = true → R.length ≤ 1000 → 0 ≤ d ∧ d ≤ 1000 →
    ∃ R' x, F [.loc 1, .lst xs] (dkH R m d tl) = .ok x (dkH R' m (d + 1) tl) ∧ x ∈ xs ∧ R'.length ≤ R.length
theorem g_pick (F : FM) (hF : DrawOk F) (xs : List T) (h0 : xs ≠ []) (hl : xs.length < 1000000) (R : List Int) (m d : Int) (tl : MH) (ht : tl.all (lowO (2 + tl.length)) = true) (hR : R.length ≤ 1000) (hd : 0 ≤ d ∧ d ≤ 1000) :
    ∃ R' x, sRet (emOp ixT (vr 1) (emCall (arg 2 F) (ac (vr 0) (ac (emCall lenF (ac (vr 1) an)) an)))) [some (.loc 1), some (.lst xs)] (dkH R m d tl) = .ret x (dkH R' m (d + 1) tl) ∧ x ∈ xs ∧ R'.length ≤ R.length := by
  have hp : 0 < xs.length := List.length_pos_iff.mpr h0
  obtain ⟨R', v, e, v1, v2, v3⟩ := hF xs.length (by omega) (by omega) R m d tl ht hR hd
  have hv : v.toNat < xs.length := by omega
  have hg : xs[v.toNat]? = some xs[v.toNat] := List.getElem?_eq_getElem hv
  refine ⟨R', xs[v.toNat], ?_, List.getElem_mem hv, v3⟩
  have ei : ∀ h, ixT (.lst xs) (.int v) h = .ok xs[v.toNat] h := fun h => by
    have := w_ix_lst (h := h) hg
    rw [show ((v.toNat : Nat) : Int) = v from by omega] at this
    exact this
  simp [w_len_lst, e, ei]
theorem pickOk : PickOk m__law_pick := fun xs h0 hl hx R m d tl ht hR hd => by
  obtain ⟨R', x, e, h1, h2⟩ := g_pick m__law_draw drawOk xs h0 hl R m d tl ht hR hd
  refine ⟨R', x, ?_, h1, h2⟩
  unfold m__law_pick pur
  rw [if_neg (by simp [lows, low, Nat.blt])]
  unfold reg fnB
  rw [show startR 2 [.loc 1, .lst xs] = [some (.loc 1), some (.lst xs)] from rfl]
  unfold b__law_pick
  rw [e]
  exact endR_dkx (hx x h1) ht
section
variable {R : List Int} {m d : Int} {pre : MH} {x y z : MO}
theorem hg_0 : (dkH R m d (pre ++ [x, y]))[2 + pre.length]? = some x := by
  unfold dkH
  rw [show 2 + pre.length = pre.length + 1 + 1 from by omega, List.getElem?_cons_succ, List.getElem?_cons_succ, List.getElem?_append_right (Nat.le_refl _), Nat.sub_self]
  rfl
theorem hg_1 : (dkH R m d (pre ++ [x, y]))[3 + pre.length]? = some y := by
  unfold dkH
  rw [show 3 + pre.length = pre.length + 1 + 1 + 1 from by omega, List.getElem?_cons_succ, List.getElem?_cons_succ, List.getElem?_append_right (by omega), show pre.length + 1 - pre.length = 1 from by omega]
  rfl
theorem hs_0 : (dkH R m d (pre ++ [x, y])).set (2 + pre.length) z = dkH R m d (pre ++ [z, y]) := by
  unfold dkH
  rw [show 2 + pre.length = pre.length + 1 + 1 from by omega, List.set_cons_succ, List.set_cons_succ, List.set_append_right _ _ (Nat.le_refl _), Nat.sub_self]
  rfl
theorem hs_1 : (dkH R m d (pre ++ [x, y])).set (3 + pre.length) z = dkH R m d (pre ++ [x, z]) := by
  unfold dkH
  rw [show 3 + pre.length = pre.length + 1 + 1 + 1 from by omega, List.set_cons_succ, List.set_cons_succ, List.set_append_right _ _ (by omega), show pre.length + 1 - pre.length = 1 from by omega]
  rfl
end
def bIn (F : FM) : SM := (sDrop (emBm "list" apT (vr 6) (ac (emBm "list" paT (vr 5) (ac (emCall (arg 2 F) (ac (vr 0) (ac (emCall lenF (ac (vr 5) an)) an))) an)) an)))
theorem low_two {pre : MH} {left row : List Int} (hp : pre.all (lowO (4 + pre.length)) = true) : (pre ++ [MO.lst (left.map .int), MO.lst (row.map .int)]).all (lowO (2 + (pre ++ [MO.lst (left.map .int), MO.lst (row.map .int)]).length)) = true := by
  rw [List.length_append, show 2 + (pre.length + [MO.lst (left.map T.int), MO.lst (row.map T.int)].length) = 4 + pre.length from by simp only [List.length_cons, List.length_nil]; omega, List.all_append, hp]
  show (true && (lows _ (left.map .int) && (lows _ (row.map .int) && true))) = true
  rw [lows_ints, lows_ints]
  rfl
theorem seqI {v : Int} {l : Nat} (h1 : 0 ≤ v) (h2 : v < l) : seqIndex? v l = some v.toNat := by
  unfold seqIndex?
  split <;> first | rfl | (simp; omega) | (simp at *; omega)
theorem er_map {α β : Type} (f : α → β) : ∀ (l : List α) (k : Nat), (l.map f).eraseIdx k = (l.eraseIdx k).map f
  | [], _ => rfl
  | _ :: _, 0 => rfl
  | a :: l, k + 1 => by simp only [List.map_cons, List.eraseIdx_cons_succ, er_map f l k]
theorem w_pa {h : MH} {n k : Nat} {l : List T} {i : Int} {y : T} (e1 : h[n]? = some (.lst l)) (hb : -(2 ^ 63) ≤ i ∧ i < 2 ^ 63) (e2 : seqIndex? i l.length = some k) (e3 : l[k]? = some y) : paT (.loc n) [.int i] h = .ok y (h.set n (.lst (l.eraseIdx k))) := by
  unfold paT
  simp only [lstAt, e1, e2, e3, -Int.reducePow, -Int.reduceNeg]
  exact if_pos hb
theorem w_ap2 {h : MH} {n : Nat} {l : List T} {y : T} (e1 : h[n]? = some (.lst l)) (hl : l.length < sizeLine) : apT (.loc n) [y] h = .ok .non (h.set n (.lst (l ++ [y]))) := by
  unfold apT
  simp only [lstAt, e1]
  exact if_pos hl
theorem in_step (F : FM) (hF : DrawOk F) (pre : MH) (hp : pre.all (lowO (4 + pre.length)) = true) (left row : List Int) (R : List Int) (m d : Int) (x1 x2 x3 x4 : Option T) (h0 : left ≠ []) (hl : left.length ≤ 1000) (hr : row.length ≤ 1000) (hR : R.length ≤ 1000) (hd : 0 ≤ d ∧ d ≤ 1000) :
    ∃ (R' left' row' : List Int), bIn F [some (.loc 1), x1, x2, x3, x4, some (.loc (2 + pre.length)), some (.loc (3 + pre.length))] (dkH R m d (pre ++ [.lst (left.map .int), .lst (row.map .int)])) = .nx [some (.loc 1), x1, x2, x3, x4, some (.loc (2 + pre.length)), some (.loc (3 + pre.length))] (dkH R' m (d + 1) (pre ++ [.lst (left'.map .int), .lst (row'.map .int)])) ∧ left'.length + 1 = left.length ∧ row'.length = row.length + 1 ∧ R'.length ≤ R.length := by
  have hlp : 0 < left.length := List.length_pos_iff.mpr h0
  obtain ⟨R', v, e, v1, v2, v3⟩ := hF left.length (by omega) (by omega) R m d _ (low_two (left := left) (row := row) hp) hR hd
  have hv : v.toNat < left.length := by omega
  have eN : ∀ (R : List Int) (d : Int), lenF [.loc (2 + pre.length)] (dkH R m d (pre ++ [.lst (left.map .int), .lst (row.map .int)])) = .ok (.int left.length) (dkH R m d (pre ++ [.lst (left.map .int), .lst (row.map .int)])) := fun R d => by
    have : lnOf (dkH R m d (pre ++ [.lst (left.map .int), .lst (row.map .int)])) (.loc (2 + pre.length)) = some left.length := by
      unfold lnOf
      rw [show lsOf (dkH R m d (pre ++ [.lst (left.map .int), .lst (row.map .int)])) (.loc (2 + pre.length)) = lstAt (dkH R m d (pre ++ [.lst (left.map .int), .lst (row.map .int)])) (2 + pre.length) from rfl]
      unfold lstAt
      rw [hg_0]
      simp
    show (match lnOf _ _ with
      | some n => Res.ok (T.int n) _
      | none => .bad) = _
    rw [this]
  have eP : paT (.loc (2 + pre.length)) [.int v] (dkH R' m (d + 1) (pre ++ [.lst (left.map .int), .lst (row.map .int)])) = .ok (.int left[v.toNat]) (dkH R' m (d + 1) (pre ++ [.lst ((left.eraseIdx v.toNat).map .int), .lst (row.map .int)])) := by
    rw [w_pa hg_0 (by constructor <;> omega) (seqI v1 (by rw [List.length_map]; omega)) (y := .int left[v.toNat]) (by rw [List.getElem?_map, List.getElem?_eq_getElem hv]; rfl), hs_0, er_map]
  have eA : apT (.loc (3 + pre.length)) [.int left[v.toNat]] (dkH R' m (d + 1) (pre ++ [.lst ((left.eraseIdx v.toNat).map .int), .lst (row.map .int)])) = .ok .non (dkH R' m (d + 1) (pre ++ [.lst ((left.eraseIdx v.toNat).map .int), .lst ((row ++ [left[v.toNat]]).map .int)])) := by
    rw [w_ap2 hg_1 (by rw [List.length_map]; exact Nat.lt_of_le_of_lt hr (by decide)), hs_1, List.map_append]
    rfl
  have t1 : ∀ (R : List Int) (d : Int), isTy "list" (dkH R m d (pre ++ [.lst (left.map .int), .lst (row.map .int)])) (.loc (2 + pre.length)) = true := fun R d => by
    simp only [isTy, hg_0]
    rfl
  have t2 : ∀ (R : List Int) (d : Int), isTy "list" (dkH R m d (pre ++ [.lst (left.map .int), .lst (row.map .int)])) (.loc (3 + pre.length)) = true := fun R d => by
    simp only [isTy, hg_1]
    rfl
  refine ⟨R', left.eraseIdx v.toNat, row ++ [left[v.toNat]], ?_, ?_, by simp, v3⟩
  · unfold bIn emBm
    simp [t1, t2, eN, e, eP, eA]
  · rw [List.length_eraseIdx_of_lt hv]
    omega
theorem in_loop (F : FM) (hF : DrawOk F) (pre : MH) (hp : pre.all (lowO (4 + pre.length)) = true) (m : Int) (x1 x2 x3 : Option T) (all : List T) : ∀ (ks : List T) (x4 : Option T) (left row R : List Int) (d : Int), ks.length ≤ left.length → left.length + row.length ≤ 1000 → R.length ≤ 1000 → 0 ≤ d ∧ d + ks.length ≤ 1000 →
    ∃ (y4 : Option T) (R' left' row' : List Int), forS none all (gmN 4) (bIn F) ks [some (.loc 1), x1, x2, x3, x4, some (.loc (2 + pre.length)), some (.loc (3 + pre.length))] (dkH R m d (pre ++ [.lst (left.map .int), .lst (row.map .int)])) = .nx [some (.loc 1), x1, x2, x3, y4, some (.loc (2 + pre.length)), some (.loc (3 + pre.length))] (dkH R' m (d + ks.length) (pre ++ [.lst (left'.map .int), .lst (row'.map .int)])) ∧ row'.length = row.length + ks.length ∧ R'.length ≤ R.length
  | [], x4, left, row, R, d, _, _, _, _ => ⟨x4, R, left, row, by simp, rfl, Nat.le_refl _⟩
  | k :: ks, x4, left, row, R, d, h1, h2, hR, hd => by
    rw [List.length_cons] at h1 hd
    have h0 : left ≠ [] := fun z => by subst z; simp at h1
    obtain ⟨R1, left1, row1, e, l1, l2, l3⟩ := in_step F hF pre hp left row R m d x1 x2 x3 (some k) h0 (by omega) (by omega) hR (by omega)
    obtain ⟨y4, R2, left2, row2, ih, q1, q2⟩ := in_loop F hF pre hp m x1 x2 x3 all ks (some k) left1 row1 R1 (d + 1) (by omega) (by omega) (by omega) (by omega)
    refine ⟨y4, R2, left2, row2, ?_, by rw [List.length_cons]; omega, by omega⟩
    rw [s_forSn]
    show (match bIn F [some (.loc 1), x1, x2, x3, some k, some (.loc (2 + pre.length)), some (.loc (3 + pre.length))] (dkH R m d (pre ++ [.lst (left.map .int), .lst (row.map .int)])) with
      | .nx r' h' => forS none all (gmN 4) (bIn F) ks r' h'
      | .ct r' h' => forS none all (gmN 4) (bIn F) ks r' h'
      | .bk r' h' => .nx r' h'
      | o => o) = _
    rw [e]
    simp only []
    rw [ih, List.length_cons, show d + ((ks.length + 1 : Nat) : Int) = d + 1 + ks.length from by omega]
end
section
open PySem.W (Datum Tup)
variable {n : Nat}
def cells : List (List Int × List Int) → MH
  | [] => []
  | p :: ps => .lst (p.1.map .int) :: .lst (p.2.map .int) :: cells ps
def locs (k : Nat) : List T := (List.range k).map fun i => .loc (4 + 2 * i)
def tlO (ps : List (List Int × List Int)) : MH := .lst (locs ps.length) :: cells ps
theorem cells_len : ∀ ps, (cells ps).length = 2 * ps.length
  | [] => rfl
  | p :: ps => by simp only [cells, List.length_cons, cells_len ps]; omega
theorem cells_app (q : List Int × List Int) : ∀ ps, cells (ps ++ [q]) = cells ps ++ [.lst (q.1.map .int), .lst (q.2.map .int)]
  | [] => rfl
  | p :: ps => by simp only [cells, List.cons_append, cells_app q ps]
theorem cells_get : ∀ (ps : List (List Int × List Int)) (i : Nat), (cells ps)[2 * i + 1]? = (ps[i]?).map fun p => .lst (p.2.map .int)
  | [], i => by simp [cells]
  | p :: ps, 0 => rfl
  | p :: ps, i + 1 => by
    rw [show 2 * (i + 1) + 1 = (2 * i + 1) + 1 + 1 from by omega]
    simp only [cells, List.getElem?_cons_succ]
    exact cells_get ps i
theorem locs_succ (k : Nat) : locs (k + 1) = locs k ++ [.loc (4 + 2 * k)] := by
  unfold locs
  rw [List.range_succ, List.map_append]
  rfl
theorem tlO_len (ps) : (tlO ps).length = 1 + 2 * ps.length := by
  unfold tlO
  rw [List.length_cons, cells_len]
  omega
theorem lows_all {N : Nat} : ∀ {l : List T}, (∀ x ∈ l, low N x = true) → lows N l = true
  | [], _ => rfl
  | x :: l, h => by
    simp only [lows, h x List.mem_cons_self, lows_all fun y hy => h y (List.mem_cons_of_mem _ hy), Bool.and_self]
theorem low_cells (N : Nat) : ∀ ps, (cells ps).all (lowO N) = true
  | [] => rfl
  | p :: ps => by
    show (lows N (p.1.map .int) && (lows N (p.2.map .int) && (cells ps).all (lowO N))) = true
    rw [lows_ints, lows_ints, low_cells N ps]
    rfl
theorem low_tlO {N : Nat} (ps) (hN : 3 + 2 * List.length ps ≤ N) : (tlO ps).all (lowO N) = true := by
  show (lows N (locs ps.length) && (cells ps).all (lowO N)) = true
  rw [low_cells, lows_all]
  · rfl
  · intro x hx
    obtain ⟨i, hi, rfl⟩ := List.mem_map.mp hx
    rw [List.mem_range] at hi
    show Nat.blt (4 + 2 * i) N = true
    unfold Nat.blt
    exact Nat.ble_eq.mpr (by omega)
theorem pick_int {P : FM} (hP : PickOk P) (s : List Int) (h0 : s ≠ []) (hl : s.length < 1000000) (R : List Int) (m d : Int) (tl : MH) (ht : tl.all (lowO (2 + tl.length)) = true) (hR : R.length ≤ 1000) (hd : 0 ≤ d ∧ d ≤ 1000) :
    ∃ R' t, P [.loc 1, ls s] (dkH R m d tl) = .ok (.int t) (dkH R' m (d + 1) tl) ∧ t ∈ s ∧ R'.length ≤ R.length := by
  obtain ⟨R', x, e, h1, h2⟩ := hP (s.map .int) (by simpa using h0) (by simpa using hl) (fun x hx => by
    obtain ⟨i, _, rfl⟩ := List.mem_map.mp hx
    rfl) R m d tl ht hR hd
  obtain ⟨t, ht, rfl⟩ := List.mem_map.mp h1
  exact ⟨R', t, e, ht, h2⟩
def bOut (F P : FM) : SM := (sSeq (sPar2 5 6 (ac (emRgL lstL (rg1 (vr 1))) (ac (emL lstL an) an)))
 (sSeq (sFor (itR1 (ac (emOp subT (vr 1) (emCall (arg 2 P) (ac (vr 0) (ac (emL lstK (ac (cst (.int 0)) (ac (cst (.int 0)) (ac (cst (.int 0)) (ac (cst (.int 1)) an))))) an)))) an)) (gmN 4)
 (bIn F))
 (sDrop (emBm "list" apT (vr 2) (ac (vr 6) an)))))
theorem rgL_len (n : Nat) : (rgL 0 n).length = n := by unfold rgL; simp
theorem rg_cell (hn : n ∈ ns4) {h : MH} {r : Rho} {f : EM} (e : f r h = .ok (.int n) h) : emRgL lstL (rg1 f) r h = .ok (.loc h.length) (h ++ [.lst ((rng n).map .int)]) := by
  unfold emRgL rg1
  rw [e]
  simp only [ns4, List.mem_cons, List.not_mem_nil, or_false] at hn
  rcases hn with rfl | rfl | rfl | rfl | rfl <;> rfl
theorem set_tl (R : List Int) (m d : Int) (ps : List (List Int × List Int)) (l r : List Int) : (dkH R m d (tlO ps ++ [.lst (l.map .int), .lst (r.map .int)])).set 2 (.lst (locs ps.length ++ [.loc (3 + (tlO ps).length)])) = dkH R m d (tlO (ps ++ [(l, r)])) := by
  unfold dkH tlO
  simp only [List.set_cons_succ, List.cons_append, List.set_cons_zero, List.length_append, List.length_cons, List.length_nil, Nat.zero_add, locs_succ, cells_app, cells_len]
  rw [show 3 + (2 * ps.length + 1) = 4 + 2 * ps.length from by omega]
theorem g_rngs (P : FM) {h h1 : MH} {t : Int} {x2 x3 x4 x5 x6 : Option T} (e2 : P [.loc 1, ls [0, 0, 0, 1]] h = .ok (.int t) h1) (a2 : rgOk ((n : Int) - t) = true) : itR1 (ac (emOp subT (vr 1) (emCall (arg 2 P) (ac (vr 0) (ac (emL lstK (ac (cst (.int 0)) (ac (cst (.int 0)) (ac (cst (.int 0)) (ac (cst (.int 1)) an))))) an)))) an) [some (.loc 1), some (.int n), x2, x3, x4, x5, x6] h = .ok (rgL 0 ((n : Int) - t).toNat, none) h1 := by
  have a1 : ∀ h, lstK [.int 0, .int 0, .int 0, .int 1] h = .ok (ls [0, 0, 0, 1]) h := fun h => rfl
  unfold itR1
  simp [a1, e2, a2]
theorem out_step (hn : n ∈ ns4) (F P : FM) (hF : DrawOk F) (hP : PickOk P) (m : Int) (ps : List (List Int × List Int)) (R : List Int) (d : Int) (x3 x4 x5 x6 : Option T) (hps : ps.length ≤ 1000) (hR : R.length ≤ 1000) (hd : 0 ≤ d ∧ d ≤ 900) :
    ∃ (y4 y5 y6 : Option T) (R' : List Int) (d' : Int) (q : List Int × List Int), bOut F P [some (.loc 1), some (.int n), some (.loc 2), x3, x4, x5, x6] (dkH R m d (tlO ps)) = .nx [some (.loc 1), some (.int n), some (.loc 2), x3, y4, y5, y6] (dkH R' m d' (tlO (ps ++ [q]))) ∧ q.2.length ≤ 1000 ∧ R'.length ≤ R.length ∧ d ≤ d' ∧ d' ≤ d + 6 := by
  have hn4 : 1 ≤ n ∧ n ≤ 5 := by
    simp only [ns4, List.mem_cons, List.not_mem_nil, or_false] at hn
    omega
  have e1 : sPar2 5 6 (ac (emRgL lstL (rg1 (vr 1))) (ac (emL lstL an) an)) [some (.loc 1), some (.int n), some (.loc 2), x3, x4, x5, x6] (dkH R m d (tlO ps)) = .nx [some (.loc 1), some (.int n), some (.loc 2), x3, x4, some (.loc (2 + (tlO ps).length)), some (.loc (3 + (tlO ps).length))] (dkH R m d (tlO ps ++ [.lst ((rng n).map .int), .lst (([] : List Int).map .int)])) := by
    have a1 : emRgL lstL (rg1 (vr 1)) [some (.loc 1), some (.int n), some (.loc 2), x3, x4, x5, x6] (dkH R m d (tlO ps)) = .ok (.loc (2 + (tlO ps).length)) (dkH R m d (tlO ps ++ [.lst ((rng n).map .int)])) := by
      rw [rg_cell hn (s_vrS.trans s_vr0)]
      rw [show (dkH R m d (tlO ps)).length = 2 + (tlO ps).length from by show (tlO ps).length + 1 + 1 = _; omega]
      rfl
    have a2 : emL lstL an [some (.loc 1), some (.int n), some (.loc 2), x3, x4, x5, x6] (dkH R m d (tlO ps ++ [.lst ((rng n).map .int)])) = .ok (.loc (3 + (tlO ps).length)) (dkH R m d (tlO ps ++ [.lst ((rng n).map .int), .lst (([] : List Int).map .int)])) := by
      rw [s_emL, s_an, s_bindok, w_lstL (Nat.zero_le _)]
      rw [show (dkH R m d (tlO ps ++ [.lst ((rng n).map .int)])).length = 3 + (tlO ps).length from by
        show (tlO ps ++ [MO.lst ((rng n).map .int)]).length + 1 + 1 = _
        rw [List.length_append]
        simp only [List.length_cons, List.length_nil]
        omega]
      show Res.ok _ (.lst (R.map .int) :: .dK (kv3 m d) :: ((tlO ps ++ [.lst ((rng n).map .int)]) ++ [.lst []])) = _
      rw [List.append_assoc]
      rfl
    unfold sPar2
    rw [s_ac, a1, s_bindok, s_ac, a2]
    rfl
  obtain ⟨R1, t, e2, t1, t2⟩ := pick_int hP [0, 0, 0, 1] (by simp) (by simp) R m d _ (low_two (left := rng n) (row := []) (low_tlO ps (by rw [tlO_len]; omega))) hR (by omega)
  have ht : 0 ≤ t ∧ t ≤ 1 := by
    simp only [List.mem_cons, List.not_mem_nil, or_false] at t1
    omega
  have e3 : itR1 (ac (emOp subT (vr 1) (emCall (arg 2 P) (ac (vr 0) (ac (emL lstK (ac (cst (.int 0)) (ac (cst (.int 0)) (ac (cst (.int 0)) (ac (cst (.int 1)) an))))) an)))) an) [some (.loc 1), some (.int n), some (.loc 2), x3, x4, some (.loc (2 + (tlO ps).length)), some (.loc (3 + (tlO ps).length))] (dkH R m d (tlO ps ++ [.lst ((rng n).map .int), .lst (([] : List Int).map .int)])) = .ok (rgL 0 ((n : Int) - t).toNat, none) (dkH R1 m (d + 1) (tlO ps ++ [.lst ((rng n).map .int), .lst (([] : List Int).map .int)])) := by
    refine g_rngs P e2 ?_
    unfold rgOk
    simp only [Bool.and_eq_true, decide_eq_true_eq]
    constructor <;> omega
  obtain ⟨y4, R2, left, row, e4, q1, q2⟩ := in_loop F hF (tlO ps) (low_tlO ps (by rw [tlO_len]; omega)) m (some (.int n)) (some (.loc 2)) x3 (rgL 0 ((n : Int) - t).toNat) (rgL 0 ((n : Int) - t).toNat) x4 (rng n) [] R1 (d + 1) (by rw [rgL_len, rng_len]; omega) (by rw [rng_len]; simp only [List.length_nil]; omega) (by omega) (by rw [rgL_len]; omega)
  rw [rgL_len] at e4 q1
  simp only [List.length_nil] at q1
  refine ⟨y4, some (.loc (2 + (tlO ps).length)), some (.loc (3 + (tlO ps).length)), R2, d + 1 + ((n : Int) - t).toNat, (left, row), ?_, by show row.length ≤ 1000; omega, by omega, by omega, by omega⟩
  have t2 : isTy "list" (dkH R2 m (d + 1 + ((n : Int) - t).toNat) (tlO ps ++ [.lst (left.map .int), .lst (row.map .int)])) (.loc 2) = true := rfl
  have eA : apT (.loc 2) [.loc (3 + (tlO ps).length)] (dkH R2 m (d + 1 + ((n : Int) - t).toNat) (tlO ps ++ [.lst (left.map .int), .lst (row.map .int)])) = .ok .non (dkH R2 m (d + 1 + ((n : Int) - t).toNat) (tlO (ps ++ [(left, row)]))) := by
    rw [w_ap2 (l := locs ps.length) rfl (by unfold locs; simp; exact Nat.lt_of_le_of_lt hps (by decide))]
    rw [set_tl]
  unfold bOut
  rw [s_sSeq, e1]
  simp only []
  rw [s_sSeq, s_sFor, e3, s_liftok, e4]
  simp only []
  unfold emBm
  rw [s_sDrop]
  simp only [s_vrS, s_vr0, s_bindok, t2, if_true, s_ac, s_an, eA, s_liftok]
theorem out_loop (hn : n ∈ ns4) (F P : FM) (hF : DrawOk F) (hP : PickOk P) (m : Int) (all : List T) : ∀ (ks : List T) (ps : List (List Int × List Int)) (R : List Int) (d : Int) (x3 x4 x5 x6 : Option T), ps.length + ks.length ≤ 10 → R.length ≤ 1000 → 0 ≤ d ∧ d + 6 * ks.length ≤ 900 → (∀ q ∈ ps, q.2.length ≤ 1000) →
    ∃ (y3 y4 y5 y6 : Option T) (R' : List Int) (d' : Int) (ps' : List (List Int × List Int)), forS none all (gmN 3) (bOut F P) ks [some (.loc 1), some (.int n), some (.loc 2), x3, x4, x5, x6] (dkH R m d (tlO ps)) = .nx [some (.loc 1), some (.int n), some (.loc 2), y3, y4, y5, y6] (dkH R' m d' (tlO ps')) ∧ ps'.length = ps.length + ks.length ∧ (∀ q ∈ ps', q.2.length ≤ 1000) ∧ R'.length ≤ R.length ∧ d ≤ d' ∧ d' ≤ d + 6 * ks.length
  | [], ps, R, d, x3, x4, x5, x6, _, _, _, hq => ⟨x3, x4, x5, x6, R, d, ps, rfl, rfl, hq, Nat.le_refl _, Int.le_refl _, by simp⟩
  | k :: ks, ps, R, d, x3, x4, x5, x6, h1, hR, hd, hq => by
    rw [List.length_cons] at h1 hd
    obtain ⟨y4, y5, y6, R1, d1, q, e, q1, q2, q3, q4⟩ := out_step hn F P hF hP m ps R d (some k) x4 x5 x6 (by omega) hR (by omega)
    obtain ⟨z3, z4, z5, z6, R2, d2, ps2, ih, p1, p2, p3, p4, p5⟩ := out_loop hn F P hF hP m all ks (ps ++ [q]) R1 d1 (some k) y4 y5 y6 (by simp only [List.length_append, List.length_cons, List.length_nil]; omega) (by omega) (by omega) (fun p hp => by
      rcases List.mem_append.mp hp with hp | hp
      · exact hq p hp
      · rw [List.mem_singleton.mp hp]; exact q1)
    refine ⟨z3, z4, z5, z6, R2, d2, ps2, ?_, by rw [p1]; simp only [List.length_append, List.length_cons, List.length_nil]; omega, p2, by omega, by omega, by rw [List.length_cons]; omega⟩
    rw [s_forSn]
    rw [show ([some (.loc 1), some (.int n), some (.loc 2), x3, x4, x5, x6] : Rho).set 3 (some k) = [some (.loc 1), some (.int n), some (.loc 2), some k, x4, x5, x6] from rfl]
    rw [e]
    simp only []
    exact ih
theorem frWs_map {α : Type} {g : Nat → Option T} {φ G : α → T} : ∀ {l : List α}, (∀ i ∈ l, frW g (φ i) = some (G i)) → frWs g (l.map φ) = some (l.map G)
  | [], _ => rfl
  | a :: l, h => frWs_cons (h a List.mem_cons_self) (frWs_map fun i hi => h i (List.mem_cons_of_mem _ hi))
theorem frz_lists (R : List Int) (m d : Int) (ps : List (List Int × List Int)) : frz (dkH R m d (tlO ps)) 2 (.loc 2) = some (lls (ps.map (·.2))) := by
  show (frWs (frL (dkH R m d (tlO ps)) 2 4) (locs ps.length)).map T.lst = _
  unfold locs
  rw [frWs_map (G := fun i => ls ((ps.map (·.2)).getD i []))]
  · unfold lls
    show some (T.lst _) = some (T.lst _)
    congr 2
    refine List.ext_getElem (by simp) fun i h1 h2 => ?_
    simp at h1
    simp [h1]
  · intro i hi
    rw [List.mem_range] at hi
    have e : (dkH R m d (tlO ps))[4 + 2 * i]? = some (.lst (((ps.map (·.2)).getD i []).map .int)) := by
      unfold dkH tlO
      rw [show 4 + 2 * i = (2 * i + 1) + 1 + 1 + 1 from by omega]
      simp only [List.getElem?_cons_succ]
      rw [cells_get]
      simp [hi]
    show frL (dkH R m d (tlO ps)) 2 4 (4 + 2 * i) = _
    unfold frL
    rw [if_neg (by omega), e]
    show (frWs _ _).map T.lst = _
    rw [frWs_low _ _ (low_int _)]
    rfl
def ListsOk (n : Nat) (L : FM) : Prop := ∀ (R : List Int) (m d : Int), R.length ≤ 1000 → 0 ≤ d ∧ d ≤ 800 → ∃ (R' : List Int) (d' : Int) (c : List (List Int)), L [.loc 1, .int n] (dkH R m d []) = .ok (lls c) (dkH R' m d' []) ∧ Sz c ∧ R'.length ≤ R.length ∧ 0 ≤ d' ∧ d' ≤ d + 20
theorem g_lists (hn : n ∈ ns4) (F P : FM) (hF : DrawOk F) (hP : PickOk P) (R : List Int) (m d : Int) (hR : R.length ≤ 1000) (hd : 0 ≤ d ∧ d ≤ 800) :
    ∃ (R' : List Int) (d' : Int) (ps : List (List Int × List Int)), sSeq (sSet 2 (emL lstL an)) (sSeq (sFor (itR1 (ac (emCall (arg 2 P) (ac (vr 0) (ac (emL lstK (ac (cst (.int 2)) (ac (cst (.int 1)) (ac (cst (.int 3)) (ac (cst (.int 2)) (ac (cst (.int 0)) (ac (cst (.int 1)) (ac (cst (.int 3)) (ac (cst (.int 2)) an))))))))) an))) an)) (gmN 3) (bOut F P)) (sRet (vr 2))) [some (.loc 1), some (.int n), none, none, none, none, none] (dkH R m d []) = .ret (.loc 2) (dkH R' m d' (tlO ps)) ∧ ps.length ≤ 10 ∧ (∀ q ∈ ps, q.2.length ≤ 1000) ∧ R'.length ≤ R.length ∧ 0 ≤ d' ∧ d' ≤ d + 20 := by
  have e1 : sSet 2 (emL lstL an) [some (.loc 1), some (.int n), none, none, none, none, none] (dkH R m d []) = .nx [some (.loc 1), some (.int n), some (.loc 2), none, none, none, none] (dkH R m d (tlO [])) := rfl
  obtain ⟨R1, t, e2, t1, t2⟩ := pick_int hP [2, 1, 3, 2, 0, 1, 3, 2] (by simp) (by simp) R m d (tlO []) (low_tlO [] (by rw [tlO_len]; simp)) hR (by omega)
  have ht : 0 ≤ t ∧ t ≤ 3 := by
    simp only [List.mem_cons, List.not_mem_nil, or_false] at t1
    omega
  have e3 : itR1 (ac (emCall (arg 2 P) (ac (vr 0) (ac (emL lstK (ac (cst (.int 2)) (ac (cst (.int 1)) (ac (cst (.int 3)) (ac (cst (.int 2)) (ac (cst (.int 0)) (ac (cst (.int 1)) (ac (cst (.int 3)) (ac (cst (.int 2)) an))))))))) an))) an) [some (.loc 1), some (.int n), some (.loc 2), none, none, none, none] (dkH R m d (tlO [])) = .ok (rgL 0 t.toNat, none) (dkH R1 m (d + 1) (tlO [])) := by
    have a1 : ∀ h, lstK [.int 2, .int 1, .int 3, .int 2, .int 0, .int 1, .int 3, .int 2] h = .ok (ls [2, 1, 3, 2, 0, 1, 3, 2]) h := fun h => rfl
    have a2 : rgOk t = true := by
      unfold rgOk
      simp only [Bool.and_eq_true, decide_eq_true_eq]
      constructor <;> omega
    unfold itR1
    simp [a1, e2, a2]
  obtain ⟨y3, y4, y5, y6, R2, d2, ps, e4, p1, p2, p3, p4, p5⟩ := out_loop hn F P hF hP m (rgL 0 t.toNat) (rgL 0 t.toNat) [] R1 (d + 1) none none none none (by rw [rgL_len]; simp only [List.length_nil]; omega) (by omega) (by rw [rgL_len]; omega) (fun q hq => nomatch hq)
  rw [rgL_len] at p1 p5
  simp only [List.length_nil] at p1
  refine ⟨R2, d2, ps, ?_, by omega, p2, by omega, by omega, by omega⟩
  rw [s_sSeq, e1]
  simp only []
  rw [s_sSeq, s_sFor, e3, s_liftok, e4]
  rfl
theorem listsOk (hn : n ∈ ns4) : ListsOk n m__law_lists := fun R m d hR hd => by
  obtain ⟨R', d', ps, e, p1, p2, p3, p4, p5⟩ := g_lists hn m__law_draw m__law_pick drawOk pickOk R m d hR hd
  refine ⟨R', d', ps.map (·.2), ?_, ⟨by rw [List.length_map]; omega, fun row hrow => ?_⟩, p3, p4, p5⟩
  · unfold m__law_lists pur
    rw [if_neg (by simp [lows, low, Nat.blt])]
    unfold reg fnB
    rw [show startR 7 [.loc 1, .int n] = [some (.loc 1), some (.int n), none, none, none, none, none] from rfl, show b__law_lists = _ from rfl]
    rw [show b__law_lists = sSeq (sSet 2 (emL lstL an)) (sSeq (sFor (itR1 (ac (emCall (arg 2 m__law_pick) (ac (vr 0) (ac (emL lstK (ac (cst (.int 2)) (ac (cst (.int 1)) (ac (cst (.int 3)) (ac (cst (.int 2)) (ac (cst (.int 0)) (ac (cst (.int 1)) (ac (cst (.int 3)) (ac (cst (.int 2)) an))))))))) an))) an)) (gmN 3) (bOut m__law_draw m__law_pick)) (sRet (vr 2))) from rfl, e]
    unfold endR
    show (match frz (dkH R' m d' (tlO ps)) 2 (.loc 2) with
      | some y => if okH (dkH R m d []) (dkH R' m d' (tlO ps)) = true then Res.ok y ((dkH R' m d' (tlO ps)).take 2) else .bad
      | none => .bad) = _
    rw [frz_lists]
    have ok : okH (dkH R m d []) (dkH R' m d' (tlO ps)) = true := by
      unfold okH
      have : lowH (dkH R m d []).length (dkH R' m d' (tlO ps)) = true := by
        show (lowO 2 (.lst (R'.map .int)) && (lowO 2 (.dK (kv3 m d')) && true)) = true
        rw [show lowO 2 (.lst (R'.map .int)) = true from lows_ints 2 R']
        rfl
      rw [this, Bool.or_true]
    simp only [if_pos ok]
    rfl
  · obtain ⟨q, hq, rfl⟩ := List.mem_map.mp hrow
    exact p2 q hq
end
section
open PySem.W (Datum Tup)
variable {n : Nat}
theorem cutX_map (ns : List Int) (lo hi : Option Int) : cutX (ns.map T.int) lo hi = (cutX ns lo hi).map T.int := by
  unfold cutX
  rw [List.length_map, ← List.map_drop, ← List.map_take]
theorem cutX_len {α : Type} (xs : List α) (lo hi : Option Int) : (cutX xs lo hi).length ≤ xs.length := by
  unfold cutX
  rw [List.length_take, List.length_drop]
  omega
theorem mix_loop (all : List T) (x0 x2 : Option T) : ∀ (ks : List Int) (x1 : Option T) (i : Int) (h : MH), ∃ (y1 : Option T) (j : Int), forS none all (gmN 1) (sSet 3 (emOp modT (emOp (adT lstK) (emOp (adT lstK) (emOp mulT (vr 3) (cst (.int 48271))) (vr 1)) (cst (.int 137))) (cst (.int 2147483629)))) (ks.map .int) [x0, x1, x2, some (.int i)] h = .nx [x0, y1, x2, some (.int j)] h
  | [], x1, i, h => ⟨x1, i, rfl⟩
  | k :: ks, x1, i, h => by
    obtain ⟨y1, j, ih⟩ := mix_loop all x0 x2 ks (some (.int k)) ((i * 48271 + k + 137) % 2147483629) h
    refine ⟨y1, j, ?_⟩
    rw [List.map_cons, s_forSn]
    have m3 : ∀ i h, mulT (.int i) (.int 48271) h = .ok (.int (i * 48271)) h := fun i h => w_mul (.inr (by omega))
    have d1 : ∀ i h, modT (.int i) (.int 2147483629) h = .ok (.int (i % 2147483629)) h := fun i h => w_mod (by omega)
    have e : (sSet 3 (emOp modT (emOp (adT lstK) (emOp (adT lstK) (emOp mulT (vr 3) (cst (.int 48271))) (vr 1)) (cst (.int 137))) (cst (.int 2147483629)))) (([x0, x1, x2, some (.int i)] : Rho).set 1 (some (.int k))) h = .nx [x0, some (.int k), x2, some (.int ((i * 48271 + k + 137) % 2147483629))] h := by
      simp [m3, d1]
    rw [e]
    exact ih
theorem x_deck (ns : List Int) (hl : ns.length ≤ 63) : ∃ (R : List Int) (m : Int), m__law_deck [.klst (ns.map .int)] [] = .ok (.loc 1) (dkH R m 0 []) ∧ R.length ≤ 1000 := by
  have cl : (cutX ns none (some 64)).length ≤ 63 := Nat.le_trans (cutX_len _ _ _) hl
  have d1 : ∀ i h, modT (.int i) (.int (10 ^ 18 + 9)) h = .ok (.int (i % (10 ^ 18 + 9))) h := fun i h => w_mod (by omega)
  have e1 : lcM lstK (itE (emSl lstK (vr 0) pNo (pSo (cst (.int 64))))) (gmN 1) tYes (emOp modT (emCall intF (ac (vr 1) an)) (emOp (adT lstK) (emOp powT (cst (.int 10)) (cst (.int 18))) (cst (.int 9)))) [1] [some (.klst (ns.map .int)), none, none, none] [] = .ok (ls ((cutX ns none (some 64)).map fun i => i % (10 ^ 18 + 9))) [] := by
    have a1 : emSl lstK (vr 0) pNo (pSo (cst (.int 64))) [some (.klst (ns.map .int)), none, none, none] [] = .ok (ls (cutX ns none (some 64))) [] := by
      show lstK (cutX (ns.map T.int) none (some 64)) [] = _
      rw [cutX_map, w_lstK (by rw [List.length_map]; exact Nat.le_trans cl (by decide))]
      rfl
    rw [s_lcM, s_itE, a1, s_bindok, show itOf (ls (cutX ns none (some 64))) [] = .ok ((cutX ns none (some 64)).map .int, none) [] from rfl, s_bindok]
    rw [lc_pure (p := fun _ => true) (f := fun x => match x with | .int i => .int (i % (10 ^ 18 + 9)) | y => y)]
    · rw [List.filter_eq_self.mpr (fun _ _ => rfl), s_bindok, List.map_map, w_lstK (by rw [List.length_map]; exact Nat.le_trans cl (by decide))]
      unfold ls
      rw [List.map_map]
      rfl
    · intro x _
      rfl
    · intro x hx _
      obtain ⟨i, _, rfl⟩ := List.mem_map.mp hx
      have p1 : ∀ h, powT (.int 10) (.int 18) h = .ok (.int (10 ^ 18)) h := fun h => rfl
      have p2 : ∀ h, intF [.int i] h = .ok (.int i) h := fun h => rfl
      have p3 : (wipeR [some (.klst (ns.map .int)), none, none, none] [1]).set 1 (some (.int i)) = [some (.klst (ns.map .int)), some (.int i), none, none] := rfl
      rw [p3]
      simp only [s_emOp, s_emCall, s_ac, s_vrS, s_vr0, s_bindok, s_an, p2, s_cst, p1, w_ad_int, d1]
  obtain ⟨y1, j, e2⟩ := mix_loop (((cutX ns none (some 64)).map fun i => i % (10 ^ 18 + 9)).map .int) (some (.klst (ns.map .int))) (some (ls ((cutX ns none (some 64)).map fun i => i % (10 ^ 18 + 9)))) ((cutX ns none (some 64)).map fun i => i % (10 ^ 18 + 9)) none 10872034 []
  have hL : ((cutX ns none (some 64)).map fun i => i % (10 ^ 18 + 9)).length ≤ 63 := by rw [List.length_map]; exact cl
  generalize ((cutX ns none (some 64)).map fun i => i % (10 ^ 18 + 9)) = L at e1 e2 hL
  refine ⟨L.reverse, j, ?_, by rw [List.length_reverse]; omega⟩
  unfold m__law_deck fnB
  rw [show startR 4 [.klst (ns.map .int)] = [some (.klst (ns.map .int)), none, none, none] from rfl]
  unfold b__law_deck
  have e3 : ∀ (it : EM), it [some (.klst (ns.map .int)), none, none, none] [] = .ok (ls L) [] → sPar2 2 3 (ac it (ac (cst (.int 10872034)) an)) [some (.klst (ns.map .int)), none, none, none] [] = .nx [some (.klst (ns.map .int)), none, some (ls L), some (.int 10872034)] [] := fun it e => by
    unfold sPar2
    rw [s_ac, e]
    rfl
  rw [s_sSeq, e3 _ e1]
  simp only []
  rw [s_sSeq, s_sFor, show itE (vr 2) [some (.klst (ns.map .int)), none, some (ls L), some (.int 10872034)] [] = .ok (L.map .int, none) [] from rfl, s_liftok, e2]
  simp only []
  have e4 : em1 (rvT lstL) (vr 2) [some (.klst (ns.map .int)), y1, some (ls L), some (.int j)] [] = .ok (.loc 0) [.lst (L.reverse.map .int)] := by
    show lstL (L.map T.int).reverse [] = _
    rw [w_lstL (by rw [List.length_reverse, List.length_map]; exact Nat.le_trans hL (by decide)), List.map_reverse]
    rfl
  rw [s_sRet]
  have e5 : ∀ f : EM, f [some (.klst (ns.map .int)), y1, some (ls L), some (.int j)] [] = .ok (.loc 0) [.lst (L.reverse.map .int)] → emD dicL [((cst (.str ("rest" : Str))), f), ((cst (.str ("mixed" : Str))), (vr 3)), ((cst (.str ("draws" : Str))), (cst (.int 0)))] [some (.klst (ns.map .int)), y1, some (ls L), some (.int j)] [] = .ok (.loc 1) (dkH L.reverse j 0 []) := fun f e => by
    unfold emD prR
    rw [s_cst, s_bindok, e]
    rfl
  rw [e5 _ e4]
  rfl
end
section
variable {n : Nat} {h : MH}
theorem f_tog : (ns4.all fun n => (sets n).all fun s => (sets n).all fun t => isOk (m_together [tp s, tp t] []) (tp (uni s t))) = true := by decide +kernel
theorem f_uni : ∀ n ∈ ns4, ∀ s ∈ sets n, ∀ t ∈ sets n, uni s t ∈ sets n := by decide +kernel
theorem x_tog (hn : n ∈ ns4) {s t : List Int} (hs : s ∈ sets n) (ht : t ∈ sets n) : m_together [tp s, tp t] h = .ok (tp (uni s t)) h := pur_is (List.all_eq_true.mp (List.all_eq_true.mp (all4 f_tog hn) s hs) t ht) (by simp only [lows, low_tp, Bool.and_self])
/-! choices by lists -/
structure Ch (C : List Int → List Int) : Prop where
  sub : ∀ {s x}, x ∈ C s → x ∈ s
  less : ∀ {s t x}, (∀ y ∈ s, y ∈ t) → x ∈ s → x ∈ C t → x ∈ C s
  same : ∀ {s t}, (∀ y ∈ s, y ∈ t) → (∀ y ∈ C t, y ∈ s) → C s = C t
  ext : ∀ {s t : List Int}, (∀ x, x ∈ s ↔ x ∈ t) → C s = C t
  lt : ∀ s, (C s).Pairwise (· < ·)
theorem ch_taken (c : List (List Int)) : Ch (taken c) := ⟨taken_sub, taken_less, taken_same, taken_ext, taken_lt c⟩
section
variable {N F : List Int → List Int} (hN : Ch N) (hF : Ch F) (St : List Int)
theorem Ch.self {C : List Int → List Int} (h : Ch C) (s : List Int) : C (C s) = C s := h.same (fun _ hy => h.sub hy) fun _ hy => hy
theorem Ch.pi {C : List Int → List Int} (h : Ch C) (s t : List Int) : C (C s ++ t) = C (s ++ t) := h.same (fun y hy => by
    rcases List.mem_append.mp hy with hy | hy
    · exact List.mem_append_left _ (h.sub hy)
    · exact List.mem_append_right _ hy) fun y hy => by
    rcases List.mem_append.mp (h.sub hy) with hy' | hy'
    · exact List.mem_append_left _ (h.less (fun z hz => List.mem_append_left _ hz) hy' hy)
    · exact List.mem_append_right _ hy'
/-- settled: agreed by both, none of St wished beside -/
def Stl (N F : List Int → List Int) (St m : List Int) : Prop := N m = m ∧ F m = m ∧ (∀ x ∈ m, x ∈ St) ∧ ∀ x ∈ St, x ∉ m → x ∈ N (m ++ [x]) → x ∈ F (m ++ [x]) → False
def out (St ref : List Int) : List Int := St.filter fun x => !decide (x ∈ ref)
theorem mem_out {St ref : List Int} {x : Int} : x ∈ out St ref ↔ x ∈ St ∧ x ∉ ref := by
  unfold out
  rw [List.mem_filter]
  simp
/-- a state of the rounds: refused, ever -/
structure Rd (N F : List Int → List Int) (St ref ever : List Int) : Prop where
  ref_iff : ∀ x, x ∈ ref ↔ x ∈ ever ∧ x ∉ F ever
  ever_in : ∀ x ∈ ever, x ∈ St
  prop : ∀ y ∈ ever, ∃ r0, (∀ x ∈ r0, x ∈ ref) ∧ y ∈ N (out St r0)
  none : ∀ m, Stl N F St m → ∀ x ∈ m, x ∉ ref
theorem Rd.start : Rd N F St [] [] := ⟨fun x => by simp, fun x h => (nomatch h), fun y h => (nomatch h), fun m _ x _ h => (nomatch h)⟩
variable {St}
include hN hF in
theorem Rd.step {ref ever ever' ref' : List Int} (r : Rd N F St ref ever) (he : ∀ x, x ∈ ever' ↔ x ∈ ever ∨ x ∈ N (out St ref)) (hr : ∀ x, x ∈ ref' ↔ x ∈ ever' ∧ x ∉ F ever') : Rd N F St ref' ever' ∧ ∀ x ∈ ref, x ∈ ref' := by
  have grow : ∀ x ∈ ref, x ∈ ref' := fun x hx => by
    obtain ⟨h1, h2⟩ := (r.ref_iff x).mp hx
    refine (hr x).mpr ⟨(he x).mpr (.inl h1), fun z => h2 (hF.less (fun y hy => (he y).mpr (.inl hy)) h1 z)⟩
  have prop : ∀ y ∈ ever', ∃ r0, (∀ x ∈ r0, x ∈ ref) ∧ y ∈ N (out St r0) := fun y hy => by
    rcases (he y).mp hy with hy | hy
    · exact r.prop y hy
    · exact ⟨ref, fun x hx => hx, hy⟩
  have inSt : ∀ x ∈ ever', x ∈ St := fun x hx => by
    rcases (he x).mp hx with hx | hx
    · exact r.ever_in x hx
    · exact (mem_out.mp (hN.sub hx)).1
  refine ⟨⟨hr, inSt, fun y hy => ?_, fun m hm x hx hx' => ?_⟩, grow⟩
  · obtain ⟨r0, h1, h2⟩ := prop y hy
    exact ⟨r0, fun x hx => grow x (h1 x hx), h2⟩
  · obtain ⟨e1, e2⟩ := (hr x).mp hx'
    obtain ⟨m1, m2, m3, m4⟩ := hm
    have q : ∃ y ∈ F (F ever' ++ m), y ∉ m := Classical.byContradiction fun z => by
      have z' : ∀ y ∈ F (F ever' ++ m), y ∈ m := fun y hy => Classical.byContradiction fun hy' => z ⟨y, hy, hy'⟩
      have e : F m = F (F ever' ++ m) := hF.same (fun y hy => List.mem_append_right _ hy) z'
      rw [m2, hF.pi] at e
      have : x ∈ F (ever' ++ m) := e ▸ hx
      exact e2 (hF.less (fun y hy => List.mem_append_left _ hy) e1 this)
    obtain ⟨y, y1, y2⟩ := q
    have y3 : y ∈ F ever' := by
      rcases List.mem_append.mp (hF.sub y1) with h | h
      · exact h
      · exact absurd h y2
    have y4 : y ∈ F (m ++ [y]) := hF.less (fun z hz => by
      rcases List.mem_append.mp hz with hz | hz
      · exact List.mem_append_right _ hz
      · rw [List.mem_singleton.mp hz]; exact List.mem_append_left _ y3) (by simp) y1
    have y5 := hF.sub y3
    obtain ⟨r0, h1, h2⟩ := prop y y5
    have y6 : y ∈ N (m ++ [y]) := hN.less (fun z hz => by
      rcases List.mem_append.mp hz with hz | hz
      · exact mem_out.mpr ⟨m3 z hz, fun w => r.none m ⟨m1, m2, m3, m4⟩ z hz (h1 z w)⟩
      · rw [List.mem_singleton.mp hz]; exact hN.sub h2) (by simp) h2
    exact m4 y (inSt y y5) y2 y6 y4
include hN hF in
/-- where a round refuses no more: what is kept -/
theorem Rd.over {ref ever ever' : List Int} (r : Rd N F St ref ever) (he : ∀ x, x ∈ ever' ↔ x ∈ ever ∨ x ∈ N (out St ref)) (hr : ∀ x, x ∈ ref ↔ x ∈ ever' ∧ x ∉ F ever') : N (out St ref) = F ever' ∧ Stl N F St (F ever') ∧ ∀ m, Stl N F St m → N (F ever' ++ m) = F ever' ∧ F (m ++ F ever') = m := by
  have e : N (out St ref) = F ever' := lt_eq (hN.lt _) (hF.lt _) fun x => by
    constructor
    · intro hx
      have h1 : x ∈ ever' := (he x).mpr (.inr hx)
      have h2 := (mem_out.mp (hN.sub hx)).2
      exact Classical.byContradiction fun z => h2 ((hr x).mpr ⟨h1, z⟩)
    · intro hx
      have h0 : x ∉ ref := fun z => ((hr x).mp z).2 hx
      rcases (he x).mp (hF.sub hx) with h1 | h1
      · obtain ⟨r0, q1, q2⟩ := r.prop x h1
        refine hN.less (fun y hy => ?_) (mem_out.mpr ⟨r.ever_in x h1, h0⟩) q2
        have := mem_out.mp hy
        exact mem_out.mpr ⟨this.1, fun z => this.2 (q1 y z)⟩
      · exact h1
  have inS : ∀ x ∈ F ever', x ∈ out St ref := fun x hx => hN.sub (e ▸ hx)
  refine ⟨e, ⟨by rw [← e]; exact hN.self _, hF.self _, fun x hx => (mem_out.mp (inS x hx)).1, fun x hx hx' z1 z2 => ?_⟩, fun m hm => ?_⟩
  · by_cases q : x ∈ ref
    · have : F (F ever' ++ [x]) = F ever' := hF.same (fun y hy => by
        rcases List.mem_append.mp hy with hy | hy
        · exact hF.sub hy
        · rw [List.mem_singleton.mp hy]; exact ((hr x).mp q).1) fun y hy => List.mem_append_left _ hy
      rw [this] at z2
      exact hx' z2
    · have : N (F ever' ++ [x]) = N (out St ref) := hN.same (fun y hy => by
        rcases List.mem_append.mp hy with hy | hy
        · exact inS y hy
        · rw [List.mem_singleton.mp hy]; exact mem_out.mpr ⟨hx, q⟩) fun y hy => by
          rw [e] at hy
          exact List.mem_append_left _ hy
      rw [this, e] at z1
      exact hx' z1
  · have mS : ∀ x ∈ m, x ∈ out St ref := fun x hx => mem_out.mpr ⟨hm.2.2.1 x hx, r.none m hm x hx⟩
    constructor
    · have : N (F ever' ++ m) = N (out St ref) := hN.same (fun y hy => by
        rcases List.mem_append.mp hy with hy | hy
        · exact inS y hy
        · exact mS y hy) fun y hy => by
          rw [e] at hy
          exact List.mem_append_left _ hy
      rw [this, e]
    · have : F m = F (m ++ F ever') := hF.same (fun y hy => List.mem_append_left _ hy) fun y hy => Classical.byContradiction fun ym => by
        have yP : y ∈ F ever' := by
          rcases List.mem_append.mp (hF.sub hy) with h | h
          · exact absurd h ym
          · exact h
        have y1 : y ∈ F (m ++ [y]) := hF.less (fun z hz => by
          rcases List.mem_append.mp hz with hz | hz
          · exact List.mem_append_left _ hz
          · rw [List.mem_singleton.mp hz]; exact List.mem_append_right _ yP) (by simp) hy
        have y2 : y ∈ N (m ++ [y]) := hN.less (t := out St ref) (fun z hz => by
          rcases List.mem_append.mp hz with hz | hz
          · exact mS z hz
          · rw [List.mem_singleton.mp hz]; exact inS y yP) (by simp) (e ▸ yP)
        exact hm.2.2.2 y (mem_out.mp (inS y yP)).1 ym y2 y1
      rw [← this]
      exact hm.2.1
end
end
section
local macro_rules | `(tactic| push_cast [$a,*]) => `(tactic| (refine Wp.seq ?_; intro fr e; simp [$a,*] at e; subst e; simp only [thn_nx, thn_ret]))
variable {n : Nat} {h : MH} {f g : List Int → List Int}
theorem set4 {s : List Int} (hn : n ∈ ns4) (hs : s ∈ sets n) : s.length ≤ 5 := by
  have : ∀ n ∈ ns4, ∀ s ∈ sets n, s.length ≤ 5 := by decide +kernel
  exact this n hn s hs
theorem w_tbl {s : List Int} (hs : s ∈ sets n) : ixT (.dT ((sets n).map keyL) ((sets n).map fun s => tp (f s))) (tp s) h = .ok (tp (f s)) h := w_ix_dT (f := fun s => tp (f s)) hs
end
section
local macro_rules | `(tactic| push_cast [$a,*]) => `(tactic| (refine Wp.seq ?_; intro fr e; simp [$a,*] at e; subst e; simp only [thn_nx, thn_ret]))
variable {n : Nat} {h : MH} {N F : List Int → List Int}
/-- what stands and was not refused -/
def fresh (ever kept : List Int) : List Int := ever.filter fun x => !decide (x ∈ kept)
def rnds (N F : List Int → List Int) (St : List Int) : Nat → List Int → List Int → List (List Int × List Int)
  | 0, _, _ => []
  | k + 1, ref, ever =>
    let p := N (out St ref)
    let ev := uni ever p
    (p, F ev) :: if fresh ev (F ev) = ref then [] else rnds N F St k (fresh ev (F ev)) ev
def prT (p : List Int × List Int) : T := .tup [tp p.1, tp p.2]
theorem filt_mem (hn : n ∈ ns4) {s : List Int} (hs : s ∈ sets n) (p : Int → Bool) : s.filter p ∈ sets n := sets_mem hn ((sets_lt n hn s hs).filter _) fun x hx => sets_rng n hn s hs x (List.mem_filter.mp hx).1
theorem Ch.mem {C : List Int → List Int} (h : Ch C) (hn : n ∈ ns4) {s : List Int} (hs : s ∈ sets n) : C s ∈ sets n := sets_mem hn (h.lt s) fun x hx => sets_rng n hn s hs x (h.sub hx)
theorem mem_fresh {ev k : List Int} {x : Int} : x ∈ fresh ev k ↔ x ∈ ev ∧ x ∉ k := by
  unfold fresh
  rw [List.mem_filter]
  simp
/-- the state at a round -/
structure Rs_ (N F : List Int → List Int) (n : Nat) (St : List Int) (k : Nat) (ref ever : List Int) : Prop where
  rd : Rd N F St ref ever
  r : ref ∈ sets n
  e : ever ∈ sets n
  k : n + 1 ≤ ref.length + k
theorem len_le (hn : n ∈ ns4) {s : List Int} (hs : s ∈ sets n) : s.length ≤ n := by
  have : ∀ n ∈ ns4, ∀ s ∈ sets n, s.length ≤ n := by decide +kernel
  exact this n hn s hs
theorem f_grow : ∀ n ∈ ns4, ∀ s ∈ sets n, ∀ t ∈ sets n, sub s t = true → t ≠ s → s.length < t.length := by decide +kernel
theorem step_ (hN : Ch N) (hF : Ch F) (hn : n ∈ ns4) {St : List Int} (hSt : St ∈ sets n) {k : Nat} {ref ever : List Int} (s : Rs_ N F n St k ref ever) :
    N (out St ref) ∈ sets n ∧ uni ever (N (out St ref)) ∈ sets n ∧ F (uni ever (N (out St ref))) ∈ sets n ∧ fresh (uni ever (N (out St ref))) (F (uni ever (N (out St ref)))) ∈ sets n ∧ 0 < k ∧
      (fresh (uni ever (N (out St ref))) (F (uni ever (N (out St ref)))) ≠ ref → Rs_ N F n St (k - 1) (fresh (uni ever (N (out St ref))) (F (uni ever (N (out St ref))))) (uni ever (N (out St ref)))) := by
  have a1 := hN.mem hn (filt_mem hn hSt fun x => !decide (x ∈ ref))
  have a2 := f_uni n hn ever s.e _ a1
  have a3 := hF.mem hn a2
  have a4 : fresh (uni ever (N (out St ref))) (F (uni ever (N (out St ref)))) ∈ sets n := filt_mem hn a2 _
  have l := len_le hn s.r
  have kk := s.k
  refine ⟨a1, a2, a3, a4, by omega, fun ne => ?_⟩
  obtain ⟨q1, q2⟩ := s.rd.step hN hF (ever' := uni ever (N (out St ref))) (ref' := fresh (uni ever (N (out St ref))) (F (uni ever (N (out St ref))))) (fun x => mem_uni) (fun x => mem_fresh)
  have := f_grow n hn _ s.r _ a4 (sub_iff.mpr q2) ne
  exact ⟨q1, a4, a2, by omega⟩
theorem start_ (n : Nat) (hn : n ∈ ns4) (St : List Int) : Rs_ N F n St (n + 1) [] [] := ⟨.start St, by
  have : ∀ n ∈ ns4, [] ∈ sets n := by decide +kernel
  exact this n hn, by
  have : ∀ n ∈ ns4, [] ∈ sets n := by decide +kernel
  exact this n hn, by simp⟩
theorem g_rounds (A B : FM) (hN : Ch N) (hF : Ch F) (hn : n ∈ ns4) {St : List Int} (hSt : St ∈ sets n) (hA : ∀ h, A [chO n N, chO n F, tp St] h = .ok .non h) (hB : ∀ s ∈ sets n, ∀ t ∈ sets n, ∀ h, B [tp s, tp t] h = .ok (tp (uni s t)) h) :
    Wp (B_rounds_of A B (startR 11 [chO n N, chO n F, tp St]) []) (fun fr => ∃ h', fr = .ret (.tup ((rnds N F St (n + 1) [] []).map prT)) h') := by
  unfold B_rounds_of
  push_cast [hA]
  push_cast []
  have n5 : n ≤ 5 := by
    simp only [ns4, List.mem_cons, List.not_mem_nil, or_false] at hn
    omega
  refine Wp.wh [4, 5, 6, 7, 8, 9] (fun k y h => k ≤ n + 1 ∧ ∃ rows ref ever, h = [.lst (rows.map prT)] ∧ y 4 = some (tp ever) ∧ y 5 = some (tp ref) ∧ rows.length ≤ 2 * (n + 1 - k) ∧
    ((y 6 = some (.bl true) ∧ rows = rnds N F St (n + 1) [] []) ∨ (y 6 = some (.bl false) ∧ Rs_ N F n St k ref ever ∧ rows ++ rnds N F St k ref ever = rnds N F St (n + 1) [] []))) (n + 1) (by omega) ?_ ?_
  · exact ⟨Nat.le_refl _, [], [], [], rfl, rfl, rfl, by simp, .inr ⟨rfl, start_ n hn St, rfl⟩⟩
  intro k y h hI
  obtain ⟨kl, rows, ref, ever, rfl, y4, y5, rl, hI⟩ := hI
  rcases hI with ⟨y6, er⟩ | ⟨y6, st, er⟩
  · left
    refine ⟨[.lst (rows.map prT)], ?_, ?_⟩
    · unfold L_rounds_of_2
      simp [setS, y4, y5, y6]
    · refine Wp.run ?_
      intro fr e
      simp [setS] at e
      rw [er] at e
      exact ⟨_, e.symm⟩
  · right
    obtain ⟨a1, a2, a3, a4, k0, nx⟩ := step_ hN hF hn hSt st
    refine ⟨[.lst (rows.map prT)], ?_, ?_⟩
    · unfold L_rounds_of_2
      simp [setS, y4, y5, y6]
    · unfold L_rounds_of_1
      have lS := len_le hn hSt
      have lE := len_le hn a2
      have tb : ∀ (f : List Int → List Int) (h : MH) (s : List Int), s ∈ sets n → ixT (.dT ((sets n).map keyL) ((sets n).map fun s => tp (f s))) (tp s) h = .ok (tp (f s)) h := fun f h s hs => w_tbl hs
      have eap : ∀ y, apT (.loc 0) [y] [.lst (rows.map prT)] = .ok .non [.lst (rows.map prT ++ [y])] := fun y => ap0 (by rw [List.length_map]; omega)
      refine Wp.seq ?_
      intro fr e
      simp [-s_lcM, setS, y4, y5, y6, at_table] at e
      rw [lcInt (s := St) (fun x => !decide (x ∈ ref)) rfl (by omega) (show 10 < 11 from by decide) (fun x _ => by simp [wipeR])] at e
      rw [show St.filter (fun x => !decide (x ∈ ref)) = out St ref from rfl] at e
      simp [tb N _ _ (filt_mem hn hSt fun x => !decide (x ∈ ref)), show out St ref ∈ sets n from filt_mem hn hSt _, tb] at e
      subst e
      simp only [thn_nx]
      push_cast [hB ever st.e _ a1]
      push_cast [at_table, tb F _ _ a2]
      push_cast [eap]
      refine Wp.seq ?_
      intro fr e
      simp [-s_lcM] at e
      rw [lcInt (s := uni ever (N (out St ref))) (fun x => !decide (x ∈ F (uni ever (N (out St ref))))) rfl (by omega) (show 10 < 11 from by decide) (fun x _ => by simp [wipeR])] at e
      simp at e
      subst e
      simp only [thn_nx]
      refine Wp.run ?_
      intro fr e
      simp at e
      subst e
      refine .inl ⟨fun i => [none, none, none, none, some (tp (uni ever (N (out St ref)))), some (tp (fresh (uni ever (N (out St ref))) (F (uni ever (N (out St ref)))))), some (.bl (decide (fresh (uni ever (N (out St ref))) (F (uni ever (N (out St ref)))) = ref))), some (tp (N (out St ref))), some (tp (F (uni ever (N (out St ref))))), some (tp (fresh (uni ever (N (out St ref))) (F (uni ever (N (out St ref))))))].getD i none, _, k - 1, rfl, by omega, by omega, rows ++ [(N (out St ref), F (uni ever (N (out St ref))))], fresh (uni ever (N (out St ref))) (F (uni ever (N (out St ref)))), uni ever (N (out St ref)), by simp [prT], rfl, rfl, by simp; omega, ?_⟩
      obtain ⟨j, rfl⟩ : ∃ j, k = j + 1 := ⟨k - 1, by omega⟩
      rw [rnds] at er
      by_cases q : fresh (uni ever (N (out St ref))) (F (uni ever (N (out St ref)))) = ref
      · left
        refine ⟨by simp [q], ?_⟩
        rw [← er]
        simp [q]
      · right
        refine ⟨by simp [q], nx q, ?_⟩
        rw [← er]
        simp [q]
theorem low_prT (rows : List (List Int × List Int)) : low 0 (.tup (rows.map prT)) = true := by
  show lows 0 (rows.map prT) = true
  induction rows with
  | nil => rfl
  | cons p rows ih => simp only [List.map_cons, lows, prT, low, low_tp, ih, Bool.and_self]
theorem x_rounds (hN : Ch N) (hF : Ch F) (hn : n ∈ ns4) {St : List Int} (hSt : St ∈ sets n) : m_rounds_of [chO n N, chO n F, tp St] h = .ok (.tup ((rnds N F St (n + 1) [] []).map prT)) h :=
  pur_wp (by simp only [lows, low_tp, low_chO, Bool.and_self]) (low_prT _) (g_rounds m_side_check_standing m_together hN hF hn hSt (fun h => x_cst hn hSt) fun s hs t ht h => x_tog hn hs ht)
end
section
local macro_rules | `(tactic| push_cast [$a,*]) => `(tactic| (refine Wp.seq ?_; intro fr e; simp [$a,*] at e; subst e; simp only [thn_nx, thn_ret]))
variable {n : Nat} {h : MH} {N F : List Int → List Int}
/-- what the rounds end in -/
theorem rnds_last (hN : Ch N) (hF : Ch F) (hn : n ∈ ns4) {St : List Int} (hSt : St ∈ sets n) : ∀ (k : Nat) (ref ever : List Int), Rs_ N F n St k ref ever →
    ∃ init q, rnds N F St k ref ever = init ++ [(q, q)] ∧ q ∈ sets n ∧ Stl N F St q ∧ ∀ m, Stl N F St m → N (q ++ m) = q ∧ F (m ++ q) = m
  | 0, ref, ever, s => by
    have := (step_ hN hF hn hSt s).2.2.2.2.1
    omega
  | k + 1, ref, ever, s => by
    obtain ⟨a1, a2, a3, a4, k0, nx⟩ := step_ hN hF hn hSt s
    rw [rnds]
    by_cases q : fresh (uni ever (N (out St ref))) (F (uni ever (N (out St ref)))) = ref
    · obtain ⟨e1, e2, e3⟩ := s.rd.over hN hF (ever' := uni ever (N (out St ref))) (fun x => mem_uni) (fun x => by
        have z : x ∈ fresh (uni ever (N (out St ref))) (F (uni ever (N (out St ref)))) ↔ _ := mem_fresh
        rw [q] at z
        exact z)
      refine ⟨[], F (uni ever (N (out St ref))), ?_, a3, e2, e3⟩
      simp only [if_pos q, List.nil_append]
      exact congrArg (fun z => [(z, F (uni ever (N (out St ref))))]) e1
    · obtain ⟨init, p, e, m1, m2, m3⟩ := rnds_last hN hF hn hSt k _ _ (nx q)
      refine ⟨(N (out St ref), F (uni ever (N (out St ref)))) :: init, p, ?_, m1, m2, m3⟩
      simp only [if_neg q, e]
      rfl
def best (N F : List Int → List Int) (n : Nat) (St : List Int) : List Int := ((rnds N F St (n + 1) [] []).getLastD ([], [])).2
theorem best_ok (hN : Ch N) (hF : Ch F) (hn : n ∈ ns4) {St : List Int} (hSt : St ∈ sets n) : (∃ init, rnds N F St (n + 1) [] [] = init ++ [(best N F n St, best N F n St)]) ∧ best N F n St ∈ sets n ∧ Stl N F St (best N F n St) ∧ ∀ m, Stl N F St m → N (best N F n St ++ m) = best N F n St ∧ F (m ++ best N F n St) = m := by
  obtain ⟨init, q, e, m1, m2, m3⟩ := rnds_last hN hF hn hSt _ _ _ (start_ n hn St)
  have : best N F n St = q := by
    unfold best
    rw [e]
    simp
  rw [this]
  exact ⟨⟨init, e⟩, m1, m2, m3⟩
theorem ix_end {xs : List T} {x : T} : ixT (.tup (xs ++ [x])) (.int (-1)) h = .ok x h := by
  show (match atI (xs ++ [x]) (-1) with
    | some z => Res.ok z h
    | none => .bad) = _
  have : atI (xs ++ [x]) (-1) = some x := by
    unfold atI
    have q : ixN (xs ++ [x]).length (-1) = some xs.length := by
      unfold ixN
      simp only [List.length_append, List.length_cons, List.length_nil]
      rw [if_neg (by omega), if_pos (by omega)]
      congr 1
      omega
    rw [q]
    simp
  rw [this]
theorem x_best (hN : Ch N) (hF : Ch F) (hn : n ∈ ns4) {St : List Int} (hSt : St ∈ sets n) : m_best_settled [chO n N, chO n F, tp St] h = .ok (tp (best N F n St)) h := by
  suffices ∀ A : FM, (∀ h, A [chO n N, chO n F, tp St] h = .ok (.tup ((rnds N F St (n + 1) [] []).map prT)) h) → Wp (B_best_settled A (startR 3 [chO n N, chO n F, tp St]) []) (fun fr => ∃ h', fr = .ret (tp (best N F n St)) h') from
    pur_wp (by simp only [lows, low_tp, low_chO, Bool.and_self]) (low_tp _) (this m_rounds_of fun h => x_rounds hN hF hn hSt)
  intro A hA
  obtain ⟨⟨init, e1⟩, _⟩ := best_ok hN hF hn hSt
  rw [e1, List.map_append, List.map_cons, List.map_nil] at hA
  unfold B_best_settled
  refine Wp.run ?_
  intro fr e
  simp [hA, ix_end, prT] at e
  exact ⟨_, e.symm⟩
/-! the law's settled sets -/
def W_ (f g : List Int → List Int) (s : List Int) (x : Int) : Bool := !decide (x ∈ s) && (decide (x ∈ f (ins s x)) && decide (x ∈ g (ins s x)))
def Q_ (f g : List Int → List Int) (st s : List Int) : Bool := decide (s.filter (fun x => decide (x ∈ st)) = s) && (decide (f s = s) && (decide (s = g s) && decide (st.filter (W_ f g s) = [])))
theorem eq_end {l : List Int} {hs : MH} : eqT (.loc hs.length) (.lst []) (hs ++ [.lst (l.map .int)]) = .ok (.bl (decide (l = []))) (hs ++ [.lst (l.map .int)]) := by
  unfold eqT
  have e1 : toD (hs ++ [.lst (l.map .int)]) deep (.loc hs.length) = some (PySem.W.Datum.toD l) := by
    have e0 : lstAt (hs ++ [.lst (l.map .int)]) hs.length = some (l.map .int) := by
      unfold lstAt
      simp
    show (match lstAt (hs ++ [MO.lst (l.map .int)]) hs.length with
      | some xs => (mapO (toD (hs ++ [MO.lst (l.map .int)]) 13) xs).map PyData.list
      | none => none) = _
    rw [e0]
    show (mapO (toD (hs ++ [MO.lst (l.map .int)]) 13) (l.map .int)).map PyData.list = _
    rw [mapO_int]
    rfl
  rw [e1, show toD (hs ++ [.lst (l.map .int)]) deep (.lst []) = some (PySem.W.Datum.toD ([] : List Int)) from toD_ls _ []]
  simp only [PySem.W.Datum.eqv]
theorem filt_end (p : Int → Bool) (pre : List Int) (a : Int) : (pre ++ [a]).filter p = pre.filter p ++ [a].filter p := List.filter_append ..
/-- how far the law's sets go -/
def kk (st : List Int) : Nat := match st.getLast? with
  | some x => (x + 1).toNat
  | none => 1
theorem f_kk : ∀ n ∈ ns4, ∀ st ∈ sets n, kk st ∈ ns4 ∧ ((sets (kk st)).filter fun s => decide (s.filter (fun x => decide (x ∈ st)) = s)) = (sets n).filter (fun s => sub s st) := by decide +kernel
theorem f_kkv : (ns4.all fun n => (sets n).all fun st => isOk (eIf (tmOf (emOp neT (vr 0) (emT an))) (emOp (adT lstK) (emOp ixT (vr 0) (em1 ngT (cst (.int 1)))) (cst (.int 1))) (cst (.int 1)) [some (tp st)] []) (.int (kk st))) = true := by decide +kernel
theorem v_kk (hn : n ∈ ns4) {st : List Int} (hst : st ∈ sets n) (x0 x1 x3 x4 x5 x6 x7 x8 : Option T) : eIf (tmOf (emOp neT (vr 2) (emT an))) (emOp (adT lstK) (emOp ixT (vr 2) (em1 ngT (cst (.int 1)))) (cst (.int 1))) (cst (.int 1)) [x0, x1, some (tp st), x3, x4, x5, x6, x7, x8] h = .ok (.int (kk st)) h := by
  simp only [ns4, List.mem_cons, List.not_mem_nil, or_false] at hn
  rcases hn with rfl | rfl | rfl | rfl | rfl <;> (simp only [sets, List.mem_cons, List.not_mem_nil, or_false] at hst; rcases hst with rfl | rfl | rfl | rfl | rfl | rfl | rfl | rfl | rfl | rfl | rfl | rfl | rfl | rfl | rfl | rfl | rfl | rfl | rfl | rfl | rfl | rfl | rfl | rfl | rfl | rfl | rfl | rfl | rfl | rfl | rfl | rfl <;> rfl)
theorem low_lts0 (ss : List (List Int)) : low 0 (lts ss) = true := lows_tp ss
end
section
variable {n : Nat} {h : MH}
/-- the deck, at most b draws done -/
def Dk (b : Int) (h : MH) : Prop := ∃ R m d, h = dkH R m d [] ∧ R.length ≤ 1000 ∧ 0 ≤ d ∧ d ≤ b
theorem Dk.up {b c : Int} (x : Dk b h) (e : b ≤ c) : Dk c h := by
  obtain ⟨R, m, d, e1, e2, e3, e4⟩ := x
  exact ⟨R, m, d, e1, e2, e3, by omega⟩
def Dr (F : FM) : Prop := ∀ (k b : Int) (h : MH), 0 < k → k < 1000000 → b ≤ 900 → Dk b h → ∃ h' v, F [.loc 1, .int k] h = .ok (.int v) h' ∧ Dk (b + 1) h' ∧ 0 ≤ v ∧ v < k
theorem dr_ok {F : FM} (H : DrawOk F) : Dr F := fun k b h h1 h2 hb x => by
  obtain ⟨R, m, d, rfl, e2, e3, e4⟩ := x
  obtain ⟨R', v, q1, q2, q3, q4⟩ := H k h1 h2 R m d [] rfl e2 (by omega)
  exact ⟨_, v, q1, ⟨R', m, d + 1, rfl, by omega, by omega, by omega⟩, q2, q3⟩
def Pk (F : FM) : Prop := ∀ (xs : List T) (b : Int) (h : MH), xs ≠ [] → xs.length < 1000000 → lows 0 xs = true → b ≤ 900 → Dk b h → ∃ h' x, F [.loc 1, .lst xs] h = .ok x h' ∧ Dk (b + 1) h' ∧ x ∈ xs
theorem lows_mem : ∀ {xs : List T}, lows 0 xs = true → ∀ x ∈ xs, low 0 x = true
  | [], _, _, h => nomatch h
  | y :: xs, h, x, hx => by
    simp only [lows, Bool.and_eq_true] at h
    rcases List.mem_cons.mp hx with rfl | hx
    · exact h.1
    · exact lows_mem h.2 x hx
theorem pk_ok {F : FM} (H : PickOk F) : Pk F := fun xs b h h1 h2 hl hb x => by
  obtain ⟨R, m, d, rfl, e2, e3, e4⟩ := x
  obtain ⟨R', v, q1, q2, q3⟩ := H xs h1 h2 (lows_mem hl) R m d [] rfl e2 (by omega)
  exact ⟨_, v, q1, ⟨R', m, d + 1, rfl, by omega, by omega, by omega⟩, q2⟩
theorem pk_set {F : FM} (H : Pk F) {ss : List (List Int)} {b : Int} {h : MH} (h0 : ss ≠ []) (hl : ss.length < 1000000) (hb : b ≤ 900) (x : Dk b h) : ∃ h' t, F [.loc 1, lts ss] h = .ok (tp t) h' ∧ Dk (b + 1) h' ∧ t ∈ ss := by
  obtain ⟨h', x, e, d, hx⟩ := H (ss.map tp) b h (by simpa using h0) (by simpa using hl) (lows_tp ss) hb x
  obtain ⟨t, ht, rfl⟩ := List.mem_map.mp hx
  exact ⟨h', t, e, d, ht⟩
theorem sets_ne : ∀ n ∈ ns4, sets n ≠ [] := by decide +kernel
theorem nil_mem : ∀ n ∈ ns4, [] ∈ sets n := by decide +kernel
theorem pk_sets {F : FM} (H : Pk F) (hn : n ∈ ns4) {b : Int} {h : MH} (hb : b ≤ 900) (x : Dk b h) : ∃ h' t, F [.loc 1, lts (sets n)] h = .ok (tp t) h' ∧ Dk (b + 1) h' ∧ t ∈ sets n :=
  pk_set H (sets_ne n hn) (Nat.lt_of_le_of_lt (sets_len n hn) (by decide)) hb x
theorem ix_last (hn : n ∈ ns4) : ixT (lts (sets n)) (.int (-1)) h = .ok (tp (rng n)) h := by
  simp only [ns4, List.mem_cons, List.not_mem_nil, or_false] at hn
  rcases hn with rfl | rfl | rfl | rfl | rfl <;> rfl
def Ls (L : FM) : Prop := ∀ n ∈ ns4, ∀ (b : Int) (h : MH), b ≤ 800 → Dk b h → ∃ h' c, L [.loc 1, .int (n : Nat)] h = .ok (lls c) h' ∧ Dk (b + 20) h' ∧ Sz c
theorem ls_ok : Ls m__law_lists := fun n hn b h hb x => by
  obtain ⟨R, m, d, rfl, e2, e3, e4⟩ := x
  obtain ⟨R', d', c, q1, q2, q3, q4, q5⟩ := listsOk hn R m d e2 (by omega)
  exact ⟨_, c, q1, ⟨R', m, d', rfl, by omega, by omega, by omega⟩, q2⟩
theorem deck_ok (ns : List Int) (hl : ns.length ≤ 63) : ∃ h', m__law_deck [.klst (ns.map .int)] [] = .ok (.loc 1) h' ∧ Dk 0 h' := by
  obtain ⟨R, m, e1, e2⟩ := x_deck ns hl
  exact ⟨_, e1, R, m, 0, rfl, e2, by omega, by omega⟩
/-- how many offers -/
theorem ns4_of {v : Int} (h1 : 0 ≤ v) (h2 : v < 4) : ∃ n : Nat, n ∈ ns4 ∧ 1 + v = n := by
  refine ⟨(1 + v).toNat, ?_, by omega⟩
  simp only [ns4, List.mem_cons, List.not_mem_nil, or_false]
  omega
theorem eqO_one {EQ : FM} {f g : List Int → List Int} {b : Bool} (e : EQ [chO n f, chO n g] h = .ok (.bl b) h) : eqO1 ("Chooser" : Str) EQ h (chO n f) (chO n g) = b := by
  have : eqO1 ("Chooser" : Str) EQ h (chO n f) (chO n g) = (decide (("Chooser" : Str) = "Chooser") && (decide (("Chooser" : Str) = "Chooser") && (match EQ [chO n f, chO n g] h with
    | .ok (.bl b) h' => b && beqH h' h
    | _ => false))) := rfl
  rw [this, e]
  simp [beqH_self]
theorem eqO_two {EQ : FM} {f g : List Int → List Int} (e : ∀ f, EQ [chO n f, chO n f] h = .ok (.bl true) h) : eqOT ("Chooser" : Str) EQ (.lst [chO n f, chO n g]) (.lst [chO n f, chO n g]) h = .ok (.bl true) h := by
  unfold eqOT
  have : eqOs ("Chooser" : Str) EQ h [chO n f, chO n g] [chO n f, chO n g] = true := by
    unfold eqOs
    unfold eqOs
    unfold eqOs
    rw [eqO_one (e f), eqO_one (e g)]
    rfl
  show (if eqOs ("Chooser" : Str) EQ h [chO n f, chO n g] [chO n f, chO n g] = true then Res.ok (T.bl true) h else .bad) = _
  rw [if_pos this]
/-- a law by its body -/
theorem law_of {B : SM} {N : Nat} {m : FM} (hm : m = pur (reg (fnB N B))) (w : ∀ (ns : List Int), ns.length ≤ 63 → Wp (B (startR N [.klst (ns.map .int)]) []) (fun fr => ∃ h', fr = .ret (.bl true) h')) : LawT m 63 := fun ns hl => by
  obtain ⟨h', e⟩ := w ns hl
  refine ⟨[], ?_⟩
  rw [hm]
  refine pur_ret (x := .bl true) (h' := h') ?_ e rfl
  show (lows 0 (ns.map .int) && true) = true
  rw [lows_ints]
  rfl
end
section
local macro_rules | `(tactic| push_cast [$a,*]) => `(tactic| (refine Wp.seq ?_; intro fr e; simp [$a,*] at e; subst e; simp only [thn_nx, thn_ret]))
variable {n : Nat} {h : MH} {N F : List Int → List Int}
/-- as good as -/
def gd (f : List Int → List Int) (s t : List Int) : Bool := decide (f (uni s t) = s)
theorem Ch.uni_app {C : List Int → List Int} (hC : Ch C) (s t : List Int) : C (uni s t) = C (s ++ t) := hC.ext fun x => by rw [mem_uni, List.mem_append]
theorem gd_trans {C : List Int → List Int} (hC : Ch C) {a b c : List Int} (h1 : gd C a b = true) (h2 : gd C b c = true) : gd C a c = true := by
  simp only [gd, decide_eq_true_eq, hC.uni_app] at h1 h2 ⊢
  have e : C (a ++ (b ++ c)) = a := by
    rw [hC.ext (t := (b ++ c) ++ a) (fun x => by simp [or_comm, or_assoc, or_left_comm]), ← hC.pi, h2, hC.ext (t := a ++ b) (fun x => by simp [or_comm])]
    exact h1
  rw [← e]
  rw [hC.same (s := C (a ++ (b ++ c)) ++ c) (t := a ++ (b ++ c))]
  · rw [e]; exact fun y hy => by
      rcases List.mem_append.mp hy with hy | hy
      · exact List.mem_append_left _ hy
      · exact List.mem_append_right _ (List.mem_append_right _ hy)
  · exact fun y hy => List.mem_append_left _ hy
def GoodOk (n : Nat) (f : List Int → List Int) (G : FM) : Prop := ∀ s ∈ sets n, ∀ t ∈ sets n, ∀ h, G [chO n f, tp s, tp t] h = .ok (.bl (gd f s t)) h
def BetOk (n : Nat) (c : List (List Int)) (f : List Int → List Int) (G : FM) : Prop := ∀ s ∈ sets n, ∀ t ∈ sets n, ∀ h, G [lls c, tp s, tp t] h = .ok (.bl (gd f s t)) h
theorem cut_map (ss : List (List Int)) : cutX (ss.map tp) none (some 4) = (cutX ss none (some 4)).map tp := by
  unfold cutX
  rw [List.length_map, ← List.map_drop, ← List.map_take]
theorem cut_mem {ss : List (List Int)} {s : List Int} (h : s ∈ cutX ss none (some 4)) : s ∈ ss := by
  unfold cutX at h
  exact List.drop_subset _ _ (List.take_subset _ _ h)
theorem sl_4 {ss : List (List Int)} (hl : ss.length ≤ 32) : slT lstK (lts ss) none (some 4) h = .ok (lts (cutX ss none (some 4))) h := by
  show lstK (cutX (ss.map tp) none (some 4)) h = _
  rw [cut_map]
  refine w_lstK ?_
  rw [List.length_map]
  exact Nat.le_trans (cutX_len _ _ _) (Nat.le_trans hl (by decide))
def D_ (n : Nat) (f g : List Int → List Int) (st : List Int) : List (List Int) := ((sets n).filter fun t => sub t st).filter (stl f g st)
theorem alone_eq (hn : n ∈ ns4) {st : List Int} (hst : st ∈ sets n) : (sets (kk st)).filter (Q_ N F st) = D_ n N F st := by
  obtain ⟨_, e⟩ := f_kk n hn st hst
  unfold D_
  rw [← e, List.filter_filter]
  refine List.filter_congr fun s _ => ?_
  unfold Q_ stl agr
  by_cases q1 : s.filter (fun x => decide (x ∈ st)) = s
  · by_cases q2 : N s = s
    · by_cases q3 : F s = s
      · simp only [q1, q2, q3, decide_true, Bool.true_and, Bool.and_true]
        rfl
      · have : ¬ s = F s := fun z => q3 z.symm
        simp [q3, this]
    · simp [q2]
  · simp only [decide_eq_false q1, Bool.false_and, Bool.and_false]
theorem mem_D (hN : Ch N) (hF : Ch F) {st m : List Int} : m ∈ D_ n N F st ↔ m ∈ sets n ∧ Stl N F st m := by
  unfold D_
  rw [List.mem_filter, List.mem_filter, sub_iff]
  unfold stl agr wis Stl
  simp only [Bool.and_eq_true, decide_eq_true_eq, List.filter_eq_nil_iff, Bool.not_eq_true', decide_eq_false_iff_not]
  have en : ∀ {C : List Int → List Int}, Ch C → ∀ s x, C (ins s x) = C (s ++ [x]) := fun hC s x => hC.ext fun y => by rw [mem_ins]; simp
  constructor
  · rintro ⟨⟨h1, h2⟩, ⟨h3, h4⟩, h5⟩
    refine ⟨h1, h3, h4, h2, fun x hx hx' z1 z2 => h5 x hx ⟨hx', ?_, ?_⟩⟩
    · rw [en hN]; exact z1
    · rw [en hF]; exact z2
  · rintro ⟨h1, h3, h4, h2, h5⟩
    refine ⟨⟨h1, h2⟩, ⟨h3, h4⟩, fun x hx z => h5 x hx z.1 ?_ ?_⟩
    · rw [← en hN]; exact z.2.1
    · rw [← en hF]; exact z.2.2
theorem Stl.sw {st m : List Int} (h : Stl N F st m) : Stl F N st m := ⟨h.2.1, h.1, h.2.2.1, fun x hx hx' z1 z2 => h.2.2.2 x hx hx' z2 z1⟩
theorem gd_both (hN : Ch N) {s t : List Int} (hs : N s = s) (ht : N t = t) : (gd N s t && gd N t s) = decide (s = t) := by
  have e : N (uni s t) = N (uni t s) := hN.ext fun x => by rw [mem_uni, mem_uni, or_comm]
  unfold gd
  rw [e, Bool.eq_iff_iff]
  simp only [Bool.and_eq_true, decide_eq_true_eq]
  constructor
  · rintro ⟨h1, h2⟩
    exact h1.symm.trans h2
  · rintro rfl
    have : N (uni s s) = s := (hN.ext fun x => by rw [mem_uni, or_self]).trans hs
    exact ⟨this, this⟩
end
end K41
namespace K41
open PySem PySem.Spec L2 TW
local macro_rules | `(tactic| push_cast [$a,*]) => `(tactic| (refine Wp.seq ?_; intro fr e; simp [$a,*] at e; subst e; simp only [thn_nx, thn_ret]))
variable {n : Nat} {h : MH}
/-! a chooser made where cells stand -/
def enI {α : Type} : Nat → List α → List (Nat × α)
  | _, [] => []
  | i, x :: xs => (i, x) :: enI (i + 1) xs
def encI (p : Nat × List Int) : T := .tup [.int (p.1 : Nat), tp p.2]
theorem enI_map : ∀ (i : Nat) (xs : List (List Int)), enL i (xs.map tp) = (enI i xs).map encI
  | _, [] => rfl
  | i, x :: xs => by
    rw [List.map_cons, enL, enI, List.map_cons, enI_map]
    rfl
theorem enI_at : ∀ {i : Nat} {xs : List (List Int)} {p q : List (Nat × List Int)} {j : Nat} {s : List Int}, enI i xs = p ++ (j, s) :: q → j = i + p.length ∧ xs = p.map (·.2) ++ s :: q.map (·.2)
  | i, [], p, q, j, s, e => by cases p <;> simp [enI] at e
  | i, x :: xs, [], q, j, s, e => by
    simp only [enI, List.nil_append, List.cons.injEq, Prod.mk.injEq] at e
    obtain ⟨⟨rfl, rfl⟩, rfl⟩ := e
    refine ⟨by simp, ?_⟩
    have : ∀ (k : Nat) (ys : List (List Int)), (enI k ys).map (·.2) = ys := fun k ys => by
      induction ys generalizing k with
      | nil => rfl
      | cons y ys ih => simp only [enI, List.map_cons, ih]
    simp [this]
  | i, x :: xs, a :: p, q, j, s, e => by
    simp only [enI, List.cons_append, List.cons.injEq] at e
    obtain ⟨rfl, e⟩ := e
    obtain ⟨h1, h2⟩ := enI_at e
    refine ⟨by rw [h1, List.length_cons]; omega, ?_⟩
    rw [h2]
    rfl
section
variable {pre : MH} {a b c : MO}
theorem pg_0 {t : MH} : (pre ++ a :: t)[pre.length]? = some a := by simp
theorem pg_1 {t : MH} : (pre ++ a :: b :: t)[pre.length + 1]? = some b := by simp
theorem ps_0 {t : MH} : (pre ++ a :: t).set pre.length c = pre ++ c :: t := by simp
theorem ps_1 {t : MH} : (pre ++ a :: b :: t).set (pre.length + 1) c = pre ++ a :: c :: t := by
  rw [List.set_append_right _ _ (by omega), show pre.length + 1 - pre.length = 1 from by omega]
  rfl
theorem st_at {kvs : List (List Key × T)} {s : List Int} {v : T} (hl : kvs.length < sizeLine) : stT (.loc (pre.length + 1)) (tp s) v (pre ++ [a, .dT kvs]) = some (pre ++ [a, .dT (putT kvs (keyL s) v)]) := by
  unfold stT
  simp only [pg_1, kys_tp]
  rw [if_pos hl, ps_1]
theorem att_at {nm : Str} {v : EM} {z : T} {fs : List (Str × T)} {l : Rho} {t : MH} (e1 : v (some (.loc pre.length) :: l) (pre ++ .ins "Chooser" fs :: t) = .ok z (pre ++ .ins "Chooser" fs :: t)) (e2 : fs.length < 1000) : sAtt [("Chooser" : Str)] nm (vr 0) v (some (.loc pre.length) :: l) (pre ++ .ins "Chooser" fs :: t) = .nx (some (.loc pre.length) :: l) (pre ++ .ins "Chooser" (putA nm z fs) :: t) := by
  have q : ("Chooser" : Str) ∈ [("Chooser" : Str)] ∧ fs.length < 1000 := ⟨List.mem_cons_self, e2⟩
  unfold sAtt
  rw [e1, s_liftok, s_vr0, s_liftok]
  simp only [pg_0]
  rw [if_pos q, ps_0]
end
theorem g_init (W AS IS PT : FM) (hn : n ∈ ns4) (f : List Int → List Int) (hf : ∀ s ∈ sets n, f s ∈ sets n ∧ sub (f s) s = true) (pre : MH) (hW : ∀ i h, W [.int i] h = .ok (.bl true) h) (hAS : ∀ h, AS [.int n] h = .ok (tts (sets n)) h)
    (hIS : ∀ s ∈ sets n, ∀ h, IS [.int n, tp s] h = .ok (.bl true) h) (hPT : ∀ s ∈ sets n, ∀ t ∈ sets n, ∀ h, PT [tp s, tp t] h = .ok (.bl (sub s t)) h) :
    Wp (B_Chooser___init__ W AS IS PT (startR 8 [.loc pre.length, .int n, tts ((sets n).map f)]) (pre ++ [.ins "Chooser" []])) (fun fr => ∃ r, fr = .nx r (pre ++ [.ins "Chooser" [(("offers" : Str), .int n), (("picks" : Str), tts ((sets n).map f)), (("table" : Str), .loc (pre.length + 1)), (("places" : Str), tp (rng n))], .dT ((sets n).map (kvf f))])) := by
  have n6 : (1 : Int) ≤ n ∧ (n : Int) ≤ 6 := by
    simp only [ns4, List.mem_cons, List.not_mem_nil, or_false] at hn
    omega
  have eR : ∀ (h : MH) (x0 : Option T) (l : Rho), emRgT (rg1 (vr 1)) (x0 :: some (.int n) :: l) h = .ok (tp (rng n)) h := fun h x0 l => rg_rng (h := h) hn
  unfold B_Chooser___init__
  push_cast [hW, n6.1, n6.2]
  push_cast [hAS]
  push_cast [show ∀ h, isiTF [tts ((sets n).map f), .ty "tuple"] h = .ok (.bl true) h from fun _ => rfl, show ∀ h, lenF [tts ((sets n).map f)] h = .ok (.int (sets n).length) h from fun h => by rw [show tts ((sets n).map f) = .tup (((sets n).map f).map tp) from rfl, w_len_tup, List.length_map, List.length_map], show ∀ h, lenF [tts (sets n)] h = .ok (.int (sets n).length) h from fun h => by rw [show tts (sets n) = .tup ((sets n).map tp) from rfl, w_len_tup, List.length_map]]
  refine Wp.seq ?_
  intro fr e
  rw [s_sSet, show ∀ r, dnT r (pre ++ [.ins "Chooser" []]) = .ok (.loc (pre.length + 1)) (pre ++ [.ins "Chooser" [], .dT []]) from fun r => by
    show Res.ok (T.loc (pre ++ [MO.ins "Chooser" []]).length) (pre ++ [MO.ins "Chooser" []] ++ [.dT []]) = _
    rw [List.length_append, List.append_assoc]
    rfl] at e
  simp only [s_liftok, List.set_cons_succ, List.set_cons_zero] at e
  subst e
  simp only [thn_nx]
  refine Wp.forG (enc := encI) (xs := enI 0 (sets n)) (h1 := pre ++ [.ins "Chooser" [], .dT []]) [5, 6, 7] (fun (p : List (Nat × List Int)) _ h => h = pre ++ [.ins "Chooser" [], .dT ((p.map (·.2)).map (kvf f))])
    (fun p r => (r.set 5 (some (.int (p.1 : Nat)))).set 6 (some (tp p.2))) ?_ (fun _ _ => rfl) rfl ?_ ?_
  · rw [← enI_map]
    rfl
  · rintro p ⟨i, s⟩ post y h ep hh
    subst hh
    obtain ⟨ei, es⟩ := enI_at ep
    rw [Nat.zero_add] at ei
    subst ei
    have hs : s ∈ sets n := by rw [es]; simp
    have nd := sets_nd n hn
    rw [es] at nd
    have hs' : s ∉ p.map (·.2) := fun hx => (List.nodup_append.mp nd).2.2 s hx s List.mem_cons_self rfl
    have e1 : ∀ h : MH, ixT (tts ((sets n).map f)) (.int (p.length : Nat)) h = .ok (tp (f s)) h := fun h => w_ix_tup (by
      rw [es]
      simp)
    have hl : (p.map (·.2)).length < sizeLine := by
      have := sets_len n hn
      rw [es] at this
      simp at this
      rw [List.length_map]
      exact Nat.lt_of_le_of_lt (show p.length ≤ 32 by omega) (by decide)
    have e4 : stT (.loc (pre.length + 1)) (tp s) (tp (f s)) (pre ++ [.ins "Chooser" [], .dT ((p.map (fun q => q.2)).map (kvf f))]) = some (pre ++ [.ins "Chooser" [], .dT ((p.map (fun q => q.2) ++ [s]).map (kvf f))]) := by
      rw [st_at (by rw [List.length_map]; exact hl), put_kvf f _ s hs']
    generalize hL : p.map (·.2) = L at *
    unfold L_Chooser___init___1
    push_cast [setS, e1]
    push_cast [hIS (f s) (hf s hs).1, hPT (f s) (hf s hs).1 s hs, (hf s hs).2]
    refine Wp.run ?_
    intro fr e
    simp only [List.map_append, List.map_cons, List.map_nil] at e4
    simp [sSub, e4] at e
    subst e
    refine .inl ⟨fun i => [none, none, none, none, none, some (.int (p.length : Nat)), some (tp s), some (tp (f s))].getD i none, _, rfl, ?_⟩
    rw [List.map_append, hL]
    simp
  · intro y h hh
    subst hh
    have : (enI 0 (sets n)).map (·.2) = sets n := by
      have : ∀ (k : Nat) (ys : List (List Int)), (enI k ys).map (·.2) = ys := fun k ys => by
        induction ys generalizing k with
        | nil => rfl
        | cons y ys ih => simp only [enI, List.map_cons, ih]
      exact this 0 _
    rw [this]
    simp only [setS, List.set_cons_succ, List.set_cons_zero]
    refine Wp.seq ?_
    intro fr e
    rw [att_at (z := .int n) (by simp) (by simp), show putA ("offers" : Str) (.int n) [] = [(("offers" : Str), .int n)] from rfl] at e
    subst e
    simp only [thn_nx]
    refine Wp.seq ?_
    intro fr e
    rw [att_at (z := tts ((sets n).map f)) (by simp) (by simp), put_p1] at e
    subst e
    simp only [thn_nx]
    refine Wp.seq ?_
    intro fr e
    rw [att_at (z := .loc (pre.length + 1)) (by simp) (by simp), put_p2] at e
    subst e
    simp only [thn_nx]
    refine Wp.run ?_
    intro fr e
    rw [att_at (z := tp (rng n)) (eR _ _ _) (by simp), put_p3] at e
    subst e
    exact ⟨_, rfl⟩
theorem x_init2 (hn : n ∈ ns4) (f : List Int → List Int) (hf : ∀ s ∈ sets n, f s ∈ sets n ∧ sub (f s) s = true) (pre : MH) : m_Chooser___init__ [.loc pre.length, .int n, tts ((sets n).map f)] (pre ++ [.ins "Chooser" []]) = .ok .non (pre ++ [.ins "Chooser" [(("offers" : Str), .int n), (("picks" : Str), tts ((sets n).map f)), (("table" : Str), .loc (pre.length + 1)), (("places" : Str), tp (rng n))], .dT ((sets n).map (kvf f))]) := by
  obtain ⟨r, e⟩ := g_init m_is_whole m_all_sets m_is_set m_chooser_is_part hn f hf pre (fun i h => x_is_whole i) (fun h => x_all_sets hn) (fun s hs h => x_is_set hn hs) (fun s hs t ht h => x_part hn hs ht)
  show fnB 8 (B_Chooser___init__ m_is_whole m_all_sets m_is_set m_chooser_is_part) _ _ = _
  unfold fnB
  rw [e]
theorem x_mk2 (hn : n ∈ ns4) (f : List Int → List Int) (hf : ∀ s ∈ sets n, f s ∈ sets n ∧ sub (f s) s = true) {r : Rho} {g : AM} {pre : MH} (hg : g r pre = .ok [.int n, tts ((sets n).map f)] pre) : regE (emMk ("Chooser" : Str) 2 m_Chooser___init__ g) r pre = .ok (chO n f) pre := by
  unfold regE emMk
  rw [hg]
  show endR pre ((m_Chooser___init__ [.loc pre.length, .int n, tts ((sets n).map f)] (pre ++ [.ins "Chooser" []])).bind _) = _
  rw [x_init2 hn f hf pre]
  show endR pre (.ok (.loc pre.length) (pre ++ [.ins "Chooser" [(("offers" : Str), .int n), (("picks" : Str), tts ((sets n).map f)), (("table" : Str), .loc (pre.length + 1)), (("places" : Str), tp (rng n))], .dT ((sets n).map (kvf f))])) = _
  generalize hH : pre ++ [.ins "Chooser" [(("offers" : Str), .int n), (("picks" : Str), tts ((sets n).map f)), (("table" : Str), .loc (pre.length + 1)), (("places" : Str), tp (rng n))], .dT ((sets n).map (kvf f))] = H
  have g0 : H[pre.length]? = some (.ins "Chooser" [(("offers" : Str), .int n), (("picks" : Str), tts ((sets n).map f)), (("table" : Str), .loc (pre.length + 1)), (("places" : Str), tp (rng n))]) := by rw [← hH]; exact pg_0
  have g1 : H[pre.length + 1]? = some (.dT ((sets n).map (kvf f))) := by rw [← hH]; exact pg_1
  have t1 : frL H pre.length 4 (pre.length + 1) = some (.dT ((sets n).map keyL) ((sets n).map fun s => tp (f s))) := by
    unfold frL
    rw [if_neg (by omega), g1]
    show (frWs (frL H pre.length 3) (((sets n).map (kvf f)).map (·.2))).map (T.dT (((sets n).map (kvf f)).map (·.1))) = _
    rw [List.map_map, List.map_map, show (fun x : List Key × T => x.2) ∘ kvf f = fun s => tp (f s) from rfl, frWs_low _ _ (lows_tpf f _)]
    rfl
  have t0 : frz H pre.length (.loc pre.length) = some (chO n f) := by
    show frL H pre.length 5 pre.length = _
    unfold frL
    rw [if_neg (by omega), g0]
    show (frWs (frL H pre.length 4) [.int n, tts ((sets n).map f), .loc (pre.length + 1), tp (rng n)]).map (T.obj "Chooser" ["offers", "picks", "table", "places"]) = _
    rw [frWs_cons (frW_low _ _ rfl) (frWs_cons (frW_low _ _ (low_tts _)) (frWs_cons (show frW (frL H pre.length 4) (.loc (pre.length + 1)) = _ from t1) (frWs_cons (frW_low _ _ (low_tp _)) (show frWs _ [] = some [] from rfl))))]
    rfl
  have tk : H.take pre.length = pre := by rw [← hH]; simp
  unfold endR
  simp only [t0]
  rw [if_pos (by unfold okH; rw [tk, beqH_self, Bool.true_or]), tk]
end K41
namespace K41
open PySem PySem.Spec L2 TW
variable {n : Nat} {h : MH} {N F : List Int → List Int} {o : List Int}
/-! ### other names -/
def Od (n : Nat) (o : List Int) : Prop := o.Perm (rng n)
def sg (o : List Int) (x : Int) : Int := o.getD x.toNat 0
theorem mem_rng {x : Int} : x ∈ rng n ↔ 0 ≤ x ∧ x < n := by
  unfold rng
  rw [List.mem_map]
  constructor
  · rintro ⟨k, hk, rfl⟩
    rw [List.mem_range] at hk
    show (0 : Int) ≤ (k : Int) ∧ (k : Int) < n
    omega
  · rintro ⟨h1, h2⟩
    exact ⟨x.toNat, List.mem_range.mpr (by omega), by show ((x.toNat : Nat) : Int) = x; omega⟩
theorem Od.len (ho : Od n o) : o.length = n := by
  rw [List.Perm.length_eq ho]
  exact rng_len n
theorem sg_at (ho : Od n o) {x : Int} (hx : x ∈ rng n) : o[x.toNat]? = some (sg o x) := by
  have h1 := mem_rng.mp hx
  have hl := ho.len
  unfold sg
  rw [List.getD_eq_getElem?_getD, List.getElem?_eq_getElem (by omega)]
  rfl
theorem sg_mem (ho : Od n o) {x : Int} (hx : x ∈ rng n) : sg o x ∈ rng n := ho.mem_iff.mp (List.mem_of_getElem? (sg_at ho hx))
theorem Od.nd (ho : Od n o) (hn : n ∈ ns4) : o.Nodup := (List.Perm.nodup_iff ho).mpr ((rng_lt n hn).imp fun h => Int.ne_of_lt h)
theorem sg_inj (hn : n ∈ ns4) (ho : Od n o) {x y : Int} (hx : x ∈ rng n) (hy : y ∈ rng n) (e : sg o x = sg o y) : x = y := by
  have h1 := sg_at ho hx
  have h2 := sg_at ho hy
  rw [← e] at h2
  have m1 := mem_rng.mp hx
  have m2 := mem_rng.mp hy
  have hl := ho.len
  have q := (List.getElem?_inj (by omega) (ho.nd hn)).mp (h1.trans h2.symm)
  omega
theorem sg_sur (ho : Od n o) {y : Int} (hy : y ∈ rng n) : ∃ x ∈ rng n, sg o x = y := by
  have := ho.mem_iff.mpr hy
  obtain ⟨i, hi, e⟩ := List.getElem_of_mem this
  have hl := ho.len
  refine ⟨(i : Nat), mem_rng.mpr ⟨by omega, by omega⟩, ?_⟩
  unfold sg
  rw [Int.toNat_natCast, List.getD_eq_getElem?_getD, List.getElem?_eq_getElem hi]
  exact e
/-- a set by its new names -/
def nm (o s : List Int) : List Int := sortI (s.map (sg o))
theorem mem_nm {s : List Int} {y : Int} : y ∈ nm o s ↔ ∃ x ∈ s, sg o x = y := by
  unfold nm
  rw [mem_sortI, List.mem_map]
def Sb (n : Nat) (s : List Int) : Prop := ∀ x ∈ s, x ∈ rng n
theorem sb_of (hn : n ∈ ns4) {s : List Int} (hs : s ∈ sets n) : Sb n s := sets_rng n hn s hs
theorem nm_iff (hn : n ∈ ns4) (ho : Od n o) {s : List Int} (hs : Sb n s) {x : Int} (hx : x ∈ rng n) : sg o x ∈ nm o s ↔ x ∈ s := by
  rw [mem_nm]
  constructor
  · rintro ⟨z, hz, e⟩
    rw [← sg_inj hn ho (hs z hz) hx e]
    exact hz
  · exact fun hx => ⟨x, hx, rfl⟩
theorem nm_lt (hn : n ∈ ns4) (ho : Od n o) {s : List Int} (hs : Sb n s) (hl : s.Pairwise (· < ·)) : (nm o s).Pairwise (· < ·) := by
  have nd : (s.map (sg o)).Nodup := by
    refine List.Pairwise.map (R := fun a b => a < b ∧ a ∈ s ∧ b ∈ s) _ (fun a b q => ?_) ?_
    · intro e
      have := sg_inj hn ho (hs a q.2.1) (hs b q.2.2) e
      omega
    · exact (List.Pairwise.and_mem).mp hl |>.imp fun q => ⟨q.2.2, q.1, q.2.1⟩
  have nd2 : (nm o s).Nodup := (List.Perm.nodup_iff (sortI_perm _)).mpr nd
  have le := sortI_le (s.map (sg o))
  exact (List.Pairwise.and le nd2).imp fun {a b} q => by
    have h1 : a ≤ b := q.1
    have h2 : a ≠ b := q.2
    omega
theorem nm_sb (ho : Od n o) {s : List Int} (hs : Sb n s) : Sb n (nm o s) := fun y hy => by
  obtain ⟨x, hx, rfl⟩ := mem_nm.mp hy
  exact sg_mem ho (hs x hx)
theorem nm_mem (hn : n ∈ ns4) (ho : Od n o) {s : List Int} (hs : s ∈ sets n) : nm o s ∈ sets n := sets_mem hn (nm_lt hn ho (sb_of hn hs) (sets_lt n hn s hs)) (nm_sb ho (sb_of hn hs))
/-- what is named so -/
def el (n : Nat) (o s : List Int) : List Int := (rng n).filter fun x => decide (sg o x ∈ s)
theorem mem_el {s : List Int} {x : Int} : x ∈ el n o s ↔ x ∈ rng n ∧ sg o x ∈ s := by
  unfold el
  rw [List.mem_filter]
  simp
theorem el_sb (s : List Int) : Sb n (el n o s) := fun x hx => (mem_el.mp hx).1
theorem el_mem (hn : n ∈ ns4) (s : List Int) : el n o s ∈ sets n := f_filter n hn _
theorem el_nm (hn : n ∈ ns4) (ho : Od n o) {s : List Int} (hs : Sb n s) (x : Int) : x ∈ el n o (nm o s) ↔ x ∈ s := by
  rw [mem_el]
  constructor
  · rintro ⟨h1, h2⟩
    exact (nm_iff hn ho hs h1).mp h2
  · exact fun hx => ⟨hs x hx, (nm_iff hn ho hs (hs x hx)).mpr hx⟩
theorem nm_el (hn : n ∈ ns4) (ho : Od n o) {s : List Int} (hs : s ∈ sets n) : nm o (el n o s) = s := lt_eq (nm_lt hn ho (el_sb s) ((rng_lt n hn).filter _)) (sets_lt n hn s hs) fun y => by
  rw [mem_nm]
  constructor
  · rintro ⟨x, hx, rfl⟩
    exact (mem_el.mp hx).2
  · intro hy
    obtain ⟨x, hx, rfl⟩ := sg_sur ho (sb_of hn hs y hy)
    exact ⟨x, mem_el.mpr ⟨hx, hy⟩, rfl⟩
theorem nm_eq (hn : n ∈ ns4) (ho : Od n o) {s t : List Int} (hs : s ∈ sets n) (ht : t ∈ sets n) : nm o s = nm o t ↔ s = t := ⟨fun e => lt_eq (sets_lt n hn s hs) (sets_lt n hn t ht) fun x => by
  rw [← el_nm hn ho (sb_of hn hs) x, ← el_nm hn ho (sb_of hn ht) x, e], fun e => by rw [e]⟩
/-- a chooser by new names -/
def ren (n : Nat) (o : List Int) (C : List Int → List Int) (s : List Int) : List Int := nm o (C (el n o s))
theorem ch_ren (hn : n ∈ ns4) (ho : Od n o) {C : List Int → List Int} (hC : Ch C) : Ch (ren n o C) := by
  have sb : ∀ s, Sb n (C (el n o s)) := fun s x hx => el_sb s x (hC.sub hx)
  refine ⟨fun {s x} hx => ?_, fun {s t x} hst hx ht => ?_, fun {s t} hst h => ?_, fun {s t} h => ?_, fun s => nm_lt hn ho (sb s) (hC.lt _)⟩
  · obtain ⟨z, hz, rfl⟩ := mem_nm.mp hx
    exact (mem_el.mp (hC.sub hz)).2
  · obtain ⟨z, hz, rfl⟩ := mem_nm.mp ht
    exact mem_nm.mpr ⟨z, hC.less (fun y hy => mem_el.mpr ⟨(mem_el.mp hy).1, hst _ (mem_el.mp hy).2⟩) (mem_el.mpr ⟨(mem_el.mp (hC.sub hz)).1, hx⟩) hz, rfl⟩
  · show nm o _ = nm o _
    rw [hC.same (fun y hy => mem_el.mpr ⟨(mem_el.mp hy).1, hst _ (mem_el.mp hy).2⟩) fun y hy => mem_el.mpr ⟨(mem_el.mp (hC.sub hy)).1, h _ (mem_nm.mpr ⟨y, hy, rfl⟩)⟩]
  · show nm o _ = nm o _
    rw [show el n o s = el n o t from List.filter_congr fun x _ => by rw [decide_eq_decide.mpr (h _)]]
theorem ren_nm (hn : n ∈ ns4) (ho : Od n o) {C : List Int → List Int} (hC : Ch C) {s : List Int} (hs : Sb n s) : ren n o C (nm o s) = nm o (C s) := by
  unfold ren
  rw [hC.ext (el_nm hn ho hs)]
theorem ins_nm (hn : n ∈ ns4) (ho : Od n o) {s : List Int} (hs : s ∈ sets n) {x : Int} (hx : x ∈ rng n) : ins (nm o s) (sg o x) = nm o (ins s x) := lt_eq (sets_lt n hn _ (f_ins n hn _ (nm_mem hn ho hs) _ (sg_mem ho hx))) (sets_lt n hn _ (nm_mem hn ho (f_ins n hn s hs x hx))) fun y => by
  rw [mem_ins, mem_nm, mem_nm]
  constructor
  · rintro (⟨z, hz, rfl⟩ | rfl)
    · exact ⟨z, mem_ins.mpr (.inl hz), rfl⟩
    · exact ⟨x, mem_ins.mpr (.inr rfl), rfl⟩
  · rintro ⟨z, hz, rfl⟩
    rcases mem_ins.mp hz with hz | rfl
    · exact .inl ⟨z, hz, rfl⟩
    · exact .inr rfl
theorem filt_mem' (hn : n ∈ ns4) {s : List Int} (hs : s ∈ sets n) (p : Int → Bool) : s.filter p ∈ sets n := sets_mem hn ((sets_lt n hn s hs).filter _) fun x hx => sets_rng n hn s hs x (List.mem_filter.mp hx).1
theorem wis_mem (hn : n ∈ ns4) {st s : List Int} (hst : st ∈ sets n) : wis N F st s ∈ sets n := filt_mem' hn hst _
theorem mem_wis {st s : List Int} {x : Int} : x ∈ wis N F st s ↔ x ∈ st ∧ x ∉ s ∧ x ∈ N (ins s x) ∧ x ∈ F (ins s x) := by
  unfold wis
  rw [List.mem_filter]
  simp
theorem wis_ren (hn : n ∈ ns4) (ho : Od n o) (hN : Ch N) (hF : Ch F) {st s : List Int} (hst : st ∈ sets n) (hs : s ∈ sets n) : wis (ren n o N) (ren n o F) (nm o st) (nm o s) = nm o (wis N F st s) := by
  refine lt_eq (sets_lt n hn _ (wis_mem hn (nm_mem hn ho hst))) (sets_lt n hn _ (nm_mem hn ho (wis_mem hn hst))) fun y => ?_
  have key : ∀ x ∈ rng n, (sg o x ∈ wis (ren n o N) (ren n o F) (nm o st) (nm o s) ↔ x ∈ wis N F st s) := fun x hx => by
    have hi := sb_of hn (f_ins n hn s hs x hx)
    rw [mem_wis, mem_wis, nm_iff hn ho (sb_of hn hst) hx, nm_iff hn ho (sb_of hn hs) hx, ins_nm hn ho hs hx, ren_nm hn ho hN hi, ren_nm hn ho hF hi, nm_iff hn ho (fun z hz => hi z (hN.sub hz)) hx, nm_iff hn ho (fun z hz => hi z (hF.sub hz)) hx]
  constructor
  · intro hy
    obtain ⟨x, hx, rfl⟩ := sg_sur ho (nm_sb ho (sb_of hn hst) y (mem_wis.mp hy).1)
    exact mem_nm.mpr ⟨x, (key x hx).mp hy, rfl⟩
  · intro hy
    obtain ⟨x, hx, rfl⟩ := mem_nm.mp hy
    exact (key x (sb_of hn (wis_mem hn hst) x hx)).mpr hx
theorem agr_ren (hn : n ∈ ns4) (ho : Od n o) (hN : Ch N) (hF : Ch F) {s : List Int} (hs : s ∈ sets n) : agr (ren n o N) (ren n o F) (nm o s) = agr N F s := by
  unfold agr
  rw [ren_nm hn ho hN (sb_of hn hs), ren_nm hn ho hF (sb_of hn hs), decide_eq_decide.mpr (nm_eq hn ho (hN.mem hn hs) hs), decide_eq_decide.mpr (nm_eq hn ho (hF.mem hn hs) hs)]
theorem nm_nil : nm o [] = [] := rfl
theorem nm_eq_nil (hn : n ∈ ns4) (ho : Od n o) {s : List Int} (hs : s ∈ sets n) : nm o s = [] ↔ s = [] := by
  have := nm_eq hn ho hs (nil_mem n hn)
  rw [nm_nil] at this
  exact this
theorem stl_ren (hn : n ∈ ns4) (ho : Od n o) (hN : Ch N) (hF : Ch F) {st s : List Int} (hst : st ∈ sets n) (hs : s ∈ sets n) : stl (ren n o N) (ren n o F) (nm o st) (nm o s) = stl N F st s := by
  unfold stl
  rw [agr_ren hn ho hN hF hs, wis_ren hn ho hN hF hst hs, decide_eq_decide.mpr (nm_eq_nil hn ho (wis_mem hn hst))]
theorem sub_nm (hn : n ∈ ns4) (ho : Od n o) {st s : List Int} (hst : st ∈ sets n) (hs : s ∈ sets n) : sub (nm o s) (nm o st) = sub s st := by
  rw [Bool.eq_iff_iff, sub_iff, sub_iff]
  constructor
  · intro q x hx
    exact (nm_iff hn ho (sb_of hn hst) (sb_of hn hs x hx)).mp (q _ (mem_nm.mpr ⟨x, hx, rfl⟩))
  · intro q y hy
    obtain ⟨x, hx, rfl⟩ := mem_nm.mp hy
    exact mem_nm.mpr ⟨x, q x hx, rfl⟩
theorem D_ren (hn : n ∈ ns4) (ho : Od n o) (hN : Ch N) (hF : Ch F) {st : List Int} (hst : st ∈ sets n) : D_ n (ren n o N) (ren n o F) (nm o st) = (sets n).filter fun t => decide (t ∈ (D_ n N F st).map (nm o)) := by
  unfold D_
  rw [List.filter_filter]
  refine List.filter_congr fun t ht => ?_
  have e := nm_el hn ho ht
  have he := el_mem (o := o) hn t
  rw [Bool.eq_iff_iff, decide_eq_true_eq, List.mem_map, Bool.and_eq_true]
  constructor
  · rintro ⟨h1, h2⟩
    rw [← e, stl_ren hn ho hN hF hst he] at h1
    rw [← e, sub_nm hn ho hst he] at h2
    exact ⟨el n o t, List.mem_filter.mpr ⟨List.mem_filter.mpr ⟨he, h2⟩, h1⟩, e⟩
  · rintro ⟨s, hs, rfl⟩
    obtain ⟨hs, h1⟩ := List.mem_filter.mp hs
    obtain ⟨hs, h2⟩ := List.mem_filter.mp hs
    rw [stl_ren hn ho hN hF hst hs, sub_nm hn ho hst hs]
    exact ⟨h1, h2⟩
/-! rounds -/
theorem out_nm (hn : n ∈ ns4) (ho : Od n o) {st ref : List Int} (hst : st ∈ sets n) (hr : ref ∈ sets n) : out (nm o st) (nm o ref) = nm o (out st ref) := by
  have m1 : out st ref ∈ sets n := filt_mem' hn hst _
  refine lt_eq (sets_lt n hn _ (filt_mem' hn (nm_mem hn ho hst) _)) (sets_lt n hn _ (nm_mem hn ho m1)) fun y => ?_
  show y ∈ out (nm o st) (nm o ref) ↔ _
  rw [mem_out]
  constructor
  · rintro ⟨h1, h2⟩
    obtain ⟨x, hx, rfl⟩ := mem_nm.mp h1
    exact mem_nm.mpr ⟨x, mem_out.mpr ⟨hx, fun z => h2 (mem_nm.mpr ⟨x, z, rfl⟩)⟩, rfl⟩
  · intro hy
    obtain ⟨x, hx, rfl⟩ := mem_nm.mp hy
    have := mem_out.mp hx
    exact ⟨mem_nm.mpr ⟨x, this.1, rfl⟩, fun z => this.2 ((nm_iff hn ho (sb_of hn hr) (sb_of hn hst x this.1)).mp z)⟩
theorem uni_nm (hn : n ∈ ns4) (ho : Od n o) {s t : List Int} (hs : s ∈ sets n) (ht : t ∈ sets n) : uni (nm o s) (nm o t) = nm o (uni s t) := by
  refine lt_eq (sets_lt n hn _ (f_uni n hn _ (nm_mem hn ho hs) _ (nm_mem hn ho ht))) (sets_lt n hn _ (nm_mem hn ho (f_uni n hn s hs t ht))) fun y => ?_
  rw [mem_uni, mem_nm, mem_nm, mem_nm]
  constructor
  · rintro (⟨x, hx, rfl⟩ | ⟨x, hx, rfl⟩)
    · exact ⟨x, mem_uni.mpr (.inl hx), rfl⟩
    · exact ⟨x, mem_uni.mpr (.inr hx), rfl⟩
  · rintro ⟨x, hx, rfl⟩
    rcases mem_uni.mp hx with hx | hx
    · exact .inl ⟨x, hx, rfl⟩
    · exact .inr ⟨x, hx, rfl⟩
theorem fresh_nm (hn : n ∈ ns4) (ho : Od n o) {s t : List Int} (hs : s ∈ sets n) (ht : t ∈ sets n) : fresh (nm o s) (nm o t) = nm o (fresh s t) := out_nm hn ho hs ht
theorem rnds_ren (hn : n ∈ ns4) (ho : Od n o) (hN : Ch N) (hF : Ch F) {st : List Int} (hst : st ∈ sets n) : ∀ (k : Nat) (ref ever : List Int), ref ∈ sets n → ever ∈ sets n → rnds (ren n o N) (ren n o F) (nm o st) k (nm o ref) (nm o ever) = (rnds N F st k ref ever).map fun p => (nm o p.1, nm o p.2)
  | 0, _, _, _, _ => rfl
  | k + 1, ref, ever, hr, he => by
    have m0 : out st ref ∈ sets n := filt_mem' hn hst _
    have m1 := hN.mem hn m0
    have m2 := f_uni n hn ever he _ m1
    have m3 := hF.mem hn m2
    have m4 : fresh (uni ever (N (out st ref))) (F (uni ever (N (out st ref)))) ∈ sets n := filt_mem' hn m2 _
    rw [rnds, rnds]
    simp only [out_nm hn ho hst hr, ren_nm hn ho hN (sb_of hn m0), uni_nm hn ho he m1, ren_nm hn ho hF (sb_of hn m2), fresh_nm hn ho m2 m3, nm_eq hn ho m4 hr, List.map_cons]
    rw [rnds_ren hn ho hN hF hst k _ _ m4 m2]
    split <;> rfl
/-! sure and vain ones -/
def sur (n : Nat) (N F : List Int → List Int) (st : List Int) : List Int := st.filter fun x => (D_ n N F st).all fun m => decide (x ∈ m)
def vai (n : Nat) (N F : List Int → List Int) (st : List Int) : List Int := st.filter fun x => !((D_ n N F st).any fun m => decide (x ∈ m))
theorem all_ren (hn : n ∈ ns4) (ho : Od n o) (hN : Ch N) (hF : Ch F) {st : List Int} (hst : st ∈ sets n) (q : List Int → Prop) : (∀ t ∈ D_ n (ren n o N) (ren n o F) (nm o st), q t) ↔ ∀ m ∈ D_ n N F st, q (nm o m) := by
  rw [D_ren hn ho hN hF hst]
  constructor
  · intro h m hm
    have hs : m ∈ sets n := (List.mem_filter.mp (List.mem_filter.mp hm).1).1
    exact h _ (List.mem_filter.mpr ⟨nm_mem hn ho hs, decide_eq_true (List.mem_map.mpr ⟨m, hm, rfl⟩)⟩)
  · intro h t ht
    obtain ⟨m, hm, rfl⟩ := List.mem_map.mp (of_decide_eq_true (List.mem_filter.mp ht).2)
    exact h m hm
theorem D_in {m st : List Int} (hm : m ∈ D_ n N F st) : m ∈ sets n := (List.mem_filter.mp (List.mem_filter.mp hm).1).1
theorem filt_ren (hn : n ∈ ns4) (ho : Od n o) {st : List Int} (hst : st ∈ sets n) (p q : Int → Bool) (hpq : ∀ x ∈ rng n, q (sg o x) = p x) : (nm o st).filter q = nm o (st.filter p) := by
  refine lt_eq ((sets_lt n hn _ (nm_mem hn ho hst)).filter _) (sets_lt n hn _ (nm_mem hn ho (filt_mem' hn hst p))) fun y => ?_
  rw [List.mem_filter]
  constructor
  · rintro ⟨h1, h2⟩
    obtain ⟨x, hx, rfl⟩ := mem_nm.mp h1
    rw [hpq x (sb_of hn hst x hx)] at h2
    exact mem_nm.mpr ⟨x, List.mem_filter.mpr ⟨hx, h2⟩, rfl⟩
  · intro hy
    obtain ⟨x, hx, rfl⟩ := mem_nm.mp hy
    obtain ⟨h1, h2⟩ := List.mem_filter.mp hx
    exact ⟨mem_nm.mpr ⟨x, h1, rfl⟩, by rw [hpq x (sb_of hn hst x h1)]; exact h2⟩
theorem sur_ren (hn : n ∈ ns4) (ho : Od n o) (hN : Ch N) (hF : Ch F) {st : List Int} (hst : st ∈ sets n) : sur n (ren n o N) (ren n o F) (nm o st) = nm o (sur n N F st) := filt_ren hn ho hst _ _ fun x hx => by
  rw [Bool.eq_iff_iff, List.all_eq_true, List.all_eq_true]
  rw [all_ren hn ho hN hF hst (fun t => decide (sg o x ∈ t) = true)]
  constructor
  · intro h m hm
    have := of_decide_eq_true (h m hm)
    exact decide_eq_true ((nm_iff hn ho (sb_of hn (D_in hm)) hx).mp this)
  · intro h m hm
    exact decide_eq_true ((nm_iff hn ho (sb_of hn (D_in hm)) hx).mpr (of_decide_eq_true (h m hm)))
theorem vai_ren (hn : n ∈ ns4) (ho : Od n o) (hN : Ch N) (hF : Ch F) {st : List Int} (hst : st ∈ sets n) : vai n (ren n o N) (ren n o F) (nm o st) = nm o (vai n N F st) := filt_ren hn ho hst _ _ fun x hx => by
  congr 1
  have e : ∀ (L : List (List Int)) (y : Int), (L.any fun m => decide (y ∈ m)) = !(L.all fun m => !decide (y ∈ m)) := fun L y => by
    induction L with
    | nil => rfl
    | cons a L ih => simp only [List.any_cons, List.all_cons, ih, Bool.not_and, Bool.not_not]
  rw [e, e]
  congr 1
  rw [Bool.eq_iff_iff, List.all_eq_true, List.all_eq_true]
  rw [all_ren hn ho hN hF hst (fun t => (!decide (sg o x ∈ t)) = true)]
  constructor
  · intro h m hm
    have := h m hm
    rw [decide_eq_decide.mpr (nm_iff hn ho (sb_of hn (D_in hm)) hx)] at this
    exact this
  · intro h m hm
    rw [decide_eq_decide.mpr (nm_iff hn ho (sb_of hn (D_in hm)) hx)]
    exact h m hm
end K41
namespace K41
open PySem PySem.Spec L2 TW
local macro_rules | `(tactic| push_cast [$a,*]) => `(tactic| (refine Wp.seq ?_; intro fr e; simp [$a,*] at e; subst e; simp only [thn_nx, thn_ret]))
variable {n : Nat} {h : MH} {N F : List Int → List Int} {o : List Int}
theorem set5 {s : List Int} (hn : n ∈ ns4) (hs : s ∈ sets n) : s.length ≤ 5 := by
  have : ∀ n ∈ ns4, ∀ s ∈ sets n, s.length ≤ 5 := by decide +kernel
  exact this n hn s hs
theorem ix_sg (ho : Od n o) {x : Int} (hx : x ∈ rng n) : ixT (tp o) (.int x) h = .ok (.int (sg o x)) h := by
  have h1 := mem_rng.mp hx
  have e := sg_at ho hx
  have := w_ix_tup (h := h) (xs := o.map T.int) (n := x.toNat) (z := .int (sg o x)) (by rw [List.getElem?_map, e]; rfl)
  rw [show ((x.toNat : Nat) : Int) = x from by omega] at this
  exact this
theorem lc_named (ho : Od n o) {s : List Int} (hs : Sb n s) (hl : s.length ≤ 5) {r : Rho} {k i : Nat} {it : IM} (e : it r h = .ok (s.map .int, none) h) (hk : k < (wipeR r [k]).length) (hi : ∀ x h, vr i ((wipeR r [k]).set k (some x)) h = .ok (tp o) h) :
    lcM lstK it (gmN k) tYes (emOp ixT (vr i) (vr k)) [k] r h = .ok (ls (s.map (sg o))) h := by
  rw [lcE (enc := T.int) (xs := s) (fun _ => true) (fun x => .int (sg o x)) e (by omega) (fun _ _ => rfl)]
  · rw [List.filter_eq_self.mpr (fun _ _ => rfl)]
    show Res.ok (T.lst _) h = .ok (.lst ((s.map (sg o)).map .int)) h
    rw [List.map_map]
    rfl
  · intro x hx _
    rw [s_emOp, hi, s_bindok, s_vr (by rw [List.getElem?_set_self hk]), s_bindok]
    exact ix_sg ho (hs x hx)
theorem sort_nm {s : List Int} (hl : s.length ≤ 5) : sortF lstK [ls (s.map (sg o))] h = .ok (ls (nm o s)) h := w_sort_ls (by rw [List.length_map]; exact Nat.le_trans hl (by decide))
theorem x_named (ho : Od n o) {s : List Int} (hs : Sb n s) (hl : s.length ≤ 5) : m__law_named [tp o, tp s] h = .ok (tp (nm o s)) h := by
  refine pur_wp (by simp only [lows, low_tp, Bool.and_self]) (low_tp _) ?_
  unfold b__law_named B__law_named
  refine Wp.run ?_
  intro fr e
  simp [-s_lcM] at e
  rw [lc_named ho hs hl] at e
  rotate_left
  · rfl
  · show 2 < 3
    decide
  · exact fun _ _ => rfl
  simp [sort_nm hl] at e
  exact ⟨_, e.symm⟩
/-! in order -/
theorem f_key2 : ∀ n ∈ ns4, ((sets n).all fun s => keyOk [] (tp s)) = true ∧ ((sets n).all fun s => (sets n).all fun t => PySem.W.alike (keyD [] (tp s)) (keyD [] (tp t))) = true := by decide +kernel
theorem f_le2 : ∀ n ∈ ns4, ((List.range (2 ^ n)).all fun i => (List.range (2 ^ n)).all fun j => decide (i ≤ j) == PySem.W.dataLe false (keyD []) (at_ n i) (at_ n j)) = true := by decide +kernel
theorem f_rg : ∀ n ∈ ns4, (sets n).length = 2 ^ n := by decide +kernel
theorem in_order (hn : n ∈ ns4) {L : List (List Int)} (hL : ∀ s ∈ L, s ∈ sets n) (nd : L.Nodup) (hl : L.length ≤ 32) : sortKF lstK (lts L) [] = .ok (lts ((sets n).filter fun t => decide (t ∈ L))) [] := by
  obtain ⟨k1, k2⟩ := f_key2 n hn
  have k3 := f_le2 n hn
  have kl := f_rg n hn
  let ix : List Int → Nat := fun s => (sets n).idxOf s
  have hix : ∀ s ∈ sets n, ix s < 2 ^ n ∧ (sets n)[ix s]? = some s := fun s hs => by
    have := List.idxOf_lt_length_of_mem hs
    exact ⟨by rw [← kl]; exact this, by rw [List.getElem?_eq_getElem this, List.getElem_idxOf]⟩
  have hat : ∀ s ∈ sets n, at_ n (ix s) = tp s := fun s hs => by
    unfold at_
    rw [List.getD_eq_getElem?_getD, (hix s hs).2]
    rfl
  have inj : ∀ s ∈ sets n, ∀ t ∈ sets n, ix s = ix t → s = t := fun s hs t ht e => by
    have h1 := (hix s hs).2
    have h2 := (hix t ht).2
    rw [e] at h1
    exact Option.some.inj (h1.symm.trans h2)
  show (if ((L.map tp).all (keyOk []) && (L.map tp).all fun a => (L.map tp).all fun b => PySem.W.alike (keyD [] a) (keyD [] b)) = true then lstK ((L.map tp).mergeSort (PySem.W.dataLe false (keyD []))) [] else .bad) = _
  have c1 : ((L.map tp).all (keyOk []) && (L.map tp).all fun a => (L.map tp).all fun b => PySem.W.alike (keyD [] a) (keyD [] b)) = true := by
    rw [Bool.and_eq_true, List.all_map, List.all_map]
    refine ⟨List.all_eq_true.mpr fun s hs => List.all_eq_true.mp k1 s (hL s hs), List.all_eq_true.mpr fun s hs => ?_⟩
    show ((L.map tp).all fun b => PySem.W.alike (keyD [] (tp s)) (keyD [] b)) = true
    rw [List.all_map]
    exact List.all_eq_true.mpr fun t ht => List.all_eq_true.mp (List.all_eq_true.mp k2 s (hL s hs)) t (hL t ht)
  rw [if_pos c1]
  have e : (L.map tp).mergeSort (PySem.W.dataLe false (keyD [])) = ((sets n).filter fun t => decide (t ∈ L)).map tp := by
    have u : L.map tp = (L.map ix).map (at_ n) := by
      rw [List.map_map]
      exact (List.map_congr_left fun s hs => hat s (hL s hs)).symm
    have r : ∀ i ∈ L.map ix, i ∈ List.range (2 ^ n) := fun i hi => by
      obtain ⟨s, hs, rfl⟩ := List.mem_map.mp hi
      exact List.mem_range.mpr (hix s (hL s hs)).1
    rw [u, ← List.map_mergeSort (r := fun i j => decide (i ≤ j))]
    · have ndi : (L.map ix).Nodup := List.Pairwise.map (R := fun a b => a ≠ b ∧ a ∈ L ∧ b ∈ L) _ (fun a b q e => q.1 (inj a (hL a q.2.1) b (hL b q.2.2) e)) ((List.Pairwise.and_mem).mp nd |>.imp fun q => ⟨q.2.2, q.1, q.2.1⟩)
      have e2 : (L.map ix).mergeSort (fun i j => decide (i ≤ j)) = (List.range (2 ^ n)).filter fun i => decide (i ∈ L.map ix) := by
        have p1 : ((L.map ix).mergeSort (fun i j => decide (i ≤ j))).Perm ((List.range (2 ^ n)).filter fun i => decide (i ∈ L.map ix)) := by
          refine (List.mergeSort_perm _ _).trans ((List.perm_ext_iff_of_nodup ndi (List.nodup_range.filter _)).mpr fun i => ?_)
          rw [List.mem_filter, decide_eq_true_eq]
          exact ⟨fun hi => ⟨r i hi, hi⟩, fun hi => hi.2⟩
        have s1 : ((L.map ix).mergeSort (fun i j => decide (i ≤ j))).Pairwise (fun i j => decide (i ≤ j) = true) := List.pairwise_mergeSort (fun a b c h1 h2 => by simp at *; omega) (fun a b => by simp; omega) _
        have s2 : ((List.range (2 ^ n)).filter fun i => decide (i ∈ L.map ix)).Pairwise (fun i j => decide (i ≤ j) = true) := by
          refine ((List.pairwise_lt_range (n := 2 ^ n)).filter _).imp ?_
          intro a b h
          simp
          omega
        exact List.Perm.eq_of_pairwise (fun a b _ _ h1 h2 => by simp at *; omega) s1 s2 p1
      rw [e2]
      have q2 : (List.range (2 ^ n)).map (fun i => (sets n).getD i []) = sets n := by
        have f := f_pos
        rw [List.all_eq_true] at f
        exact (of_decide_eq_true (f n hn)).2.1
      conv => rhs; rw [← q2, List.filter_map, List.map_map]
      have : ((List.range (2 ^ n)).filter fun i => decide (i ∈ L.map ix)) = (List.range (2 ^ n)).filter ((fun t => decide (t ∈ L)) ∘ fun i => (sets n).getD i []) := List.filter_congr fun i hi => by
        have hi' : i < (sets n).length := by rw [kl]; exact List.mem_range.mp hi
        have gs : (sets n).getD i [] = (sets n)[i] := by rw [List.getD_eq_getElem?_getD, List.getElem?_eq_getElem hi']; rfl
        have gm : (sets n)[i] ∈ sets n := List.getElem_mem hi'
        have gi : ix ((sets n)[i]) = i := by
          have := (hix _ gm).2
          have nds := sets_nd n hn
          have q := (List.getElem?_inj (by rw [kl]; exact (hix _ gm).1) nds).mp (this.trans (List.getElem?_eq_getElem hi').symm)
          exact q
        show decide (i ∈ L.map ix) = decide ((sets n).getD i [] ∈ L)
        refine decide_eq_decide.mpr ?_
        rw [gs, List.mem_map]
        constructor
        · rintro ⟨s, hs, e⟩
          have : s = (sets n)[i] := inj s (hL s hs) _ gm (e.trans gi.symm)
          rw [← this]
          exact hs
        · exact fun hs => ⟨_, hs, gi⟩
      rw [this]
      rfl
    · intro i hi j hj
      exact beq_iff_eq.mp (List.all_eq_true.mp (List.all_eq_true.mp k3 i (r i hi)) j (r j hj))
  rw [e]
  refine w_lstK ?_
  rw [List.length_map]
  exact Nat.le_trans (List.length_filter_le _ _) (Nat.le_trans (sets_len n hn) (by decide))
theorem x_in_order (hn : n ∈ ns4) {L : List (List Int)} (hL : ∀ s ∈ L, s ∈ sets n) (nd : L.Nodup) (hl : L.length ≤ 32) : m__law_in_order [lts L] h = .ok (tts ((sets n).filter fun t => decide (t ∈ L))) h := by
  refine pur_wp (by simp only [lows, low_lts, Bool.and_self]) (low_tts _) ?_
  unfold b__law_in_order B__law_in_order
  refine Wp.run ?_
  intro fr e
  simp [in_order hn hL nd hl] at e
  exact ⟨_, e.symm⟩
end K41
namespace K41
open PySem PySem.Spec L2 TW
local macro_rules | `(tactic| push_cast [$a,*]) => `(tactic| (refine Wp.seq ?_; intro fr e; simp [$a,*] at e; subst e; simp only [thn_nx, thn_ret]))
variable {n : Nat} {h : MH} {N F : List Int → List Int} {o : List Int}
theorem lts_cell (L : List (List Int)) : T.lst (L.map tp) = lts L := rfl
/-- renamed -/
theorem g_renamed (AS : FM) (hn : n ∈ ns4) (ho : Od n o) (hN : Ch N) (hAS : ∀ h, AS [.int n] h = .ok (tts (sets n)) h) (LN : FM) (hLN : ∀ h, lenOF [(("Chooser" : Str), LN)] [chO n N] h = .ok (.int n) h) :
    Wp (B_renamed AS LN m_Chooser___init__ (startR 6 [chO n N, tp o]) []) (fun fr => ∃ h', fr = .ret (chO n (ren n o N)) h') := by
  unfold B_renamed
  push_cast []
  refine Wp.for_ (enc := tp) (xs := sets n) (h1 := [.lst []]) [3, 4, 5] (fun p _ h => h = [.lst ((p.map (ren n o N)).map tp)]) (by simp [hLN, hAS]) rfl ?_ ?_
  · intro p s post y h ep hh
    subst hh
    have hs : s ∈ sets n := by rw [ep]; simp
    have he := el_mem (o := o) hn s
    have hNe := hN.mem hn he
    have lp : p.length ≤ 32 := by
      have := sets_len n hn
      have := congrArg List.length ep
      simp at this
      omega
    have eap : ∀ y, apT (.loc 0) [y] [.lst ((p.map (ren n o N)).map tp)] = .ok .non [.lst ((p.map (ren n o N)).map tp ++ [y])] := fun y => ap0 (by simp only [List.length_map]; omega)
    unfold L_renamed_1
    refine Wp.seq ?_
    intro fr e
    simp [-s_lcM, setS] at e
    rw [lcInt (s := rng n) (fun x => decide (sg o x ∈ s))] at e
    rotate_left
    · unfold itR1
      simp [hLN]
      simp only [ns4, List.mem_cons, List.not_mem_nil, or_false] at hn
      rcases hn with rfl | rfl | rfl | rfl | rfl <;> rfl
    · rw [rng_len]
      simp only [ns4, List.mem_cons, List.not_mem_nil, or_false] at hn
      omega
    · show 5 < 6
      decide
    · intro x hx
      simp [wipeR, ix_sg ho hx]
    rw [show (rng n).filter (fun x => decide (sg o x ∈ s)) = el n o s from rfl] at e
    simp at e
    subst e
    simp only [thn_nx]
    refine Wp.run ?_
    intro fr e
    simp [-s_lcM, at_table, w_tbl he] at e
    rw [lc_named ho (sb_of hn hNe) (set5 hn hNe)] at e
    rotate_left
    · simp [at_table, w_tbl he]
    · show 5 < 6
      decide
    · exact fun _ _ => rfl
    simp only [List.map_map] at eap
    simp [sort_nm (set5 hn hNe), eap] at e
    subst e
    refine .inl ⟨fun i => [none, none, none, some (tp s), some (tp (el n o s)), y 5].getD i none, _, rfl, ?_⟩
    simp [ren]
  · intro y h hh
    subst hh
    refine Wp.run ?_
    intro fr e
    rw [s_sRet, x_mk2 hn (ren n o N) (fun s hs => ⟨(ch_ren hn ho hN).mem hn hs, sub_iff.mpr fun x hx => (ch_ren hn ho hN).sub hx⟩) (pre := [.lst (((sets n).map (ren n o N)).map tp)]) (by
      simp [setS, hLN, tts])] at e
    simp at e
    exact ⟨_, e.symm⟩
theorem x_renamed (hn : n ∈ ns4) (ho : Od n o) (hN : Ch N) : m_renamed [chO n N, tp o] h = .ok (chO n (ren n o N)) h :=
  pur_wp (by simp only [lows, low_tp, low_chO, Bool.and_self]) (low_chO _) (g_renamed m_all_sets hn ho hN (fun h => x_all_sets hn) m_Chooser___len__ fun h => x_lenO hn)
/-- without the offers of a set -/
def lo (C : List Int → List Int) (out s : List Int) : List Int := C (s.filter fun x => !decide (x ∈ out))
theorem mem_lo {out s : List Int} {x : Int} : x ∈ s.filter (fun x => !decide (x ∈ out)) ↔ x ∈ s ∧ x ∉ out := by
  rw [List.mem_filter]
  simp
theorem ch_lo {C : List Int → List Int} (hC : Ch C) (out : List Int) : Ch (fun s => lo C out s) := by
  refine ⟨fun {s x} hx => (mem_lo.mp (hC.sub hx)).1, fun {s t x} hst hx ht => ?_, fun {s t} hst h => ?_, fun {s t} h => ?_, fun s => hC.lt _⟩
  · exact hC.less (fun y hy => mem_lo.mpr ⟨hst y (mem_lo.mp hy).1, (mem_lo.mp hy).2⟩) (mem_lo.mpr ⟨hx, (mem_lo.mp (hC.sub ht)).2⟩) ht
  · exact hC.same (fun y hy => mem_lo.mpr ⟨hst y (mem_lo.mp hy).1, (mem_lo.mp hy).2⟩) fun y hy => mem_lo.mpr ⟨h y hy, (mem_lo.mp (hC.sub hy)).2⟩
  · exact hC.ext fun x => by rw [mem_lo, mem_lo, h x]
theorem x_rest {s out : List Int} (hl : s.length ≤ 5) : m_made_rest [tp s, tp out] h = .ok (tp (s.filter fun x => !decide (x ∈ out))) h := by
  refine pur_wp (by simp only [lows, low_tp, Bool.and_self]) (low_tp _) ?_
  unfold b_made_rest B_made_rest
  refine Wp.run ?_
  intro fr e
  simp [-s_lcM] at e
  rw [lcInt (s := s) (fun x => !decide (x ∈ out)) rfl (by omega) (show 2 < 3 from by decide) (fun x _ => by simp [wipeR])] at e
  simp at e
  exact ⟨_, e.symm⟩
theorem g_leaving (IS LN AS MR : FM) (hn : n ∈ ns4) (hN : Ch N) {out : List Int} (ho : out ∈ sets n) (hLN : ∀ h, lenOF [(("Chooser" : Str), LN)] [chO n N] h = .ok (.int n) h) (hIS : ∀ h, IS [.int n, tp out] h = .ok (.bl true) h) (hAS : ∀ h, AS [.int n] h = .ok (tts (sets n)) h)
    (hMR : ∀ s ∈ sets n, ∀ h, MR [tp s, tp out] h = .ok (tp (s.filter fun x => !decide (x ∈ out))) h) :
    Wp (B_leaving_out IS LN AS MR m_Chooser___init__ (startR 4 [chO n N, tp out]) []) (fun fr => ∃ h', fr = .ret (chO n (fun s => lo N out s)) h') := by
  unfold B_leaving_out
  push_cast [hLN, hIS]
  refine Wp.seq ?_
  intro fr e
  simp [-s_lcM] at e
  rw [lcE (enc := tp) (xs := sets n) (fun _ => true) (fun s => tp (lo N out s))] at e
  rotate_left
  · simp [hLN, hAS]
  · exact Nat.le_trans (sets_len n hn) (by decide)
  · exact fun _ _ => rfl
  · intro s hs _
    simp [wipeR, at_table, hMR s hs, w_tbl (filt_mem' hn hs fun x => !decide (x ∈ out))]
    rfl
  rw [List.filter_eq_self.mpr (fun _ _ => rfl)] at e
  simp at e
  subst e
  simp only [thn_nx]
  refine Wp.run ?_
  intro fr e
  rw [s_sRet, x_mk2 hn (fun s => lo N out s) (fun s hs => ⟨(ch_lo hN out).mem hn hs, sub_iff.mpr fun x hx => (ch_lo hN out).sub hx⟩) (pre := []) (by
    simp [hLN, tts])] at e
  simp at e
  exact ⟨_, e.symm⟩
theorem x_leaving (hn : n ∈ ns4) (hN : Ch N) {out : List Int} (ho : out ∈ sets n) : m_leaving_out [chO n N, tp out] h = .ok (chO n (fun s => lo N out s)) h :=
  pur_wp (by simp only [lows, low_tp, low_chO, Bool.and_self]) (low_chO _) (g_leaving m_is_set m_Chooser___len__ m_all_sets m_made_rest hn hN ho (fun h => x_lenO hn) (fun h => x_is_set hn ho) (fun h => x_all_sets hn) fun s hs h => x_rest (set5 hn hs))
end K41
namespace K41
open PySem PySem.Spec L2 TW
local macro_rules | `(tactic| push_cast [$a,*]) => `(tactic| (refine Wp.seq ?_; intro fr e; simp [$a,*] at e; subst e; simp only [thn_nx, thn_ret]))
variable {n : Nat} {h : MH} {N F : List Int → List Int} {o : List Int}
theorem mapO_bl : ∀ bs : List Bool, mapO blOf (bs.map T.bl) = some bs
  | [] => rfl
  | b :: bs => by
    have e : blOf (T.bl b) = some b := rfl
    simp only [List.map_cons, mapO, e, mapO_bl bs]
theorem all_bl (bs : List Bool) : allF [.lst (bs.map .bl)] h = .ok (.bl (bs.all fun b => b)) h := by
  show (match mapO blOf (bs.map T.bl) with
    | some bs => Res.ok (T.bl (bs.all fun b => b)) h
    | none => .bad) = _
  rw [mapO_bl]
theorem any_bl (bs : List Bool) : anyF [.lst (bs.map .bl)] h = .ok (.bl (bs.any fun b => b)) h := by
  show (match mapO blOf (bs.map T.bl) with
    | some bs => Res.ok (T.bl (bs.any fun b => b)) h
    | none => .bad) = _
  rw [mapO_bl]
theorem D_len (hn : n ∈ ns4) (st : List Int) : (D_ n N F st).length ≤ 32 := Nat.le_trans (List.length_filter_le _ _) (Nat.le_trans (List.length_filter_le _ _) (sets_len n hn))
theorem lc_has {L : List (List Int)} (hl : L.length ≤ 32) {r : Rho} {x : Int} (e3 : vr 3 r h = .ok (tts L) h) (hv : ∀ m h, vr 4 ((wipeR r [5]).set 5 (some m)) h = .ok (.int x) h) (hk : 5 < (wipeR r [5]).length) : lcM lstK (itE (vr 3)) (gmN 5) tYes (emOp (inT false) (vr 4) (vr 5)) [5] r h = .ok (.lst ((L.map fun m => decide (x ∈ m)).map .bl)) h := by
  rw [lcE (enc := tp) (xs := L) (fun _ => true) (fun m => .bl (decide (x ∈ m))) (by simp [e3]) (by omega) (fun _ _ => rfl)]
  · rw [List.filter_eq_self.mpr (fun _ _ => rfl), List.map_map]
    rfl
  · intro m _ _
    rw [s_emOp, hv, s_bindok, s_vr (by rw [List.getElem?_set_self hk]), s_bindok, w_in_tp]
    rfl
theorem x_sur (hn : n ∈ ns4) {st : List Int} (hst : st ∈ sets n) : m_sure_offers [chO n N, chO n F, tp st] h = .ok (tp (sur n N F st)) h := by
  suffices ∀ A : FM, (∀ h, A [chO n N, chO n F, tp st] h = .ok (tts (D_ n N F st)) h) → Wp (B_sure_offers A (startR 6 [chO n N, chO n F, tp st]) []) (fun fr => ∃ h', fr = .ret (tp (sur n N F st)) h') from
    pur_wp (by simp only [lows, low_tp, low_chO, Bool.and_self]) (low_tp _) (this m_settled_sets fun h => x_ssets hn hst)
  intro A hA
  unfold B_sure_offers
  push_cast [hA]
  refine Wp.run ?_
  intro fr e
  simp [-s_lcM] at e
  rw [lcInt (s := st) (fun x => (D_ n N F st).all fun m => decide (x ∈ m))] at e
  rotate_left
  · rfl
  · have := set5 hn hst
    omega
  · show 4 < 6
    decide
  · intro x hx
    rw [s_tmOf, s_emCall, s_ac, lc_has (x := x) (L := D_ n N F st)]
    rotate_left
    · exact D_len hn st
    · rfl
    · exact fun _ _ => rfl
    · show 5 < 6
      decide
    rw [s_bindok, s_an, s_bindok, s_bindok, all_bl, s_bindok]
    rw [List.all_map]
    rfl
  simp at e
  exact ⟨_, e.symm⟩
theorem x_vai (hn : n ∈ ns4) {st : List Int} (hst : st ∈ sets n) : m_vain_offers [chO n N, chO n F, tp st] h = .ok (tp (vai n N F st)) h := by
  suffices ∀ A : FM, (∀ h, A [chO n N, chO n F, tp st] h = .ok (tts (D_ n N F st)) h) → Wp (B_vain_offers A (startR 6 [chO n N, chO n F, tp st]) []) (fun fr => ∃ h', fr = .ret (tp (vai n N F st)) h') from
    pur_wp (by simp only [lows, low_tp, low_chO, Bool.and_self]) (low_tp _) (this m_settled_sets fun h => x_ssets hn hst)
  intro A hA
  unfold B_vain_offers
  push_cast [hA]
  refine Wp.run ?_
  intro fr e
  simp [-s_lcM] at e
  rw [lcInt (s := st) (fun x => !((D_ n N F st).any fun m => decide (x ∈ m)))] at e
  rotate_left
  · rfl
  · have := set5 hn hst
    omega
  · show 4 < 6
    decide
  · intro x hx
    rw [s_tNo, s_tmOf, s_emCall, s_ac, lc_has (x := x) (L := D_ n N F st)]
    rotate_left
    · exact D_len hn st
    · rfl
    · exact fun _ _ => rfl
    · show 5 < 6
      decide
    rw [s_bindok, s_an, s_bindok, s_bindok, any_bl, s_bindok]
    rw [List.any_map]
    rfl
  simp at e
  exact ⟨_, e.symm⟩
theorem pl_prs (rows : List (List Int × List Int)) : plT deep (.tup (rows.map prT)) = true := List.all_eq_true.mpr fun y hy => by
  obtain ⟨p, _, rfl⟩ := List.mem_map.mp hy
  show ([tp p.1, tp p.2].all (plT 12)) = true
  simp only [List.all_cons, pl_tp, List.all_nil, Bool.and_self]
theorem rnds_mem (hN : Ch N) (hF : Ch F) (hn : n ∈ ns4) {St : List Int} (hSt : St ∈ sets n) : ∀ (k : Nat) (ref ever : List Int), Rs_ N F n St k ref ever → (∀ p ∈ rnds N F St k ref ever, p.1 ∈ sets n ∧ p.2 ∈ sets n) ∧ (rnds N F St k ref ever).length ≤ k
  | 0, _, _, _ => ⟨fun _ h => (nomatch h), Nat.le_refl _⟩
  | k + 1, ref, ever, s => by
    obtain ⟨a1, a2, a3, a4, k0, nx⟩ := step_ hN hF hn hSt s
    rw [rnds]
    by_cases q : fresh (uni ever (N (out St ref))) (F (uni ever (N (out St ref)))) = ref
    · simp only [if_pos q]
      exact ⟨fun p hp => by rw [List.mem_singleton.mp hp]; exact ⟨a1, a3⟩, by simp⟩
    · have ih := rnds_mem hN hF hn hSt k _ _ (nx q)
      simp only [if_neg q]
      refine ⟨fun p hp => ?_, by rw [List.length_cons]; have := ih.2; omega⟩
      rcases List.mem_cons.mp hp with rfl | hp
      · exact ⟨a1, a3⟩
      · exact ih.1 p hp
theorem ns4_le (hn : n ∈ ns4) : n ≤ 5 := by
  simp only [ns4, List.mem_cons, List.not_mem_nil, or_false] at hn
  omega
/-- whether renaming renames all -/
theorem g_isren (RN NA IO SS WB RO SU VA : FM) (hn : n ∈ ns4) (ho : Od n o) (hN : Ch N) (hF : Ch F) {st : List Int} (hst : st ∈ sets n)
    (hRN : ∀ C, Ch C → ∀ h, RN [chO n C, tp o] h = .ok (chO n (ren n o C)) h) (hNA : ∀ s ∈ sets n, ∀ h, NA [tp o, tp s] h = .ok (tp (nm o s)) h)
    (hIO : ∀ L : List (List Int), (∀ s ∈ L, s ∈ sets n) → L.Nodup → L.length ≤ 32 → ∀ h, IO [lts L] h = .ok (tts ((sets n).filter fun t => decide (t ∈ L))) h)
    (hSS : ∀ f g, ∀ s ∈ sets n, ∀ h, SS [chO n f, chO n g, tp s] h = .ok (tts (D_ n f g s)) h) (hWB : ∀ f g, ∀ s ∈ sets n, ∀ h, WB [chO n f, chO n g, tp s] h = .ok (tp (wis f g (rng n) s)) h)
    (hRO : ∀ f g, Ch f → Ch g → ∀ s ∈ sets n, ∀ h, RO [chO n f, chO n g, tp s] h = .ok (.tup ((rnds f g s (n + 1) [] []).map prT)) h)
    (hSU : ∀ f g, ∀ s ∈ sets n, ∀ h, SU [chO n f, chO n g, tp s] h = .ok (tp (sur n f g s)) h) (hVA : ∀ f g, ∀ s ∈ sets n, ∀ h, VA [chO n f, chO n g, tp s] h = .ok (tp (vai n f g s)) h) :
    Wp (B__law_is_renamed RN NA IO SS WB RO SU VA (startR 11 [chO n N, chO n F, tp o, tp st]) []) (fun fr => ∃ h', fr = .ret (.bl true) h') := by
  have hrN := ch_ren hn ho hN
  have hrF := ch_ren hn ho hF
  have hs' := nm_mem hn ho hst
  have n0 := nil_mem n hn
  have rm := rng_mem hn
  have nrng : nm o (rng n) = rng n := lt_eq (sets_lt n hn _ (nm_mem hn ho rm)) (rng_lt n hn) fun y => by
    rw [mem_nm]
    constructor
    · rintro ⟨x, hx, rfl⟩
      exact sg_mem ho hx
    · exact fun hy => sg_sur ho hy
  have w0 : ∀ s ∈ sets n, wis (ren n o N) (ren n o F) (rng n) (nm o s) = nm o (wis N F (rng n) s) := fun s hs => by
    have := wis_ren hn ho hN hF rm hs
    rw [nrng] at this
    exact this
  unfold B__law_is_renamed
  push_cast [hRN N hN, hRN F hF, hNA st hst]
  have ndD : ((D_ n N F st).map (nm o)).Nodup := by
    have : (D_ n N F st).Nodup := ((sets_nd n hn).filter _).filter _
    exact List.Pairwise.map (R := fun a b => a ≠ b ∧ a ∈ D_ n N F st ∧ b ∈ D_ n N F st) _ (fun a b q e => q.1 ((nm_eq hn ho (D_in q.2.1) (D_in q.2.2)).mp e)) ((List.Pairwise.and_mem).mp this |>.imp fun q => ⟨q.2.2, q.1, q.2.1⟩)
  have e1 : ∀ r : Rho, vr 0 r [] = .ok (chO n N) [] → vr 1 r [] = .ok (chO n F) [] → vr 3 r [] = .ok (tp st) [] → (∀ x h, vr 2 ((wipeR r [9]).set 9 (some x)) h = .ok (tp o) h) → 9 < (wipeR r [9]).length → lcM lstK (itE (emCall (arg 3 SS) (ac (vr 0) (ac (vr 1) (ac (vr 3) an))))) (gmN 9) tYes (emCall (arg 2 NA) (ac (vr 2) (ac (vr 9) an))) [9] r [] = .ok (lts ((D_ n N F st).map (nm o))) [] := fun r a b c d hk => by
    rw [lcE (enc := tp) (xs := D_ n N F st) (fun _ => true) (fun m => tp (nm o m)) (by simp [a, b, c, hSS _ _ st hst]) (by have := D_len (N := N) (F := F) hn st; omega) (fun _ _ => rfl)]
    · rw [List.filter_eq_self.mpr (fun _ _ => rfl)]
      show Res.ok (T.lst _) [] = .ok (.lst (((D_ n N F st).map (nm o)).map tp)) []
      rw [List.map_map]
      rfl
    · intro m hm _
      rw [s_emCall, s_ac, d, s_bindok, s_ac, s_vr (by rw [List.getElem?_set_self hk]), s_bindok, s_an, s_bindok, s_bindok, s_bindok]
      exact hNA m (D_in hm) _
  refine Wp.seq ?_
  intro fr e
  simp [-s_lcM] at e
  rw [e1] at e
  rotate_left
  · rfl
  · rfl
  · rfl
  · exact fun _ _ => rfl
  · show 9 < 11
    decide
  simp [hIO _ (fun s hs => by obtain ⟨m, hm, rfl⟩ := List.mem_map.mp hs; exact nm_mem hn ho (D_in hm)) ndD (by rw [List.length_map]; exact D_len hn st)] at e
  subst e
  simp only [thn_nx]
  have eD := D_ren hn ho hN hF hst
  simp only [List.mem_map] at eD
  push_cast [hSS _ _ _ hs', eD]
  have w1 := w0 [] n0
  rw [nm_nil] at w1
  push_cast [show (T.tup []) = tp [] from rfl, hWB _ _ _ n0, w1, hNA _ (wis_mem hn rm)]
  push_cast [hWB _ _ _ hs', hWB _ _ _ hst, w0 st hst, hNA _ (wis_mem hn rm)]
  push_cast [hRO N F hN hF st hst]
  have rr := rnds_ren hn ho hN hF hst (n + 1) [] [] n0 n0
  rw [nm_nil] at rr
  have e2 : ∀ r : Rho, vr 5 r [] = .ok (.tup ((rnds N F st (n + 1) [] []).map prT)) [] → (∀ x h, vr 2 ((wipeR r [10]).set 10 (some x)) h = .ok (tp o) h) → 10 < (wipeR r [10]).length → lcM lstK (itE (vr 5)) (gmN 10) tYes (emT (ac (emCall (arg 2 NA) (ac (vr 2) (ac (emOp ixT (vr 10) (cst (.int 0))) an))) (ac (emCall (arg 2 NA) (ac (vr 2) (ac (emOp ixT (vr 10) (cst (.int 1))) an))) an))) [10] r [] = .ok (.lst ((rnds (ren n o N) (ren n o F) (nm o st) (n + 1) [] []).map prT)) [] := fun r a d hk => by
    have ml := rnds_mem hN hF hn hst (n + 1) [] [] (start_ n hn st)
    rw [lcE (enc := prT) (xs := rnds N F st (n + 1) [] []) (fun _ => true) (fun p => prT (nm o p.1, nm o p.2)) (by simp [a]) (by have := ml.2; have := ns4_le hn; omega) (fun _ _ => rfl)]
    · rw [List.filter_eq_self.mpr (fun _ _ => rfl), rr, List.map_map]
      rfl
    · intro p hp _
      have hv : ∀ h, vr 10 ((wipeR r [10]).set 10 (some (prT p))) h = .ok (.tup [tp p.1, tp p.2]) h := fun h => s_vr (by rw [List.getElem?_set_self hk]; rfl)
      have := ml.1 p hp
      show _ = Res.ok (T.tup [tp (nm o p.1), tp (nm o p.2)]) []
      have d' := d (prT p)
      generalize (wipeR r [10]).set 10 (some (prT p)) = rr' at hv d' ⊢
      simp [hv, d', hNA _ this.1, hNA _ this.2]
  refine Wp.seq ?_
  intro fr e
  simp [-s_lcM, hRO _ _ hrN hrF _ hs'] at e
  rw [e2] at e
  rotate_left
  · rfl
  · exact fun _ _ => rfl
  · show 10 < 11
    decide
  simp [pl_ne (pl_prs _) (pl_prs _), beqT_self] at e
  subst e
  simp only [thn_nx]
  have s1 := sur_ren hn ho hN hF hst
  have s2 := vai_ren hn ho hN hF hst
  push_cast [hSU _ _ _ hs', hSU _ _ _ hst, s1, hNA _ (filt_mem' hn hst _), show sur n N F st ∈ sets n from filt_mem' hn hst _, hNA (sur n N F st) (filt_mem' hn hst _)]
  refine Wp.run ?_
  intro fr e
  simp [hVA _ _ _ hs', hVA _ _ _ hst, s2, hNA (vai n N F st) (filt_mem' hn hst _)] at e
  exact ⟨_, e.symm⟩
end K41
namespace K41
open PySem PySem.Spec L2 TW
local macro_rules | `(tactic| push_cast [$a,*]) => `(tactic| (refine Wp.seq ?_; intro fr e; simp [$a,*] at e; subst e; simp only [thn_nx, thn_ret]))
variable {n : Nat} {h : MH} {N F A B : List Int → List Int} {o : List Int}
/-! sides exchanged -/
theorem wis_sw (st s : List Int) : wis F N st s = wis N F st s := List.filter_congr fun x _ => by rw [Bool.and_comm (decide (x ∈ F (ins s x)))]
theorem stl_sw (st s : List Int) : stl F N st s = stl N F st s := by
  unfold stl agr
  rw [wis_sw, Bool.and_comm (decide (F s = s))]
theorem D_sw (st : List Int) : D_ n F N st = D_ n N F st := List.filter_congr fun s _ => stl_sw st s
theorem sur_sw (st : List Int) : sur n F N st = sur n N F st := by
  unfold sur
  rw [D_sw]
/-! settled -/
theorem stl_of (hN : Ch N) (hF : Ch F) {st m : List Int} (hm : m ∈ sets n) (s : Stl N F st m) : stl N F st m = true := (List.mem_filter.mp ((mem_D hN hF).mpr ⟨hm, s⟩)).2
theorem D_ext (hN : Ch N) (hF : Ch F) (hA : Ch A) (hB : Ch B) {st st' : List Int} (k : ∀ t ∈ sets n, Stl A B st' t ↔ Stl N F st t) : D_ n A B st' = D_ n N F st := by
  have e : ∀ (f g : List Int → List Int) (st : List Int), D_ n f g st = (sets n).filter fun t => stl f g st t && sub t st := fun f g st => by
    unfold D_
    rw [List.filter_filter]
  have i : ∀ (f g : List Int → List Int) (st t : List Int), Ch f → Ch g → t ∈ sets n → ((stl f g st t && sub t st) = true ↔ Stl f g st t) := fun f g st t hf hg ht => by
    have := mem_D (n := n) hf hg (st := st) (m := t)
    rw [e, List.mem_filter] at this
    exact ⟨fun q => (this.mp ⟨ht, q⟩).2, fun q => (this.mpr ⟨ht, q⟩).2⟩
  rw [e, e]
  refine List.filter_congr fun t ht => ?_
  rw [Bool.eq_iff_iff, i A B st' t hA hB ht, i N F st t hN hF ht]
  exact k t ht
/-! left out -/
theorem stl_lo (hn : n ∈ ns4) {st t : List Int} (hst : st ∈ sets n) (ht : t ∈ sets n) (eA : ∀ s, (∀ x ∈ s, x ∈ st) → A s = N s) (eB : ∀ s, (∀ x ∈ s, x ∈ st) → B s = F s)
    (ab : ∀ s, Sb n s → ∀ x, x ∈ A s → x ∈ B s → x ∈ st) : Stl A B (rng n) t ↔ Stl N F st t := by
  have sst := sb_of hn hst
  have one : ∀ x ∈ st, (∀ y ∈ t, y ∈ st) → ∀ y ∈ t ++ [x], y ∈ st := fun x hx k y hy => by
    rcases List.mem_append.mp hy with hy | hy
    · exact k y hy
    · rw [List.mem_singleton.mp hy]; exact hx
  constructor
  · rintro ⟨h1, h2, h3, h4⟩
    have k : ∀ x ∈ t, x ∈ st := fun x hx => ab t (sb_of hn ht) x (by rw [h1]; exact hx) (by rw [h2]; exact hx)
    refine ⟨(eA t k).symm.trans h1, (eB t k).symm.trans h2, k, fun x hx hx' z1 z2 => h4 x (sst x hx) hx' ?_ ?_⟩
    · rw [eA _ (one x hx k)]; exact z1
    · rw [eB _ (one x hx k)]; exact z2
  · rintro ⟨h1, h2, k, h4⟩
    refine ⟨(eA t k).trans h1, (eB t k).trans h2, sb_of hn ht, fun x hx hx' z1 z2 => ?_⟩
    have hxs : x ∈ st := ab (t ++ [x]) (fun y hy => by
      rcases List.mem_append.mp hy with hy | hy
      · exact sb_of hn ht y hy
      · rw [List.mem_singleton.mp hy]; exact hx) x z1 z2
    refine h4 x hxs hx' ?_ ?_
    · rw [← eA _ (one x hxs k)]; exact z1
    · rw [← eB _ (one x hxs k)]; exact z2
def los (n : Nat) (st : List Int) : List Int := (rng n).filter fun x => !decide (x ∈ st)
theorem los_mem (hn : n ∈ ns4) (st : List Int) : los n st ∈ sets n := f_filter n hn _
theorem mem_los {st : List Int} {x : Int} : x ∈ los n st ↔ x ∈ rng n ∧ x ∉ st := by
  unfold los
  rw [List.mem_filter]
  simp
theorem lo_same (hN : Ch N) {st : List Int} : ∀ s, (∀ x ∈ s, x ∈ st) → lo N (los n st) s = N s := fun s hs => hN.ext fun x => by
  rw [mem_lo, mem_los]
  exact ⟨fun q => q.1, fun q => ⟨q, fun z => z.2 (hs x q)⟩⟩
theorem lo_in (hN : Ch N) {st : List Int} : ∀ s, Sb n s → ∀ x, x ∈ lo N (los n st) s → x ∈ st := fun s hs x hx => by
  have := mem_lo.mp (hN.sub hx)
  exact Classical.byContradiction fun z => this.2 (mem_los.mpr ⟨hs x this.1, z⟩)
theorem best_one (hN : Ch N) (hF : Ch F) (hA : Ch A) (hB : Ch B) (hn : n ∈ ns4) {st : List Int} (hst : st ∈ sets n) (eA : ∀ s, (∀ x ∈ s, x ∈ st) → A s = N s) (k : ∀ t ∈ sets n, Stl A B (rng n) t ↔ Stl N F st t) : best A B n (rng n) = best N F n st := by
  obtain ⟨_, a1, a2, a3⟩ := best_ok hN hF hn hst
  obtain ⟨_, b1, b2, b3⟩ := best_ok hA hB hn (rng_mem hn)
  have b2' := (k _ b1).mp b2
  have q1 := (a3 _ b2').1
  have q2 := (b3 _ ((k _ a1).mpr a2)).1
  rw [eA _ (fun x hx => by
    rcases List.mem_append.mp hx with hx | hx
    · exact b2'.2.2.1 x hx
    · exact a2.2.2.1 x hx)] at q2
  rw [← q2, ← q1]
  rw [q1]
  exact (q1.symm.trans (hN.ext fun x => by rw [List.mem_append, List.mem_append, or_comm])).symm
/-! refused -/
theorem rnds_end (hN : Ch N) (hF : Ch F) (hn : n ∈ ns4) {St : List Int} (hSt : St ∈ sets n) : ∀ (k : Nat) (ref ever : List Int), Rs_ N F n St k ref ever →
    ∃ init q rf, rnds N F St k ref ever = init ++ [(q, q)] ∧ (∀ x, x ∈ rf ↔ (x ∈ ever ∨ ∃ p ∈ rnds N F St k ref ever, x ∈ p.1) ∧ x ∉ q) ∧ (∀ x ∈ rf, x ∈ St) ∧ (∀ m, Stl N F St m → ∀ x ∈ m, x ∉ rf) ∧ N (out St rf) = q
  | 0, ref, ever, s => by
    have := (step_ hN hF hn hSt s).2.2.2.2.1
    omega
  | k + 1, ref, ever, s => by
    obtain ⟨a1, a2, a3, a4, k0, nx⟩ := step_ hN hF hn hSt s
    rw [rnds]
    by_cases q : fresh (uni ever (N (out St ref))) (F (uni ever (N (out St ref)))) = ref
    · have z : ∀ x, x ∈ ref ↔ x ∈ uni ever (N (out St ref)) ∧ x ∉ F (uni ever (N (out St ref))) := fun x => by
        have z : x ∈ fresh (uni ever (N (out St ref))) (F (uni ever (N (out St ref)))) ↔ _ := mem_fresh
        rw [q] at z
        exact z
      obtain ⟨e1, e2, e3⟩ := s.rd.over hN hF (ever' := uni ever (N (out St ref))) (fun x => mem_uni) z
      refine ⟨[], F (uni ever (N (out St ref))), ref, ?_, fun x => ?_, fun x hx => s.rd.ever_in x ((s.rd.ref_iff x).mp hx).1, s.rd.none, e1⟩
      · simp only [if_pos q, List.nil_append]
        exact congrArg (fun z => [(z, F (uni ever (N (out St ref))))]) e1
      · simp only [if_pos q, List.mem_singleton, exists_eq_left]
        rw [z x, mem_uni]
    · obtain ⟨init, p, rf, e, m1, m2, m3, m4⟩ := rnds_end hN hF hn hSt k _ _ (nx q)
      refine ⟨(N (out St ref), F (uni ever (N (out St ref)))) :: init, p, rf, ?_, fun x => ?_, m2, m3, m4⟩
      · simp only [if_neg q, e]
        rfl
      · simp only [if_neg q]
        rw [m1 x, mem_uni]
        constructor
        · rintro ⟨(h1 | h1) | ⟨p', h2, h3⟩, h4⟩
          · exact ⟨.inl h1, h4⟩
          · exact ⟨.inr ⟨_, List.mem_cons_self .., h1⟩, h4⟩
          · exact ⟨.inr ⟨p', List.mem_cons_of_mem _ h2, h3⟩, h4⟩
        · rintro ⟨h1 | ⟨p', h2, h3⟩, h4⟩
          · exact ⟨.inl (.inl h1), h4⟩
          · rcases List.mem_cons.mp h2 with rfl | h2
            · exact ⟨.inl (.inr h3), h4⟩
            · exact ⟨.inr ⟨p', h2, h3⟩, h4⟩
def addE (e : List Int) (p : List Int × List Int) : List Int := e ++ p.1.filter fun x => !decide (x ∈ e)
def evs (rows : List (List Int × List Int)) : List Int := rows.foldl addE []
theorem mem_addE {e : List Int} {p : List Int × List Int} {x : Int} : x ∈ addE e p ↔ x ∈ e ∨ x ∈ p.1 := by
  unfold addE
  rw [List.mem_append, List.mem_filter]
  simp only [Bool.not_eq_true', decide_eq_false_iff_not]
  by_cases q : x ∈ e <;> simp [q]
theorem mem_evs {x : Int} : ∀ (rows : List (List Int × List Int)) (e : List Int), x ∈ rows.foldl addE e ↔ x ∈ e ∨ ∃ p ∈ rows, x ∈ p.1
  | [], e => by simp
  | p :: rows, e => by
    rw [List.foldl_cons, mem_evs rows, mem_addE]
    simp only [List.mem_cons, exists_eq_or_imp, or_assoc]
def refd (N F : List Int → List Int) (n : Nat) (st : List Int) : List Int := (evs (rnds N F st (n + 1) [] [])).filter fun x => !decide (x ∈ best N F n st)
theorem mem_refd {st : List Int} {x : Int} : x ∈ refd N F n st ↔ (∃ p ∈ rnds N F st (n + 1) [] [], x ∈ p.1) ∧ x ∉ best N F n st := by
  unfold refd evs
  rw [List.mem_filter, mem_evs]
  simp
theorem refd_ok (hN : Ch N) (hF : Ch F) (hn : n ∈ ns4) {st : List Int} (hst : st ∈ sets n) : (∀ x ∈ refd N F n st, x ∈ vai n N F st) ∧ best N F n (st.filter fun x => !decide (x ∈ refd N F n st)) = best N F n st := by
  obtain ⟨init, q, rf, e, m1, m2, m3, m4⟩ := rnds_end hN hF hn hst _ _ _ (start_ n hn st)
  have eb : best N F n st = q := by
    unfold best
    rw [e]
    simp
  have er : ∀ x, x ∈ refd N F n st ↔ x ∈ rf := fun x => by
    rw [mem_refd, m1 x, eb]
    simp
  obtain ⟨_, b1, b2, b3⟩ := best_ok hN hF hn hst
  rw [eb] at b1 b2 b3
  constructor
  · intro x hx
    have hx' := (er x).mp hx
    unfold vai
    rw [List.mem_filter]
    refine ⟨m2 x hx', ?_⟩
    rw [Bool.not_eq_true', List.any_eq_false]
    intro m hm
    simp only [decide_eq_true_eq]
    exact fun z => m3 m ((mem_D hN hF).mp hm).2 x z hx'
  · have eo : st.filter (fun x => !decide (x ∈ refd N F n st)) = out st rf := List.filter_congr fun x _ => by rw [decide_eq_decide.mpr (er x)]
    rw [eo, eb]
    have ho : out st rf ∈ sets n := filt_mem' hn hst _
    obtain ⟨_, c1, c2, c3⟩ := best_ok hN hF hn ho
    have qo : ∀ x ∈ q, x ∈ out st rf := fun x hx => hN.sub (m4 ▸ hx)
    have sq : Stl N F (out st rf) q := ⟨b2.1, b2.2.1, qo, fun x hx => b2.2.2.2 x (mem_out.mp hx).1⟩
    have g := (c3 q sq).1
    have e2 : N (best N F n (out st rf) ++ q) = N (out st rf) := hN.same (fun y hy => by
      rcases List.mem_append.mp hy with hy | hy
      · exact c2.2.2.1 y hy
      · exact qo y hy) fun y hy => List.mem_append_right _ (m4 ▸ hy)
    rw [← g, e2, m4]
/-! parts -/
theorem ad_ls {a b : List Int} (hl : a.length + b.length ≤ 100) : adT lstK (ls a) (ls b) h = .ok (ls (a ++ b)) h := by
  show lstK (a.map .int ++ b.map .int) h = _
  rw [← List.map_append]
  exact w_lstK (by
    rw [List.length_map, List.length_append]
    exact Nat.le_trans hl (by decide))
theorem sub_two {m part st : List Int} : decide (m.filter (fun x => !decide (x ∈ part)) ++ part.filter (fun x => !decide (x ∈ st)) = []) = (sub m part && sub part st) := by
  rw [← sub_nil, ← sub_nil, decide_eq_decide.mpr List.append_eq_nil_iff, Bool.decide_and]
theorem list_tts {L : List (List Int)} (hl : L.length ≤ 32) : listF lstK [tts L] h = .ok (lts L) h := by
  show lstK (L.map tp) h = _
  exact w_lstK (by
    rw [List.length_map]
    exact Nat.le_trans hl (by decide))
theorem g_parts (PICK SS IS WB : FM) (hn : n ∈ ns4) (hN : Ch N) (hF : Ch F) {st : List Int} (hst : st ∈ sets n) {h0 h1 : MH}
    {m : List Int} (hm : m ∈ D_ n N F st) (hP : PICK [.loc 1, lts (D_ n N F st)] h0 = .ok (tp m) h1)
    (hSS : ∀ h, SS [chO n N, chO n F, tp st] h = .ok (tts (D_ n N F st)) h)
    (hIS : ∀ s ∈ sets n, ∀ m ∈ sets n, sub m s = true → ∀ h, IS [chO n N, chO n F, tp s, tp m] h = .ok (.bl (stl N F s m)) h)
    (hWB : ∀ m ∈ sets n, ∀ h, WB [chO n N, chO n F, tp m] h = .ok (tp (wis N F (rng n) m)) h) :
    Wp (B__law_parts_right PICK SS IS WB (startR 12 [.loc 1, chO n N, chO n F, tp st, lts (sets n)]) h0) (fun fr => fr = .ret (.bl true) h1) := by
  have mm := D_in hm
  obtain ⟨s1, s2, s3, s4⟩ := ((mem_D hN hF).mp hm).2
  have small : ∀ s, (∀ x ∈ m, x ∈ s) → (∀ x ∈ s, x ∈ st) → Stl N F s m := fun s h1 h2 => ⟨s1, s2, h1, fun x hx => s4 x (h2 x hx)⟩
  have ss : sub m m = true := sub_iff.mpr fun x hx => hx
  have l5 := set5 hn mm
  have lst5 := set5 hn hst
  have w5 := set5 hn (wis_mem (N := N) (F := F) (s := m) hn (rng_mem hn))
  have r5 := set5 hn (rng_mem hn)
  unfold B__law_parts_right
  push_cast [hSS, list_tts (D_len hn st), hP]
  push_cast [hIS m mm m mm ss, stl_of hN hF mm (small m (fun x hx => hx) s3)]
  refine Wp.for_ (enc := tp) (xs := sets n) (h1 := h1) [6, 9] (fun p _ h => h = h1) (by simp) rfl ?_ ?_
  · intro p part post y h ep hh
    subst hh
    have hp : part ∈ sets n := by rw [ep]; simp
    have p5 := set5 hn hp
    unfold L__law_parts_right_1
    refine Wp.seq ?_
    intro fr e
    simp [-s_lcM, setS] at e
    rw [lcInt (s := m) (fun x => !decide (x ∈ part))] at e
    rotate_left
    · rfl
    · omega
    · show 11 < 12
      decide
    · exact fun x _ => by simp [wipeR]
    simp [-s_lcM] at e
    rw [lcInt (s := part) (fun x => !decide (x ∈ st))] at e
    rotate_left
    · rfl
    · omega
    · show 11 < 12
      decide
    · exact fun x _ => by simp [wipeR]
    have la : (m.filter fun x => !decide (x ∈ part)).length + (part.filter fun x => !decide (x ∈ st)).length ≤ 100 := by
      have := List.length_filter_le (fun x => !decide (x ∈ part)) m
      have := List.length_filter_le (fun x => !decide (x ∈ st)) part
      omega
    simp only [] at e
    rw [ad_ls la] at e
    have eb := sub_two (m := m) (part := part) (st := st)
    generalize m.filter (fun x => !decide (x ∈ part)) ++ part.filter (fun x => !decide (x ∈ st)) = w at e eb
    simp [-List.append_eq_nil_iff, eb] at e
    subst e
    simp only [thn_nx]
    refine Wp.run ?_
    intro fr e
    by_cases q : (sub m part && sub part st) = true
    · obtain ⟨q1, q2⟩ := (Bool.and_eq_true _ _).mp q
      simp [q1, q2, hIS part hp m mm q1, stl_of hN hF mm (small part (sub_iff.mp q1) (sub_iff.mp q2))] at e
      subst e
      exact .inl ⟨fun i => [none, none, none, none, none, none, some (tp part), none, none, some (.bl true)].getD i none, _, rfl, rfl⟩
    · rw [Bool.not_eq_true] at q
      rw [q] at e
      simp at e
      subst e
      exact .inl ⟨fun i => [none, none, none, none, none, none, some (tp part), none, none, some (.bl false)].getD i none, _, rfl, rfl⟩
  · intro y h hh
    subst hh
    simp only [setS, List.foldl_cons, List.foldl_nil]
    push_cast [hWB m mm]
    refine Wp.seq ?_
    intro fr e
    simp [-s_lcM] at e
    rw [lcInt (s := rng n) (fun x => !decide (x ∈ wis N F (rng n) m))] at e
    rotate_left
    · simp [ix_last hn]
    · omega
    · show 10 < 12
      decide
    · exact fun x _ => by simp [wipeR]
    simp at e
    subst e
    simp only [thn_nx]
    have hw : (rng n).filter (fun x => !decide (x ∈ wis N F (rng n) m)) ∈ sets n := f_filter n hn _
    have en : ∀ {C : List Int → List Int}, Ch C → ∀ s x, C (ins s x) = C (s ++ [x]) := fun hC s x => hC.ext fun y => by rw [mem_ins]; simp
    have qs : sub m ((rng n).filter (fun x => !decide (x ∈ wis N F (rng n) m))) = true := sub_iff.mpr fun x hx => by
      rw [List.mem_filter]
      refine ⟨sb_of hn mm x hx, ?_⟩
      simp only [Bool.not_eq_true', decide_eq_false_iff_not]
      exact fun z => (mem_wis.mp z).2.1 hx
    have qt : Stl N F ((rng n).filter (fun x => !decide (x ∈ wis N F (rng n) m))) m := ⟨s1, s2, sub_iff.mp qs, fun x hx hx' z1 z2 => by
      rw [List.mem_filter] at hx
      have := hx.2
      simp only [Bool.not_eq_true', decide_eq_false_iff_not] at this
      exact this (mem_wis.mpr ⟨hx.1, hx', by rw [en hN]; exact z1, by rw [en hF]; exact z2⟩)⟩
    have qn : (wis N F (rng n) m).filter (fun x => decide (x ∈ st)) = [] := List.filter_eq_nil_iff.mpr fun x hx => by
      simp only [decide_eq_true_eq]
      intro z
      obtain ⟨_, w2, w3, w4⟩ := mem_wis.mp hx
      exact s4 x z w2 (by rw [← en hN]; exact w3) (by rw [← en hF]; exact w4)
    refine Wp.run ?_
    intro fr e
    simp [-s_lcM, hIS _ hw m mm qs, stl_of hN hF mm qt] at e
    rw [lcInt (s := wis N F (rng n) m) (fun x => decide (x ∈ st))] at e
    rotate_left
    · rfl
    · omega
    · show 10 < 12
      decide
    · exact fun x _ => by simp [wipeR]
    rw [qn] at e
    simp at e
    exact e.symm
end K41
namespace K41
open PySem PySem.Spec L2 TW
local macro_rules | `(tactic| push_cast [$a,*]) => `(tactic| (refine Wp.seq ?_; intro fr e; simp [$a,*] at e; subst e; simp only [thn_nx, thn_ret]))
variable {n : Nat} {h : MH} {N F : List Int → List Int} {o : List Int}
abbrev kt (l r : List Int) : MH := [.lst (l.map .int), .lst (r.map .int)]
theorem kt_low (l r : List Int) : (kt l r).all (lowO (2 + (kt l r).length)) = true := low_two (pre := []) rfl
theorem pickT {P : FM} (hP : PickOk P) {ss : List (List Int)} (h0 : ss ≠ []) (hl : ss.length ≤ 32) (R : List Int) (m d : Int) (tl : MH) (ht : tl.all (lowO (2 + tl.length)) = true) (hR : R.length ≤ 1000) (hd : 0 ≤ d ∧ d ≤ 1000) :
    ∃ R' t, P [.loc 1, lts ss] (dkH R m d tl) = .ok (tp t) (dkH R' m (d + 1) tl) ∧ t ∈ ss ∧ R'.length ≤ R.length := by
  obtain ⟨R', x, e, h1, h2⟩ := hP (ss.map tp) (by simpa using h0) (by rw [List.length_map]; omega) (lows_mem (lows_tp ss)) R m d tl ht hR hd
  obtain ⟨t, ht, rfl⟩ := List.mem_map.mp h1
  exact ⟨R', t, e, ht, h2⟩
def ParOk (P : FM) : Prop := ∀ n ∈ ns4, ∀ f g, Ch f → Ch g → ∀ st ∈ sets n, ∀ (R : List Int) (m d : Int) (tl : MH), tl.all (lowO (2 + tl.length)) = true → R.length ≤ 1000 → 0 ≤ d ∧ d ≤ 1000 →
    ∃ R', P [.loc 1, chO n f, chO n g, tp st, lts (sets n)] (dkH R m d tl) = .ok (.bl true) (dkH R' m (d + 1) tl) ∧ R'.length ≤ R.length
theorem parOk : ParOk m__law_parts_right := fun n hn f g hf hg st hst R m d tl ht hR hd => by
  obtain ⟨_, b1, b2, _⟩ := best_ok hf hg hn hst
  obtain ⟨R', t, e, h1, h2⟩ := pickT pickOk (List.ne_nil_of_mem ((mem_D hf hg).mpr ⟨b1, b2⟩)) (D_len hn st) R m d tl ht hR hd
  refine ⟨R', ?_, h2⟩
  have gp := g_parts m__law_pick m_settled_sets m_is_settled m_wished_by_both hn hf hg hst h1 e (fun h => x_ssets hn hst) (fun s hs m hm q h => x_isst hn hs hm q) (fun m hm h => x_wbb hn hm)
  have g' : b__law_parts_right (startR 12 [.loc 1, chO n f, chO n g, tp st, lts (sets n)]) (dkH R m d tl) = .ret (.bl true) (dkH R' m (d + 1) tl) := gp
  unfold m__law_parts_right pur
  rw [if_neg (by simp only [lows, low, Nat.blt]; simp)]
  unfold reg fnB
  rw [g']
  exact endR_dkx rfl ht
theorem er_perm : ∀ {l : List Int} {i : Nat} (h : i < l.length), (l[i] :: l.eraseIdx i).Perm l
  | a :: l, 0, _ => List.Perm.refl _
  | a :: l, i + 1, h => by
    have := er_perm (l := l) (i := i) (by simpa using h)
    simp only [List.getElem_cons_succ, List.eraseIdx_cons_succ]
    exact (List.Perm.swap _ _ _).trans (this.cons a)
/-- the order drawn, one turn -/
theorem pop_step (D : FM) (hD : DrawOk D) {left row R : List Int} {m d : Int} {r : Rho} (e1 : ∀ h, vr 1 r h = .ok (.loc 1) h) (e2 : ∀ h, vr 13 r h = .ok (.loc 2) h) (e3 : ∀ h, vr 14 r h = .ok (.loc 3) h) (h0 : left ≠ []) (hl : left.length ≤ 1000) (hr : row.length ≤ 1000) (hR : R.length ≤ 1000) (hd : 0 ≤ d ∧ d ≤ 1000) :
    ∃ R' left' row', L_law_1 D r (dkH R m d (kt left row)) = .nx r (dkH R' m (d + 1) (kt left' row')) ∧ row'.length = row.length + 1 ∧ (left' ++ row').Perm (left ++ row) ∧ R'.length ≤ R.length := by
  have hlp : 0 < left.length := List.length_pos_iff.mpr h0
  obtain ⟨R', v, e, v1, v2, v3⟩ := hD left.length (by omega) (by omega) R m d _ (kt_low left row) hR hd
  have hv : v.toNat < left.length := by omega
  have eN : lenF [.loc 2] (dkH R m d (kt left row)) = .ok (.int left.length) (dkH R m d (kt left row)) := by
    show Res.ok (T.int ((left.map T.int).length : Nat)) _ = _
    rw [List.length_map]
  have eP : paT (.loc 2) [.int v] (dkH R' m (d + 1) (kt left row)) = .ok (.int left[v.toNat]) (dkH R' m (d + 1) (kt (left.eraseIdx v.toNat) row)) := by
    rw [w_pa (show (dkH R' m (d + 1) (kt left row))[2]? = some (.lst (left.map .int)) from rfl) (by constructor <;> omega) (seqI v1 (by rw [List.length_map]; omega)) (y := .int left[v.toNat]) (by rw [List.getElem?_map, List.getElem?_eq_getElem hv]; rfl), er_map]
    rfl
  have eA : apT (.loc 3) [.int left[v.toNat]] (dkH R' m (d + 1) (kt (left.eraseIdx v.toNat) row)) = .ok .non (dkH R' m (d + 1) (kt (left.eraseIdx v.toNat) (row ++ [left[v.toNat]]))) := by
    rw [w_ap2 (show (dkH R' m (d + 1) (kt (left.eraseIdx v.toNat) row))[3]? = some (.lst (row.map .int)) from rfl) (by rw [List.length_map]; exact Nat.lt_of_le_of_lt hr (by decide))]
    show Res.ok _ (dkH R' m (d + 1) [.lst _, .lst (row.map .int ++ [.int left[v.toNat]])]) = _
    unfold kt
    rw [List.map_append]
    rfl
  have t2 : ∀ (R : List Int) (d : Int) (x y : List Int), isTy "list" (dkH R m d (kt x y)) (.loc 2) = true := fun _ _ _ _ => rfl
  have t3 : ∀ (R : List Int) (d : Int) (x y : List Int), isTy "list" (dkH R m d (kt x y)) (.loc 3) = true := fun _ _ _ _ => rfl
  refine ⟨R', left.eraseIdx v.toNat, row ++ [left[v.toNat]], ?_, by simp, ?_, v3⟩
  · unfold L_law_1
    simp [e1, e2, e3, t2, t3, eN, e, eP, eA]
  · have := er_perm hv
    refine (List.perm_append_comm.trans ?_).trans (this.append_right row)
    simp only [List.append_assoc, List.cons_append, List.nil_append]
    exact List.perm_middle.trans (List.Perm.cons _ List.perm_append_comm)
theorem g_par (SETS : FM) (hn : n ∈ ns4) (hS : ∀ h, SETS [.int (n : Nat)] h = .ok (lts (sets n)) h) {a0 a1 a10 a11 : Option T} {R : List Int} {m d : Int} :
    sPar3 12 13 14 (ac (emCall (arg 1 SETS) (ac (vr 2) an)) (ac (emRgL lstL (rg1 (vr 2))) (ac (emL lstL an) an))) [a0, a1, some (.int n), none, none, none, none, none, none, none, a10, a11, none, none, none, none, none, none, none, none, none, none] (dkH R m d []) =
      .nx [a0, a1, some (.int n), none, none, none, none, none, none, none, a10, a11, some (lts (sets n)), some (.loc 2), some (.loc 3), none, none, none, none, none, none, none] (dkH R m d (kt (rng n) [])) := by
  generalize er : [a0, a1, some (T.int n), none, none, none, none, none, none, none, a10, a11, none, none, none, none, none, none, none, none, none, none] = r
  have ev : ∀ h, vr 2 r h = .ok (.int n) h := fun h => by subst er; rfl
  have e1 : ∀ h, emCall (arg 1 SETS) (ac (vr 2) an) r h = .ok (lts (sets n)) h := fun h => by simp [ev, hS]
  have e2 : emRgL lstL (rg1 (vr 2)) r (dkH R m d []) = .ok (.loc 2) (dkH R m d [.lst ((rng n).map .int)]) := rg_cell hn (ev _)
  have e3 : emL lstL an r (dkH R m d [.lst ((rng n).map .int)]) = .ok (.loc 3) (dkH R m d (kt (rng n) [])) := rfl
  have ea : ac (emCall (arg 1 SETS) (ac (vr 2) an)) (ac (emRgL lstL (rg1 (vr 2))) (ac (emL lstL an) an)) r (dkH R m d []) = .ok [lts (sets n), .loc 2, .loc 3] (dkH R m d (kt (rng n) [])) := by
    rw [s_ac, e1, s_bindok, s_ac, e2, s_bindok, s_ac, e3, s_bindok, s_an, s_bindok, s_bindok, s_bindok]
  rw [s_par3, ea, s_liftok]
  subst er
  rfl
theorem x_isren (hn : n ∈ ns4) (ho : Od n o) (hN : Ch N) (hF : Ch F) {st : List Int} (hst : st ∈ sets n) : m__law_is_renamed [chO n N, chO n F, tp o, tp st] h = .ok (.bl true) h :=
  pur_wp (by simp only [lows, low_tp, low_chO, Bool.and_self]) rfl (g_isren m_renamed m__law_named m__law_in_order m_settled_sets m_wished_by_both m_rounds_of m_sure_offers m_vain_offers hn ho hN hF hst
    (fun C hC h => x_renamed hn ho hC) (fun s hs h => x_named ho (sb_of hn hs) (set5 hn hs)) (fun L a b c h => x_in_order hn a b c) (fun f g s hs h => x_ssets hn hs) (fun f g s hs h => x_wbb hn hs)
    (fun f g hf hg s hs h => x_rounds hf hg hn hs) (fun f g s hs h => x_sur hn hs) (fun f g s hs h => x_vai hn hs))
theorem g_law (DECK DRAW CHO LISTS SETS PICK REN SS SU PAR LEA BEST ROU VAI : FM) (ns : List Int)
    (hDECK : ∃ h', DECK [.klst (ns.map .int)] [] = .ok (.loc 1) h' ∧ Dk 0 h') (hD : DrawOk DRAW) (hL : Ls LISTS) (hP : PickOk PICK) (hPAR : ParOk PAR)
    (hC : ∀ n ∈ ns4, ∀ c, Sz c → ∀ h, CHO [.int (n : Nat), lls c] h = .ok (chO n (taken c)) h)
    (hSETS : ∀ n ∈ ns4, ∀ h, SETS [.int (n : Nat)] h = .ok (lts (sets n)) h)
    (hREN : ∀ n ∈ ns4, ∀ f g, Ch f → Ch g → ∀ o, Od n o → ∀ st ∈ sets n, ∀ h, REN [chO n f, chO n g, tp o, tp st] h = .ok (.bl true) h)
    (hSS : ∀ n ∈ ns4, ∀ f g, ∀ st ∈ sets n, ∀ h, SS [chO n f, chO n g, tp st] h = .ok (tts (D_ n f g st)) h)
    (hSU : ∀ n ∈ ns4, ∀ f g, ∀ st ∈ sets n, ∀ h, SU [chO n f, chO n g, tp st] h = .ok (tp (sur n f g st)) h)
    (hLE : ∀ n ∈ ns4, ∀ f, Ch f → ∀ out ∈ sets n, ∀ h, LEA [chO n f, tp out] h = .ok (chO n (fun s => lo f out s)) h)
    (hB : ∀ n ∈ ns4, ∀ f g, Ch f → Ch g → ∀ st ∈ sets n, ∀ h, BEST [chO n f, chO n g, tp st] h = .ok (tp (best f g n st)) h)
    (hRO : ∀ n ∈ ns4, ∀ f g, Ch f → Ch g → ∀ st ∈ sets n, ∀ h, ROU [chO n f, chO n g, tp st] h = .ok (.tup ((rnds f g st (n + 1) [] []).map prT)) h)
    (hVA : ∀ n ∈ ns4, ∀ f g, ∀ st ∈ sets n, ∀ h, VAI [chO n f, chO n g, tp st] h = .ok (tp (vai n f g st)) h) :
    Wp (B_law DECK DRAW CHO LISTS SETS PICK REN SS SU PAR LEA BEST ROU VAI (startR 22 [.klst (ns.map .int)]) []) (fun fr => ∃ h', fr = .ret (.bl true) h') := by
  obtain ⟨h1, e1, d1⟩ := hDECK
  obtain ⟨h2, v, e2, d2, v1, v2⟩ := dr_ok hD 4 0 h1 (by omega) (by omega) (by omega) d1
  obtain ⟨n, hn, hv⟩ := ns4_of v1 v2
  obtain ⟨h3, c1, e3, d3, z1⟩ := hL n hn _ h2 (by omega) d2
  obtain ⟨h4, c2, e4, d4, z2⟩ := hL n hn _ h3 (by omega) d3
  have hN := ch_taken c1
  have hF := ch_taken c2
  have e5 := hC n hn c1 z1
  have e6 := hC n hn c2 z2
  generalize taken c1 = N at hN e5
  generalize taken c2 = F at hF e6
  obtain ⟨R, m, d, rfl, R1, dd⟩ := d4
  unfold B_law
  push_cast [e1]
  push_cast [e2, hv]
  push_cast [e3, e4, e5, e6]
  refine Wp.seq ?_
  intro fr e
  rw [g_par SETS hn (hSETS n hn)] at e
  subst e
  simp only [thn_nx]
  refine Wp.for_ (enc := T.int) (xs := rng n) (h1 := dkH R m d (kt (rng n) [])) [3] (fun p _ h => ∃ R' d' l r, h = dkH R' m d' (kt l r) ∧ R'.length ≤ 1000 ∧ 0 ≤ d' ∧ d' ≤ 100 + p.length ∧ (l ++ r).Perm (rng n) ∧ r.length = p.length) ?_ ⟨R, d, rng n, [], rfl, R1, dd.1, by simp; omega, by simp, rfl⟩ ?_ ?_
  · rw [rg_one hn (by simp)]
  · intro p a post y h ep hh
    obtain ⟨R', d', l, r, rfl, q1, q2, q3, q4, q5⟩ := hh
    have ln := rng_len n
    have l5 := ns4_le hn
    have lp : p.length < n := by
      have := congrArg List.length ep
      simp at this
      omega
    have lq := q4.length_eq
    rw [List.length_append] at lq
    obtain ⟨R2, l2, r2, w1, w2, w3, w4⟩ := pop_step DRAW hD (left := l) (row := r) (R := R') (m := m) (d := d') (r := [some (.klst (ns.map .int)), some (.loc 1), some (.int n), some (.int a), none, none, none, none, none, none, some (chO n N), some (chO n F), some (lts (sets n)), some (.loc 2), some (.loc 3), none, none, none, none, none, none, none])
      (fun _ => rfl) (fun _ => rfl) (fun _ => rfl) (fun z => by subst z; simp at lq; omega) (by omega) (by omega) q1 (by omega)
    refine Wp.run ?_
    intro fr e
    rw [← e]
    refine .inl ⟨fun i => [none, none, none, some (T.int a)].getD i none, _, w1, R2, _, l2, r2, rfl, by omega, by omega, by simp; omega, w3.trans q4, by simp; omega⟩
  · intro y h hh
    obtain ⟨R', d', l, r, rfl, q1, q2, q3, q4, q5⟩ := hh
    have ln := rng_len n
    have l5 := ns4_le hn
    have lq := q4.length_eq
    rw [List.length_append] at lq
    have l0 : l = [] := List.length_eq_zero_iff.mp (by omega)
    subst l0
    have ho : Od n r := q4
    simp only [setS, List.foldl_cons, List.foldl_nil]
    obtain ⟨R3, t1, f1, g1, k1⟩ := pickT hP (sets_ne n hn) (sets_len n hn) R' m d' (kt [] r) (kt_low [] r) q1 (by omega)
    obtain ⟨R4, t2, f2, g2, k2⟩ := pickT hP (sets_ne n hn) (sets_len n hn) R3 m (d' + 1) (kt [] r) (kt_low [] r) (by omega) (by omega)
    obtain ⟨R5, st, f3, g3, k3⟩ := pickT hP (ss := [rng n, t1, t2]) (by simp) (by simp) R4 m (d' + 1 + 1) (kt [] r) (kt_low [] r) (by omega) (by omega)
    have hst : st ∈ sets n := by
      simp only [List.mem_cons, List.not_mem_nil, or_false] at g3
      rcases g3 with rfl | rfl | rfl
      · exact rng_mem hn
      · exact g1
      · exact g2
    obtain ⟨R6, f4, k4⟩ := hPAR n hn N F hN hF st hst R5 m (d' + 1 + 1 + 1) (kt [] r) (kt_low [] r) (by omega) (by omega)
    push_cast [ix_last hn, f1, f2, show ∀ h, lstK [tp (rng n), tp t1, tp t2] h = .ok (lts [rng n, t1, t2]) h from fun _ => rfl, f3]
    have hT : tupF [.loc 3] (dkH R5 m (d' + 1 + 1 + 1) (kt [] r)) = .ok (tp r) (dkH R5 m (d' + 1 + 1 + 1) (kt [] r)) := rfl
    push_cast [hT, hREN n hn N F hN hF r ho st hst]
    push_cast [hSS n hn N F st hst, hSU n hn N F st hst]
    push_cast [hSS n hn F N st hst, hSU n hn F N st hst, D_sw, sur_sw]
    push_cast [f4]
    generalize dkH R6 m (d' + 1 + 1 + 1 + 1) (kt [] r) = hh
    have r5 := rng_len n
    have st5 := set5 hn hst
    have rm := rng_mem hn
    refine Wp.seq ?_
    intro fr e
    simp [-s_lcM] at e
    rw [lcInt (s := rng n) (fun x => !decide (x ∈ st))] at e
    rotate_left
    · simp [ix_last hn]
    · omega
    · show 21 < 22
      decide
    · exact fun x _ => by simp [wipeR]
    rw [show (rng n).filter (fun x => !decide (x ∈ st)) = los n st from rfl] at e
    simp at e
    subst e
    simp only [thn_nx]
    have ol := los_mem hn st
    have hNL := ch_lo hN (los n st)
    have hFL := ch_lo hF (los n st)
    have k1 : ∀ t ∈ sets n, Stl (fun s => lo N (los n st) s) (fun s => lo F (los n st) s) (rng n) t ↔ Stl N F st t := fun t ht => stl_lo hn hst ht (lo_same hN) (lo_same hF) fun s hs x hx _ => lo_in hN s hs x hx
    have k2 : ∀ t ∈ sets n, Stl (fun s => lo N (los n st) s) F (rng n) t ↔ Stl N F st t := fun t ht => stl_lo hn hst ht (lo_same hN) (fun _ _ => rfl) fun s hs x hx _ => lo_in hN s hs x hx
    have k3 : ∀ t ∈ sets n, Stl N (fun s => lo F (los n st) s) (rng n) t ↔ Stl N F st t := fun t ht => stl_lo hn hst ht (fun _ _ => rfl) (lo_same hF) fun s hs x _ hx => lo_in hF s hs x hx
    have D1 := D_ext hN hF hNL hFL k1
    have D2 := D_ext hN hF hNL hF k2
    have D3 := D_ext hN hF hN hFL k3
    have B1 := best_one hN hF hNL hFL hn hst (lo_same hN) k1
    have eL1 := hLE n hn N hN _ ol
    have eL2 := hLE n hn F hF _ ol
    generalize (fun s => lo N (los n st) s) = NL at hNL D1 D2 B1 eL1
    generalize (fun s => lo F (los n st) s) = FL at hFL D1 D3 B1 eL2
    push_cast [eL1, eL2]
    push_cast [hB n hn N F hN hF st hst]
    push_cast [ix_last hn, hSS n hn NL FL _ rm, hB n hn NL FL hNL hFL _ rm, D1, B1]
    push_cast [ix_last hn, hSS n hn NL F _ rm, hSS n hn N FL _ rm, D2, D3]
    push_cast []
    have ml := rnds_mem hN hF hn hst (n + 1) [] [] (start_ n hn st)
    refine Wp.forG (enc := prT) (xs := rnds N F st (n + 1) [] []) (h1 := hh) [7, 19, 20] (fun p y h => h = hh ∧ y 7 = some (ls (evs p)) ∧ (evs p).length ≤ 5 * p.length) (fun p r => (r.set 19 (some (tp p.1))).set 20 (some (tp p.2))) ?_ ?_ ⟨rfl, rfl, Nat.le_refl _⟩ ?_ ?_
    · simp [hRO n hn N F hN hF st hst]
    · exact fun _ _ => rfl
    · rintro p a post y h ep ⟨rfl, y7, yl⟩
      have ma := ml.1 a (by rw [ep]; simp)
      have a5 := set5 hn ma.1
      have pl : p.length ≤ 5 := by
        have := congrArg List.length ep
        simp at this
        omega
      simp only [setS, List.foldl_cons, List.foldl_nil, y7]
      unfold L_law_2
      refine Wp.run ?_
      intro fr e
      simp [-s_lcM] at e
      rw [lcInt (s := a.1) (fun x => !decide (x ∈ evs p))] at e
      rotate_left
      · rfl
      · omega
      · show 21 < 22
        decide
      · exact fun x _ => by simp [wipeR]
      have fl := List.length_filter_le (fun x => !decide (x ∈ evs p)) a.1
      simp only [] at e
      rw [ad_ls (by omega)] at e
      simp at e
      subst e
      have ee : evs (p ++ [a]) = evs p ++ a.1.filter (fun x => !decide (x ∈ evs p)) := by
        unfold evs
        rw [List.foldl_append]
        rfl
      refine .inl ⟨fun i => [none, none, none, none, none, none, none, some (ls (evs p ++ a.1.filter (fun x => !decide (x ∈ evs p)))), none, none, none, none, none, none, none, none, none, none, none, some (tp a.1), some (tp a.2)].getD i none, _, rfl, rfl, ?_, ?_⟩
      · rw [ee]
        rfl
      · rw [ee, List.length_append, List.length_append]
        simp only [List.length_singleton]
        omega
    · rintro y h ⟨rfl, y7, yl⟩
      simp only [setS, List.foldl_cons, List.foldl_nil, y7]
      obtain ⟨w1, w2⟩ := refd_ok hN hF hn hst
      have n5 := ns4_le hn
      refine Wp.seq ?_
      intro fr e
      simp [-s_lcM] at e
      rw [lcInt (s := evs (rnds N F st (n + 1) [] [])) (fun x => !decide (x ∈ best N F n st))] at e
      rotate_left
      · rfl
      · omega
      · show 21 < 22
        decide
      · exact fun x _ => by simp [wipeR]
      rw [show (evs (rnds N F st (n + 1) [] [])).filter (fun x => !decide (x ∈ best N F n st)) = refd N F n st from rfl] at e
      have rl : (refd N F n st).length ≤ 100 := Nat.le_trans (List.length_filter_le _ _) (by omega)
      simp at e
      subst e
      simp only [thn_nx]
      generalize refd N F n st = rf at w1 w2 rl
      refine Wp.seq ?_
      intro fr e
      simp [-s_lcM] at e
      rw [lcInt (s := rf) (fun x => !decide (x ∈ vai n N F st))] at e
      rotate_left
      · rfl
      · omega
      · show 21 < 22
        decide
      · exact fun x _ => by simp [wipeR, hVA n hn N F st hst]
      rw [show rf.filter (fun x => !decide (x ∈ vai n N F st)) = [] from List.filter_eq_nil_iff.mpr fun x hx => by simp [w1 x hx]] at e
      simp at e
      subst e
      simp only [thn_nx]
      refine Wp.seq ?_
      intro fr e
      simp [-s_lcM] at e
      rw [lcInt (s := st) (fun x => !decide (x ∈ rf))] at e
      rotate_left
      · rfl
      · omega
      · show 21 < 22
        decide
      · exact fun x _ => by simp [wipeR]
      simp at e
      subst e
      simp only [thn_nx]
      refine Wp.run ?_
      intro fr e
      simp [hB n hn N F hN hF _ (filt_mem' hn hst _), w2] at e
      exact ⟨_, e.symm⟩
theorem law_true : LawT m_law 63 := law_of rfl fun ns hl => g_law m__law_deck m__law_draw m__law_chooser m__law_lists m__law_sets m__law_pick m__law_is_renamed m_settled_sets m_sure_offers m__law_parts_right m_leaving_out m_best_settled m_rounds_of m_vain_offers ns (deck_ok ns hl) drawOk ls_ok pickOk parOk
  (fun n hn c hc h => x_chooser hn c hc) (fun n hn h => x_law_sets n hn h) (fun n hn f g hf hg o ho st hs h => x_isren hn ho hf hg hs) (fun n hn f g st hs h => x_ssets hn hs) (fun n hn f g st hs h => x_sur hn hs)
  (fun n hn f hf out ho h => x_leaving hn hf ho) (fun n hn f g hf hg st hs h => x_best hf hg hn hs) (fun n hn f g hf hg st hs h => x_rounds hf hg hn hs) (fun n hn f g st hs h => x_vai hn hs)
end K41
open PySem PySem.W PySem.Calls PyProof.Rows
theorem PySem.Challenge.cw_offerstands_k41_whole_two_sides_renamed_holds : PySem.Challenge.rw_offerstands_k41_whole_two_sides_renamed.Holds := by
  w_on; o_law
  refine HandSHeadRun.head_any (r := OpenLaw.row PySem.Challenge.rw_offerstands_k41_whole_two_sides_renamed) (q := view (OpenLaw.row PySem.Challenge.rw_offerstands_k41_whole_two_sides_renamed).prog [54]) (H := K41.hk) (ob := K41.ob) (M := 4000) (loose := K41.loose) (d := HandSHeadRun.topDef (OpenLaw.row PySem.Challenge.rw_offerstands_k41_whole_two_sides_renamed).prog 54) (kwd := []) K41.ob_eq
    (by kernel_rfl) (fun s => by kernel_rfl) K41.run (by kernel_rfl) (by kernel_rfl) (by kernel_rfl) (by rfl) (by first | assumption | decide +kernel) (by decide +kernel) ⟨rfl, rfl, rfl, rfl, rfl, by decide +kernel⟩ ?hw ?hc
  case hw => w_witness2
  case hc =>
    refine LamX.walk_ofTsE (l := PySem.Challenge.rw_offerstands_k41_whole_two_sides_renamed) (n := 63) (k := 9) (x := "_law_script") (CX := fun w => L2.CX (PySem.Challenge.rw_offerstands_k41_whole_two_sides_renamed).prog w) rfl (by decide) (by kernel_rfl) ⟨rfl, by decide, by decide⟩ ?F ?hC
    case hC =>
      intro w H s e s' h
      obtain ⟨_, _, _, _, _, _, _, _, _, _, _, _, z⟩ := h
      exact z.elim
    intro w mg fa h Y G hmg0
    obtain ⟨K, KX, c⟩ := Y
    have hmg : mg ("law" : PySem.Str) = some (.ref fa) := by
      have e : (HandSHeadRun.topDef (OpenLaw.row PySem.Challenge.rw_offerstands_k41_whole_two_sides_renamed).prog 54).name = ("law" : PySem.Str) := by kernel_rfl
      rw [← e]
      exact hmg0
    exact ⟨K, KX, K41.facts KX G hmg c K41.law_true⟩
