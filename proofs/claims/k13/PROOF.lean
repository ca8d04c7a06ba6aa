import PyProof.Rows.All
import Wide.All
import OpenK.AllK
import Wide.FinOn
import HandS.ForMost
import HandS.ForExc
import HandS.IsInst
import HandS.SortInts
import HandS.Lambda
import HandS.SortKw
import HandS.Iter
import KE.KSortTup
import KE.SortLaws
import HandS.NamedTupSort
import HandS.Conv
import PyProof.DictMoreH
import HandS.TupSets
import HandS.TupAny
import HandS.More
import HandS.TupMul
import KE.DataCmp
import HandS.Strs
import HandS.SetFor
import KE.GoesMore
import KE.GoesEnum
import PyProof.Claim2Refuses
import KE.DataMinMax
import HandS.Nested
import HandS.ExcOwn
import HandS.ExcInit
import HandS.ExcIs
import HandS.ExcField
import HandS.NestedK
import KE.KExcIs
import HandS.Defaults
import HandS.HeadHook4
import HandS.ClsMeth
import HandS.Words
import HandS.HeadEnd
import HandS.Head2
import HandS.HeadWalk
import PySem.Challenge.RW_breakreports_k13_sides_refused_anywhere
set_option Elab.async false
set_option linter.all false
set_option maxRecDepth 100000
set_option autoImplicit false
/-! Br: a small interpreter for the Python that stands here; data, store, evaluator. -/
namespace Br
open PySem PySem.Spec PyProof.Rows L2

/-- data: lst is a list that nobody changes any more, ref a thing of the store -/
inductive D where
  | non | bl (b : Bool) | int (i : Int) | str (s : Str) | tup (ds : List D) | lst (ds : List D) | scr (ns : List Int) | ref (n : Nat)
/-- what stands in the store -/
inductive O where
  | lst (ds : List D) | dct (kvs : List (Key × D)) | dtt (kvs : List (List Int × D)) | ins (c : Str) (fs : List (Str × D))
abbrev Mem := List O
inductive Res (α : Type) where
  | ok (a : α) (m : Mem) | ex (c : Str) (ds : List D) (m : Mem) | bad
def Res.bind {α β : Type} (r : Res α) (f : α → Mem → Res β) : Res β := match r with
  | .ok a m => f a m
  | .ex c ds m => .ex c ds m
  | .bad => .bad

mutual
def D.beq : D → D → Bool
  | .non, .non => true
  | .bl a, .bl b => a == b
  | .int a, .int b => a == b
  | .str a, .str b => a == b
  | .tup a, .tup b => D.beqs a b
  | .lst a, .lst b => D.beqs a b
  | .ref a, .ref b => a == b
  | .scr a, .scr b => a == b
  | _, _ => false
def D.beqs : List D → List D → Bool
  | [], [] => true
  | a :: r, b :: s => D.beq a b && D.beqs r s
  | _, _ => false
end
mutual
theorem D.beq_iff : ∀ a b : D, D.beq a b = true ↔ a = b
  | .non, b => by cases b <;> simp [D.beq]
  | .bl _, b => by cases b <;> simp [D.beq]
  | .int _, b => by cases b <;> simp [D.beq]
  | .str _, b => by cases b <;> simp [D.beq]
  | .ref _, b => by cases b <;> simp [D.beq]
  | .scr _, b => by cases b <;> simp [D.beq]
  | .tup x, b => by cases b <;> simp [D.beq, D.beqs_iff x]
  | .lst x, b => by cases b <;> simp [D.beq, D.beqs_iff x]
theorem D.beqs_iff : ∀ a b : List D, D.beqs a b = true ↔ a = b
  | [], b => by cases b <;> simp [D.beqs]
  | x :: r, b => by cases b <;> simp [D.beqs, D.beq_iff x, D.beqs_iff r]
end
instance : DecidableEq D := fun a b => decidable_of_iff _ (D.beq_iff a b)
instance : DecidableEq O := fun a b => match a, b with
  | .lst x, .lst y => decidable_of_iff (x = y) (by simp)
  | .dct x, .dct y => decidable_of_iff (x = y) (by simp)
  | .dtt x, .dtt y => decidable_of_iff (x = y) (by simp)
  | .ins c x, .ins d y => decidable_of_iff (c = d ∧ x = y) (by simp)
  | .lst _, .dct _ => isFalse (fun z => nomatch z)
  | .lst _, .dtt _ => isFalse (fun z => nomatch z)
  | .lst _, .ins _ _ => isFalse (fun z => nomatch z)
  | .dct _, .lst _ => isFalse (fun z => nomatch z)
  | .dct _, .dtt _ => isFalse (fun z => nomatch z)
  | .dct _, .ins _ _ => isFalse (fun z => nomatch z)
  | .dtt _, .lst _ => isFalse (fun z => nomatch z)
  | .dtt _, .dct _ => isFalse (fun z => nomatch z)
  | .dtt _, .ins _ _ => isFalse (fun z => nomatch z)
  | .ins _ _, .lst _ => isFalse (fun z => nomatch z)
  | .ins _ _, .dct _ => isFalse (fun z => nomatch z)
  | .ins _ _, .dtt _ => isFalse (fun z => nomatch z)

/-! ### == -/
mutual
def toPy : D → PyData
  | .non => .none
  | .bl b => .bool b
  | .int i => .int i
  | .str s => .str s
  | .tup ds => .tuple (toPys ds)
  | .lst ds => .list (toPys ds)
  | .ref _ => .none
  | .scr _ => .none
def toPys : List D → List PyData
  | [] => []
  | d :: r => toPy d :: toPys r
end
mutual
/-- no thing of the store within -/
def D.pure : D → Bool
  | .tup ds => D.pures ds
  | .lst ds => D.pures ds
  | .ref _ => false
  | .scr _ => false
  | _ => true
def D.pures : List D → Bool
  | [] => true
  | d :: r => D.pure d && D.pures r
end
mutual
def D.dep : D → Nat
  | .tup ds => D.deps ds + 1
  | .lst ds => D.deps ds + 1
  | _ => 0
def D.deps : List D → Nat
  | [] => 0
  | d :: r => max (D.dep d) (D.deps r)
end
mutual
/-- things of the store told by g -/
def D.res (g : Nat → Option D) : D → Option D
  | .tup ds => (D.ress g ds).map .tup
  | .lst ds => (D.ress g ds).map .lst
  | .ref n => g n
  | d => some d
def D.ress (g : Nat → Option D) : List D → Option (List D)
  | [] => some []
  | d :: r => match D.res g d, D.ress g r with
    | some d', some r' => some (d' :: r')
    | _, _ => none
end
/-- the things of the store from k on, told as lists that stay; n: how deep -/
def frz (m : Mem) (k : Nat) : Nat → Nat → Option D
  | 0, i => if i < k then some (.ref i) else none
  | n + 1, i => if i < k then some (.ref i) else match m[i]? with
    | some (.lst ds) => (D.ress (frz m k n) ds).map .lst
    | _ => none
def frzD (m : Mem) (k : Nat) (d : D) : Option D := D.res (frz m k 6) d

/-! ### the language -/
inductive Bop where | add | sub | mul | fdiv | mod | pow
  deriving DecidableEq
inductive Cop where | eq | ne | lt | le | gt | ge | isn | notn | inn | nin
  deriving DecidableEq
inductive Ty where | int | bool | str | list | tuple
  deriving DecidableEq
inductive Fn where | len | list | tuple | sorted | min | max | sum | str | int | dict | min2 | max2 | sortedSet | rngL | rngT | dct0 | sortedSetT | index | dctT0 | sortedDT | minT | count
  deriving DecidableEq
/-- what a comprehension or a for goes through -/
inductive Wk where | seq | rng1 | rng2 | rngD | enum | enumT | str
  deriving DecidableEq
/-- where its items go -/
inductive Tg where | one (i : Nat) | tup (is : List Nat)
  deriving DecidableEq
mutual
inductive Ex where
  | var (i : Nat)
  | glo (x : Str)
  | cst (d : D)
  | bin (o : Bop) (a b : Ex)
  | cmp (o : Cop) (a b : Ex)
  | chain (o o' : Cop) (a b c : Ex)
  | and (a b : Ex)
  | or (a b : Ex)
  | not (a : Ex)
  | ite (c a b : Ex)
  | fn (f : Fn) (es : Exs)
  | isin (a : Ex) (ts : List Ty)
  | call (f : Str) (es : Exs)
  | idx (a b : Ex)
  | sli (a : Ex) (lo hi : Exs)
  | tup (es : Exs)
  | lst (fr : Bool) (es : Exs)
  | comp (own : List (Str × Nat)) (tg : Tg) (k : Wk) (it : Exs) (c : Exs) (e : Ex)
  | scope (a : Ex)
  /-- a new list that is a thing of the store -/
  | new (a : Ex)
  /-- f(es, lambda: x), how many parameters, what it captures -/
  | hof (f : Str) (es : Exs) (np : Nat) (caps : List Nat) (x : Ex)
  /-- a call of the function that was handed in -/
  | callv (es : Exs)
  /-- sorted(e, key=lambda: x) -/
  | sortK (es : Exs) (caps : List Nat) (x : Ex)
  /-- o.pop(es) of a list -/
  | lpop (o : Ex) (es : Exs)
  /-- o.setdefault(k, e), o[k]: o a dict with tuple keys -/
  | sdef (o k e : Ex)
  | dgetT (o k : Ex)
  /-- a dict display, looked at once: by [k], by .get(k) -/
  | pick (get : Bool) (ks : List Str) (es : Exs) (k : Ex)
  /-- of the exception that is caught, slot i being its name: isinstance(e, c), e.f -/
  | isx (i : Nat) (c : Str)
  | xat (i : Nat) (f : Str)
inductive Exs where
  | nil
  | cons (e : Ex) (r : Exs)
end

/-! ### a dict whose keys are tuples of ints -/
def thI (k : List Int) : Int := reduceHash (Builtin.Tuple.tupleHashOf (k.map hashInt))
def enT (x : List Int × Addr × Value) : DictEntry := ⟨thI x.1, .ref x.2.1, x.2.2⟩
/-- its object, without the keys themselves -/
def DT0 (h : Heap) (a : Addr) (xs : List (List Int × Addr × V)) : Prop := ∃ ys : List (List Int × Addr × Value), Paired (fun (p : List Int × Addr × V) (q : List Int × Addr × Value) => p.1 = q.1 ∧ p.2.1 = q.2.1 ∧ RelV p.2.2 q.2.2) xs ys ∧
  ∃ o es ep, h.get? a = some o ∧ o.ExactDict ∧ o.data = .dict es ep ∧ es.toList = ys.map enT ∧ (ys.map (·.1)).Nodup
def DTO (a : Addr) (xs : List (List Int × Addr × V)) : HO := .ext fun h => (a == sysModules) = false ∧ xs.length ≤ sizeLine ∧ DT0 h a xs

/-! ### values and data -/
/-- where the store's things stand; hd: lists that are just being made -/
structure Ad where
  st : List Addr
  hd : List Addr
def Ad.no (a : Ad) (p : Addr) : Prop := p ∉ a.st ∧ p ∉ a.hd
/-- the tables of code objects that stand (none, where the text makes no function) -/
class LamTab where
  T : List (Addr × Str)
/-- the frame's slots that hold functions which were handed in; where they stand -/
class LamCl where
  cl : List (Nat × Addr)
  a0 : Ad
  H0 : Hp
/-- what may be let out; the module's names -/
class ExC where
  E : XK
  mg : Str → Option Value
/-- nothing may be -/
@[reducible] def ExC.none (mg : Str → Option Value) : ExC := ⟨fun _ _ _ => False, mg⟩
/-- slots that hold none -/
def Av [LamCl] (is : List Nat) : Prop := ∀ q ∈ LamCl.cl, q.1 ∉ is
section
variable (K : PySem.W.Frag)
def KT (p : Addr) (xs : List V) : Prop := ∃ (o : Obj) (its : Array Value) (n : Nat), K.lookup p = some o ∧ o.cls = .type "tuple" ∧ o.data = .seq its n ∧ its.size ≤ sizeLine ∧ Vals xs its.toList
def KL (p : Addr) (xs : List V) : Prop := ∃ (o : Obj) (its : Array Value) (n : Nat), K.lookup p = some o ∧ o.cls = .type "list" ∧ o.dict = none ∧ o.data = .seq its n ∧ its.size ≤ sizeLine ∧ Vals xs its.toList
def TT (H : Hp) (a : Ad) (p : Addr) (xs : List V) : Prop := (Rd H p (.tup xs) ∧ a.no p) ∨ KT K p xs
def SC (H : Hp) (a : Ad) (p : Addr) (xs : List V) : Prop := (Rd H p (.lst xs) ∧ a.no p) ∨ KL K p xs
mutual
inductive RepV (H : Hp) (a : Ad) : D → V → Prop
  | non : RepV H a .non .non
  | bl (b : Bool) : RepV H a (.bl b) (.bl b)
  | int (i : Int) : RepV H a (.int i) (.int i)
  | str (s : Str) (h : PySem.PyData.strOk s = true) : RepV H a (.str s) (.str s)
  | tup {ds : List D} {p : Addr} {xs : List V} (h : TT K H a p xs) (hl : ds.length ≤ sizeLine) (r : RepVs H a ds xs) : RepV H a (.tup ds) (.ref p)
  | lst {ds : List D} {p : Addr} {xs : List V} (h : H p = some (.lst xs)) (hn : a.no p) (hl : ds.length ≤ sizeLine) (r : RepVs H a ds xs) : RepV H a (.lst ds) (.ref p)
  | scr {ns : List Int} {p : Addr} (h : SC K H a p (ns.map V.int)) (hl : ns.length ≤ sizeLine) : RepV H a (.scr ns) (.ref p)
  | ref {n : Nat} {p : Addr} (h : a.st[n]? = some p) : RepV H a (.ref n) (.ref p)
inductive RepVs (H : Hp) (a : Ad) : List D → List V → Prop
  | nil : RepVs H a [] []
  | cons {d : D} {v : V} {ds : List D} {xs : List V} (h : RepV H a d v) (r : RepVs H a ds xs) : RepVs H a (d :: ds) (v :: xs)
end
inductive RepK {κ : Type} (H : Hp) (a : Ad) : List (κ × D) → List (κ × V) → Prop
  | nil : RepK H a [] []
  | cons {k : κ} {d : D} {v : V} {r : List (κ × D)} {q : List (κ × V)} (h : RepV K H a d v) (t : RepK H a r q) : RepK H a ((k, d) :: r) ((k, v) :: q)
/-- keys and values of a dict with tuple keys -/
inductive RepT (H : Hp) (a : Ad) : List (List Int × D) → List (List Int × Addr × V) → Prop
  | nil : RepT H a [] []
  | cons {k : List Int} {q : Addr} {d : D} {v : V} {r : List (List Int × D)} {t : List (List Int × Addr × V)} (hk : TT K H a q (k.map V.int)) (hl : k.length ≤ sizeLine) (h : RepV K H a d v) (t' : RepT H a r t) : RepT H a ((k, d) :: r) ((k, q, v) :: t)
inductive RepO (H : Hp) (a : Ad) (p : Addr) : O → HO → Prop
  | lst {ds : List D} {xs : List V} (hl : ds.length ≤ sizeLine) (r : RepVs K H a ds xs) : RepO H a p (.lst ds) (.lst xs)
  | dct {kvs : List (Key × D)} {ks : List (Key × V)} (hl : kvs.length ≤ sizeLine) (r : RepK K H a kvs ks) : RepO H a p (.dct kvs) (.dK ks)
  | dtt {kvs : List (List Int × D)} {xs : List (List Int × Addr × V)} (r : RepT K H a kvs xs) : RepO H a p (.dtt kvs) (DTO p xs)
/-- the store stands at a -/
structure MRel [LamTab] (a : Ad) (m : Mem) (H : Hp) : Prop where
  nd : a.st.Nodup
  len : a.st.length = m.length
  sep : ∀ p ∈ a.st, p ∉ a.hd
  at_ : ∀ (n : Nat) (p : Addr) (o : O), a.st[n]? = some p → m[n]? = some o → ∃ ho, H p = some ho ∧ RepO K H a p o ho
  hid : ∀ p ∈ a.hd, ∃ xs, H p = some (.lst xs)
  tabs : LamX.Tabs LamTab.T H
structure Ext (a : Ad) (H : Hp) (a' : Ad) (H' : Hp) : Prop where
  hd : a'.hd = a.hd
  pre : ∃ new, a'.st = a.st ++ new ∧ ∀ p ∈ new, H p = none
  keep : ∀ p o, H p = some o → p ∉ a.st → (∀ ps, o ≠ .tbl ps) → H' p = some o
  dom : ∀ p, H' p = none → H p = none
/-- what stays -/
structure Kp (a : Ad) (H : Hp) (a' : Ad) (H' : Hp) : Prop where
  pre : ∃ new, a'.st = a.st ++ new
  keep : ∀ p o, H p = some o → a.no p → (∀ ps, o ≠ .tbl ps) → H' p = some o ∧ a'.no p
structure SRel [LamCl] (a : Ad) (H : Hp) (ρ : List (Option D)) (σ : L2.St) : Prop where
  len : ρ.length = σ.length
  at_ : ∀ (i : Nat) (d : D), ρ[i]? = some (some d) → ∃ v, σ[i]? = some (some v) ∧ RepV K H a d v
  clo : ∀ q ∈ LamCl.cl, σ[q.1]? = some (some (V.ref q.2))
  kp0 : LamCl.cl ≠ [] → Kp LamCl.a0 LamCl.H0 a H
end
theorem tabs_new {T : List (Addr × Str)} {H : Hp} {p : Addr} {o : HO} (t : LamX.Tabs T H) (h : H p = none) : LamX.Tabs T (upd H p o) := t.ext fun b u e => by rw [upd_ne (ne_of_none e h)]; exact e
/-- what is neither a table nor told from without may change -/
def HO.plain : HO → Bool
  | .lst _ => true
  | .dK _ => true
  | .dT _ => true
  | _ => false
theorem HO.plain_ne {o : HO} (h : HO.plain o = true) : (∀ ps, o ≠ .tbl ps) ∧ ∀ c q, o ≠ LamX.CodeO c q := by
  cases o <;> first | (cases h; done) | exact ⟨fun ps z => (by cases z), fun c q z => (by unfold LamX.CodeO at z; cases z)⟩
theorem tabs_putC {T : List (Addr × Str)} {H : Hp} {p : Addr} {o u : HO} (t : LamX.Tabs T H) (h : H p = some u) (n1 : ∀ ps, u ≠ .tbl ps) (n2 : ∀ q, u ≠ LamX.CodeO p q) : LamX.Tabs T (upd H p o) := fun r hr => by
  obtain ⟨ps, h1, h2, h3⟩ := t r hr
  refine ⟨ps, ?_, h2, fun pos cv hc => ?_⟩
  · rw [upd_ne (fun z => n1 ps (by rw [z, h] at h1; exact Option.some.inj h1))]
    exact h1
  · obtain ⟨c, e1, e2⟩ := h3 pos cv hc
    refine ⟨c, e1, ?_⟩
    rw [upd_ne (fun z => by subst z; rw [h] at e2; exact n2 r.2 (Option.some.inj e2))]
    exact e2
theorem tabs_put {T : List (Addr × Str)} {H : Hp} {p : Addr} {o u : HO} (t : LamX.Tabs T H) (h : H p = some u) (hp : HO.plain u = true) : LamX.Tabs T (upd H p o) := fun r hr => by
  obtain ⟨ps, h1, h2, h3⟩ := t r hr
  obtain ⟨n1, n2⟩ := HO.plain_ne hp
  refine ⟨ps, ?_, h2, fun pos cv hc => ?_⟩
  · rw [upd_ne (fun z => n1 ps (by rw [z, h] at h1; exact Option.some.inj h1))]
    exact h1
  · obtain ⟨c, e1, e2⟩ := h3 pos cv hc
    refine ⟨c, e1, ?_⟩
    rw [upd_ne (fun z => by subst z; rw [h] at e2; exact n2 c r.2 (Option.some.inj e2))]
    exact e2
section
variable [LamTab] [LamCl] {K : PySem.W.Frag} {H H' H1 H2 : Hp} {a a' a1 a2 : Ad}
theorem Ext.refl : Ext a H a H := ⟨rfl, ⟨[], by simp, by simp⟩, fun _ _ h _ _ => h, fun _ h => h⟩
theorem Ext.trans (x : Ext a H a1 H1) (b : Ext a1 H1 a2 H2) : Ext a H a2 H2 := by
  obtain ⟨n1, e1, f1⟩ := x.pre
  obtain ⟨n2, e2, f2⟩ := b.pre
  refine ⟨b.hd.trans x.hd, ⟨n1 ++ n2, by rw [e2, e1, List.append_assoc], fun p hp => ?_⟩, fun p o h hp ht => ?_, fun p h => x.dom p (b.dom p h)⟩
  · rcases List.mem_append.mp hp with h | h
    · exact f1 p h
    · exact x.dom p (f2 p h)
  · refine b.keep p o (x.keep p o h hp ht) ?_ ht
    rw [e1]
    intro z
    rcases List.mem_append.mp z with z | z
    · exact hp z
    · rw [f1 p z] at h
      cases h
theorem Ext.outS (e : Ext a H a' H') {p : Addr} {o : HO} (h : H p = some o) (hp : p ∉ a.st) : p ∉ a'.st := by
  obtain ⟨n, e1, f⟩ := e.pre
  rw [e1]
  intro z
  rcases List.mem_append.mp z with z | z
  · exact hp z
  · rw [f p z] at h
    cases h
theorem Ext.out (e : Ext a H a' H') {p : Addr} {o : HO} (h : H p = some o) (hp : a.no p) : a'.no p := ⟨e.outS h hp.1, by rw [e.hd]; exact hp.2⟩
theorem Ext.old (e : Ext a H a' H') {n : Nat} {p : Addr} (h : a.st[n]? = some p) : a'.st[n]? = some p := by
  obtain ⟨x, e1, _⟩ := e.pre
  rw [e1, List.getElem?_append_left (List.getElem?_eq_some_iff.mp h).1]
  exact h
theorem upd_no {p q : Addr} {o : HO} (e : upd H p o q = none) : H q = none := by
  unfold upd at e
  split at e
  · cases e
  · exact e
theorem Ext.new {p : Addr} {o : HO} (h : H p = none) : Ext a H a (upd H p o) :=
  ⟨rfl, ⟨[], by simp, by simp⟩, fun q u e _ _ => by rw [upd_ne (ne_of_none e h)]; exact e, fun q e => upd_no e⟩
theorem TT.mono (e : Ext a H a' H') {p : Addr} {xs : List V} (h : TT K H a p xs) : TT K H' a' p xs := by
  rcases h with ⟨h | ⟨o, h⟩, hp⟩ | h
  · exact .inl ⟨.inl (e.keep _ _ h hp.1 (by intro _ z; cases z)), e.out h hp⟩
  · exact .inl ⟨.inr ⟨o, e.keep _ _ h hp.1 (by intro _ z; cases z)⟩, e.out h hp⟩
  · exact .inr h
theorem TT.sq {p : Addr} {xs : List V} (h : TT K H a p xs) : SqT K H p xs := h.imp (·.1) id
theorem SC.sq {p : Addr} {xs : List V} (h : SC K H a p xs) : SqL K H p xs := h.imp (·.1) id
theorem SC.mono (e : Ext a H a' H') {p : Addr} {xs : List V} (h : SC K H a p xs) : SC K H' a' p xs := by
  rcases h with ⟨h | ⟨o, h⟩, hp⟩ | h
  · exact .inl ⟨.inl (e.keep _ _ h hp.1 (by intro _ z; cases z)), e.out h hp⟩
  · exact .inl ⟨.inr ⟨o, e.keep _ _ h hp.1 (by intro _ z; cases z)⟩, e.out h hp⟩
  · exact .inr h
mutual
theorem RepV.mono (e : Ext a H a' H') : ∀ {d : D} {v : V}, RepV K H a d v → RepV K H' a' d v
  | _, _, .non => .non
  | _, _, .bl b => .bl b
  | _, _, .int b => .int b
  | _, _, .str b h => .str b h
  | _, _, .tup h hl r => .tup (h.mono e) hl (RepVs.mono e r)
  | _, _, .lst h hn hl r => .lst (e.keep _ _ h hn.1 (by intro _ z; cases z)) (e.out h hn) hl (RepVs.mono e r)
  | _, _, .scr h hl => .scr (h.mono e) hl
  | _, _, .ref h => .ref (e.old h)
theorem RepVs.mono (e : Ext a H a' H') : ∀ {ds : List D} {xs : List V}, RepVs K H a ds xs → RepVs K H' a' ds xs
  | _, _, .nil => .nil
  | _, _, .cons h r => .cons (RepV.mono e h) (RepVs.mono e r)
end
/-- a list that is being made comes to be, and is one like others -/
theorem Ad.no_in {st hd : List Addr} {p q : Addr} {o : HO} (h : Ad.no ⟨st, hd⟩ p) (hq : H q = none) (hp : H p = some o) : Ad.no ⟨st, q :: hd⟩ p :=
  ⟨h.1, fun z => by
    rcases List.mem_cons.mp z with z | z
    · rw [z, hq] at hp; cases hp
    · exact h.2 z⟩
theorem Ad.no_out {st hd : List Addr} {p q : Addr} (h : Ad.no ⟨st, q :: hd⟩ p) : Ad.no ⟨st, hd⟩ p := ⟨h.1, fun z => h.2 (List.mem_cons_of_mem _ z)⟩
mutual
/-- the new list at q lies hidden -/
theorem RepV.hide {st hd : List Addr} {q : Addr} (hq : H q = none) (o : HO) : ∀ {d : D} {v : V}, RepV K H ⟨st, hd⟩ d v → RepV K (upd H q o) ⟨st, q :: hd⟩ d v
  | _, _, .non => .non
  | _, _, .bl b => .bl b
  | _, _, .int b => .int b
  | _, _, .str b h => .str b h
  | _, _, .tup h hl r => .tup (by
      rcases h with ⟨h | ⟨o, h⟩, hp⟩ | h
      · exact .inl ⟨.inl (by rw [upd_ne (ne_of_none h hq)]; exact h), Ad.no_in hp hq h⟩
      · exact .inl ⟨.inr ⟨o, by rw [upd_ne (ne_of_none h hq)]; exact h⟩, Ad.no_in hp hq h⟩
      · exact .inr h) hl (RepVs.hide hq o r)
  | _, _, .lst h hn hl r => .lst (by rw [upd_ne (ne_of_none h hq)]; exact h) (Ad.no_in hn hq h) hl (RepVs.hide hq o r)
  | _, _, .scr h hl => .scr (by
      rcases h with ⟨h | ⟨o, h⟩, hp⟩ | h
      · exact .inl ⟨.inl (by rw [upd_ne (ne_of_none h hq)]; exact h), Ad.no_in hp hq h⟩
      · exact .inl ⟨.inr ⟨o, by rw [upd_ne (ne_of_none h hq)]; exact h⟩, Ad.no_in hp hq h⟩
      · exact .inr h) hl
  | _, _, .ref h => .ref h
theorem RepVs.hide {st hd : List Addr} {q : Addr} (hq : H q = none) (o : HO) : ∀ {ds : List D} {xs : List V}, RepVs K H ⟨st, hd⟩ ds xs → RepVs K (upd H q o) ⟨st, q :: hd⟩ ds xs
  | _, _, .nil => .nil
  | _, _, .cons h r => .cons (RepV.hide hq o h) (RepVs.hide hq o r)
end
mutual
/-- what is hidden at q may change -/
theorem RepV.hid {st hd : List Addr} {q : Addr} (o : HO) : ∀ {d : D} {v : V}, RepV K H ⟨st, q :: hd⟩ d v → RepV K (upd H q o) ⟨st, q :: hd⟩ d v
  | _, _, .non => .non
  | _, _, .bl b => .bl b
  | _, _, .int b => .int b
  | _, _, .str b h => .str b h
  | _, _, .tup h hl r => .tup (by
      rcases h with ⟨h | ⟨o, h⟩, hp⟩ | h
      · exact .inl ⟨.inl (by rw [upd_ne (fun z => hp.2 (by rw [z]; exact List.mem_cons_self))]; exact h), hp⟩
      · exact .inl ⟨.inr ⟨o, by rw [upd_ne (fun z => hp.2 (by rw [z]; exact List.mem_cons_self))]; exact h⟩, hp⟩
      · exact .inr h) hl (RepVs.hid o r)
  | _, _, .lst h hn hl r => .lst (by rw [upd_ne (fun z => hn.2 (by rw [z]; exact List.mem_cons_self))]; exact h) hn hl (RepVs.hid o r)
  | _, _, .scr h hl => .scr (by
      rcases h with ⟨h | ⟨o, h⟩, hp⟩ | h
      · exact .inl ⟨.inl (by rw [upd_ne (fun z => hp.2 (by rw [z]; exact List.mem_cons_self))]; exact h), hp⟩
      · exact .inl ⟨.inr ⟨o, by rw [upd_ne (fun z => hp.2 (by rw [z]; exact List.mem_cons_self))]; exact h⟩, hp⟩
      · exact .inr h) hl
  | _, _, .ref h => .ref h
theorem RepVs.hid {st hd : List Addr} {q : Addr} (o : HO) : ∀ {ds : List D} {xs : List V}, RepVs K H ⟨st, q :: hd⟩ ds xs → RepVs K (upd H q o) ⟨st, q :: hd⟩ ds xs
  | _, _, .nil => .nil
  | _, _, .cons h r => .cons (RepV.hid o h) (RepVs.hid o r)
end
mutual
theorem RepV.show {st hd : List Addr} {q : Addr} : ∀ {d : D} {v : V}, RepV K H ⟨st, q :: hd⟩ d v → RepV K H ⟨st, hd⟩ d v
  | _, _, .non => .non
  | _, _, .bl b => .bl b
  | _, _, .int b => .int b
  | _, _, .str b h => .str b h
  | _, _, .tup h hl r => .tup (h.imp (fun z => ⟨z.1, Ad.no_out z.2⟩) id) hl (RepVs.show r)
  | _, _, .lst h hn hl r => .lst h (Ad.no_out hn) hl (RepVs.show r)
  | _, _, .scr h hl => .scr (h.imp (fun z => ⟨z.1, Ad.no_out z.2⟩) id) hl
  | _, _, .ref h => .ref h
theorem RepVs.show {st hd : List Addr} {q : Addr} : ∀ {ds : List D} {xs : List V}, RepVs K H ⟨st, q :: hd⟩ ds xs → RepVs K H ⟨st, hd⟩ ds xs
  | _, _, .nil => .nil
  | _, _, .cons h r => .cons (RepV.show h) (RepVs.show r)
end
theorem RepVs.length : ∀ {ds : List D} {xs : List V}, RepVs K H a ds xs → ds.length = xs.length
  | _, _, .nil => rfl
  | _, _, .cons _ r => by simp [RepVs.length r]
theorem RepVs.get : ∀ {ds : List D} {xs : List V} {i : Nat} {d : D}, RepVs K H a ds xs → ds[i]? = some d → ∃ v, xs[i]? = some v ∧ RepV K H a d v
  | _, _, _, _, .nil, e => by simp at e
  | _, _, 0, _, .cons h _, e => by simp at e; subst e; exact ⟨_, rfl, h⟩
  | _, _, i + 1, d, .cons _ r, e => by
    obtain ⟨v, h1, h2⟩ := RepVs.get (i := i) (d := d) r (by simpa using e)
    exact ⟨v, by simpa using h1, h2⟩
theorem RepVs.get' : ∀ {ds : List D} {xs : List V} {i : Nat} {v : V}, RepVs K H a ds xs → xs[i]? = some v → ∃ d, ds[i]? = some d ∧ RepV K H a d v
  | _, _, _, _, .nil, e => by simp at e
  | _, _, 0, _, .cons h _, e => by simp at e; subst e; exact ⟨_, rfl, h⟩
  | _, _, i + 1, v, .cons _ r, e => by
    obtain ⟨d, h1, h2⟩ := RepVs.get' (i := i) (v := v) r (by simpa using e)
    exact ⟨d, by simpa using h1, h2⟩
theorem RepVs.append : ∀ {ds es : List D} {xs ys : List V}, RepVs K H a ds xs → RepVs K H a es ys → RepVs K H a (ds ++ es) (xs ++ ys)
  | _, _, _, _, .nil, s => s
  | _, _, _, _, .cons h r, s => .cons h (RepVs.append r s)
theorem RepVs.take : ∀ {ds : List D} {xs : List V} (n : Nat), RepVs K H a ds xs → RepVs K H a (ds.take n) (xs.take n)
  | _, _, 0, _ => by simp; exact .nil
  | _, _, _ + 1, .nil => .nil
  | _, _, n + 1, .cons h r => .cons h (RepVs.take n r)
theorem RepVs.drop : ∀ {ds : List D} {xs : List V} (n : Nat), RepVs K H a ds xs → RepVs K H a (ds.drop n) (xs.drop n)
  | _, _, 0, r => r
  | _, _, _ + 1, .nil => .nil
  | _, _, n + 1, .cons _ r => RepVs.drop n r
theorem RepVs.set {d : D} {v : V} (h : RepV K H a d v) : ∀ {ds : List D} {xs : List V} (n : Nat), RepVs K H a ds xs → RepVs K H a (ds.set n d) (xs.set n v)
  | _, _, _, .nil => .nil
  | _, _, 0, .cons _ r => .cons h r
  | _, _, n + 1, .cons h' r => .cons h' (RepVs.set h n r)
theorem RepVs.reverse : ∀ {ds : List D} {xs : List V}, RepVs K H a ds xs → RepVs K H a ds.reverse xs.reverse
  | _, _, .nil => .nil
  | _, _, .cons h r => by simp only [List.reverse_cons]; exact (RepVs.reverse r).append (.cons h .nil)
theorem RepVs.ints : ∀ {ns : List Int} {xs : List V}, RepVs K H a (ns.map .int) xs → xs = ns.map .int
  | [], _, .nil => rfl
  | _ :: _, _, .cons (.int _) r => by rw [RepVs.ints r]; rfl
theorem RepVs.of_ints : ∀ (ns : List Int), RepVs K H a (ns.map .int) (ns.map .int)
  | [] => .nil
  | n :: r => .cons (.int n) (RepVs.of_ints r)
theorem RepK.mono {κ : Type} (e : Ext a H a' H') : ∀ {kvs : List (κ × D)} {ks : List (κ × V)}, RepK K H a kvs ks → RepK K H' a' kvs ks
  | _, _, .nil => .nil
  | _, _, .cons h t => .cons (h.mono e) (RepK.mono e t)
theorem RepK.length {κ : Type} : ∀ {kvs : List (κ × D)} {ks : List (κ × V)}, RepK K H a kvs ks → kvs.length = ks.length
  | _, _, .nil => rfl
  | _, _, .cons _ r => by simp [RepK.length r]
theorem RepK.keys {κ : Type} : ∀ {kvs : List (κ × D)} {ks : List (κ × V)}, RepK K H a kvs ks → ks.map (·.1) = kvs.map (·.1)
  | _, _, .nil => rfl
  | _, _, .cons _ r => by simp [RepK.keys r]
theorem RepT.mono (e : Ext a H a' H') : ∀ {kvs : List (List Int × D)} {xs : List (List Int × Addr × V)}, RepT K H a kvs xs → RepT K H' a' kvs xs
  | _, _, .nil => .nil
  | _, _, .cons hk hl h t => .cons (hk.mono e) hl (h.mono e) (RepT.mono e t)
theorem RepT.length : ∀ {kvs : List (List Int × D)} {xs : List (List Int × Addr × V)}, RepT K H a kvs xs → kvs.length = xs.length
  | _, _, .nil => rfl
  | _, _, .cons _ _ _ r => by simp [RepT.length r]
theorem RepT.keys : ∀ {kvs : List (List Int × D)} {xs : List (List Int × Addr × V)}, RepT K H a kvs xs → xs.map (·.1) = kvs.map (·.1)
  | _, _, .nil => rfl
  | _, _, .cons _ _ _ r => by simp [RepT.keys r]
theorem RepO.mono (e : Ext a H a' H') {p : Addr} {o : O} {ho : HO} (h : RepO K H a p o ho) : RepO K H' a' p o ho := by
  cases h with
  | lst hl r => exact .lst hl (r.mono e)
  | dct hl r => exact .dct hl (r.mono e)
  | dtt r => exact .dtt (r.mono e)
theorem Kp.refl : Kp a H a H := ⟨⟨[], by simp⟩, fun _ _ h hn _ => ⟨h, hn⟩⟩
theorem Kp.trans (x : Kp a H a1 H1) (y : Kp a1 H1 a2 H2) : Kp a H a2 H2 := by
  obtain ⟨n1, e1⟩ := x.pre
  obtain ⟨n2, e2⟩ := y.pre
  refine ⟨⟨n1 ++ n2, by rw [e2, e1, List.append_assoc]⟩, fun p o h hn ht => ?_⟩
  obtain ⟨h1, h2⟩ := x.keep p o h hn ht
  exact y.keep p o h1 h2 ht
theorem Ext.kp (e : Ext a H a' H') : Kp a H a' H' := by
  obtain ⟨n, e1, _⟩ := e.pre
  exact ⟨⟨n, e1⟩, fun p o h hn ht => ⟨e.keep p o h hn.1 ht, e.out h hn⟩⟩
theorem SRel.mono (e : Ext a H a' H') {ρ : List (Option D)} {σ : L2.St} (h : SRel K a H ρ σ) : SRel K a' H' ρ σ :=
  ⟨h.len, fun i d q => let ⟨v, h1, h2⟩ := h.at_ i d q; ⟨v, h1, h2.mono e⟩, h.clo, fun z => (h.kp0 z).trans e.kp⟩
/-- a new thing, not of the store -/
theorem MRel.fresh {m : Mem} (r : MRel K a m H) {p : Addr} {o : HO} (h : H p = none) : MRel K a m (upd H p o) :=
  ⟨r.nd, r.len, r.sep, fun n q u h1 h2 => by
    obtain ⟨ho, h3, h4⟩ := r.at_ n q u h1 h2
    exact ⟨ho, by rw [upd_ne (ne_of_none h3 h)]; exact h3, h4.mono (Ext.new h)⟩, fun q hq => by
    obtain ⟨xs, e⟩ := r.hid q hq
    exact ⟨xs, by rw [upd_ne (ne_of_none e h)]; exact e⟩, tabs_new r.tabs h⟩
theorem MRel.there {m : Mem} (r : MRel K a m H) {p : Addr} (h : p ∈ a.st) : ∃ o, H p = some o := by
  obtain ⟨n, hn⟩ := List.getElem?_of_mem h
  have hl := (List.getElem?_eq_some_iff.mp hn).1
  rw [r.len] at hl
  obtain ⟨ho, h3, _⟩ := r.at_ n p m[n] hn (List.getElem?_eq_getElem hl)
  exact ⟨ho, h3⟩
theorem MRel.out {m : Mem} (r : MRel K a m H) {p : Addr} (h : H p = none) : a.no p := by
  refine ⟨fun z => ?_, fun z => ?_⟩
  · obtain ⟨o, e⟩ := r.there z
    rw [h] at e
    cases e
  · obtain ⟨o, e⟩ := r.hid p z
    rw [h] at e
    cases e
/-- a new thing of the store -/
theorem MRel.push {m : Mem} (r : MRel K a m H) {p : Addr} {o : O} {ho : HO} (h : H p = none) (q : RepO K H a p o ho) : MRel K ⟨a.st ++ [p], a.hd⟩ (m ++ [o]) (upd H p ho) ∧ Ext a H ⟨a.st ++ [p], a.hd⟩ (upd H p ho) := by
  have hp := r.out h
  have e : Ext a H ⟨a.st ++ [p], a.hd⟩ (upd H p ho) := ⟨rfl, ⟨[p], rfl, fun q hq => by rw [List.mem_singleton.mp hq]; exact h⟩, fun q u e _ _ => by rw [upd_ne (ne_of_none e h)]; exact e, fun q e => upd_no e⟩
  refine ⟨⟨?_, by simp [r.len], fun q hq => ?_, fun n q u h1 h2 => ?_, fun q hq => ?_, tabs_new r.tabs h⟩, e⟩
  · show (a.st ++ [p]).Nodup
    rw [List.nodup_append]
    exact ⟨r.nd, by simp, fun x hx y hy z => hp.1 (by rw [← List.mem_singleton.mp hy, ← z]; exact hx)⟩
  · rcases List.mem_append.mp hq with z | z
    · exact r.sep q z
    · rw [List.mem_singleton.mp z]; exact hp.2
  · have h1 : (a.st ++ [p])[n]? = some q := h1
    by_cases hn : n < a.st.length
    · rw [List.getElem?_append_left hn] at h1
      rw [List.getElem?_append_left (by rw [← r.len]; exact hn)] at h2
      obtain ⟨hu, h3, h4⟩ := r.at_ n q u h1 h2
      exact ⟨hu, by rw [upd_ne (ne_of_none h3 h)]; exact h3, h4.mono e⟩
    · have hl := (List.getElem?_eq_some_iff.mp h1).1
      simp only [List.length_append, List.length_singleton] at hl
      have en : n = a.st.length := by omega
      subst en
      rw [List.getElem?_append_right (Nat.le_refl _)] at h1
      rw [r.len, List.getElem?_append_right (Nat.le_refl _)] at h2
      simp at h1 h2
      subst h1 h2
      exact ⟨ho, upd_same, q.mono e⟩
  · obtain ⟨xs, e⟩ := r.hid q hq
    exact ⟨xs, by rw [upd_ne (ne_of_none e h)]; exact e⟩
/-- a thing of the store changes -/
theorem Ext.put {n : Nat} {p : Addr} {o' : HO} (h : a.st[n]? = some p) : Ext a H a (upd H p o') :=
  ⟨rfl, ⟨[], by simp, by simp⟩, fun q u e hq _ => by rw [upd_ne (fun z => hq (by rw [z]; exact List.mem_of_getElem? h))]; exact e, fun q e => upd_no e⟩
theorem MRel.putT {m : Mem} (r : MRel K a m H) {n : Nat} {p : Addr} {o : O} {ho : HO} (h : a.st[n]? = some p) (ht : LamX.Tabs LamTab.T (upd H p ho)) (q : RepO K H a p o ho) : MRel K a (m.set n o) (upd H p ho) := by
  have e : Ext a H a (upd H p ho) := Ext.put h
  refine ⟨r.nd, by simp [r.len], r.sep, fun k q' u h1 h2 => ?_, fun q' hq => ?_, ht⟩
  · by_cases hk : k = n
    · subst hk
      rw [h] at h1
      cases h1
      have hl := (List.getElem?_eq_some_iff.mp h).1
      rw [List.getElem?_set_self (by rw [← r.len]; exact hl)] at h2
      cases h2
      exact ⟨ho, upd_same, q.mono e⟩
    · rw [List.getElem?_set_ne (Ne.symm hk)] at h2
      obtain ⟨hu, h3, h4⟩ := r.at_ k q' u h1 h2
      have ne : q' ≠ p := fun z => hk ((List.getElem?_inj (List.getElem?_eq_some_iff.mp h1).1 r.nd).mp (by rw [h1, z, h]))
      exact ⟨hu, by rw [upd_ne ne]; exact h3, h4.mono e⟩
  · obtain ⟨xs, e2⟩ := r.hid q' hq
    have ne : q' ≠ p := fun z => r.sep p (List.mem_of_getElem? h) (by rw [← z]; exact hq)
    exact ⟨xs, by rw [upd_ne ne]; exact e2⟩
theorem MRel.put {m : Mem} (r : MRel K a m H) {n : Nat} {p : Addr} {o : O} {ho : HO} (h : a.st[n]? = some p) {u0 : HO} (h0 : H p = some u0) (hp0 : HO.plain u0 = true) (q : RepO K H a p o ho) : MRel K a (m.set n o) (upd H p ho) := r.putT h (tabs_put r.tabs h0 hp0) q
end
end Br


set_option Elab.async false
set_option linter.all false
set_option maxRecDepth 100000
set_option autoImplicit false
/-! Br: the evaluator. -/
namespace Br
open PySem PySem.Spec PyProof.Rows L2

abbrev Sl := List (Option D)
def big : Nat := 1000000
def intsD : List D → Option (List Int)
  | [] => some []
  | .int i :: r => (intsD r).map (i :: ·)
  | _ :: _ => none
/-- the items of a list, but of the script's -/
def extD (m : Mem) : D → Option (List D)
  | .lst es => some es
  | .ref n => match m[n]? with
    | some (.lst es) => some es
    | _ => none
  | _ => none
def addL (m : Mem) (x y : D) : Option D := match extD m x, extD m y with
  | some a, some b => if a.length + b.length ≤ big then some (.lst (a ++ b)) else none
  | _, _ => none
def repL (ds : List D) (n : Nat) : List D := (List.replicate n ds).flatten
def binD (m : Mem) : Bop → D → D → Option D
  | .add, .int i, .int j => some (.int (i + j))
  | .add, .str s, .str t => if s.length + t.length ≤ big then some (.str (s ++ t)) else none
  | .add, .tup a, .tup b => if a.length + b.length ≤ big then some (.tup (a ++ b)) else none
  | .add, .lst a, .lst b => if a.length + b.length ≤ big then some (.lst (a ++ b)) else none
  | .add, .ref a, y => addL m (.ref a) y
  | .add, .lst a, .ref b => addL m (.lst a) (.ref b)
  | .sub, .int i, .int j => some (.int (i - j))
  | .mul, .int i, .int j => if (-(2 ^ 64) < i ∧ i < 2 ^ 64) ∨ (-(2 ^ 64) < j ∧ j < 2 ^ 64) then some (.int (i * j)) else none
  | .mul, .lst ds, .int j => if -(2 ^ 62) ≤ j ∧ j ≤ 1000 ∧ ds.length ≤ 1000 then some (.lst (repL ds j.toNat)) else none
  | .mul, .tup ds, .int j => if 1 ≤ j ∧ j ≤ 1000 ∧ ds.length ≤ 1000 ∧ ds ≠ [] then some (.tup (repL ds j.toNat)) else none
  | .fdiv, .int i, .int j => if j ≠ 0 ∧ j.natAbs < 1000000000000000000000000000000 then some (.int (i.fdiv j)) else none
  | .mod, .int i, .int j => if j ≠ 0 then some (.int (i.fmod j)) else none
  | .pow, .int i, .int j => if 0 ≤ j ∧ j ≤ 1000000 ∧ i.natAbs < 2 ^ 64 then some (.int (i ^ j.toNat)) else none
  | _, _, _ => none
def eqD (m : Mem) (a b : D) : Option Bool := match frzD m 0 a, frzD m 0 b with
  | some a', some b' => if a'.pure = true ∧ b'.pure = true ∧ a'.dep ≤ 64 ∧ b'.dep ≤ 64 then some (PyData.eqv (toPy a') (toPy b')) else none
  | _, _ => none
def flatD : D → Bool
  | .non => true
  | .bl _ => true
  | .int _ => true
  | .str _ => true
  | _ => false
def eqF : D → D → Bool
  | .non, .non => true
  | .bl a, .bl b => a == b
  | .bl a, .int b => (if a then 1 else 0) == b
  | .int a, .bl b => a == (if b then 1 else 0)
  | .int a, .int b => a == b
  | .str a, .str b => a == b
  | _, _ => false
def keyD : D → Option Key
  | .int i => some (.inl i)
  | .str s => some (.inr s)
  | _ => none
/-- the value of a key, none: it isn't there -/
def lookK (kvs : List (Key × D)) (k : Key) : Option D := (kvs.find? fun p => decide (p.1 = k)).map (·.2)
def inD (m : Mem) (a : D) : D → Option Bool
  | .tup ds => if flatD a = true ∧ ds.all flatD = true then some (ds.any fun y => eqF y a) else none
  | .lst ds => if flatD a = true ∧ ds.all flatD = true then some (ds.any fun y => eqF y a) else none
  | .ref n => match m[n]?, keyD a with
    | some (.dct kvs), some k => some (lookK kvs k).isSome
    | _, _ => none
  | .str t => match a with
    | .str s => some (!(Builtin.Str.occurrences t s 0 t.length 1).isEmpty)
    | _ => none
  | _ => none
/-- (tuple of ints, int) against another -/
def geT : List D → List D → Option Bool
  | [.tup a, .int i], [.tup b, .int j] => match intsD a, intsD b with
    | some x, some y => some (!(HT.lexLt x y || (decide (x = y) && decide (i < j))))
    | _, _ => none
  | _, _ => none
def cmpD (m : Mem) : Cop → D → D → Option Bool
  | .eq, a, b => eqD m a b
  | .ne, a, b => (eqD m a b).map (!·)
  | .lt, .int i, .int j => some (decide (i < j))
  | .le, .int i, .int j => some (decide (i ≤ j))
  | .gt, .int i, .int j => some (decide (j < i))
  | .ge, .int i, .int j => some (decide (j ≤ i))
  | .lt, .tup a, .tup b => match intsD a, intsD b with
    | some x, some y => some (HT.lexLt x y)
    | _, _ => none
  | .ge, .tup a, .tup b => geT a b
  | .isn, a, .non => some (decide (a = .non))
  | .notn, a, .non => some (!decide (a = .non))
  | .inn, a, b => inD m a b
  | .nin, a, b => (inD m a b).map (!·)
  | _, _, _ => none
/-- is it of the type -/
def isTy (m : Mem) : D → Ty → Option Bool
  | .non, _ => some false
  | .bl _, t => some (t == .bool || t == .int)
  | .int _, t => some (t == .int)
  | .str _, t => some (t == .str)
  | .tup _, t => some (t == .tuple)
  | .lst _, t => some (t == .list)
  | .scr _, t => some (t == .list)
  | .ref n, t => match m[n]? with
    | some (.lst _) => some (t == .list)
    | _ => none
def anyTy (m : Mem) (d : D) : List Ty → Option Bool
  | [] => some false
  | t :: r => match isTy m d t, anyTy m d r with
    | some a, some b => some (a || b)
    | _, _ => none
/-- the items of a thing that is gone through -/
def itemsD (m : Mem) : D → Option (List D)
  | .tup ds => some ds
  | .lst ds => some ds
  | .scr ns => some (ns.map .int)
  | .ref n => match m[n]? with
    | some (.lst ds) => some ds
    | _ => none
  | _ => none
/-- the items of a list -/
def lstD (m : Mem) : D → Option (List D)
  | .lst ds => some ds
  | .scr ns => some (ns.map .int)
  | .ref n => match m[n]? with
    | some (.lst ds) => some ds
    | _ => none
  | _ => none
def lenD (m : Mem) : D → Option Nat
  | .str s => if s.length ≤ big then some s.length else none
  | .ref n => match m[n]? with
    | some (.lst ds) => some ds.length
    | some (.dct kvs) => some kvs.length
    | _ => none
  | d => (itemsD m d).map (·.length)
def sortI (ns : List Int) : List Int := ns.mergeSort (fun a b => decide (a ≤ b))
def dedI : List Int → List Int
  | [] => []
  | a :: r => if a ∈ r then dedI r else a :: dedI r
/-- tuples of ints -/
def tupsD : List D → Option (List (List Int))
  | [] => some []
  | .tup ds :: r => match intsD ds, tupsD r with
    | some x, some q => some (x :: q)
    | _, _ => none
  | _ :: _ => none
def dedT : List (List Int) → List (List Int)
  | [] => []
  | a :: r => if a ∈ r then dedT r else a :: dedT r
def sortT (l : List (List Int)) : List (List Int) := l.mergeSort fun a b => !HT.lexLt b a
/-- few tuples of one length, none empty, of ints from nought to 999 -/
def okT (l : List (List Int)) : Bool := decide (l.length < 64) && l.all fun t => decide (1 ≤ t.length) && decide (t.length = (l.headD []).length) && t.all fun i => decide (0 ≤ i ∧ i < 1000)
def tupI (t : List Int) : D := .tup (t.map .int)
/-- keys of a dict with tuple keys -/
def keyT : D → Option (List Int)
  | .tup ds => intsD ds
  | _ => none
def lookT (kvs : List (List Int × D)) (k : List Int) : Option D := (kvs.find? fun p => decide (p.1 = k)).map (·.2)
def minTs (x : List Int) (r : List (List Int)) : List Int := r.foldl (fun a y => if HT.lexLt y a = true then y else a) x
def minI : List Int → Option Int
  | [] => none
  | a :: r => some (r.foldl min a)
def maxI : List Int → Option Int
  | [] => none
  | a :: r => some (r.foldl max a)
/-- later pairs win, first places stay -/
def putK (kvs : List (Key × D)) (k : Key) (v : D) : List (Key × D) :=
  if (kvs.any fun p => decide (p.1 = k)) = true then kvs.map (fun p => if p.1 = k then (p.1, v) else p) else kvs ++ [(k, v)]
def dropK (kvs : List (Key × D)) (k : Key) : List (Key × D) := kvs.filter fun p => decide (p.1 ≠ k)
def pairsD : List D → Option (List (Key × D))
  | [] => some []
  | .tup [a, b] :: r => match keyD a, pairsD r with
    | some k, some q => some ((k, b) :: q)
    | _, _ => none
  | _ :: _ => none
/-- as itemsD, of a dict its keys -/
def keysD (m : Mem) : D → Option (List D)
  | .ref n => match m[n]? with
    | some (.lst ds) => some ds
    | some (.dct kvs) => some (kvs.map fun p => match p.1 with
      | .inl i => .int i
      | .inr s => .str s)
    | _ => none
  | d => lstD m d
def fnD (m : Mem) : Fn → List D → Res D
  | .len, [d] => match lenD m d with
    | some n => .ok (.int n) m
    | none => .bad
  | .list, [d] => match itemsD m d with
    | some ds => .ok (.lst ds) m
    | none => .bad
  | .tuple, [d] => match itemsD m d with
    | some ds => .ok (.tup ds) m
    | none => .bad
  | .sorted, [d] => match (keysD m d).bind intsD with
    | some ns => .ok (.lst ((sortI ns).map .int)) m
    | none => .bad
  | .sortedSet, [d] => match (lstD m d).bind intsD with
    | some ns => if ns.length ≤ 4000 then .ok (.lst ((sortI (dedI ns)).map .int)) m else .bad
    | none => .bad
  | .min, [d] => match ((lstD m d).bind intsD).bind minI with
    | some n => .ok (.int n) m
    | none => .bad
  | .max, [d] => match ((lstD m d).bind intsD).bind maxI with
    | some n => .ok (.int n) m
    | none => .bad
  | .sum, [d] => match (lstD m d).bind intsD with
    | some ns => .ok (.int ns.sum) m
    | none => .bad
  | .min2, [.int i, .int j] => .ok (.int (if j < i then j else i)) m
  | .max2, [.int i, .int j] => .ok (.int (if j > i then j else i)) m
  | .str, [.int i] => if i.natAbs.log2 < 1920 then .ok (.str (toString i)) m else .bad
  | .int, [.bl b] => .ok (.int (if b then 1 else 0)) m
  | .int, [.int i] => .ok (.int i) m
  | .dct0, [] => .ok (.ref m.length) (m ++ [.dct []])
  | .sortedSetT, [d] => match (lstD m d).bind tupsD with
    | some l => if okT l = true then .ok (.lst ((sortT (dedT l)).map tupI)) m else .bad
    | none => .bad
  | .index, [.lst ds, x] => if flatD x = true ∧ ds.all flatD = true then match ds.findIdx? (fun y => eqF y x) with
    | some j => .ok (.int (j : Nat)) m
    | none => .bad
    else .bad
  | .count, [.lst ds, x] => if flatD x = true ∧ ds.all flatD = true then .ok (.int ((ds.countP fun y => eqF y x : Nat) : Int)) m else .bad
  | .dctT0, [] => .ok (.ref m.length) (m ++ [.dtt []])
  | .sortedDT, [.ref n] => match m[n]? with
    | some (.dtt kvs) => if (kvs.map (·.1)).all (fun t => !t.isEmpty) = true ∧ kvs.length ≤ big then .ok (.lst ((sortT (kvs.map (·.1))).map tupI)) m else .bad
    | _ => .bad
  | .minT, [d] => match (lstD m d).bind tupsD with
    | some (x :: r) => if (x :: r).length ≤ 100 ∧ (x :: r).all (fun t => decide (t.length ≤ 100)) = true then .ok (tupI (minTs x r)) m else .bad
    | _ => .bad
  | .rngL, [.int j] => if -(2 ^ 62) ≤ j ∧ j ≤ big then .ok (.lst ((List.range j.toNat).map fun (i : Nat) => D.int (i : Int))) m else .bad
  | .rngT, [.int j] => if -(2 ^ 62) ≤ j ∧ j ≤ big then .ok (.tup ((List.range j.toNat).map fun (i : Nat) => D.int (i : Int))) m else .bad
  | .dict, [d] => match (lstD m d).bind pairsD with
    | some ps => .ok (.ref m.length) (m ++ [.dct (ps.foldl (fun a p => putK a p.1 p.2) [])])
    | none => .bad
  | _, _ => .bad
def idxD (m : Mem) : D → D → Option D
  | .ref n, k => match m[n]? with
    | some (.lst ds) => match k with
      | .int i => atI ds i
      | _ => none
    | some (.dct kvs) => (keyD k).bind (lookK kvs)
    | _ => none
  | .str s, .int i => if s.length ≤ big then (atI s.cps.toList i).map fun c => .str ⟨#[c]⟩ else none
  | d, .int i => (itemsD m d).bind fun ds => atI ds i
  | _, _ => none
def cutD (ds : List D) (lo hi : Option Int) : List D := (ds.drop (HT.sIx ds.length 0 lo)).take (HT.sIx ds.length ds.length hi - HT.sIx ds.length 0 lo)
def sliD (m : Mem) : D → Option Int → Option Int → Option D
  | .tup ds, lo, hi => some (.tup (cutD ds lo hi))
  | .lst ds, lo, hi => some (.lst (cutD ds lo hi))
  | .ref n, lo, hi => match m[n]? with
    | some (.lst ds) => some (.lst (cutD ds lo hi))
    | _ => none
  | _, _, _ => none
mutual
/-- all things of the store within are below k -/
def D.und (k : Nat) : D → Bool
  | .tup ds => D.unds k ds
  | .lst ds => D.unds k ds
  | .ref n => decide (n < k)
  | _ => true
def D.unds (k : Nat) : List D → Bool
  | [] => true
  | d :: r => D.und k d && D.unds k r
end
def O.und (k : Nat) : O → Bool
  | .lst ds => D.unds k ds
  | .dct kvs => D.unds k (kvs.map (·.2))
  | .dtt kvs => D.unds k (kvs.map (·.2))
  | .ins _ _ => false
def wipeS (ρ : Sl) : List Nat → Sl
  | [] => ρ
  | v :: vs => (wipeS ρ vs).set v none
def bindIs : List Nat → List D → Sl → Option Sl
  | [], [], ρ => some ρ
  | i :: is, d :: ds, ρ => bindIs is ds (ρ.set i (some d))
  | _, _, _ => none
def bindT (m : Mem) : Tg → D → Sl → Option Sl
  | .one i, d, ρ => some (ρ.set i (some d))
  | .tup is, .tup ds, ρ => if ds.length = is.length then bindIs is ds ρ else none
  | .tup is, .lst ds, ρ => if ds.length = is.length then bindIs is ds ρ else none
  | .tup _, _, _ => none
/-- the items gone through, and the thing of the store that must stand still meanwhile -/
def walkD (m : Mem) : Wk → List D → Option (List D)
  | .seq, [d] => itemsD m d
  | .rng1, [.int j] => if -(2 ^ 62) ≤ j ∧ j ≤ big then some ((List.range j.toNat).map fun (i : Nat) => D.int (i : Int)) else none
  | .rng2, [.int i, .int j] => if -(2 ^ 62) ≤ i ∧ i < 2 ^ 62 ∧ -(2 ^ 62) ≤ j ∧ j < 2 ^ 62 ∧ (j - i).toNat ≤ big then some ((List.range (j - i).toNat).map fun (n : Nat) => D.int (i + (n : Int))) else none
  | .rngD, [.int i, .int j] => if -(2 ^ 62) ≤ i ∧ i < 2 ^ 62 ∧ -(2 ^ 62) ≤ j ∧ j < 2 ^ 62 ∧ (i - j).toNat ≤ big then some ((List.range (i - j).toNat).map fun (n : Nat) => D.int (i - (n : Int))) else none
  | .enum, [.lst ds] => some (ds.zipIdx.map fun p => .tup [.int p.2, p.1])
  | .enum, [.ref n] => match m[n]? with
    | some (.lst ds) => some (ds.zipIdx.map fun p => .tup [.int p.2, p.1])
    | _ => none
  | .enumT, [.tup ds] => some (ds.zipIdx.map fun p => .tup [.int p.2, p.1])
  | .str, [.str s] => if s.length ≤ big then some (s.cps.toList.map fun c => .str ⟨#[c]⟩) else none
  | _, _ => none
/-- the list of the store that is gone through stands as it did -/
def walkG (m : Mem) : Wk → List D → Mem → Bool
  | .seq, [.ref n], m' => decide (m'[n]? = m[n]?)
  | .enum, [.ref n], m' => decide (m'[n]? = m[n]?)
  | _, _, _ => true
def compL (tg : Tg) (ρ0 : Sl) (g : Mem → Bool) (c : Sl → Mem → Res D) (e : Sl → Mem → Res D) : List D → Mem → Res (List D)
  | [], m => if g m then .ok [] m else .bad
  | d :: ds, m => if g m then match bindT m tg d ρ0 with
    | none => .bad
    | some ρ => match c ρ m with
      | .ok (.bl true) m1 => match e ρ m1 with
        | .ok v m2 => match compL tg ρ0 g c e ds m2 with
          | .ok vs m3 => .ok (v :: vs) m3
          | _ => .bad
        | _ => .bad
      | .ok (.bl false) m1 => compL tg ρ0 g c e ds m1
      | _ => .bad
    else .bad

/-- no exception is told -/
def Res.nox {α : Type} (r : Res α) : Res α := match r with
  | .ex _ _ _ => .bad
  | r => r
/-- a function handed in: what it tells, where calls are so -/
abbrev Lf := (Str → List D → Mem → Res D) → List D → Mem → Res D
/-- low: calls one level down -/
structure Fe where
  call : Str → List D → Mem → Res D
  low : Option (Str → List D → Mem → Res D)
  hof : Str → Lf → List D → Mem → Res D
  lam : List D → Mem → Res D
  glo : Str → Option D
  wf : Nat
  exc : Option (Str × List D)
/-- the classes of exceptions that stand here; what their things have -/
def xcls : List (Str × List Str) := [("ReportError", []), ("BadReport", ["part", "number"]), ("BadSize", []), ("BadAgain", []), ("BadKeys", []), ("BadRows", ["number"]), ("BadOrder", ["number"]), ("BadPlan", ["number"]), ("BadMoves", ["number"]), ("BadText", ["row"])]
def flds (c : Str) : List Str := (xcls.lookup c).getD []
/-- is a thing of the one class one of the other -/
def xsub (c d : Str) : Bool := decide (c = d) || decide (d = "ReportError") || decide (d = "ValueError")
/-- an exception is caught -/
def Fe.caught (F : Fe) (c : Str) (ds : List D) : Fe := ⟨F.call, F.low, F.hof, F.lam, F.glo, F.wf, some (c, ds)⟩
def isxD (F : Fe) (c : Str) : Option Bool := F.exc.map fun q => xsub q.1 c
def xatD (F : Fe) (f : Str) : Option D := F.exc.bind fun q => ((flds q.1).zip q.2).lookup f
/-- within a lambda -/
def Fe.lamb (F : Fe) (c : Str → List D → Mem → Res D) : Fe := ⟨c, none, fun _ _ _ _ => .bad, fun _ _ => .bad, F.glo, F.wf, none⟩
def getS (ρ : Sl) (i : Nat) : Option D := (ρ[i]?).join
def capS (ρ : Sl) (caps : List Nat) : Sl := caps.map (getS ρ)
/-- the keys of a sort -/
def keysL (m : Mem) (f : D → Res D) : List D → Option (List (List Int × D))
  | [] => some []
  | d :: r => match f d with
    | .ok (.tup ks) m' => if m' = m then match intsD ks, keysL m f r with
      | some ns, some q => some ((ns, d) :: q)
      | _, _ => none else none
    | _ => none
/-- no key is empty, or all are -/
def oneKd (l : List (List Int × D)) : Bool := (l.all fun p => !p.1.isEmpty) || l.all fun p => p.1.isEmpty
def sortKL (l : List (List Int × D)) : List D := (l.mergeSort fun p q => !HT.lexLt q.1 p.1).map (·.2)
def lpopD (m : Mem) : D → List D → Res D
  | .ref n, ds => match m[n]? with
    | some (.lst xs) => match ds with
      | [] => match xs[xs.length - 1]? with
        | some y => .ok y (m.set n (.lst xs.dropLast))
        | none => .bad
      | [.int i] => if -(2 ^ 62) ≤ i ∧ i < 2 ^ 62 then match ixN xs.length i with
        | some k => match xs[k]? with
          | some y => .ok y (m.set n (.lst (xs.eraseIdx k)))
          | none => .bad
        | none => .bad else .bad
      | _ => .bad
    | _ => .bad
  | _, _ => .bad
def pickD (get : Bool) (ks : List Str) (ds : List D) : D → Option D
  | .str s => if ks.length = ds.length then match lookK ((ks.map fun k => (Sum.inr k : Key)).zip ds) (.inr s) with
    | some d => some d
    | none => if get then some .non else none else none
  | _ => none
def newD (d : D) (m : Mem) : Res D := match d with
  | .lst ds => .ok (.ref m.length) (m ++ [.lst ds])
  | _ => .bad
/-- a list of the store, a dict of it -/
def refL (m : Mem) : D → Bool
  | .ref n => match m[n]? with
    | some (.lst _) => true
    | _ => false
  | _ => false
def refK (m : Mem) : D → Bool
  | .ref n => match m[n]? with
    | some (.dct _) => true
    | _ => false
  | _ => false
def refT (m : Mem) : D → Bool
  | .ref n => match m[n]? with
    | some (.dtt _) => true
    | _ => false
  | _ => false
def sdefD (m : Mem) : D → D → D → Res D
  | .ref n, y, z => match m[n]?, keyT y with
    | some (.dtt kvs), some k => match lookT kvs k with
      | some d => .ok d m
      | none => if kvs.length < big then .ok z (m.set n (.dtt (kvs ++ [(k, z)]))) else .bad
    | _, _ => .bad
  | _, _, _ => .bad
def getTD (m : Mem) : D → D → Option D
  | .ref n, y => match m[n]?, keyT y with
    | some (.dtt kvs), some k => lookT kvs k
    | _, _ => none
  | _, _ => none
def optR (o : Option D) (m : Mem) : Res D := match o with
  | some d => .ok d m
  | none => .bad
def optB (o : Option Bool) (m : Mem) : Res D := match o with
  | some d => .ok (.bl d) m
  | none => .bad
def onB (r : Res D) (f : Bool → Mem → Res D) : Res D := r.bind fun d m => match d with
  | .bl b => f b m
  | _ => .bad
def partOf : List D → Option (Option Int)
  | [] => some none
  | [.int i] => some (some i)
  | _ => none
mutual
def evE (F : Fe) : Ex → Sl → Mem → Res D
  | .var i, ρ, m => match ρ[i]? with
    | some (some d) => .ok d m
    | _ => .bad
  | .glo x, _, m => optR (F.glo x) m
  | .cst d, _, m => .ok d m
  | .bin o a b, ρ, m => (evE F a ρ m).bind fun x m1 => (evE F b ρ m1).bind fun y m2 => optR (binD m2 o x y) m2
  | .cmp o a b, ρ, m => (evE F a ρ m).bind fun x m1 => (evE F b ρ m1).bind fun y m2 => optB (cmpD m2 o x y) m2
  | .chain o o' a b c, ρ, m => (evE F a ρ m).bind fun x m1 => (evE F b ρ m1).bind fun y m2 => match cmpD m2 o x y with
    | some true => (evE F c ρ m2).bind fun z m3 => optB (cmpD m3 o' y z) m3
    | some false => .ok (.bl false) m2
    | none => .bad
  | .and a b, ρ, m => onB (evE F a ρ m) fun x m1 => if x then evE F b ρ m1 else .ok (.bl false) m1
  | .or a b, ρ, m => onB (evE F a ρ m) fun x m1 => if x then .ok (.bl true) m1 else evE F b ρ m1
  | .not a, ρ, m => onB (evE F a ρ m) fun x m1 => .ok (.bl (!x)) m1
  | .ite c a b, ρ, m => onB (evE F c ρ m) fun x m1 => if x then evE F a ρ m1 else evE F b ρ m1
  | .fn f es, ρ, m => (evEs F es ρ m).bind fun ds m1 => fnD m1 f ds
  | .isin a ts, ρ, m => (evE F a ρ m).bind fun x m1 => optB (anyTy m1 x ts) m1
  | .call f es, ρ, m => (evEs F es ρ m).bind fun ds m1 => F.call f ds m1
  | .idx a b, ρ, m => (evE F a ρ m).bind fun x m1 => (evE F b ρ m1).bind fun y m2 => optR (idxD m2 x y) m2
  | .sli a lo hi, ρ, m => (evE F a ρ m).bind fun x m1 => (evEs F lo ρ m1).nox.bind fun l m2 => (evEs F hi ρ m2).nox.bind fun h m3 => match partOf l, partOf h with
    | some l', some h' => optR (sliD m3 x l' h') m3
    | _, _ => .bad
  | .tup es, ρ, m => (evEs F es ρ m).bind fun ds m1 => if ds.length ≤ big then .ok (.tup ds) m1 else .bad
  | .lst fr es, ρ, m => (evEs F es ρ m).bind fun ds m1 => if ds.length ≤ big then (if fr then .ok (.lst ds) m1 else .ok (.ref m1.length) (m1 ++ [.lst ds])) else .bad
  | .comp own tg k it c e, ρ, m => (evEs F it ρ m).nox.bind fun ds m1 => match walkD m1 k ds with
    | none => .bad
    | some xs => match compL tg (wipeS ρ (own.map (·.2))) (walkG m1 k ds) (fun ρ' m' => evC F c ρ' m') (fun ρ' m' => evE F e ρ' m') xs m1 with
      | .ok vs m2 => .ok (.lst vs) m2
      | _ => .bad
  | .scope a, ρ, m => match evE F a ρ m with
    | .ok d m' => match frzD m' m.length d with
      | some d' => if m'.take m.length = m ∨ (m'.take m.length).all (O.und m.length) = true then .ok d' (m'.take m.length) else .bad
      | none => .bad
    | r => r
  | .new a, ρ, m => (evE F a ρ m).bind newD
  | .hof f es np caps x, ρ, m => (evEs F es ρ m).nox.bind fun ds m1 => F.hof f (fun c as m' => if as.length = np then evE (F.lamb c) x (as.map some ++ capS ρ caps) m' else .bad) ds m1
  | .callv es, ρ, m => (evEs F es ρ m).bind fun ds m1 => F.lam ds m1
  | .sortK es caps x, ρ, m => (evEs F es ρ m).bind fun ds m1 => match ds with
    | [d] => match F.low, lstD m1 d with
      | some c, some xs => match keysL m1 (fun v => evE (F.lamb c) x (some v :: capS ρ caps) m1) xs with
        | some l => if oneKd l then .ok (.lst (sortKL l)) m1 else .bad
        | none => .bad
      | _, _ => .bad
    | _ => .bad
  | .lpop o es, ρ, m => (evE F o ρ m).bind fun x m1 => if refL m1 x then (evEs F es ρ m1).bind fun ds m2 => lpopD m2 x ds else .bad
  | .sdef o k e, ρ, m => (evE F o ρ m).bind fun x m1 => if refT m1 x then (evE F k ρ m1).bind fun y m2 => (evE F e ρ m2).bind fun z m3 => sdefD m3 x y z else .bad
  | .dgetT o k, ρ, m => (evE F o ρ m).bind fun x m1 => (evE F k ρ m1).bind fun y m2 => optR (getTD m2 x y) m2
  | .isx _ c, _, m => optB (isxD F c) m
  | .xat _ f, _, m => optR (xatD F f) m
  | .pick get ks es k, ρ, m => (evEs F es ρ m).nox.bind fun ds m1 => (evE F k ρ m1).nox.bind fun y m2 => optR (pickD get ks ds y) m2
def evEs (F : Fe) : Exs → Sl → Mem → Res (List D)
  | .nil, _, m => .ok [] m
  | .cons e r, ρ, m => (evE F e ρ m).bind fun d m1 => (evEs F r ρ m1).bind fun ds m2 => .ok (d :: ds) m2
/-- a comprehension's tests: none, or one -/
def evC (F : Fe) : Exs → Sl → Mem → Res D
  | .nil, _, m => .ok (.bl true) m
  | .cons e _, ρ, m => evE F e ρ m
end

/-! ### statements -/
inductive Lm where | append | extend | reverse | clear
  deriving DecidableEq
mutual
inductive Sm where
  | asg (tg : Tg) (e : Ex)
  | par (i j : Nat) (a b : Ex)
  | put (o i e : Ex)
  | expr (e : Ex)
  | lm (f : Lm) (o : Ex) (es : Exs)
  | dpop (o : Ex) (k : Ex)
  | ret (e : Ex)
  | iff (c : Ex) (a b : Sms)
  | whil (c : Ex) (b : Sms)
  | for (tg : Tg) (k : Wk) (it : Exs) (b : Sms)
  | pass
  | never
  /-- raise c(es) -/
  | rais (c : Str) (es : Exs)
  /-- try: b, except c as slot i: h -/
  | tri (b : Sms) (c : Str) (i : Nat) (h : Sms)
inductive Sms where
  | nil
  | cons (s : Sm) (r : Sms)
  /-- b, which is k statements; then slot x is told as what stays, and the store cut back -/
  | blk (x k : Nat) (b r : Sms)
end
inductive Rs where
  | nx (ρ : Sl) (m : Mem) | rt (d : D) (m : Mem) | ex (c : Str) (ds : List D) (m : Mem) | bad
def Res.go {α : Type} (r : Res α) (f : α → Mem → Rs) : Rs := match r with
  | .ok a m => f a m
  | .ex c ds m => .ex c ds m
  | .bad => .bad
def Rs.thn (r : Rs) (f : Sl → Mem → Rs) : Rs := match r with
  | .nx ρ m => f ρ m
  | r => r
def whileL (c : Sl → Mem → Res D) (b : Sl → Mem → Rs) : Nat → Sl → Mem → Rs
  | 0, _, _ => .bad
  | n + 1, ρ, m => (c ρ m).go fun d m1 => match d with
    | .bl true => (b ρ m1).thn fun ρ' m' => whileL c b n ρ' m'
    | .bl false => .nx ρ m1
    | _ => .bad
def forL (tg : Tg) (g : Mem → Bool) (b : Sl → Mem → Rs) : List D → Sl → Mem → Rs
  | [], ρ, m => if g m then .nx ρ m else .bad
  | d :: ds, ρ, m => if g m then match bindT m tg d ρ with
    | none => .bad
    | some ρ1 => (b ρ1 m).thn fun ρ' m' => forL tg g b ds ρ' m'
    else .bad
/-- slots that lean on nothing from k on -/
def undS (k : Nat) (ρ : Sl) : Sl := ρ.map fun o => match o with
  | some d => if D.und k d = true then some d else none
  | none => none
def blkR (m : Mem) (x : Nat) (q : Rs) (f : Sl → Mem → Rs) : Rs := match q with
  | .nx ρ' m' => match getS ρ' x with
    | some d => match frzD m' m.length d with
      | some d' => if m'.take m.length = m ∨ (m'.take m.length).all (O.und m.length) = true then f ((undS m.length ρ').set x (some d')) (m'.take m.length) else .bad
      | none => .bad
    | none => .bad
  | q => q
def putD (m : Mem) : D → D → D → Option Mem
  | .ref n, k, v => match m[n]? with
    | some (.lst ds) => match k with
      | .int i => (ixN ds.length i).map fun j => m.set n (.lst (ds.set j v))
      | _ => none
    | some (.dct kvs) => match keyD k with
      | some q => if kvs.length < big then some (m.set n (.dct (putK kvs q v))) else none
      | none => none
    | _ => none
  | _, _, _ => none
def lmD (m : Mem) (f : Lm) (d : D) (vs : List D) : Option Mem := match d with
  | .ref n => match m[n]? with
    | some (.lst ds) => match f, vs with
      | .append, [v] => if ds.length < big then some (m.set n (.lst (ds ++ [v]))) else none
      | .extend, [v] => match extD m v with
        | some es => if ds.length + es.length ≤ big then some (m.set n (.lst (ds ++ es))) else none
        | none => none
      | .reverse, [] => some (m.set n (.lst ds.reverse))
      | .clear, [] => some (m.set n (.lst []))
      | _, _ => none
    | _ => none
  | _ => none
def dpopD (m : Mem) : D → D → Option Mem
  | .ref n, k => match m[n]?, keyD k with
    | some (.dct kvs), some q => if (lookK kvs q).isSome then some (m.set n (.dct (dropK kvs q))) else none
    | _, _ => none
  | _, _ => none
mutual
def evS (F : Fe) : Sm → Sl → Mem → Rs
  | .asg tg e, ρ, m => (evE F e ρ m).go fun d m1 => match bindT m1 tg d ρ with
    | some ρ' => .nx ρ' m1
    | none => .bad
  | .par i j a b, ρ, m => (evE F a ρ m).go fun x m1 => (evE F b ρ m1).go fun y m2 => .nx ((ρ.set i (some x)).set j (some y)) m2
  | .put o i e, ρ, m => (evE F e ρ m).go fun v m1 => (evE F o ρ m1).go fun x m2 => (evE F i ρ m2).go fun k m3 => match putD m3 x k v with
    | some m' => .nx ρ m'
    | none => .bad
  | .expr e, ρ, m => (evE F e ρ m).go fun _ m1 => .nx ρ m1
  | .lm f o es, ρ, m => (evE F o ρ m).go fun x m1 => if refL m1 x then (evEs F es ρ m1).go fun vs m2 => match lmD m2 f x vs with
    | some m' => .nx ρ m'
    | none => .bad
    else .bad
  | .dpop o k, ρ, m => (evE F o ρ m).go fun x m1 => if refK m1 x then (evE F k ρ m1).go fun y m2 => match dpopD m2 x y with
    | some m' => .nx ρ m'
    | none => .bad
    else .bad
  | .ret e, ρ, m => (evE F e ρ m).go fun d m1 => .rt d m1
  | .iff c a b, ρ, m => (evE F c ρ m).go fun d m1 => match d with
    | .bl true => evSs F a ρ m1
    | .bl false => evSs F b ρ m1
    | _ => .bad
  | .whil c b, ρ, m => whileL (fun ρ' m' => evE F c ρ' m') (fun ρ' m' => evSs F b ρ' m') F.wf ρ m
  | .for tg k it b, ρ, m => (evEs F it ρ m).nox.go fun ds m1 => match walkD m1 k ds with
    | some xs => forL tg (walkG m1 k ds) (fun ρ' m' => evSs F b ρ' m') xs ρ m1
    | none => .bad
  | .pass, ρ, m => .nx ρ m
  | .never, _, _ => .bad
  | .rais c es, ρ, m => if F.low.isSome = true then (evEs F es ρ m).go fun ds m1 => if (xcls.lookup c).isSome = true ∧ ds.length = (flds c).length then .ex c ds m1 else .bad else .bad
  | .tri b c i h, ρ, m => match evSs F b ρ m with
    | .ex c' ds m' => if (xcls.lookup c').isSome = true ∧ xsub c' c = true ∧ i < ρ.length then match evSs (F.caught c' ds) h (List.replicate ρ.length none) m' with
      | .rt d m2 => .rt d m2
      | _ => .bad
      else .bad
    | r => r
def evSs (F : Fe) : Sms → Sl → Mem → Rs
  | .nil, ρ, m => .nx ρ m
  | .cons s r, ρ, m => (evS F s ρ m).thn fun ρ' m' => evSs F r ρ' m'
  | .blk x _ b r, ρ, m => blkR m x (evSs F b ρ m) fun ρ' m' => evSs F r ρ' m'
end

/-! ### defs -/
structure Def where
  np : Nat
  ns : Nat
  body : Sms
def runDef (F : Fe) (d : Def) (ds : List D) (m : Mem) : Res D :=
  if ds.length = d.np then match evSs F d.body (ds.map some ++ List.replicate (d.ns - d.np) none) m with
    | .nx _ m' => .ok .non m'
    | .rt v m' => .ok v m'
    | .ex c es m' => .ex c es m'
    | .bad => .bad
  else .bad
def noLf : Lf := fun _ _ _ => .bad
def lamOf (L : Lf) : Option (Str → List D → Mem → Res D) → List D → Mem → Res D
  | none => fun _ _ => .bad
  | some c => L c
/-- the def of a name, by so many calls within one another; the function that it is handed -/
def runN (T : List (Str × Def)) (g : Str → Option D) (wf : Nat) : Nat → Str → Lf → List D → Mem → Res D
  | 0, _, _, _, _ => .bad
  | n + 1, f, L, ds, m => match T.lookup f with
    | some d => runDef ⟨fun f' => runN T g wf n f' noLf, (match n with | 0 => none | 1 => none | j + 2 => some fun f' => runN T g wf j f' noLf), runN T g wf n, lamOf L (match n with | 0 => none | 1 => none | j + 2 => some fun f' => runN T g wf j f' noLf), g, wf, none⟩ d ds m
    | none => .bad
def callN (T : List (Str × Def)) (g : Str → Option D) (wf n : Nat) (f : Str) (ds : List D) (m : Mem) : Res D := runN T g wf n f noLf ds m
def lowN (T : List (Str × Def)) (g : Str → Option D) (wf : Nat) : Nat → Option (Str → List D → Mem → Res D)
  | 0 => none
  | 1 => none
  | j + 2 => some (callN T g wf j)
def feN (T : List (Str × Def)) (g : Str → Option D) (wf n : Nat) (L : Lf) : Fe := ⟨callN T g wf n, lowN T g wf n, runN T g wf n, lamOf L (lowN T g wf n), g, wf, none⟩
theorem runN_succ {T : List (Str × Def)} {g : Str → Option D} {wf n : Nat} {f : Str} {L : Lf} {ds : List D} {m : Mem} : runN T g wf (n + 1) f L ds m = match T.lookup f with
    | some d => runDef (feN T g wf n L) d ds m
    | none => .bad := by
  match n with
  | 0 =>
    rw [runN]
    cases T.lookup f <;> rfl
  | 1 =>
    rw [runN]
    cases T.lookup f <;> rfl
  | n + 2 =>
    rw [runN]
    cases T.lookup f <;> rfl
theorem callN_succ {T : List (Str × Def)} {g : Str → Option D} {wf n : Nat} {f : Str} {ds : List D} {m : Mem} : callN T g wf (n + 1) f ds m = match T.lookup f with
    | some d => runDef (feN T g wf n noLf) d ds m
    | none => .bad := runN_succ
end Br


set_option Elab.async false
set_option linter.all false
set_option maxRecDepth 100000
set_option maxHeartbeats 1000000
set_option autoImplicit false
/-! Br: sorted by keys that are tuples of ints. -/
namespace Br
open PySem PySem.Spec PyProof.Rows L2 SrtO
/-- a tuple of these ints -/
def IsInts (h : Heap) (v : Value) (ns : List Int) : Prop := ∃ (a : Addr) (o : Obj) (its : Array Value) (n : Nat), v = .ref a ∧ h.get? a = some o ∧ o.cls = .type "tuple" ∧ o.data = .seq its n ∧ IntsAre its.toList ns
theorem IsInts.keeps {h g : Heap} {v : Value} {ns : List Int} (t : IsInts h v ns) (k : ∀ b o, h.get? b = some o → o.cls = .type "tuple" → g.get? b = some o) : IsInts g v ns := by
  obtain ⟨a, o, its, n, e, ho, hc, hd, hi⟩ := t
  exact ⟨a, o, its, n, e, k a o ho hc, hc, hd, hi⟩
section
variable {prog : Program} {w : World} {A : Around} {s : Shared}
theorem lex_walk {b : Bool} {Q : Bool → Shared → Prop} : ∀ (ns ms : List Int) (xs ys : List Value) (i : Nat), IntsAre xs ns → IntsAre ys ms → Q (HT.lexLt ns ms) s → PySem.W.KatLex prog w A b (decide (ns.length < ms.length)) Q (xs.zip ys) i s
  | [], ms, _, ys, i, .nil, hy, q => by
    cases hy with
    | nil => exact q
    | cons n t h => simpa [HT.lexLt] using PySem.W.kat_nil (prog := prog) (w := w) (A := A) (b := b) (fin := true) (Q := Q) (i := i) q
  | x :: ns, [], _, _, i, .cons _ t h, .nil, q => by
    have : decide ((x :: ns).length < ([] : List Int).length) = false := by simp
    rw [this]
    exact PySem.W.kat_nil q
  | x :: ns, y :: ms, _, _, i, .cons _ t h, .cons _ u h', q => by
    rw [List.zip_cons_cons]
    refine PySem.W.kat_cons (SeqAt.EqAt.int_int x t y u prog w _ _ ?_)
    have el : decide ((x :: ns).length < (y :: ms).length) = decide (ns.length < ms.length) := by simp
    rw [el]
    refine PySem.W.kat_go (fun e1 => ?_) (fun e1 => ?_)
    · have ex : x = y := by simpa using e1
      rw [HT.lexLt_cons, if_pos ex] at q
      exact PySem.W.kat_yes (lex_walk ns ms _ _ (i + 1) h h' q)
    · have ex : ¬ x = y := by simpa using e1
      rw [HT.lexLt_cons, if_neg ex] at q
      refine PySem.W.kat_no ?_
      cases hb : (b && i == 0) with
      | true => exact oneLt_int q
      | false => exact PySem.W.kat_one _ _ (PyProof.Rows.lt_int q)
theorem ints_lt {b : Bool} {v u : Value} {ns ms : List Int} (hv : IsInts s.heap v ns) (hu : IsInts s.heap u ms) {Q : Bool → Shared → Prop} {E : Value → Shared → Prop} (q : Q (HT.lexLt ns ms) s) : wpAny (model prog w) A (keyLt' (tuples' b) v u) Q E s := by
  obtain ⟨a, o, xs, n, rfl, ho, _, hd, hx⟩ := hv
  obtain ⟨a', o', ys, n', rfl, ho', _, hd', hy⟩ := hu
  refine PySem.W.kat_lt ho hd ho' hd' ?_
  have e1 : xs.size = ns.length := by have := hx.length; rwa [Array.length_toList] at this
  have e2 : ys.size = ms.length := by have := hy.length; rwa [Array.length_toList] at this
  rw [e1, e2]
  exact lex_walk ns ms _ _ 0 hx hy q
theorem lexLt_asym : ∀ {a b : List Int}, HT.lexLt a b = true → HT.lexLt b a = false
  | [], [], h => by cases h
  | [], _ :: _, _ => rfl
  | _ :: _, [], h => by cases h
  | x :: a, y :: b, h => by
    rw [HT.lexLt_cons] at h ⊢
    by_cases e : x = y
    · rw [if_pos e] at h
      rw [if_pos e.symm]
      exact lexLt_asym h
    · rw [if_neg e] at h
      rw [if_neg (fun z => e z.symm)]
      simp at h ⊢
      omega
theorem lexLt_tr : ∀ {a b c : List Int}, HT.lexLt b a = false → HT.lexLt c b = false → HT.lexLt c a = false
  | [], [], c, _, h => h
  | [], _ :: _, [], _, _ => rfl
  | [], _ :: _, _ :: _, h, _ => rfl
  | _ :: _, [], _, h, _ => by cases h
  | _ :: _, _ :: _, [], _, h => by cases h
  | x :: a, y :: b, z :: c, h1, h2 => by
    rw [HT.lexLt_cons] at h1 h2 ⊢
    by_cases e1 : y = x
    · subst e1
      rw [if_pos rfl] at h1
      by_cases e2 : z = y
      · subst e2
        rw [if_pos rfl] at h2 ⊢
        exact lexLt_tr h1 h2
      · rw [if_neg e2] at h2 ⊢
        exact h2
    · rw [if_neg e1] at h1
      simp at h1
      by_cases e2 : z = y
      · subst e2
        rw [if_neg e1]
        simp
        omega
      · rw [if_neg e2] at h2
        simp at h2
        have e3 : ¬ z = x := by omega
        rw [if_neg e3]
        simp
        omega
theorem swo_lexK {α : Type} (k : α → List Int) : Swo fun v u => HT.lexLt (k v) (k u) := ⟨fun _ _ h => lexLt_asym h, fun _ _ _ h1 h2 => lexLt_tr h1 h2⟩
/-- two of the keys compare as their ints do -/
theorem keys_cmp {b : Bool} {vs : List Value} {kf : Value → List Int} (h : ∀ v ∈ vs, IsInts s.heap v (kf v)) : Cmp prog w A s (tuples' b) (fun p => p.1 ∈ vs) (fun p q => HT.lexLt (kf p.1) (kf q.1)) := fun p q hp hq => ints_lt (h _ hp) (h _ hq) ⟨rfl, rfl⟩
/-- the keys' kind, none of them empty -/
theorem keys_kind {vs : List Value} {kf : Value → List Int} (h : ∀ v ∈ vs, IsInts s.heap v (kf v)) (hn : ∀ v ∈ vs, kf v ≠ []) (h0 : 0 < vs.length) {Q : SortKind → Shared → Prop} {E : Value → Shared → Prop} (q : Q (tuples' true) s) :
    wpAny (model prog w) A (keyKind' vs.toArray) Q E s := by
  have firsts : ∃ fs, PySem.W.KatTups s.heap vs fs ∧ fs.length = vs.length ∧ ∀ f ∈ fs, ∃ i t, f = .int i t := by
    clear h0 q
    induction vs with
    | nil => exact ⟨[], PySem.W.KatTups.nil, rfl, by simp⟩
    | cons v r ih =>
      obtain ⟨fs, g1, g2, g3⟩ := ih (fun u hu => h u (List.mem_cons_of_mem _ hu)) fun u hu => hn u (List.mem_cons_of_mem _ hu)
      obtain ⟨a, o, its, n, e, ho, hc, hd, hi⟩ := h v (List.mem_cons_self ..)
      have hk := hn v (List.mem_cons_self ..)
      subst e
      generalize kf (.ref a) = ks at hi hk
      cases hl : its.toList with
      | nil =>
        rw [hl] at hi
        cases hi
        exact absurd rfl hk
      | cons f fr =>
        rw [hl] at hi
        cases hi with
        | cons i t hr =>
          refine ⟨.int i t :: fs, PySem.W.KatTups.cons ho hc hd ?_ g1, by simp [g2], fun f hf => ?_⟩
          · rw [← Array.getElem?_toList, hl]
            rfl
          · rcases List.mem_cons.mp hf with rfl | z
            · exact ⟨i, t, rfl⟩
            · exact g3 f z
  obtain ⟨fs, g1, g2, g3⟩ := firsts
  refine PySem.W.kat_kind (T := .type "int") g1 (by omega) (fun f hf => ?_) (by rfl) ?_
  · obtain ⟨i, t, rfl⟩ := g3 f hf
    exact PySem.W.Looks.now
  · have e : (Value.type "int" != Value.type "tuple") = true := by decide +kernel
    rw [e]
    exact q
end
end Br


set_option Elab.async false
set_option linter.all false
set_option maxRecDepth 100000
set_option maxHeartbeats 1000000
set_option autoImplicit false
/-! Br: sorted by keys that are tuples of ints: the keys' kind, the order's uniqueness. -/
namespace Br
open PySem PySem.Spec PyProof.Rows L2 SrtO PySem.W
theorem IntsAre.inj : ∀ {vs : List Value} {ns ms : List Int}, IntsAre vs ns → IntsAre vs ms → ns = ms
  | [], _, _, .nil, .nil => rfl
  | _ :: _, _, _, .cons n t h, h2 => by
    cases h2 with
    | cons m u h' => rw [IntsAre.inj h h']
theorem IsInts.inj {h : Heap} {v : Value} {ns ms : List Int} (a : IsInts h v ns) (b : IsInts h v ms) : ns = ms := by
  obtain ⟨a1, o, its, n, e, ho, hc, hd, hi⟩ := a
  obtain ⟨a2, o2, its2, n2, e2, ho2, hc2, hd2, hi2⟩ := b
  rw [e] at e2
  cases e2
  rw [ho] at ho2
  cases ho2
  rw [hd] at hd2
  cases hd2
  exact IntsAre.inj hi hi2
section
variable {prog : Program} {w : World} {A : Around} {s : Shared}
theorem empty_first {v : Value} (h : IsInts s.heap v []) {Q : Option Value → Shared → Prop} {E : Value → Shared → Prop} (q : Q none s) : wpAny (model prog w) A (firstOfTuple' v) Q E s := by
  obtain ⟨a, o, its, n, rfl, ho, hc, hd, hi⟩ := h
  rw [kas_first_eq]
  refine wpAny_bind (Looks.here (show Looks (model prog w) s.heap (typeOf (.ref a)) o.cls from (Looks.ld ho).andThen .now) ?_)
  rw [hc, if_neg (by first | decide | simp)]
  refine wpAny_bind (listItems_at ho hd (wpAny_pure ?_))
  have : its = #[] := by
    cases hl : its.toList with
    | nil => exact Array.toList_inj.mp (by rw [hl])
    | cons _ _ => rw [hl] at hi; cases hi
  rw [this]
  exact q
theorem empty_kind {vs : List Value} (h2 : 2 ≤ vs.length) (h : ∀ v ∈ vs, IsInts s.heap v []) {Q : SortKind → Shared → Prop} {E : Value → Shared → Prop} (q : Q oneType' s) : wpAny (model prog w) A (keyKind' vs.toArray) Q E s := by
  obtain ⟨v₁, v₂, rest, rfl⟩ : ∃ v₁ v₂ rest, vs = v₁ :: v₂ :: rest := by
    match vs, h2 with
    | [], h2 => simp at h2
    | [_], h2 => simp at h2
    | v₁ :: v₂ :: rest, _ => exact ⟨v₁, v₂, rest, rfl⟩
  have hT : ∀ v ∈ v₁ :: v₂ :: rest, Looks (model prog w) s.heap (typeOf v) (.type "tuple") := fun v hv => by
    obtain ⟨a, o, its, n, rfl, ho, hc, _⟩ := h v hv
    rw [← hc]
    exact (Looks.ld ho).andThen .now
  rw [keyKind'_eq, List.mapM_toArray, map_eq_pure_bind]
  refine wpAny_bind (wpAny_bind (kas_mapM (r := none) _ (fun v hv Q' hq => empty_first (h v hv) hq) (wpAny_pure ?_)))
  rw [if_neg (by simp), if_neg (by simp)]
  rw [oneTypeOnly'_eq, List.mapM_toArray, map_eq_pure_bind]
  refine wpAny_bind (wpAny_bind (wpAny_bind (kas_mapM (r := .type "tuple") _ (fun v hv Q' hq => (hT v hv).here hq) (wpAny_pure ?_))))
  have hall : ((List.map (fun _ => Value.type "tuple") (v₁ :: v₂ :: rest)).toArray.all fun x => x == .type "tuple") = true := by
    simp only [List.all_toArray, List.all_map, List.all_eq_true]
    intro _ _
    first | rfl | decide | simp
  have h0 : (List.map (fun _ => Value.type "tuple") (v₁ :: v₂ :: rest)).toArray[0]? = some (.type "tuple") := by simp
  rw [h0]
  simp only [hall, if_true]
  refine wpAny_pure ?_
  first | exact wpAny_pure q | exact q
theorem one_lt {v u : Value} {ns ms : List Int} (hu0 : A.units < cLine) (hv : IsInts s.heap v ns) (hu : IsInts s.heap u ms) {Q : Bool → Shared → Prop} {E : Value → Shared → Prop} (q : Q (HT.lexLt ns ms) s) : wpAny (model prog w) A (keyLt' oneType' v u) Q E s := by
  obtain ⟨a, ⟨c, dd, dt, sl⟩, items, n, rfl, ga, hc, hd, ia⟩ := hv
  obtain ⟨b, ⟨c2, dd2, dt2, sl2⟩, items2, n2, rfl, gb, hc2, hd2, ib⟩ := hu
  replace hc : c = .type "tuple" := hc
  replace hd : dt = .seq items n := hd
  replace hc2 : c2 = .type "tuple" := hc2
  replace hd2 : dt2 = .seq items2 n2 := hd2
  subst hc hd hc2 hd2
  rw [keyLt'_oneType, oneLt'_eq]
  simp only [if_true]
  refine wpAny_bind (wpAny_cRoomFor hu0 ?_)
  refine wpAny_bind (wpAny_callSpecialIfBound?_slot (⟨_, ga, rfl⟩ : s.TypeIs (.ref a) "tuple") PySem.F.slot_tuple_lt ?_)
  refine call_meets PySem.F.slot_tuple_lt ⟨_, ga, rfl⟩ PySem.F.entry_tuple_lt (PySem.F.args_tuple_lt_2 _ _) (HT.tuple_lt_ints a b items items2 n n2 dd dd2 sl sl2 ns ms ia ib) ⟨ga, gb, ?_⟩
  exact wpAny_truthy_bool q
/-- the keys are of one kind: none empty, or all -/
def OneKind (kf : Value → List Int) (vs : List Value) : Prop := (∀ v ∈ vs, kf v ≠ []) ∨ ∀ v ∈ vs, kf v = []
theorem keys_sortable {vs : List Value} {kf : Value → List Int} (hu0 : A.units < cLine) (h2 : 2 ≤ vs.length) (h : ∀ v ∈ vs, IsInts s.heap v (kf v)) (hk : OneKind kf vs) : ∃ κ,
    (∀ (Q : SortKind → Shared → Prop) (E : Value → Shared → Prop), Q κ s → wpAny (model prog w) A (keyKind' vs.toArray) Q E s) ∧ Cmp prog w A s κ (fun p => p.1 ∈ vs) (fun p q => HT.lexLt (kf p.1) (kf q.1)) := by
  rcases hk with hk | hk
  · exact ⟨tuples' true, fun Q E q => keys_kind h hk (by omega) q, keys_cmp h⟩
  · refine ⟨oneType', fun Q E q => empty_kind h2 (fun v hv => by rw [← hk v hv]; exact h v hv) q, fun p q hp hq => one_lt hu0 (h _ hp) (h _ hq) ⟨rfl, rfl⟩⟩
end
/-- sorted by keys, stable: there is but one -/
theorem stb_merge {α : Type} (k : α → List Int) {l m : List α} (hs : Srtd (fun p q => HT.lexLt (k p) (k q)) m) (hb : Stb (fun p q => HT.lexLt (k p) (k q)) m l) : m = l.mergeSort fun p q => !HT.lexLt (k q) (k p) := by
  have O := swo_lexK k
  refine sort_unique ⟨fun a b c h1 h2 => ?_, fun a b => ?_⟩ ?_ fun c => ?_
  · simp only [Bool.not_eq_true'] at h1 h2 ⊢
    exact O.tr a b c h1 h2
  · simp only [Bool.not_eq_true']
    cases e : HT.lexLt (k b) (k a) with
    | false => exact .inl rfl
    | true => exact .inr (lexLt_asym e)
  · exact hs.imp fun h => by simpa using h
  · have e : (sameRank fun p q => !HT.lexLt (k q) (k p)) c = eqv (fun p q => HT.lexLt (k p) (k q)) c := by
      funext a
      simp only [sameRank, eqv, Bool.and_comm]
    rw [e]
    exact hb.cls c
end Br


set_option Elab.async false
set_option linter.all false
set_option maxRecDepth 100000
set_option maxHeartbeats 1000000
set_option autoImplicit false
/-! Br: dicts whose keys are tuples of ints, at the library's level. -/
namespace Br
open PySem PySem.Spec PyProof.Rows L2
def valT (xs : List (List Int × Addr × V)) (k : List Int) : Option V := (xs.find? fun x => decide (x.1 = k)).map (·.2.2)
abbrev PrT (xs : List (List Int × Addr × V)) (ys : List (List Int × Addr × Value)) : Prop := Paired (fun (p : List Int × Addr × V) (q : List Int × Addr × Value) => p.1 = q.1 ∧ p.2.1 = q.2.1 ∧ RelV p.2.2 q.2.2) xs ys
theorem prT_mem : ∀ {xs : List (List Int × Addr × V)} {ys : List (List Int × Addr × Value)}, PrT xs ys → ∀ y ∈ ys, ∃ x ∈ xs, x.1 = y.1 ∧ x.2.1 = y.2.1
  | _, _, .nil, y, hy => by cases hy
  | _, _, .cons h t, y, hy => by
    rcases List.mem_cons.mp hy with rfl | hy
    · exact ⟨_, List.mem_cons_self, h.1, h.2.1⟩
    · obtain ⟨x, hx, e⟩ := prT_mem t y hy
      exact ⟨x, List.mem_cons_of_mem _ hx, e⟩
theorem prT_keys : ∀ {xs : List (List Int × Addr × V)} {ys : List (List Int × Addr × Value)}, PrT xs ys → xs.map (·.1) = ys.map (·.1) ∧ (xs.map fun x => x.2.1) = ys.map (fun y => y.2.1) ∧ xs.length = ys.length
  | _, _, .nil => ⟨rfl, rfl, rfl⟩
  | _, _, .cons h t => by
    obtain ⟨h1, h2, h3⟩ := prT_keys t
    simp only [List.map_cons, List.length_cons, h1, h2, h3, h.1, h.2.1, and_self]
theorem prT_at {k : List Int} : ∀ {xs : List (List Int × Addr × V)} {ys : List (List Int × Addr × Value)}, PrT xs ys → (∀ v, valT xs k = some v → ∃ p, atKey ys k = some p ∧ RelV v p.2) ∧ (valT xs k = none → atKey ys k = none) ∧ (∀ p, atKey ys k = some p → ∃ v, valT xs k = some v ∧ RelV v p.2)
  | _, _, .nil => ⟨fun v h => (nomatch h), fun _ => rfl, fun v h => (nomatch h)⟩
  | x :: xs, y :: ys, .cons h t => by
    obtain ⟨h1, h2, h3⟩ := prT_at (k := k) t
    by_cases e : x.1 = k
    · have e2 : y.1 = k := by rw [← h.1]; exact e
      have a1 : valT (x :: xs) k = some x.2.2 := by simp [valT, e]
      have a2 : atKey (y :: ys) k = some y.2 := by simp [atKey, e2]
      rw [a1, a2]
      refine ⟨fun v hv => ?_, fun hv => (nomatch hv), fun p hp => ?_⟩
      · cases hv
        exact ⟨_, rfl, h.2.2⟩
      · cases hp
        exact ⟨_, rfl, h.2.2⟩
    · have e2 : ¬ y.1 = k := by rw [← h.1]; exact e
      have a1 : valT (x :: xs) k = valT xs k := by simp [valT, e]
      have a2 : atKey (y :: ys) k = atKey ys k := by simp [atKey, e2]
      rw [a1, a2]
      exact ⟨h1, h2, h3⟩
theorem dto_obj {P : Program} {w : World} {H : Hp} {h : Heap} {a : Addr} {xs : List (List Int × Addr × V)} (h1 : (a == sysModules) = false) (h2 : xs.length ≤ sizeLine) (h3 : DT0 h a xs) : ObjOk P w H h a (DTO a xs) := by
  have ⟨ys, pr, o, es, ep, ho, r⟩ := h3
  refine ⟨⟨h1, h2, h3⟩, ⟨o, ho⟩, fun g1 g2 p k => ?_⟩
  obtain ⟨p1, p2, ys', pr', o', es', ep', ho', r'⟩ := p
  exact ⟨p1, p2, ys', pr', o', es', ep', k o' ho', r'⟩
theorem enT_eq {P : Program} {w : World} : (enT : List Int × Addr × Value → DictEntry) = entryOfKey (tupleKind (intKind P w)) := by
  funext x
  rfl
section
variable {X : Cx} {pins : List (Addr × Obj)} {σ : L2.St} {H : Hp} {s : Shared} {a b : Addr} {xs : List (List Int × Addr × V)} {k : List Int} {d : V} {r : Value} {A : Around} {E : Value → Shared → Prop}
theorem dto_at (I : Inv X pins σ H s) (e : H a = some (DTO a xs)) (hk : ∀ x ∈ xs, SqT X.K H x.2.1 (x.1.map V.int)) : (a == sysModules) = false ∧ xs.length ≤ sizeLine ∧ ∃ ys, PrT xs ys ∧ s.heap.DictOfH (tupleKind (intKind X.prog X.w)) a ys := by
  obtain ⟨⟨h1, h2, ys, pr, o, es, ep, ho, hx, hd, he, hn⟩, _⟩ := I.hok a _ e
  refine ⟨h1, h2, ys, pr, o, es, ep, ho, hx, hd, by rw [he, enT_eq], fun y hy => ?_, hn⟩
  obtain ⟨x, hx, e1, e2⟩ := prT_mem pr y hy
  rw [← e1, ← e2]
  exact I.isT (hk x hx)
theorem dto_type (I : Inv X pins σ H s) (e : H a = some (DTO a xs)) : s.TypeIs (.ref a) "dict" ∧ ∀ b, Value.ref a = .ref b → ∃ ob, s.heap.get? b = some ob ∧ ob.dict = none := by
  obtain ⟨⟨h1, h2, ys, pr, o, es, ep, ho, hx, hd, he, hn⟩, _⟩ := I.hok a _ e
  refine ⟨⟨o, ho, hx.1⟩, fun b q => ?_⟩
  cases q
  exact ⟨o, ho, hx.2.1⟩
theorem dto_codeless (I : Inv X pins σ H s) (e : H a = some (DTO a xs)) : ∀ q, DTO a xs ≠ LamX.CodeO a q := by
  intro q z
  obtain ⟨⟨h1, h2, ys, pr, o, es, ep, ho, hx, hd, he, hn⟩, _⟩ := I.hok a _ e
  rw [z] at e
  obtain ⟨⟨oc, vs, t, h5, h6, _⟩, _⟩ := I.hok a _ e
  rw [ho] at h5
  cases h5
  rw [hd] at h6
  cases h6
theorem dt_room (hu : A.units + 1 < cLine) : (tupleKind (intKind X.prog X.w)).room A.in1 := tupleKind_room_in1 hu
/-- d.setdefault(k, v) -/
theorem d_setdT {Q : Value → Shared → Prop} (hu : A.units + 1 < cLine) (I : Inv X pins σ H s) (e : H a = some (DTO a xs)) (hk : ∀ x ∈ xs, SqT X.K H x.2.1 (x.1.map V.int)) (hb : SqT X.K H b (k.map V.int)) (rd : RelV d r) (hl : valT xs k = none → xs.length < sizeLine)
    (h1 : ∀ v, valT xs k = some v → ∀ (w' : Value) (s' : Shared), Inv X pins σ H s' → RelV v w' → Q w' s') (h2 : valT xs k = none → ∀ (w' : Value) (s' : Shared), Inv X pins σ (upd H a (DTO a (xs ++ [(k, b, d)]))) s' → RelV d w' → Q w' s') :
    wpAny (model X.prog X.w) A (call (.builtin "dict.setdefault") [.ref a, .ref b, r]) Q E s := by
  obtain ⟨hs, hz, ys, pr, dd⟩ := dto_at I e hk
  obtain ⟨p1, p2, p3⟩ := prT_at (k := k) pr
  have ln := (prT_keys pr).2.2
  refine PySem.call_setdefault_heap (knd := tupleKind (intKind X.prog X.w)) (hsz := by omega) (dt_room hu) (I.isT hb) hs dd (fun p hp => ?_) fun hn h' dd' hs' => ?_
  · obtain ⟨v, hv, rv⟩ := p3 p hp
    exact h1 v hv _ _ (I.tok _) rv
  · have hv : valT xs k = none := by
      cases q : valT xs k with
      | none => rfl
      | some v =>
        obtain ⟨p, hp, _⟩ := p1 v q
        rw [hn] at hp
        cases hp
    rw [storedH_new hn] at dd'
    have hl := hl hv
    obtain ⟨o, es, ep, ho, hx, hd, he, _, hnd⟩ := dd'
    exact h2 hv _ _ (d_write I (by rw [e]; exact True.intro) hs' ⟨o, ho⟩ (dto_obj hs (by simp; omega) ⟨ys ++ [(k, b, r)], pr.snoc ⟨rfl, rfl, rd⟩, o, es, ep, ho, hx, hd, by rw [he, enT_eq], hnd⟩)) rd
/-- d[k] -/
theorem d_getT {Q : Value → Shared → Prop} {v : V} (hu : A.units + 1 < cLine) (I : Inv X pins σ H s) (e : H a = some (DTO a xs)) (hk : ∀ x ∈ xs, SqT X.K H x.2.1 (x.1.map V.int)) (hb : SqT X.K H b (k.map V.int)) (hv : valT xs k = some v)
    (h : ∀ (w' : Value) (s' : Shared), Inv X pins σ H s' → RelV v w' → Q w' s') : wpAny (model X.prog X.w) A (getItem (.ref a) (.ref b)) Q E s := by
  obtain ⟨hs, hz, ys, pr, dd⟩ := dto_at I e hk
  obtain ⟨p1, p2, p3⟩ := prT_at (k := k) pr
  obtain ⟨p, hp, rv⟩ := p1 v hv
  exact wpAny_getItem_heap (knd := tupleKind (intKind X.prog X.w)) (dt_room hu) (I.isT hb) dd hp (h _ _ (I.tok _) rv)
end
/-- {} -/
def tDNewX : TE := fun _ H Q => ∀ p, H p = none → Q (.ref p) (upd H p (DTO p []))
/-- d.setdefault(y, z) -/
def tDSetT (K : PySem.W.Frag) (td ty tx : TE) : TE := fun σ H Q => td σ H fun x H1 => ∃ a xs0, x = .ref a ∧ H1 a = some (DTO a xs0) ∧ ty σ H1 fun y H2 => tx σ H2 fun z H3 => ∃ (xs : List (List Int × Addr × V)) (k : List Int) (b : Addr), H3 a = some (DTO a xs) ∧ y = .ref b ∧
  (∀ x ∈ xs, SqT K H3 x.2.1 (x.1.map V.int)) ∧ SqT K H3 b (k.map V.int) ∧ (valT xs k = none → xs.length < sizeLine) ∧ (∀ v, valT xs k = some v → Q v H3) ∧ (valT xs k = none → (∀ q, DTO a xs ≠ LamX.CodeO a q) → Q z (upd H3 a (DTO a (xs ++ [(k, b, z)]))))
/-- d[y] -/
def tDGetT (K : PySem.W.Frag) (td ty : TE) : TE := fun σ H Q => td σ H fun x H1 => ty σ H1 fun y H2 => ∃ (a : Addr) (xs : List (List Int × Addr × V)) (k : List Int) (b : Addr) (v : V), x = .ref a ∧ H2 a = some (DTO a xs) ∧ y = .ref b ∧ (∀ x ∈ xs, SqT K H2 x.2.1 (x.1.map V.int)) ∧ SqT K H2 b (k.map V.int) ∧
  valT xs k = some v ∧ Q v H2
section
variable {X : Cx} {o e f : Expr} {td ty tx : TE} {pos apos cpos : Pos}
theorem pe_dnewX : PE X (.Dict [] [] pos) tDNewX := ⟨fun pins s σ H Q I h =>
  wpAny_Dict_empty ⟨.ref s.heap.objs.size, _, I.laid (a := s.heap.objs.size) (o := DTO s.heap.objs.size []) (t' := s.toks) (fun _ _ q => Heap.get?_push_of_some _ q) (Nat.le_refl _)
    (dto_obj (beq_eq_false_iff_ne.mpr (Ne.symm (Nat.ne_of_lt I.big))) (Nat.zero_le _) ⟨[], .nil, _, #[], 0, Heap.get?_push_size _ rfl, ⟨rfl, rfl, rfl⟩, rfl, rfl, List.nodup_nil⟩), rfl, h _ (I.hok.fresh (Nat.le_refl _))⟩⟩
theorem pe_dsetT (hu : X.A.units + 1 < cLine) (ho : PE X o td) (he : PE X e ty) (hf : PE X f tx) (m : M2 X o "setdefault" apos e f cpos) : PE X (.Call (.Attribute o "setdefault" apos) [e, f] [] cpos) (tDSetT X.K td ty tx) := by
  refine ⟨fun pins s σ H Q I h => ?_⟩
  refine wpAny_Call_method m.base m.few m.line PySem.F.plainAttrs_dict PySem.F.slot_dict_setdefault PySem.F.type_dict_setdefault (thn (ho.run pins s σ H _ I h) fun u s1 ⟨x, H1, I1, rx, a, xs0, ex, d, q1⟩ => ?_)
  subst ex
  obtain rfl : u = Value.ref a := rx
  obtain ⟨t1, t2⟩ := dto_type I1 d
  refine ⟨t1, t2, ?_⟩
  rw [m.trees]
  refine Calls.callWith_builtin rfl (Calls.evalArgs_plain (Calls.spliced_cons (thn (he.run pins s1 σ H1 _ I1 q1) fun iv s2 ⟨y, H2, I2, ry, q2⟩ =>
    Calls.spliced_cons (thn (hf.run pins s2 σ H2 _ I2 q2) fun fv s3 ⟨z, H3, I3, rz, xs, k, b, ea, ey, hks, hb, hl, q3, q4⟩ => Calls.spliced_nil ?_))))
  subst ey
  obtain rfl : iv = Value.ref b := ry
  exact d_setdT hu I3 ea hks hb rz hl (fun v hv w' s4 I4 rw' => ⟨v, _, I4, rw', q3 v hv⟩) fun hn w' s4 I4 rw' => ⟨z, _, I4, rw', q4 hn (dto_codeless I3 ea)⟩
theorem pe_dgetT (hu : X.A.units + 1 < cLine) (ho : PE X o td) (hi : PE X e ty) (hs : NoSl e) : PE X (.Subscript o e pos) (tDGetT X.K td ty) := by
  refine ⟨fun pins s σ H Q I h => ?_⟩
  refine subD_of PySem.F.slot_dict_getitem.lookup hs (thn (ho.run pins s σ H _ I h) fun u s1 ⟨x, H1, I1, rx, q1⟩ => thn (hi.run pins s1 σ H1 _ I1 q1) fun iv s2 ⟨y, H2, I2, ry, a, xs, k, b, v, ex, g, ey, hks, hb, hv, q2⟩ => ?_)
  subst ex ey
  obtain rfl : u = Value.ref a := rx
  obtain rfl : iv = Value.ref b := ry
  exact ⟨(dto_type I2 g).1, d_getT hu I2 g hks hb hv fun w' s3 I3 rw' => ⟨v, H2, I3, rw', q2⟩⟩
end
def backA : Value → Addr
  | .ref b => b
  | _ => 0
theorem prT_swap : ∀ {xs : List (List Int × Addr × V)} {ys : List (List Int × Addr × Value)}, PrT xs ys → (ys.map fun y => (y.2.1, y.1)) = xs.map fun x => (x.2.1, x.1)
  | _, _, .nil => rfl
  | _, _, .cons h t => by simp only [List.map_cons, prT_swap t, h.1, h.2.1]
/-! ### sorted(d) -/
open Classical in
noncomputable def kyH (h : Heap) (v : Value) : List Int := if e : ∃ ns, IsInts h v ns then Classical.choose e else []
theorem kyH_eq {h : Heap} {v : Value} {ns : List Int} (i : IsInts h v ns) (inj : ∀ ms, IsInts h v ms → ms = ns) : kyH h v = ns := by
  unfold kyH
  rw [dif_pos ⟨ns, i⟩]
  exact inj _ (Classical.choose_spec (⟨ns, i⟩ : ∃ ns, IsInts h v ns))
theorem isInts_inj {h : Heap} {v : Value} {ns ms : List Int} (i : IsInts h v ns) (j : IsInts h v ms) : ms = ns := by
  obtain ⟨a, o, its, n, e, ho, hc, hd, hi⟩ := i
  obtain ⟨a', o', its', n', e', ho', hc', hd', hi'⟩ := j
  rw [e] at e'
  cases e'
  rw [ho] at ho'
  cases ho'
  rw [hd] at hd'
  cases hd'
  have : ∀ {vs : List Value} {xs ys : List Int}, IntsAre vs xs → IntsAre vs ys → ys = xs := by
    intro vs xs ys hx
    induction hx generalizing ys with
    | nil => intro hy; cases hy; rfl
    | cons n t hx ih => intro hy; cases hy with
      | cons m u hy => rw [ih hy]
  exact this hi hi'
theorem isT_ints {P : Program} {w : World} {h : Heap} {b : Addr} {k : List Int} (x : IsT P w h k b) : IsInts h (.ref b) k := by
  obtain ⟨o, its, n, ho, hc, hd, hi⟩ := x
  refine ⟨b, o, its, n, rfl, ho, hc, hd, ?_⟩
  have : ∀ {vs : List Value} {xs : List Int}, ItemsAre (intKind P w) xs vs → IntsAre vs xs := by
    intro vs xs hx
    induction hx with
    | nil => exact .nil
    | cons h1 h2 ih =>
      obtain ⟨t, rfl⟩ := Value.isInt_shape h1
      exact .cons _ _ ih
  exact this hi
theorem valsR : ∀ (l : List (Addr × List Int)), Vals (l.map fun x => V.ref x.1) (l.map fun x => Value.ref x.1)
  | [] => .nil
  | _ :: r => .cons rfl (valsR r)
section
variable {X : Cx}
theorem sorted_dictT (hcalm : X.calm = true) {pins : List (Addr × Obj)} {s : Shared} {σ : L2.St} {H : Hp} {Q : VK} {a : Addr} {xs : List (List Int × Addr × V)} (I : Inv X pins σ H s) (hu : X.A.units + 10 < cLine)
    (e : H a = some (DTO a xs)) (hk : ∀ x ∈ xs, SqT X.K H x.2.1 (x.1.map V.int)) (hne : ∀ x ∈ xs, x.1 ≠ [])
    (q : ∀ (L : List (Addr × List Int)) (p : Addr), L.Perm (xs.map fun x => (x.2.1, x.1)) → L.Pairwise (fun x y => HT.lexLt y.2 x.2 = false) → (L.map (·.2)).Nodup → H p = none → Q (.ref p) (upd H p (.lst (L.map fun x => V.ref x.1)))) :
    wpAny (model X.prog X.w) X.A (call (.builtin "sorted") [.ref a]) (EP X pins σ Q) X.xe s := by
  obtain ⟨hs, hz, ys, pr, dd⟩ := dto_at I e hk
  obtain ⟨o, es, ep, ho, hx, hdt, he, his, hn⟩ := dd
  obtain ⟨pk1, pk2, pk3⟩ := prT_keys pr
  have l1 : es.size = ys.length := size_of_entries he
  refine Calls.call_function_entry PyProof.Rows.kind_sorted PyProof.Rows.plain_sorted PyProof.Rows.entry_sorted (PyProof.Rows.args_sorted1 _) ?_
  unfold Builtin.«sorted»
  refine wpAny_bind (m := checkCount "sorted" 1 1 _) (wpAny_pure ?_)
  refine wpAny_bind (PySem.W.kdu_collect (A := X.A.in1) (kdl_raw hs hx hdt) (I.ok.hd hcalm) ho (by omega) fun h1 tk got kept hgot => ?_)
  have ea : got.toList = ys.map fun y => Value.ref y.2.1 := by
    have hl : got.toList.length = ys.length := by rw [Array.length_toList, hgot.1]; exact l1
    apply List.ext_getElem?
    intro j
    rw [List.getElem?_map]
    cases hj : got.toList[j]? with
    | none =>
      have h1 := List.getElem?_eq_none_iff.mp hj
      rw [List.getElem?_eq_none (by omega)]
      all_goals rfl
    | some v =>
      obtain ⟨en, hen, hv⟩ := hgot.2 j v (by rw [← Array.getElem?_toList]; exact hj)
      have qe := entry_at he j
      rw [hen] at qe
      cases hb : ys[j]? with
      | none =>
        rw [hb] at qe
        exact nomatch (show some en = none from qe)
      | some b =>
        rw [hb] at qe
        have e2 := Option.some.inj qe
        rw [hv, e2]
        all_goals rfl
  have gl : got.toList.length = ys.length := by rw [ea, List.length_map]
  have I1 : Inv X pins σ H { s with heap := h1, toks := tk } := I.kept kept
  have gz : got.toList.length ≤ sizeLine := by omega
  have kin : ∀ y ∈ ys, IsInts s.heap (.ref y.2.1) y.1 := fun y hy => isT_ints (his y hy)
  have kyE : ∀ y ∈ ys, kyH s.heap (.ref y.2.1) = y.1 := fun y hy => kyH_eq (kin y hy) fun ms hm => isInts_inj (kin y hy) hm
  have kall : ∀ v ∈ got.toList, IsInts s.heap v (kyH s.heap v) := fun v hv => by
    rw [ea] at hv
    obtain ⟨y, hy, rfl⟩ := List.mem_map.mp hv
    rw [kyE y hy]
    exact kin y hy
  have kone : OneKind (kyH s.heap) got.toList := .inl fun v hv => by
    rw [ea] at hv
    obtain ⟨y, hy, rfl⟩ := List.mem_map.mp hv
    rw [kyE y hy]
    obtain ⟨x, hx, e1, _⟩ := prT_mem pr y hy
    rw [← e1]
    exact hne x hx
  refine wpAny_bind (wpAny_newList ?_ gz)
  have at1 : (h1.push (seqObj "list" got.toList.toArray 0)).get? h1.objs.size = some (seqObj "list" got.toList.toArray 0) := Heap.get?_push_size _ rfl
  show wpAny _ _ _ _ _ { s with heap := h1.push (seqObj "list" got.toList.toArray 0), toks := tk }
  refine wpAny_bind (wpAny_holding (wpAny_call_entry PyProof.Rows.slot_list_sort ⟨_, at1, rfl⟩ PyProof.Rows.entry_list_sort
    (SrtO.list_sort_ord (s := { s with heap := h1.push (seqObj "list" got.toList.toArray 0), toks := tk }) (ltv := fun v u => HT.lexLt (kyH s.heap v) (kyH s.heap u)) (swo_lexK fun v : Value => kyH s.heap v) at1 gz (fun h2 h' kp => ?_) fun out g1 g2 => ⟨_, rfl, ?_⟩) (PyProof.Rows.args_list_sort _)))
  · refine keys_sortable (s := { s with heap := h', toks := tk }) (by show X.A.units + 1 + 1 < cLine; omega) h2 (fun v hv => ?_) kone
    refine (kall v hv).keeps fun b o q hc => kp b o (fun z => ?_) (Heap.get?_push_of_some _ (kept b o q))
    have := Heap.lt_size (kept b o q)
    rw [z] at this
    exact Nat.lt_irrefl _ this
  · have gL : got.toList.map (fun v => (backA v, kyH s.heap v)) = ys.map fun y => (y.2.1, y.1) := by
      rw [ea, List.map_map]
      refine List.map_congr_left fun y hy => ?_
      show (y.2.1, kyH s.heap (.ref y.2.1)) = _
      rw [kyE y hy]
    let L : List (Addr × List Int) := out.map fun v => (backA v, kyH s.heap v)
    have hperm : L.Perm (ys.map fun y => (y.2.1, y.1)) := by
      rw [← gL]
      exact g2.perm.map _
    have hxy : (ys.map fun y => (y.2.1, y.1)) = xs.map fun x => (x.2.1, x.1) := prT_swap pr
    have hout : (L.map fun x => Value.ref x.1) = out := by
      rw [List.map_map]
      have : ∀ v ∈ out, (fun x : Addr × List Int => Value.ref x.1) (backA v, kyH s.heap v) = v := fun v hv => by
        have hv := g2.perm.mem_iff.mp hv
        rw [ea] at hv
        obtain ⟨y, hy, rfl⟩ := List.mem_map.mp hv
        rfl
      exact (List.map_congr_left this).trans (List.map_id _)
    have hsrt : L.Pairwise (fun x y => HT.lexLt y.2 x.2 = false) := List.pairwise_map.mpr g1
    have hnd : (L.map (·.2)).Nodup := by
      refine (hperm.map (·.2)).nodup_iff.mpr ?_
      rw [List.map_map]
      exact hn
    obtain ⟨e', he'⟩ := PyProof.Rows.sortedHeap_at (vs := got.toList) (out := out.toArray) at1
    have hlen : (L.map fun x => V.ref x.1).length ≤ sizeLine := by
      rw [List.length_map, hperm.length_eq, List.length_map]
      omega
    refine wpAny_pure ⟨_, rfl, .ref h1.objs.size, upd H h1.objs.size (.lst (L.map fun x => V.ref x.1)), I1.laid (t' := tk) (fun b u e => ?_) (Nat.le_refl _)
      (show ObjOk X.prog X.w _ _ _ (.lst (L.map fun x => V.ref x.1)) from ⟨hlen, out, e', ?_, he'⟩), rfl, q _ _ (by rw [← hxy]; exact hperm) hsrt hnd (I1.hok.fresh (Nat.le_refl _))⟩
    · have hb : b < h1.objs.size := Heap.lt_size e
      rw [PyProof.Rows.sortedHeap_old (Nat.ne_of_lt hb) (by rw [size_push']; exact Nat.lt_succ_of_lt hb)]
      exact Heap.get?_push_of_some _ e
    · rw [← hout]
      exact valsR L
end
end Br


set_option Elab.async false
set_option linter.all false
set_option maxRecDepth 100000
set_option autoImplicit false
/-! Br: what the operations do. -/
namespace Br
open PySem PySem.Spec PyProof.Rows L2
variable [LamTab] [LamCl] [ExC]
section
variable {K : PySem.W.Frag} {H : Hp} {a b : Ad} {m : Mem}
mutual
theorem res_rep {g : Nat → Option D} (hg : ∀ (i : Nat) (p : Addr) (d' : D), a.st[i]? = some p → g i = some d' → RepV K H b d' (.ref p)) (hb : ∀ p, a.no p → b.no p) :
    ∀ {d : D} {v : V} {d' : D}, RepV K H a d v → D.res g d = some d' → RepV K H b d' v
  | _, _, _, .non, e => by simp [D.res] at e; subst e; exact .non
  | _, _, _, .bl _, e => by simp [D.res] at e; subst e; exact .bl _
  | _, _, _, .int _, e => by simp [D.res] at e; subst e; exact .int _
  | _, _, _, .str _ h, e => by simp [D.res] at e; subst e; exact .str _ h
  | _, _, _, .scr h hl, e => by simp [D.res] at e; subst e; exact .scr (h.imp (fun z => ⟨z.1, hb _ z.2⟩) id) hl
  | _, _, _, .ref h, e => hg _ _ _ h (by simpa [D.res] using e)
  | .tup ds, _, _, .tup h hl r, e => by
    simp only [D.res, Option.map_eq_some_iff] at e
    obtain ⟨ds', e1, rfl⟩ := e
    have r' := ress_rep hg hb r e1
    exact .tup (h.imp (fun z => ⟨z.1, hb _ z.2⟩) id) (by rw [r'.length, ← r.length]; exact hl) r'
  | .lst ds, _, _, .lst h hn hl r, e => by
    simp only [D.res, Option.map_eq_some_iff] at e
    obtain ⟨ds', e1, rfl⟩ := e
    have r' := ress_rep hg hb r e1
    exact .lst h (hb _ hn) (by rw [r'.length, ← r.length]; exact hl) r'
theorem ress_rep {g : Nat → Option D} (hg : ∀ (i : Nat) (p : Addr) (d' : D), a.st[i]? = some p → g i = some d' → RepV K H b d' (.ref p)) (hb : ∀ p, a.no p → b.no p) :
    ∀ {ds : List D} {xs : List V} {ds' : List D}, RepVs K H a ds xs → D.ress g ds = some ds' → RepVs K H b ds' xs
  | _, _, _, .nil, e => by simp [D.ress] at e; subst e; exact .nil
  | _, _, _, .cons h r, e => by
    simp only [D.ress] at e
    split at e
    · rename_i d' r' e1 e2
      cases e
      exact .cons (res_rep hg hb h e1) (ress_rep hg hb r e2)
    · cases e
end
theorem frz_rep (st : MRel K a m H) (k : Nat) : ∀ (n : Nat) (i : Nat) (p : Addr) (d' : D), a.st[i]? = some p → frz m k n i = some d' → RepV K H ⟨a.st.take k, a.hd⟩ d' (.ref p)
  | 0, i, p, d', h, e => by
    unfold frz at e
    split at e
    · rename_i hk
      cases e
      exact .ref (by show (a.st.take k)[i]? = _; rw [List.getElem?_take, if_pos hk]; exact h)
    · cases e
  | n + 1, i, p, d', h, e => by
    unfold frz at e
    split at e
    · rename_i hk
      cases e
      exact .ref (by show (a.st.take k)[i]? = _; rw [List.getElem?_take, if_pos hk]; exact h)
    · rename_i hk
      split at e
      · rename_i ds hd
        rw [Option.map_eq_some_iff] at e
        obtain ⟨ds', e1, rfl⟩ := e
        obtain ⟨ho, h1, h2⟩ := st.at_ i p _ h hd
        cases h2 with
        | lst hl r =>
          have r' := ress_rep (b := ⟨a.st.take k, a.hd⟩) (fun i p d' => frz_rep st k n i p d') (fun p hp => ⟨fun z => hp.1 (List.mem_of_mem_take z), hp.2⟩) r e1
          refine .lst h1 ⟨fun z => ?_, st.sep p (List.mem_of_getElem? h)⟩ (by rw [r'.length, ← r.length]; exact hl) r'
          obtain ⟨j, hj⟩ := List.getElem?_of_mem (show p ∈ a.st.take k from z)
          rw [List.getElem?_take] at hj
          split at hj
          · rename_i hjk
            have := (List.getElem?_inj (List.getElem?_eq_some_iff.mp hj).1 st.nd).mp (hj.trans h.symm)
            omega
          · cases hj
      · cases e
theorem frzD_rep (st : MRel K a m H) {k : Nat} {d d' : D} {v : V} (h : RepV K H a d v) (e : frzD m k d = some d') : RepV K H ⟨a.st.take k, a.hd⟩ d' v :=
  res_rep (b := ⟨a.st.take k, a.hd⟩) (fun i p d' => frz_rep st k 6 i p d') (fun p hp => ⟨fun z => hp.1 (List.mem_of_mem_take z), hp.2⟩) h e
mutual
theorem dp_of : ∀ {d : D} {v : V}, RepV K H a d v → d.pure = true → Dp K H v (toPy d)
  | _, _, .non, _ => by rw [toPy]; exact .non
  | _, _, .bl _, _ => by rw [toPy]; exact .bl _
  | _, _, .int _, _ => by rw [toPy]; exact .int _
  | _, _, .str _ _, _ => by rw [toPy]; exact .str _
  | _, _, .tup h _ r, e => by rw [toPy]; exact .tup h.sq (dps_of r (by simpa [D.pure] using e))
  | _, _, .lst h _ _ r, e => by rw [toPy]; exact .lst (SqL.of h) (dps_of r (by simpa [D.pure] using e))
  | _, _, .scr _ _, e => by simp [D.pure] at e
  | _, _, .ref _, e => by simp [D.pure] at e
theorem dps_of : ∀ {ds : List D} {xs : List V}, RepVs K H a ds xs → D.pures ds = true → DpAll K H xs (toPys ds)
  | _, _, .nil, _ => by rw [toPys]; exact .nil
  | _, _, .cons h r, e => by
    rw [toPys]
    simp only [D.pures, Bool.and_eq_true] at e
    exact .cons (dp_of h e.1) (dps_of r e.2)
end
mutual
theorem lay_of : ∀ {d : D} {v : V}, RepV K H a d v → (toPy d).canLay0 = true
  | _, _, .non => by simp [toPy, PyData.canLay0]
  | _, _, .bl _ => by simp [toPy, PyData.canLay0]
  | _, _, .int _ => by simp [toPy, PyData.canLay0]
  | _, _, .str _ h => by simpa [toPy, PyData.canLay0] using h
  | _, _, .tup h _ r => by simpa [toPy, PyData.canLay0] using lays_of r
  | _, _, .lst h _ _ r => by simpa [toPy, PyData.canLay0] using lays_of r
  | _, _, .scr _ _ => by simp [toPy, PyData.canLay0]
  | _, _, .ref _ => by simp [toPy, PyData.canLay0]
theorem lays_of : ∀ {ds : List D} {xs : List V}, RepVs K H a ds xs → PyData.canLayAll0 (toPys ds) = true
  | _, _, .nil => by simp [toPys, PyData.canLayAll0]
  | _, _, .cons h r => by simp only [toPys, PyData.canLayAll0, lay_of h, lays_of r]; rfl
end
mutual
theorem dep_of : ∀ d : D, (toPy d).depth = d.dep
  | .non => by simp [toPy, PyData.depth, D.dep]
  | .bl _ => by simp [toPy, PyData.depth, D.dep]
  | .int _ => by simp [toPy, PyData.depth, D.dep]
  | .str _ => by simp [toPy, PyData.depth, D.dep]
  | .tup ds => by simp only [toPy, PyData.depth, D.dep, deps_of ds]
  | .lst ds => by simp only [toPy, PyData.depth, D.dep, deps_of ds]
  | .scr _ => by simp [toPy, PyData.depth, D.dep]
  | .ref _ => by simp [toPy, PyData.depth, D.dep]
theorem deps_of : ∀ ds : List D, PyData.depthAll (toPys ds) = D.deps ds
  | [] => by simp [toPys, PyData.depthAll, D.deps]
  | d :: r => by simp only [toPys, PyData.depthAll, D.deps, dep_of d, deps_of r]
end
theorem shaped_of {d : D} {v : V} (h : RepV K H a d v) (hd : d.dep ≤ 64) : SeqAt.shaped (toPy d) = true := by
  show ((toPy d).canLay0 && decide ((toPy d).depth ≤ 64)) = true
  rw [lay_of h, dep_of, decide_eq_true hd]
  rfl
theorem big_line {n : Nat} (h : n ≤ big) : n ≤ sizeLine := by
  have : big ≤ sizeLine := by rw [sizeLine_eq]; decide
  omega
theorem strOk_app {s t : Str} (h1 : PyData.strOk s = true) (h2 : PyData.strOk t = true) : PyData.strOk (s ++ t) = true := by
  unfold PyData.strOk at *
  show (s.cps ++ t.cps).all _ = true
  rw [Array.all_append, h1, h2]
  rfl
theorem intsD_map : ∀ {ds : List D} {ns : List Int}, intsD ds = some ns → ds = ns.map .int
  | [], ns, e => by simp [intsD] at e; subst e; rfl
  | .int i :: r, ns, e => by
    simp only [intsD, Option.map_eq_some_iff] at e
    obtain ⟨q, e1, rfl⟩ := e
    rw [intsD_map e1]
    rfl
  | .non :: r, ns, e => by simp [intsD] at e
  | .bl _ :: r, ns, e => by simp [intsD] at e
  | .str _ :: r, ns, e => by simp [intsD] at e
  | .tup _ :: r, ns, e => by simp [intsD] at e
  | .lst _ :: r, ns, e => by simp [intsD] at e
  | .scr _ :: r, ns, e => by simp [intsD] at e
  | .ref _ :: r, ns, e => by simp [intsD] at e
/-- what an exception has: its dict -/
def XRel (K : PySem.W.Frag) (a : Ad) (H : Hp) (fl : List Str) (ds : List D) : Option Addr → Prop
  | none => fl = [] ∧ ds = []
  | some p => ∃ (fs : List (Str × V)) (vs : List V), H p = some (.xd fs) ∧ a.no p ∧ RepVs K H a ds vs ∧ ds.length = fl.length ∧ ∀ f v, (fl.zip vs).lookup f = some v → fs.lookup f = some v
theorem XRel.kp {a' : Ad} {H' : Hp} {fl : List Str} {ds : List D} {d : Option Addr} (h : XRel K a H fl ds d) (e : Kp a H a' H') (rm : ∀ {ds : List D} {vs : List V}, RepVs K H a ds vs → RepVs K H' a' ds vs) : XRel K a' H' fl ds d := by
  cases d with
  | none => exact h
  | some p =>
    obtain ⟨fs, vs, h1, h2, h3, h4, h5⟩ := h
    obtain ⟨k1, k2⟩ := e.keep p _ h1 h2 (by intro _ z; cases z)
    exact ⟨fs, vs, k1, k2, rm h3, h4, h5⟩
/-- an exception may be let out -/
def XOk (K : PySem.W.Frag) (a : Ad) (H : Hp) (c : Str) (ds : List D) (m : Mem) : Prop := ∀ a' H' C d, Ext a H a' H' → MRel K a' m H' → ExC.mg c = some (.ref C) → XRel K a' H' (flds c) ds d → ExC.E (.ref C) d H'
theorem XOk.mono {a' : Ad} {H' : Hp} {c : Str} {ds : List D} {m : Mem} (h : XOk K a H c ds m) (e : Ext a H a' H') : XOk K a' H' c ds m := fun a2 H2 C d x => h a2 H2 C d (e.trans x)
/-- what is wanted behind a result: it stands somewhere -/
def Tr (K : PySem.W.Frag) (a : Ad) (H : Hp) (r : Res D) (Q : VK) : Prop := match r with
  | .ok d m' => ∀ a' H' v, Ext a H a' H' → MRel K a' m' H' → RepV K H' a' d v → Q v H'
  | .ex c ds m' => XOk K a H c ds m'
  | .bad => False
theorem Tr.mono {a' : Ad} {H' : Hp} {r : Res D} {Q : VK} (h : Tr K a H r Q) (e : Ext a H a' H') : Tr K a' H' r Q := by
  cases r with
  | ok d m' => exact fun a2 H2 v x => h a2 H2 v (e.trans x)
  | ex c ds m' => exact XOk.mono h e
  | bad => exact h
theorem Tr.of_nox {α : Type} {r : Res α} {f : α → Mem → Res D} {Q : VK} (h : Tr K a H (r.nox.bind f) Q) : Tr K a H (r.bind f) Q := by
  cases r with
  | ex c ds m => exact False.elim h
  | ok d m => exact h
  | bad => exact h
/-- .. where E may be let out -/
def TrE (E : XK) (mg : Str → Option Value) (K : PySem.W.Frag) (a : Ad) (H : Hp) (r : Res D) (Q : VK) : Prop := letI : ExC := ⟨E, mg⟩; Tr K a H r Q
/-- a value, the heap as it is -/
theorem Tr.val {d : D} {v : V} {Q : VK} (st : MRel K a m H) (h : Tr K a H (.ok d m) Q) (r : RepV K H a d v) : Q v H := h a H v Ext.refl st r
/-- a new tuple, a new list -/
theorem Tr.tup {ds : List D} {xs : List V} {Q : VK} (st : MRel K a m H) (h : Tr K a H (.ok (.tup ds) m) Q) (r : RepVs K H a ds xs) (hl : ds.length ≤ sizeLine) {p : Addr} (hp : H p = none) : Q (.ref p) (upd H p (.tup xs)) :=
  h a _ _ (Ext.new hp) (st.fresh hp) (.tup (.inl ⟨.inl upd_same, st.out hp⟩) hl (r.mono (Ext.new hp)))
theorem Tr.lst {ds : List D} {xs : List V} {Q : VK} (st : MRel K a m H) (h : Tr K a H (.ok (.lst ds) m) Q) (r : RepVs K H a ds xs) (hl : ds.length ≤ sizeLine) {p : Addr} (hp : H p = none) : Q (.ref p) (upd H p (.lst xs)) :=
  h a _ _ (Ext.new hp) (st.fresh hp) (.lst upd_same (st.out hp) hl (r.mono (Ext.new hp)))
/-- a new list is told -/
def TrF (K : PySem.W.Frag) (a : Ad) (H : Hp) (r : Res D) (Q : VK) : Prop := match r with
  | .ok (.lst ds) m' => ∀ a' H' vs p, Ext a H a' H' → MRel K a' m' H' → RepVs K H' a' ds vs → ds.length ≤ sizeLine → H' p = none → Q (.ref p) (upd H' p (.lst vs))
  | .ok _ _ => False
  | .ex c ds m' => XOk K a H c ds m'
  | .bad => False
theorem TrF.mono {a' : Ad} {H' : Hp} {r : Res D} {Q : VK} (h : TrF K a H r Q) (e : Ext a H a' H') : TrF K a' H' r Q := by
  cases r with
  | ok d m =>
    cases d with
    | lst ds => exact fun a2 H2 v p x => h a2 H2 v p (e.trans x)
    | _ => exact h
  | ex c ds m => exact XOk.mono h e
  | bad => exact h
theorem TrF.of {ds : List D} {Q : VK} (h : Tr K a H (.ok (.lst ds) m) Q) : TrF K a H (.ok (.lst ds) m) Q := fun _ _ _ _ x st rv hl hp => Tr.lst st (Tr.mono h x) rv hl hp
/-- the items of a list -/
theorem ext_rep (st : MRel K a m H) {d : D} {x : V} {ds : List D} (r : RepV K H a d x) (h : extD m d = some ds) : ∃ p xs, x = .ref p ∧ H p = some (.lst xs) ∧ RepVs K H a ds xs ∧ ds.length ≤ sizeLine := by
  cases r <;> simp only [extD] at h <;> first | (cases h; done) | skip
  case lst ds' p xs h1 hn hl r => cases h; exact ⟨p, xs, rfl, h1, r, hl⟩
  case ref n p h1 =>
    split at h
    · rename_i ds' h2
      cases h
      obtain ⟨ho, g1, g2⟩ := st.at_ n p _ h1 h2
      cases g2 with
      | lst hl r => exact ⟨p, _, rfl, g1, r, hl⟩
    · cases h
/-- an operation on two values, by data -/
def rD2 (K : PySem.W.Frag) (f : Mem → D → D → Res D) : R2 := fun x y H Q => ∃ a m d e, MRel K a m H ∧ RepV K H a d x ∧ RepV K H a e y ∧ Tr K a H (f m d e) Q
def rF2 (K : PySem.W.Frag) (f : Mem → D → D → Res D) : R2 := fun x y H Q => ∃ a m d e, MRel K a m H ∧ RepV K H a d x ∧ RepV K H a e y ∧ TrF K a H (f m d e) Q
/-- a call on values, by data -/
def rDs (K : PySem.W.Frag) (f : Mem → List D → Res D) : List V → Hp → VK → Prop := fun xs H Q => ∃ a m ds, MRel K a m H ∧ RepVs K H a ds xs ∧ Tr K a H (f m ds) Q
end
section
variable {X : Cx}
theorem add_lists {pins : List (Addr × Obj)} {s : Shared} {σ : L2.St} {H : Hp} {x y : V} {v u : Value} {Q : VK} {a : Ad} {m : Mem} {d e : D} {ds es : List D} (I : Inv X pins σ H s) (rx : RelV x v) (ry : RelV y u) (st : MRel X.K a m H) (r1 : RepV X.K H a d x) (r2 : RepV X.K H a e y)
    (e1 : extD m d = some ds) (e2 : extD m e = some es) (hz : ds.length + es.length ≤ big) (q : TrF X.K a H (.ok (.lst (ds ++ es)) m) Q) : wpAny (model X.prog X.w) X.A (binaryOp .Add v u) (EP X pins σ Q) X.xe s := by
  obtain ⟨p, xs, rfl, h, r, hl⟩ := ext_rep st r1 e1
  obtain ⟨p2, ys, rfl, h', r', hl'⟩ := ext_rep st r2 e2
  have hz' := big_line hz
  exact op_cat pins s σ H _ _ v u Q I rx ry ⟨p, p2, xs, ys, rfl, rfl, h, h', by rw [← r.length, ← r'.length]; exact hz', fun z hz => q a H _ z Ext.refl st (r.append r') (by rw [List.length_append]; exact hz') hz⟩
theorem addL_some {m : Mem} {d e o : D} (h : addL m d e = some o) : ∃ ds es, extD m d = some ds ∧ extD m e = some es ∧ ds.length + es.length ≤ big ∧ o = .lst (ds ++ es) := by
  unfold addL at h
  split at h
  · rename_i ds es e1 e2
    split at h
    · rename_i hz
      cases h
      exact ⟨ds, es, e1, e2, hz, rfl⟩
    · cases h
  · cases h
theorem add_lst {m : Mem} {d e : D} {ds : List D} (h : binD m .add d e = some (.lst ds)) : addL m d e = some (.lst ds) := by
  cases d <;> cases e <;> simp only [binD] at h <;> first | (cases h; done) | exact h | (split at h <;> cases h; done) | skip
theorem addL_lst {m : Mem} {d e o : D} (h : addL m d e = some o) (hn : ∀ ds, o ≠ .lst ds) : False := by
  obtain ⟨ds, es, _, _, _, e⟩ := addL_some h
  exact hn _ e
theorem opD_add : OpR X (binaryOp .Add) (rD2 X.K fun m x y => optR (binD m .add x y) m) := by
  intro pins s σ H x y v u Q I rx ry h
  obtain ⟨a, m, d, e, st, r1, r2, q⟩ := h
  have q : Tr X.K a H (optR (binD m .add d e) m) Q := q
  cases hb : binD m .add d e with
  | none => rw [hb] at q; exact False.elim q
  | some o =>
    by_cases hL : ∃ ds, o = .lst ds
    · obtain ⟨l, rfl⟩ := hL
      obtain ⟨ds, es, e1, e2, hz, e3⟩ := addL_some (add_lst hb)
      rw [hb, e3] at q
      exact add_lists I rx ry st r1 r2 e1 e2 hz (TrF.of q)
    · have hn : ∀ ds, o ≠ .lst ds := fun ds z => hL ⟨ds, z⟩
      rw [hb] at q
      cases r1 <;> cases r2 <;> simp only [binD] at hb <;> first | (cases hb; done) | exact (addL_lst hb hn).elim | skip
      case int.int i j =>
        cases hb
        exact op_add pins s σ H _ _ v u Q I rx ry ⟨i, j, rfl, rfl, q.val st (.int _)⟩
      case str.str s1 h1 s2 h2 =>
        split at hb
        · rename_i hl
          cases hb
          exact op_add_str pins s σ H _ _ v u Q I rx ry ⟨s1, s2, rfl, rfl, big_line hl, q.val st (.str _ (strOk_app h1 h2))⟩
        · cases hb
      case tup.tup ds p xs h hl r es p2 ys h' hl' r' =>
        split at hb
        · rename_i hz
          cases hb
          have hz' := big_line hz
          refine op_catA pins s σ H _ _ v u Q I rx ry ⟨p, p2, xs, ys, rfl, rfl, h.sq, h'.sq, by rw [← r.length, ← r'.length]; exact hz', ?_⟩
          refine ⟨fun e => ?_, fun e1 e2 => ?_, fun e1 e2 z hz => q.tup st (r.append r') (by rw [List.length_append]; exact hz') hz⟩
          · have e' : ds = [] := List.eq_nil_of_length_eq_zero (by rw [r.length, e]; rfl)
            subst e'
            exact q.val st (.tup h' hl' r')
          · have e' : es = [] := List.eq_nil_of_length_eq_zero (by rw [r'.length, e2]; rfl)
            subst e'
            rw [List.append_nil] at q
            exact q.val st (.tup h hl r)
        · cases hb
      case lst.lst =>
        split at hb
        · cases hb; exact (hn _ rfl).elim
        · cases hb
/-- .. that gives a new list -/
theorem opF_add : OpR X (binaryOp .Add) (rF2 X.K fun m x y => optR (binD m .add x y) m) := by
  intro pins s σ H x y v u Q I rx ry h
  obtain ⟨a, m, d, e, st, r1, r2, q⟩ := h
  have q : TrF X.K a H (optR (binD m .add d e) m) Q := q
  cases hb : binD m .add d e with
  | none => rw [hb] at q; exact False.elim q
  | some o =>
    rw [hb] at q
    cases o <;> first | exact False.elim q | skip
    rename_i l
    obtain ⟨ds, es, e1, e2, hz, e3⟩ := addL_some (add_lst hb)
    rw [e3] at q
    exact add_lists I rx ry st r1 r2 e1 e2 hz q
theorem opD_sub : OpR X (binaryOp .Sub) (rD2 X.K fun m x y => optR (binD m .sub x y) m) := by
  intro pins s σ H x y v u Q I rx ry h
  obtain ⟨a, m, d, e, st, r1, r2, q⟩ := h
  cases r1 <;> cases r2 <;> first | exact False.elim q | skip
  case int.int i j => exact op_sub pins s σ H _ _ v u Q I rx ry ⟨i, j, rfl, rfl, q.val st (.int _)⟩
theorem tuple_mul1 (l : Addr) (items : Array Value) (n : Nat) (dd : Option Addr) (sl : Array (Option Value)) (x : Int) (u : Tok) (c0 : (decide (x < -(2 ^ 63)) || decide (x ≥ 2 ^ 63)) = false) (c1 : (items.isEmpty || x == 1) = true) :
    Meets (Builtin.«tuple.__mul__» ⟨[.ref l, .int x u], []⟩) (fun _ R s => s.heap.get? l = some { cls := .type "tuple", dict := dd, data := .seq items n, slots := sl } ∧
      R (.ok (.ret (Value.ref l))) s) :=
  .of_wp fun prog w A R s h => by
    obtain ⟨hp, g, d, tk, os⟩ := s
    obtain ⟨hl, h⟩ := h
    have f1 := AutoSeq1.idx_int
    wp_walk using wpAny_loadPart' hl
    repeat (first
      | (refine wpAny_ite_false (decide_eq_false (by rw [c0]; exact Bool.false_ne_true)) ?_; wp_walk using wpAny_loadPart' hl)
      | (refine wpAny_ite_true (decide_eq_true (by rw [c1])) ?_; wp_walk using wpAny_loadPart' hl))
    exact ⟨_, rfl, h⟩
theorem op_rep1 {K : PySem.W.Frag} {X : Cx} (hK : X.K = K) : OpR X (binaryOp .Mult) (fun x y H Q => ∃ l xs, x = .ref l ∧ y = .int 1 ∧ SqT K H l xs ∧ Q (.ref l) H) := by
  subst hK
  intro pins s σ H x y v u Q I rx ry h
  obtain ⟨l, xs, rfl, rfl, hT, q⟩ := h
  cases rx
  obtain ⟨t, rfl⟩ := ry
  obtain ⟨its, r, ⟨⟨cls, dd, data, sl⟩, ho, hc, n, hd⟩, hs⟩ := I.tuple hT
  simp only at hc hd
  subst hc hd
  have c1 : (its.toArray.isEmpty || (1 : Int) == 1) = true := by simp
  refine wpAny_binaryOp_repeat_ref (T := "tuple") (U := "int") (by decide) ⟨_, ho, rfl⟩ (fun s' => typeIs_int s' 1 t) noFill_tuple_mul F.fills_int_mul F.slot_int_rmul repeat_tuple F.slot_int_index.lookup
    (call_meets F.slot_int_rmul (typeIs_int s 1 t) F.entry_int_rmul (F.args_int_rmul_2 _ _) (int_rmul_tuple 1 t l its.toArray n dd sl)
      ⟨ho, rfl, ⟨_, ho, rfl⟩, call_meets F.slot_tuple_mul ⟨_, ho, rfl⟩ F.entry_tuple_mul (F.args_tuple_mul_2 _ _) (tuple_mul1 l its.toArray n dd sl 1 t (by decide) c1) ⟨ho, ?_⟩⟩)
  exact ⟨.ref l, H, I, rfl, q⟩
theorem rep_rep {K : PySem.W.Frag} {H : Hp} {a : Ad} {ds : List D} {xs : List V} (r : RepVs K H a ds xs) : ∀ n : Nat, RepVs K H a (repL ds n) (List.replicate n xs).flatten
  | 0 => .nil
  | n + 1 => by
    unfold repL
    rw [List.replicate_succ, List.replicate_succ, List.flatten_cons, List.flatten_cons]
    exact r.append (rep_rep r n)
theorem repL_len {ds : List D} {n : Nat} : (repL ds n).length = n * ds.length := by
  unfold repL
  rw [List.length_flatten, List.map_replicate, List.sum_replicate_nat]
theorem opD_mul : OpR X (binaryOp .Mult) (rD2 X.K fun m x y => optR (binD m .mul x y) m) := by
  intro pins s σ H x y v u Q I rx ry h
  obtain ⟨a, m, d, e, st, r1, r2, q⟩ := h
  cases r1 <;> cases r2 <;> first | exact False.elim q | skip
  case int.int i j =>
    simp only [binD] at q
    split at q
    · rename_i hz
      exact op_mul pins s σ H _ _ v u Q I rx ry ⟨i, j, rfl, rfl, hz, q.val st (.int _)⟩
    · exact False.elim q
  case lst.int ds p xs h hn hl r j =>
    simp only [binD] at q
    split at q
    · rename_i hz
      have hlen : (repL ds j.toNat).length ≤ sizeLine := by
        rw [repL_len]
        refine big_line ?_
        calc j.toNat * ds.length ≤ 1000 * 1000 := Nat.mul_le_mul (by omega) (by omega)
          _ ≤ big := by decide
      refine op_rep pins s σ H _ _ v u Q I rx ry ⟨p, j, xs, rfl, rfl, h, by omega, by omega, ?_, fun z hz => q.lst st (rep_rep r _) hlen hz⟩
      rw [← r.length, Nat.mul_comm, ← repL_len]
      exact hlen
    · exact False.elim q
  case tup.int ds p xs h hl r j =>
    simp only [binD] at q
    split at q
    · rename_i hz
      have hlen : (repL ds j.toNat).length ≤ sizeLine := by
        rw [repL_len]
        refine big_line ?_
        calc j.toNat * ds.length ≤ 1000 * 1000 := Nat.mul_le_mul (by omega) (by omega)
          _ ≤ big := by decide
      by_cases h2 : 2 ≤ j
      · exact op_repT pins s σ H _ _ v u Q I rx ry ⟨p, j, xs, rfl, rfl, h.sq, fun e => hz.2.2.2 (List.eq_nil_of_length_eq_zero (by rw [r.length, e]; rfl)), h2, hz.2.1, by rw [← r.length]; exact hz.2.2.1, fun z hz => q.tup st (rep_rep r _) hlen hz⟩
      · have e1 : j = 1 := by omega
        subst e1
        refine op_rep1 rfl pins s σ H _ _ v u Q I rx ry ⟨p, xs, rfl, rfl, h.sq, ?_⟩
        have e2 : repL ds (Int.toNat 1) = ds := by simp [repL]
        rw [e2] at q
        exact q.val st (.tup h hl r)
    · exact False.elim q
theorem op_fdivL : OpR X (binaryOp .FloorDiv) (rI (fun _ j => j ≠ 0 ∧ j.natAbs < 1000000000000000000000000000000) fun i j => .int (i.fdiv j)) := opI fun _ j _ _ _ _ _ hc q => floordiv_int hc.1 q (.inl (PyProof.noPylong_of_log2 (by
  have h0 : j.natAbs ≠ 0 := by have := hc.1; omega
  have h1 : j.natAbs < 2 ^ 100 := Nat.lt_of_lt_of_le hc.2 (by decide)
  have := (Nat.log2_lt h0).mpr h1
  omega)))
theorem opD_fdiv : OpR X (binaryOp .FloorDiv) (rD2 X.K fun m x y => optR (binD m .fdiv x y) m) := by
  intro pins s σ H x y v u Q I rx ry h
  obtain ⟨a, m, d, e, st, r1, r2, q⟩ := h
  cases r1 <;> cases r2 <;> first | exact False.elim q | skip
  case int.int i j =>
    simp only [binD] at q
    split at q
    · rename_i hz
      exact op_fdivL pins s σ H _ _ v u Q I rx ry ⟨i, j, rfl, rfl, hz, q.val st (.int _)⟩
    · exact False.elim q
theorem opD_mod : OpR X (binaryOp .Mod) (rD2 X.K fun m x y => optR (binD m .mod x y) m) := by
  intro pins s σ H x y v u Q I rx ry h
  obtain ⟨a, m, d, e, st, r1, r2, q⟩ := h
  cases r1 <;> cases r2 <;> first | exact False.elim q | skip
  case int.int i j =>
    simp only [binD] at q
    split at q
    · rename_i hz
      exact op_modN pins s σ H _ _ v u Q I rx ry ⟨i, j, rfl, rfl, hz, q.val st (.int _)⟩
    · exact False.elim q
theorem opD_pow : OpR X (binaryOp .Pow) (rD2 X.K fun m x y => optR (binD m .pow x y) m) := by
  intro pins s σ H x y v u Q I rx ry h
  obtain ⟨a, m, d, e, st, r1, r2, q⟩ := h
  cases r1 <;> cases r2 <;> first | exact False.elim q | skip
  case int.int i j =>
    simp only [binD] at q
    split at q
    · rename_i hz
      exact op_pow pins s σ H _ _ v u Q I rx ry ⟨i, j, rfl, rfl, hz, q.val st (.int _)⟩
    · exact False.elim q
/-! ### comparisons -/
abbrev rCmp (K : PySem.W.Frag) (o : Cop) : R2 := rD2 K fun m x y => optB (cmpD m o x y) m
theorem eqD_some {m : Mem} {x y : D} {b : Bool} (h : eqD m x y = some b) : ∃ x' y', frzD m 0 x = some x' ∧ frzD m 0 y = some y' ∧ x'.pure = true ∧ y'.pure = true ∧ x'.dep ≤ 64 ∧ y'.dep ≤ 64 ∧ b = PyData.eqv (toPy x') (toPy y') := by
  unfold eqD at h
  split at h
  · rename_i x' y' h1 h2
    split at h
    · rename_i hc
      exact ⟨x', y', h1, h2, hc.1, hc.2.1, hc.2.2.1, hc.2.2.2, (Option.some.inj h).symm⟩
    · cases h
  · cases h
theorem opD_eq (hu : X.A.units + 64 < cLine) : OpR X (compareOp .Eq) (rCmp X.K .eq) := by
  intro pins s σ H x y v u Q I rx ry h
  obtain ⟨a, m, d, e, st, r1, r2, q⟩ := h
  have q : Tr X.K a H (optB (cmpD m .eq d e) m) Q := q
  cases hb : eqD m d e with
  | none => rw [show cmpD m .eq d e = eqD m d e by simp only [cmpD], hb] at q; exact False.elim q
  | some b =>
    rw [show cmpD m .eq d e = eqD m d e by simp only [cmpD], hb] at q
    obtain ⟨x', y', h1, h2, p1, p2, z1, z2, rfl⟩ := eqD_some hb
    have f1 := frzD_rep st r1 h1
    have f2 := frzD_rep st r2 h2
    exact op_eqD hu pins s σ H x y v u Q I rx ry ⟨_, _, dp_of f1 p1, dp_of f2 p2, shaped_of f1 z1, shaped_of f2 z2, q.val st (.bl _)⟩
theorem opD_ne (hu : X.A.units + 64 < cLine) : OpR X (compareOp .NotEq) (rCmp X.K .ne) := by
  intro pins s σ H x y v u Q I rx ry h
  obtain ⟨a, m, d, e, st, r1, r2, q⟩ := h
  have q : Tr X.K a H (optB (cmpD m .ne d e) m) Q := q
  cases hb : eqD m d e with
  | none => rw [show cmpD m .ne d e = (eqD m d e).map (!·) by simp only [cmpD], hb] at q; exact False.elim q
  | some b =>
    rw [show cmpD m .ne d e = (eqD m d e).map (!·) by simp only [cmpD], hb] at q
    obtain ⟨x', y', h1, h2, p1, p2, z1, z2, rfl⟩ := eqD_some hb
    have f1 := frzD_rep st r1 h1
    have f2 := frzD_rep st r2 h2
    exact op_neD hu pins s σ H x y v u Q I rx ry ⟨_, _, dp_of f1 p1, dp_of f2 p2, shaped_of f1 z1, shaped_of f2 z2, q.val st (.bl _)⟩
theorem opD_lt (hu : X.A.units < cLine) : OpR X (compareOp .Lt) (rCmp X.K .lt) := by
  intro pins s σ H x y v u Q I rx ry h
  obtain ⟨a, m, d, e, st, r1, r2, q⟩ := h
  cases r1 <;> cases r2 <;> first | exact False.elim q | skip
  case int.int i j => exact op_lt pins s σ H _ _ v u Q I rx ry ⟨i, j, rfl, rfl, q.val st (.bl _)⟩
  case tup.tup ds p xs h hl r es p2 ys h' hl' r' =>
    simp only [cmpD] at q
    split at q
    · rename_i x y e1 e2
      have e1' := intsD_map e1
      have e2' := intsD_map e2
      subst e1' e2'
      have g1 := r.ints
      have g2 := r'.ints
      subst g1 g2
      exact op_ltT hu pins s σ H _ _ v u Q I rx ry ⟨p, p2, x, y, rfl, rfl, h.sq, h'.sq, q.val st (.bl _)⟩
    · exact False.elim q
theorem opD_le : OpR X (compareOp .LtE) (rCmp X.K .le) := by
  intro pins s σ H x y v u Q I rx ry h
  obtain ⟨a, m, d, e, st, r1, r2, q⟩ := h
  cases r1 <;> cases r2 <;> first | exact False.elim q | skip
  case int.int i j => exact op_le pins s σ H _ _ v u Q I rx ry ⟨i, j, rfl, rfl, q.val st (.bl _)⟩
theorem opD_gt : OpR X (compareOp .Gt) (rCmp X.K .gt) := by
  intro pins s σ H x y v u Q I rx ry h
  obtain ⟨a, m, d, e, st, r1, r2, q⟩ := h
  cases r1 <;> cases r2 <;> first | exact False.elim q | skip
  case int.int i j => exact op_gt pins s σ H _ _ v u Q I rx ry ⟨i, j, rfl, rfl, q.val st (.bl _)⟩
theorem toPys_ints (l : List Int) : toPys (l.map .int) = l.map PyData.int := by
  induction l with
  | nil => rfl
  | cons a r ih => simp only [List.map_cons, toPys, toPy, ih]
theorem alike_ints : ∀ x y : List Int, PySem.W.alikeAll (x.map PyData.int) (y.map PyData.int) = true
  | [], _ => by simp [PySem.W.alikeAll]
  | _ :: _, [] => by simp [PySem.W.alikeAll]
  | a :: x, b :: y => by simp [PySem.W.alikeAll, PySem.W.alike, alike_ints x y]
theorem dataLt_int (i j : Int) : PySem.W.dataLt (.int i) (.int j) = decide (i < j) := by
  unfold PySem.W.dataLt
  simp only [PySem.W.keyToks]
  refine (PyProof.Rows.lex_cons (O := itemOrd) _ _ _ _).trans ?_
  rw [PyProof.Rows.lex_irrefl]
  simp [itemLt]
theorem dataLt_ints : ∀ x y : List Int, PySem.W.dataLt (.tuple (x.map PyData.int)) (.tuple (y.map PyData.int)) = HT.lexLt x y := by
  intro x
  induction x with
  | nil =>
    intro y
    rw [PySem.W.dataLt_tuple]
    cases y with
    | nil => simp [PySem.W.keyToksAll, HT.lexLt, PyProof.Rows.lex_irrefl]
    | cons b y =>
      simp only [List.map_cons, List.map_nil, PySem.W.keyToksAll, HT.lexLt]
      refine (PyProof.Rows.lex_cons (O := itemOrd) _ _ _ _).trans ?_
      simp [itemLt]
  | cons a x ih =>
    intro y
    cases y with
    | nil =>
      rw [PySem.W.dataLt_tuple]
      simp only [List.map_cons, List.map_nil, PySem.W.keyToksAll, HT.lexLt]
      refine (PyProof.Rows.lex_cons (O := itemOrd) _ _ _ _).trans ?_
      simp [itemLt]
    | cons b y =>
      rw [PySem.W.dataLt_tuple, HT.lexLt_cons]
      simp only [List.map_cons]
      by_cases e : a = b
      · subst e
        rw [PySem.W.dataLt_all_yes rfl (by simp [PyData.eqv]), if_pos rfl, ← ih y, PySem.W.dataLt_tuple]
      · rw [PySem.W.dataLt_all_no rfl (by simp [PyData.eqv, e]), if_neg e, dataLt_int]
theorem d_pairs (x : List Int) (i : Int) : (D.tup [.tup (x.map .int), .int i]).pure = true := by
  have : D.pures (x.map .int) = true := by
    induction x with
    | nil => rfl
    | cons a r ih => simp only [List.map_cons, D.pures, D.pure, ih, Bool.and_self]
  simp [D.pure, D.pures, this]
theorem toPy_pair (x : List Int) (i : Int) : toPy (.tup [.tup (x.map .int), .int i]) = .tuple [.tuple (x.map PyData.int), .int i] := by
  simp [toPy, toPys, toPys_ints]
theorem dataLt_pair (x y : List Int) (i j : Int) : PySem.W.dataLt (.tuple [.tuple (x.map PyData.int), .int i]) (.tuple [.tuple (y.map PyData.int), .int j]) = (HT.lexLt x y || (decide (x = y) && decide (i < j))) := by
  have ev : ∀ x y : List Int, PyData.eqv (.tuple (x.map PyData.int)) (.tuple (y.map PyData.int)) = decide (x = y) := fun x y => by
    rw [PyData.eqv]
    induction x generalizing y with
    | nil => cases y <;> simp [PyData.eqvAll]
    | cons a x ih => cases y with
      | nil => simp [PyData.eqvAll]
      | cons b y =>
        simp only [List.map_cons, PyData.eqvAll, ih y, PyData.eqv]
        rw [Bool.eq_iff_iff]
        simp
  have al : PySem.W.alike (.tuple (x.map PyData.int)) (.tuple (y.map PyData.int)) = true := by simp [PySem.W.alike, alike_ints]
  rw [PySem.W.dataLt_tuple]
  by_cases e : x = y
  · subst e
    have irr : HT.lexLt x x = false := by
      induction x with
      | nil => rfl
      | cons a x ih => rw [HT.lexLt_cons, if_pos rfl]; exact ih (by simp [PySem.W.alike, alike_ints])
    rw [PySem.W.dataLt_all_yes al (by rw [ev]; simp), irr]
    by_cases e2 : i = j
    · subst e2
      rw [PySem.W.dataLt_all_yes rfl (by simp [PyData.eqv])]
      simp [PySem.W.keyToksAll, PyProof.Rows.lex_irrefl]
    · rw [PySem.W.dataLt_all_no rfl (by simp [PyData.eqv, e2]), dataLt_int]
      simp
  · rw [PySem.W.dataLt_all_no al (by rw [ev]; simp [e]), dataLt_ints]
    simp [e]
theorem depth_pair (x : List Int) (i : Int) : (PyData.tuple [.tuple (x.map PyData.int), .int i]).depth ≤ 3 := by
  have : ∀ l : List Int, PyData.depthAll (l.map PyData.int) ≤ 1 := fun l => by
    induction l with
    | nil => simp [PyData.depthAll]
    | cons a r ih => simp only [List.map_cons, PyData.depthAll, PyData.depth]; omega
  have := this x
  simp only [PyData.depth, PyData.depthAll]
  omega
theorem opD_ge (hu : X.A.units + 64 < cLine) : OpR X (compareOp .GtE) (rCmp X.K .ge) := by
  intro pins s σ H x y v u Q I rx ry h
  obtain ⟨a, m, d, e, st, r1, r2, q⟩ := h
  cases r1 <;> cases r2 <;> first | exact False.elim q | skip
  case int.int i j => exact op_ge pins s σ H _ _ v u Q I rx ry ⟨i, j, rfl, rfl, q.val st (.bl _)⟩
  case tup.tup ds p xs h hl r es p2 ys h' hl' r' =>
    replace q : Tr X.K a H (optB (geT ds es) m) Q := q
    unfold geT at q
    split at q
    · rename_i ta i tb j
      split at q
      · rename_i x1 y1 e1 e2
        have e1' := intsD_map e1
        have e2' := intsD_map e2
        subst e1' e2'
        have d1 := dp_of (RepV.tup h hl r) (d_pairs x1 i)
        have d2 := dp_of (RepV.tup h' hl' r') (d_pairs y1 j)
        obtain ⟨as, g1⟩ := Dp.reads I _ _ _ d1 rx
        obtain ⟨bs, g2⟩ := Dp.reads I _ _ _ d2 ry
        have t1 := toPy_pair x1 i
        have t2 := toPy_pair y1 j
        rw [t1] at g1
        rw [t2] at g2
        refine PySem.W.ge_data g1 g2 (by simp [PySem.W.alike, PySem.W.alikeAll, alike_ints]) (by simp) ?_ ?_
        · have := depth_pair x1 i
          omega
        · rw [dataLt_pair]
          exact ⟨.bl _, H, I, rfl, q.val st (.bl _)⟩
      · exact False.elim q
    · exact False.elim q
theorem non_iff {K : PySem.W.Frag} {H : Hp} {a : Ad} {d : D} {x : V} (r : RepV K H a d x) : decide (x = V.non) = decide (d = D.non) := by
  cases r <;> simp
theorem opD_is : OpR X (compareOp .Is) (rCmp X.K .isn) := by
  intro pins s σ H x y v u Q I rx ry h
  obtain ⟨a, m, d, e, st, r1, r2, q⟩ := h
  cases r2 <;> simp only [cmpD] at q <;> first | exact False.elim q | skip
  refine op_isN pins s σ H _ _ v u Q I rx ry ⟨rfl, ?_⟩
  rw [non_iff r1]
  exact q.val st (.bl _)
theorem opD_isnot : OpR X (compareOp .IsNot) (rCmp X.K .notn) := by
  intro pins s σ H x y v u Q I rx ry h
  obtain ⟨a, m, d, e, st, r1, r2, q⟩ := h
  cases r2 <;> simp only [cmpD] at q <;> first | exact False.elim q | skip
  refine op_notN pins s σ H _ _ v u Q I rx ry ⟨rfl, ?_⟩
  rw [non_iff r1]
  exact q.val st (.bl _)
/-! ### in -/
theorem flat_rep {K : PySem.W.Frag} {H : Hp} {a : Ad} {d : D} {x : V} (r : RepV K H a d x) (h : flatD d = true) : flatV x = true := by
  cases r <;> first | rfl | (simp [flatD] at h)
theorem eqF_rep {K : PySem.W.Frag} {H : Hp} {a : Ad} {d e : D} {x y : V} (r : RepV K H a d x) (q : RepV K H a e y) (h : flatD d = true) (h' : flatD e = true) : eqV x y = eqF d e := by
  cases r <;> cases q <;> first | rfl | (simp [flatD] at h) | (simp [flatD] at h')
theorem any_rep {K : PySem.W.Frag} {H : Hp} {a : Ad} {d : D} {x : V} (r : RepV K H a d x) (h : flatD d = true) : ∀ {ds : List D} {xs : List V}, RepVs K H a ds xs → ds.all flatD = true → xs.all flatV = true ∧ inV x xs = ds.any fun y => eqF y d
  | _, _, .nil, _ => ⟨rfl, rfl⟩
  | _, _, .cons q t, h' => by
    simp only [List.all_cons, Bool.and_eq_true] at h'
    obtain ⟨i1, i2⟩ := any_rep r h t h'.2
    refine ⟨by simp [flat_rep q h'.1, i1], ?_⟩
    show (eqV _ x || inV x _) = _
    rw [eqF_rep q r h'.1 h, i2, List.any_cons]
theorem key_rep {K : PySem.W.Frag} {H : Hp} {a : Ad} {d : D} {x : V} {k : Key} (r : RepV K H a d x) (h : keyD d = some k) : x = kV k := by
  cases r <;> simp [keyD] at h <;> subst h <;> rfl
theorem look_rep {K : PySem.W.Frag} {H : Hp} {a : Ad} (k : Key) : ∀ {kvs : List (Key × D)} {ks : List (Key × V)}, RepK K H a kvs ks → (lookK kvs k = none ∧ valV ks k = none) ∨ ∃ d v, lookK kvs k = some d ∧ valV ks k = some v ∧ RepV K H a d v
  | _, _, .nil => .inl ⟨rfl, rfl⟩
  | _, _, .cons (k := j) (d := d) (v := v) (r := r) h t => by
    by_cases e : j = k
    · exact .inr ⟨d, v, by simp [lookK, e], valV_pos e, h⟩
    · have e1 : lookK ((j, d) :: r) k = lookK r k := by simp [lookK, e]
      rw [e1, valV_neg (p := (j, v)) e]
      exact look_rep k t
theorem put_rep {K : PySem.W.Frag} {H : Hp} {a : Ad} (k : Key) {d : D} {v : V} (h : RepV K H a d v) {kvs : List (Key × D)} {ks : List (Key × V)} (r : RepK K H a kvs ks) : RepK K H a (putK kvs k d) (L2.putK ks k v) := by
  have hany : ∀ {kvs : List (Key × D)} {ks : List (Key × V)}, RepK K H a kvs ks → (kvs.any fun p => decide (p.1 = k)) = (ks.any fun p => decide (p.1 = k)) := fun {kvs ks} r => by
    induction r with
    | nil => rfl
    | cons _ _ ih => simp only [List.any_cons, ih]
  have hmap : ∀ {kvs : List (Key × D)} {ks : List (Key × V)}, RepK K H a kvs ks → RepK K H a (kvs.map fun p => if p.1 = k then (p.1, d) else p) (ks.map fun p => if p.1 = k then (p.1, v) else p) := fun {kvs ks} r => by
    induction r with
    | nil => exact .nil
    | @cons j d' v' _ _ h' _ ih =>
      simp only [List.map_cons]
      by_cases e : j = k
      · rw [if_pos e, if_pos e]; exact .cons h ih
      · rw [if_neg e, if_neg e]; exact .cons h' ih
  have happ : ∀ {kvs : List (Key × D)} {ks : List (Key × V)}, RepK K H a kvs ks → RepK K H a (kvs ++ [(k, d)]) (ks ++ [(k, v)]) := fun {kvs ks} r => by
    induction r with
    | nil => exact .cons h .nil
    | cons h' _ ih => exact .cons h' ih
  unfold putK L2.putK
  rw [← hany r]
  split
  · exact hmap r
  · exact happ r
theorem drop_rep {K : PySem.W.Frag} {H : Hp} {a : Ad} (k : Key) : ∀ {kvs : List (Key × D)} {ks : List (Key × V)}, RepK K H a kvs ks → RepK K H a (dropK kvs k) (L2.dropK ks k)
  | _, _, .nil => .nil
  | _, _, .cons (k := j) h t => by
    unfold dropK L2.dropK
    simp only [List.filter_cons]
    by_cases e : j = k
    · simp only [e, ne_eq, not_true_eq_false, decide_false, Bool.false_eq_true, if_false]; exact drop_rep k t
    · simp only [e, ne_eq, not_false_eq_true, decide_true, if_true]; exact .cons h (drop_rep k t)
theorem look_rep' {K : PySem.W.Frag} {H : Hp} {a : Ad} {k : Key} {kvs : List (Key × D)} {ks : List (Key × V)} (r : RepK K H a kvs ks) : (lookK kvs k).isSome = (valV ks k).isSome := by
  rcases look_rep k r with ⟨h1, h2⟩ | ⟨d, v, h1, h2, _⟩ <;> rw [h1, h2] <;> rfl
theorem opD_in (hu : X.A.units + 1 < cLine) : OpR X (compareOp .In) (rCmp X.K .inn) := by
  intro pins s σ H x y v u Q I rx ry h
  obtain ⟨a, m, d, e, st, r1, r2, q⟩ := h
  cases r2 <;> simp only [cmpD, inD] at q <;> first | exact False.elim q | skip
  case tup ds p xs h hl r =>
    split at q
    · rename_i hf
      obtain ⟨i1, i2⟩ := any_rep r1 hf.1 r hf.2
      refine op_in_seq pins s σ H _ _ v u Q I rx ry ⟨p, xs, rfl, .inr h.sq, flat_rep r1 hf.1, i1, ?_⟩
      rw [i2]
      exact q.val st (.bl _)
    · exact False.elim q
  case lst ds p xs h hn hl r =>
    split at q
    · rename_i hf
      obtain ⟨i1, i2⟩ := any_rep r1 hf.1 r hf.2
      refine op_in_seq pins s σ H _ _ v u Q I rx ry ⟨p, xs, rfl, .inl (SqL.of h), flat_rep r1 hf.1, i1, ?_⟩
      rw [i2]
      exact q.val st (.bl _)
    · exact False.elim q
  case str s2 h2 =>
    cases r1 <;> simp only at q <;> first | exact False.elim q | skip
    exact op_in_str pins s σ H _ _ v u Q I rx ry ⟨_, _, rfl, rfl, q.val st (.bl _)⟩
  case ref n p h =>
    split at q
    · rename_i kvs k h1 h2
      obtain ⟨ho, g1, g2⟩ := st.at_ n p _ h h1
      cases g2 with
      | dct hl r =>
        have ek := key_rep r1 h2
        subst ek
        have ep := (show u = Value.ref p from ry)
        subst ep
        refine L2.d_in (A := X.A) (E := X.xe) hu I (DGet.k g1 (k := k)) rx fun s' I' => ?_
        rw [look_rep' r] at q
        exact ⟨.bl _, H, I', rfl, q.val st (.bl _)⟩
    · exact False.elim q
theorem opD_nin (hu : X.A.units + 1 < cLine) : OpR X (compareOp .NotIn) (rCmp X.K .nin) := by
  intro pins s σ H x y v u Q I rx ry h
  obtain ⟨a, m, d, e, st, r1, r2, q⟩ := h
  cases r2 <;> simp only [cmpD, inD] at q <;> first | exact False.elim q | skip
  case tup ds p xs h hl r =>
    split at q
    · rename_i hf
      obtain ⟨i1, i2⟩ := any_rep r1 hf.1 r hf.2
      refine op_notIn_seq pins s σ H _ _ v u Q I rx ry ⟨p, xs, rfl, .inr h.sq, flat_rep r1 hf.1, i1, ?_⟩
      rw [i2]
      exact q.val st (.bl _)
    · exact False.elim q
  case lst ds p xs h hn hl r =>
    split at q
    · rename_i hf
      obtain ⟨i1, i2⟩ := any_rep r1 hf.1 r hf.2
      refine op_notIn_seq pins s σ H _ _ v u Q I rx ry ⟨p, xs, rfl, .inl (SqL.of h), flat_rep r1 hf.1, i1, ?_⟩
      rw [i2]
      exact q.val st (.bl _)
    · exact False.elim q
  case str s2 h2 =>
    cases r1 <;> simp only at q <;> first | exact False.elim q | skip
    exact op_notin_str pins s σ H _ _ v u Q I rx ry ⟨_, _, rfl, rfl, q.val st (.bl _)⟩
  case ref n p h =>
    split at q
    · rename_i kvs k h1 h2
      obtain ⟨ho, g1, g2⟩ := st.at_ n p _ h h1
      cases g2 with
      | dct hl r =>
        have ek := key_rep r1 h2
        subst ek
        have ep := (show u = Value.ref p from ry)
        subst ep
        refine L2.d_notIn (A := X.A) (E := X.xe) hu I (DGet.k g1 (k := k)) rx fun s' I' => ?_
        rw [Option.map_some, look_rep' r] at q
        exact ⟨.bl _, H, I', rfl, q.val st (.bl _)⟩
    · exact False.elim q
end
end Br


set_option Elab.async false
set_option linter.all false
set_option maxRecDepth 100000
set_option autoImplicit false
/-! Br: built-in functions, items, slices. -/
namespace Br
open PySem PySem.Spec PyProof.Rows L2
variable [LamTab] [LamCl] [ExC]
section
variable {X : Cx}
abbrev rFn (K : PySem.W.Frag) (f : Fn) : List V → Hp → VK → Prop := rDs K fun m ds => fnD m f ds
/-- one argument -/
theorem one_of {K : PySem.W.Frag} {H : Hp} {a : Ad} {ds : List D} {xs : List V} (r : RepVs K H a ds xs) (h : ds.length = 1) : ∃ d x, ds = [d] ∧ xs = [x] ∧ RepV K H a d x := by
  cases r with
  | nil => simp at h
  | cons h1 t =>
    cases t with
    | nil => exact ⟨_, _, rfl, rfl, h1⟩
    | cons _ _ => simp at h
/-- the items of a thing: a list or a tuple stands there -/
theorem items_rep {K : PySem.W.Frag} {H : Hp} {a : Ad} {m : Mem} (st : MRel K a m H) {d : D} {x : V} {ds : List D} (r : RepV K H a d x) (h : itemsD m d = some ds) :
    ∃ p xs, x = .ref p ∧ (SqL K H p xs ∨ SqT K H p xs) ∧ RepVs K H a ds xs ∧ ds.length ≤ sizeLine := by
  cases r <;> simp only [itemsD] at h <;> first | (cases h; done) | skip
  case tup ds' p xs h1 hl r => cases h; exact ⟨p, xs, rfl, .inr h1.sq, r, hl⟩
  case lst ds' p xs h1 hn hl r => cases h; exact ⟨p, xs, rfl, .inl (SqL.of h1), r, hl⟩
  case scr ns p h1 hl => cases h; exact ⟨p, _, rfl, .inl h1.sq, RepVs.of_ints ns, by rw [List.length_map]; exact hl⟩
  case ref n p h1 =>
    split at h
    · rename_i ds' h2
      cases h
      obtain ⟨ho, g1, g2⟩ := st.at_ n p _ h1 h2
      cases g2 with
      | lst hl r => exact ⟨p, _, rfl, .inl (SqL.of g1), r, hl⟩
    · cases h
/-- .. a list -/
theorem fnD_one {m : Mem} {f : Fn} {ds : List D} (hf : f ≠ .min2) (hf2 : f ≠ .max2) (hf3 : f ≠ .str) (hf4 : f ≠ .int) (h : ds.length ≠ 1) (hf5 : f ≠ .dct0 := by decide) (hf6 : f ≠ .index := by decide) (hf7 : f ≠ .dctT0 := by decide) (hf8 : f ≠ .count := by decide) : fnD m f ds = .bad := by
  match ds, h with
  | [], _ => cases f <;> first | rfl | exact (hf5 rfl).elim | exact (hf7 rfl).elim
  | [_], h => exact absurd rfl h
  | a :: _ :: _, _ => cases f <;> first | rfl | exact (hf rfl).elim | exact (hf2 rfl).elim | exact (hf3 rfl).elim | exact (hf4 rfl).elim | exact (hf6 rfl).elim | exact (hf8 rfl).elim | (cases a <;> rfl)
theorem cr_one {c : Value} {f : Fn} (g : Mem → D → Res D) (hf : ∀ m d, fnD m f [d] = g m d) (h0 : ∀ (m : Mem) (ds : List D), ds.length ≠ 1 → fnD m f ds = .bad)
    (rule : ∀ (pins : List (Addr × Obj)) (s : Shared) (σ : L2.St) (H : Hp) (x : V) (us : List Value) (Q : VK) (a : Ad) (m : Mem) (d : D), Inv X pins σ H s → Vals [x] us → MRel X.K a m H → RepV X.K H a d x → Tr X.K a H (g m d) Q →
      wpAny (model X.prog X.w) X.A (call c us) (EP X pins σ Q) X.xe s) : CallR X c (rFn X.K f) := by
  intro pins s σ H xs us Q I r h
  obtain ⟨a, m, ds, st, rr, q⟩ := h
  have q : Tr X.K a H (fnD m f ds) Q := q
  by_cases h1 : ds.length = 1
  · obtain ⟨d, x, rfl, rfl, rd⟩ := one_of rr h1
    rw [hf] at q
    exact rule pins s σ H x us Q a m d I r st rd q
  · rw [h0 m ds h1] at q
    exact False.elim q
theorem cD_len : CallR X (.builtin "len") (rFn X.K .len) := by
  refine cr_one (fun m d => match lenD m d with | some n => .ok (.int n) m | none => .bad) (fun _ _ => rfl) (fun m ds h => fnD_one (by decide) (by decide) (by decide) (by decide) h) ?_
  intro pins s σ H x us Q a m d I r st rd q
  replace q : Tr X.K a H (match lenD m d with | some n => .ok (.int n) m | none => .bad) Q := q
  cases hl : lenD m d with
  | none => rw [hl] at q; exact False.elim q
  | some n =>
    rw [hl] at q
    have key : ∀ ds, itemsD m d = some ds → ds.length = n → wpAny (model X.prog X.w) X.A (call (.builtin "len") us) (EP X pins σ Q) X.xe s := fun ds h2 h3 => by
      obtain ⟨p, xs, rfl, hs, r2, _⟩ := items_rep st rd h2
      refine call_len_seq pins s σ H _ us Q I r ⟨p, xs, rfl, hs, ?_⟩
      rw [← r2.length, h3]
      exact q.val st (.int _)
    cases rd <;> simp only [lenD, itemsD, Option.map_some, Option.map_none] at hl <;> first | (cases hl; done) | skip
    case str z hz =>
      split at hl
      · rename_i hb
        cases hl
        exact call_len_str pins s σ H _ us Q I r ⟨z, rfl, big_line hb, q.val st (.int _)⟩
      · cases hl
    case tup ds p xs h2 hl' r2 => exact key ds rfl (Option.some.inj hl)
    case lst ds p xs h2 hn hl' r2 => exact key ds rfl (Option.some.inj hl)
    case scr ns p h2 hl' => exact key _ rfl (Option.some.inj hl)
    case ref k p h2 =>
      split at hl
      · rename_i ds h3
        exact key ds (by simp only [itemsD, h3]) (Option.some.inj hl)
      · rename_i kvs h3
        cases hl
        obtain ⟨ho, g1, g2⟩ := st.at_ k p _ h2 h3
        cases g2 with
        | dct hl r2 =>
          obtain ⟨u, rfl, rx⟩ := vals1 r
          cases rx
          refine d_len (A := X.A) (E := X.xe) I (.inl g1) fun t s' I' => ⟨.int _, H, I', ⟨t, rfl⟩, ?_⟩
          rw [← r2.length]
          exact q.val st (.int _)
      · cases hl
theorem cD_list : CallR X (.type "list") (rFn X.K .list) := by
  refine cr_one (fun m d => match itemsD m d with | some ds => .ok (.lst ds) m | none => .bad) (fun _ _ => rfl) (fun m ds h => fnD_one (by decide) (by decide) (by decide) (by decide) h) ?_
  intro pins s σ H x us Q a m d I r st rd q
  replace q : Tr X.K a H (match itemsD m d with | some ds => .ok (.lst ds) m | none => .bad) Q := q
  cases hl : itemsD m d with
  | none => rw [hl] at q; exact False.elim q
  | some ds =>
    rw [hl] at q
    obtain ⟨p, xs, rfl, hs, r2, hz⟩ := items_rep st rd hl
    exact call_list_of pins s σ H _ us Q I r ⟨p, xs, rfl, hs, fun l hl => q.lst st r2 hz hl⟩
theorem cD_tuple : CallR X (.type "tuple") (rFn X.K .tuple) := by
  refine cr_one (fun m d => match itemsD m d with | some ds => .ok (.tup ds) m | none => .bad) (fun _ _ => rfl) (fun m ds h => fnD_one (by decide) (by decide) (by decide) (by decide) h) ?_
  intro pins s σ H x us Q a m d I r st rd q
  replace q : Tr X.K a H (match itemsD m d with | some ds => .ok (.tup ds) m | none => .bad) Q := q
  cases hl : itemsD m d with
  | none => rw [hl] at q; exact False.elim q
  | some ds =>
    rw [hl] at q
    cases rd <;> simp only [itemsD] at hl <;> first | (cases hl; done) | skip
    case tup ds' p xs h2 hl' r2 =>
      cases hl
      exact call_tuple_of pins s σ H _ us Q I r ⟨p, xs, rfl, .inr ⟨h2.sq, q.val st (.tup h2 hl' r2)⟩⟩
    case lst ds' p xs h2 hn hl' r2 =>
      cases hl
      exact call_tuple_of pins s σ H _ us Q I r ⟨p, xs, rfl, .inl ⟨SqL.of h2, fun l hl => q.tup st r2 hl' hl⟩⟩
    case scr ns p h2 hl' =>
      cases hl
      exact call_tuple_of pins s σ H _ us Q I r ⟨p, _, rfl, .inl ⟨h2.sq, fun l hl => q.tup st (RepVs.of_ints ns) (by rw [List.length_map]; exact hl') hl⟩⟩
    case ref k p h2 =>
      split at hl
      · rename_i ds' h3
        cases hl
        obtain ⟨ho, g1, g2⟩ := st.at_ k p _ h2 h3
        cases g2 with
        | lst hl r2 => exact call_tuple_of pins s σ H _ us Q I r ⟨p, _, rfl, .inl ⟨SqL.of g1, fun l hl' => q.tup st r2 hl hl'⟩⟩
      · cases hl
/-! ### orders -/
theorem sortI_perm (ns : List Int) : (sortI ns).Perm ns := List.mergeSort_perm ns _
theorem sortI_sorted (ns : List Int) : (sortI ns).Pairwise (· ≤ ·) := by
  have h := List.pairwise_mergeSort (le := fun a b : Int => decide (a ≤ b)) (fun a b c h1 h2 => by simp at *; omega) (fun a b => by simp; omega) ns
  exact h.imp (fun h => by simpa using h)
theorem sortI_eq {ns ns' : List Int} (hp : ns'.Perm ns) (hs : ns'.Pairwise (· ≤ ·)) : ns' = sortI ns :=
  (hp.trans (sortI_perm ns).symm).eq_of_pairwise (fun x y _ _ h1 h2 => Int.le_antisymm h1 h2) hs (sortI_sorted ns)
theorem min_fold : ∀ (r : List Int) (a : Int), (r.foldl min a ∈ a :: r) ∧ ∀ y ∈ a :: r, r.foldl min a ≤ y
  | [], a => by simp
  | b :: r, a => by
    obtain ⟨h1, h2⟩ := min_fold r (min a b)
    simp only [List.foldl_cons]
    refine ⟨?_, fun y hy => ?_⟩
    · rcases List.mem_cons.mp h1 with h | h
      · rw [h]
        by_cases e : a ≤ b
        · rw [Int.min_eq_left e]; exact List.mem_cons_self
        · rw [Int.min_eq_right (by omega)]; exact List.mem_cons_of_mem _ List.mem_cons_self
      · exact List.mem_cons_of_mem _ (List.mem_cons_of_mem _ h)
    · have h3 := h2 (min a b) List.mem_cons_self
      rcases List.mem_cons.mp hy with h | h
      · omega
      · rcases List.mem_cons.mp h with h | h
        · omega
        · exact h2 y (List.mem_cons_of_mem _ h)
theorem max_fold : ∀ (r : List Int) (a : Int), (r.foldl max a ∈ a :: r) ∧ ∀ y ∈ a :: r, y ≤ r.foldl max a
  | [], a => by simp
  | b :: r, a => by
    obtain ⟨h1, h2⟩ := max_fold r (max a b)
    simp only [List.foldl_cons]
    refine ⟨?_, fun y hy => ?_⟩
    · rcases List.mem_cons.mp h1 with h | h
      · rw [h]
        by_cases e : a ≤ b
        · rw [Int.max_eq_right e]; exact List.mem_cons_of_mem _ List.mem_cons_self
        · rw [Int.max_eq_left (by omega)]; exact List.mem_cons_self
      · exact List.mem_cons_of_mem _ (List.mem_cons_of_mem _ h)
    · have h3 := h2 (max a b) List.mem_cons_self
      rcases List.mem_cons.mp hy with h | h
      · omega
      · rcases List.mem_cons.mp h with h | h
        · omega
        · exact h2 y (List.mem_cons_of_mem _ h)
theorem minI_spec {ns : List Int} {k : Int} (h : minI ns = some k) : 0 < ns.length ∧ k ∈ ns ∧ ∀ y ∈ ns, k ≤ y := by
  cases ns with
  | nil => cases h
  | cons a r =>
    cases h
    obtain ⟨h1, h2⟩ := min_fold r a
    exact ⟨by simp, h1, h2⟩
theorem maxI_spec {ns : List Int} {k : Int} (h : maxI ns = some k) : 0 < ns.length ∧ k ∈ ns ∧ ∀ y ∈ ns, y ≤ k := by
  cases ns with
  | nil => cases h
  | cons a r =>
    cases h
    obtain ⟨h1, h2⟩ := max_fold r a
    exact ⟨by simp, h1, h2⟩
/-- the ints of a list -/
theorem ints_rep {K : PySem.W.Frag} {H : Hp} {a : Ad} {m : Mem} (st : MRel K a m H) {d : D} {x : V} {ns : List Int} (r : RepV K H a d x) (h : (lstD m d).bind intsD = some ns) :
    ∃ p, x = .ref p ∧ SqL K H p (ns.map V.int) ∧ ns.length ≤ sizeLine := by
  obtain ⟨ds, h1, h2⟩ := Option.bind_eq_some_iff.mp h
  have e := intsD_map h2
  subst e
  cases r <;> simp only [lstD] at h1 <;> first | (cases h1; done) | skip
  case lst ds' p xs h2 hn hl' r2 =>
    cases h1
    rw [r2.ints] at h2
    exact ⟨p, rfl, SqL.of h2, by simpa using hl'⟩
  case scr ns' p h4 hl' =>
    have e : ns'.map D.int = ns.map D.int := Option.some.inj h1
    have e2 : ns' = ns := by
      have := congrArg (List.map fun d => match d with | D.int i => i | _ => 0) e
      simpa [List.map_map, Function.comp_def] using this
    subst e2
    exact ⟨p, rfl, h4.sq, hl'⟩
  case ref k p h2 =>
    split at h1
    · rename_i ds' h3
      cases h1
      obtain ⟨ho, g1, g2⟩ := st.at_ k p _ h2 h3
      cases g2 with
      | lst hl r2 =>
        rw [r2.ints] at g1
        exact ⟨p, rfl, SqL.of g1, by simpa using hl⟩
    · cases h1
theorem cD_sum (hc : X.calm = true) : CallR X (.builtin "sum") (rFn X.K .sum) := by
  refine cr_one (fun m d => match (lstD m d).bind intsD with | some ns => .ok (.int ns.sum) m | none => .bad) (fun _ _ => rfl) (fun m ds h => fnD_one (by decide) (by decide) (by decide) (by decide) h) ?_
  intro pins s σ H x us Q a m d I r st rd q
  replace q : Tr X.K a H (match (lstD m d).bind intsD with | some ns => .ok (.int ns.sum) m | none => .bad) Q := q
  cases hl : (lstD m d).bind intsD with
  | none => rw [hl] at q; exact False.elim q
  | some ns =>
    rw [hl] at q
    obtain ⟨p, rfl, hs, _⟩ := ints_rep st rd hl
    exact cr_sum hc pins s σ H _ us Q I r ⟨p, ns, rfl, hs, q.val st (.int _)⟩
theorem cD_min (hc : X.calm = true) : CallR X (.builtin "min") (rFn X.K .min) := by
  refine cr_one (fun m d => match ((lstD m d).bind intsD).bind minI with | some n => .ok (.int n) m | none => .bad) (fun _ _ => rfl) (fun m ds h => fnD_one (by decide) (by decide) (by decide) (by decide) h) ?_
  intro pins s σ H x us Q a m d I r st rd q
  replace q : Tr X.K a H (match ((lstD m d).bind intsD).bind minI with | some n => .ok (.int n) m | none => .bad) Q := q
  cases hl : (lstD m d).bind intsD with
  | none => rw [hl] at q; exact False.elim q
  | some ns =>
    rw [hl, Option.bind_some] at q
    cases hm : minI ns with
    | none => rw [hm] at q; exact False.elim q
    | some k =>
      rw [hm] at q
      obtain ⟨p, rfl, hs, _⟩ := ints_rep st rd hl
      obtain ⟨z1, z2, z3⟩ := minI_spec hm
      refine cr_min hc pins s σ H _ us Q I r ⟨p, ns, rfl, hs, z1, fun k' h1 h2 => ?_⟩
      rw [show k' = k from Int.le_antisymm (h2 k z2) (z3 k' h1)]
      exact q.val st (.int _)
theorem cD_max (hc : X.calm = true) : CallR X (.builtin "max") (rFn X.K .max) := by
  refine cr_one (fun m d => match ((lstD m d).bind intsD).bind maxI with | some n => .ok (.int n) m | none => .bad) (fun _ _ => rfl) (fun m ds h => fnD_one (by decide) (by decide) (by decide) (by decide) h) ?_
  intro pins s σ H x us Q a m d I r st rd q
  replace q : Tr X.K a H (match ((lstD m d).bind intsD).bind maxI with | some n => .ok (.int n) m | none => .bad) Q := q
  cases hl : (lstD m d).bind intsD with
  | none => rw [hl] at q; exact False.elim q
  | some ns =>
    rw [hl, Option.bind_some] at q
    cases hm : maxI ns with
    | none => rw [hm] at q; exact False.elim q
    | some k =>
      rw [hm] at q
      obtain ⟨p, rfl, hs, _⟩ := ints_rep st rd hl
      obtain ⟨z1, z2, z3⟩ := maxI_spec hm
      refine cr_max hc pins s σ H _ us Q I r ⟨p, ns, rfl, hs, z1, fun k' h1 h2 => ?_⟩
      rw [show k' = k from Int.le_antisymm (z3 k' h1) (h2 k z2)]
      exact q.val st (.int _)
theorem two_of {K : PySem.W.Frag} {H : Hp} {a : Ad} {d e : D} {xs : List V} (r : RepVs K H a [d, e] xs) : ∃ x y, xs = [x, y] ∧ RepV K H a d x ∧ RepV K H a e y := by
  cases r with
  | cons h t =>
    cases t with
    | cons h2 t2 => cases t2; exact ⟨_, _, rfl, h, h2⟩
theorem cD_min2 (hc : X.calm = true) : CallR X (.builtin "min") (rFn X.K .min2) := by
  intro pins s σ H xs us Q I r h
  obtain ⟨a, m, ds, st, rr, q⟩ := h
  replace q : Tr X.K a H (fnD m .min2 ds) Q := q
  match ds, q, rr with
  | [.int i, .int j], q, rr =>
    obtain ⟨x, y, rfl, r1, r2⟩ := two_of rr
    cases r1
    cases r2
    exact call_min2 hc pins s σ H _ us Q I r ⟨i, j, rfl, q.val st (.int _)⟩
theorem cD_max2 (hc : X.calm = true) : CallR X (.builtin "max") (rFn X.K .max2) := by
  intro pins s σ H xs us Q I r h
  obtain ⟨a, m, ds, st, rr, q⟩ := h
  replace q : Tr X.K a H (fnD m .max2 ds) Q := q
  match ds, q, rr with
  | [.int i, .int j], q, rr =>
    obtain ⟨x, y, rfl, r1, r2⟩ := two_of rr
    cases r1
    cases r2
    exact call_max2 hc pins s σ H _ us Q I r ⟨i, j, rfl, q.val st (.int _)⟩
theorem cD_int : CallR X (.type "int") (rFn X.K .int) := by
  intro pins s σ H xs us Q I r h
  obtain ⟨a, m, ds, st, rr, q⟩ := h
  replace q : Tr X.K a H (fnD m .int ds) Q := q
  match ds, q, rr with
  | [.int i], q, rr =>
    cases rr with
    | cons h t =>
      cases t
      cases h
      exact call_int1 pins s σ H _ us Q I r (.inl ⟨i, rfl, q.val st (.int _)⟩)
  | [.bl b], q, rr =>
    cases rr with
    | cons h t =>
      cases t
      cases h
      exact call_int1 pins s σ H _ us Q I r (.inr ⟨b, rfl, q.val st (.int _)⟩)
end
end Br


set_option Elab.async false
set_option linter.all false
set_option maxRecDepth 100000
set_option autoImplicit false
/-! Br: sorted of dicts and sets, dict(..), items, slices, isinstance. -/
namespace Br
open PySem PySem.Spec PyProof.Rows L2
variable [LamTab] [LamCl] [ExC]
section
variable {X : Cx}
/-- sorted(d), d a dict whose keys are ints, any number of them -/
theorem sorted_dict_ints (hcalm : X.calm = true) {pins : List (Addr × Obj)} {s : Shared} {σ : L2.St} {H : Hp} {Q : VK} {a : Addr} {kvs : List (Key × V)} {ks : List Int} (I : Inv X pins σ H s)
    (hd : Rd H a (.dK kvs)) (hks : kvs.map (·.1) = ks.map Sum.inl)
    (q : ∀ (ys : List Int) (p : Addr), ys.Perm ks → ys.Pairwise (· ≤ ·) → H p = none → Q (.ref p) (upd H p (.lst (ys.map V.int)))) :
    wpAny (model X.prog X.w) X.A (call (.builtin "sorted") [.ref a]) (EP X pins σ Q) X.xe s := by
  obtain ⟨hz, hsys, vs, rel, dd⟩ := dk_rd I.hok hd
  obtain ⟨ep, hat⟩ := dd.dictAt
  have kk : vs.map (·.1) = ks.map Sum.inl := rel.keys.symm.trans hks
  have hvl : vs.length = ks.length := by simpa using congrArg List.length kk
  have hvz : vs.length ≤ sizeLine := by rw [← KV.length rel]; exact hz
  refine Calls.call_function_entry PyProof.Rows.kind_sorted PyProof.Rows.plain_sorted PyProof.Rows.entry_sorted (PyProof.Rows.args_sorted1 _) ?_
  unfold Builtin.«sorted»
  refine wpAny_bind (m := checkCount "sorted" 1 1 _) (wpAny_pure ?_)
  refine wpAny_bind (PySem.W.kdu_collect (A := X.A.in1) (PySem.W.kdl_dict (knd := mixKind X.prog X.w) (kvs := vs) (ep := ep) hsys) (I.ok.hd hcalm) hat hvz fun h1 tk got kept hgot => ?_)
  have gl : got.toList.length = ks.length := by rw [Array.length_toList, hgot.1, hvl]
  have gints : IntsAre got.toList ks := ints_each gl fun j v e => by
    obtain ⟨k, x, e1, e2⟩ := hgot.2 j v (by rw [← Array.getElem?_toList]; exact e)
    have e3 : (ks.map Sum.inl)[j]? = some k := by rw [← kk, List.getElem?_map, e1]; rfl
    rw [List.getElem?_map, Option.map_eq_some_iff] at e3
    obtain ⟨y, e4, rfl⟩ := e3
    rcases keyIs_shape (show keyIs (Sum.inl y) v = true from e2) with ⟨i, t, ek, ev⟩ | ⟨z, t, ek, ev⟩
    · cases ek; exact ⟨y, t, e4, ev⟩
    · cases ek
  have I1 : Inv X pins σ H { s with heap := h1, toks := tk } := I.kept kept
  have gz : got.toList.length ≤ sizeLine := by rw [gl, ← hvl]; exact hvz
  refine wpAny_bind (wpAny_newList ?_ gz)
  have at1 : (h1.push (seqObj "list" got.toList.toArray 0)).get? h1.objs.size = some (seqObj "list" got.toList.toArray 0) := Heap.get?_push_size _ rfl
  show wpAny _ _ _ _ _ { s with heap := h1.push (seqObj "list" got.toList.toArray 0), toks := tk }
  refine wpAny_bind (wpAny_holding (wpAny_call_entry PyProof.Rows.slot_list_sort ⟨_, at1, rfl⟩ PyProof.Rows.entry_list_sort
    (SrtO.list_sort_ord (s := { s with heap := h1.push (seqObj "list" got.toList.toArray 0), toks := tk }) SrtO.swo_int at1 gz (fun h2 => SrtO.ints_sortable gints h2) fun out g1 g2 => ⟨_, rfl, ?_⟩) (PyProof.Rows.args_list_sort _)))
  obtain ⟨k1, k2, k3⟩ := SrtO.ints_out gints g1 g2
  obtain ⟨e', he'⟩ := PyProof.Rows.sortedHeap_at (vs := got.toList) (out := out.toArray) at1
  have hlen : ((out.map SrtO.iv).map V.int).length ≤ sizeLine := by rw [List.length_map, k2.length_eq, ← gl]; exact gz
  refine wpAny_pure ⟨_, rfl, .ref h1.objs.size, upd H h1.objs.size (.lst ((out.map SrtO.iv).map V.int)), I1.laid (t' := tk) (fun b u e => ?_) (Nat.le_refl _)
    (show ObjOk X.prog X.w _ _ _ (.lst ((out.map SrtO.iv).map V.int)) from ⟨hlen, out, e', vals_of_ints k1, he'⟩), rfl, q _ _ k2 k3 (I1.hok.fresh (Nat.le_refl _))⟩
  have hb : b < h1.objs.size := Heap.lt_size e
  rw [PyProof.Rows.sortedHeap_old (Nat.ne_of_lt hb) (by rw [size_push']; exact Nat.lt_succ_of_lt hb)]
  exact Heap.get?_push_of_some _ e
theorem keys_ints : ∀ {kvs : List (Key × D)} {ns : List Int}, (kvs.map fun p => match p.1 with | .inl i => D.int i | .inr s => D.str s) = ns.map D.int → kvs.map (·.1) = ns.map Sum.inl
  | [], [], _ => rfl
  | [], _ :: _, e => by simp at e
  | _ :: _, [], e => by simp at e
  | (.inl i, _) :: r, n :: ns, e => by
    simp only [List.map_cons, List.cons.injEq, D.int.injEq] at e ⊢
    exact ⟨by rw [e.1], keys_ints e.2⟩
  | (.inr i, _) :: r, n :: ns, e => by simp at e
theorem cD_sorted (hc : X.calm = true) : CallR X (.builtin "sorted") (rFn X.K .sorted) := by
  refine cr_one (fun m d => match (keysD m d).bind intsD with | some ns => .ok (.lst ((sortI ns).map .int)) m | none => .bad) (fun _ _ => rfl) (fun m ds h => fnD_one (by decide) (by decide) (by decide) (by decide) h) ?_
  intro pins s σ H x us Q a m d I r st rd q
  replace q : Tr X.K a H (match (keysD m d).bind intsD with | some ns => .ok (.lst ((sortI ns).map .int)) m | none => .bad) Q := q
  cases hl : (keysD m d).bind intsD with
  | none => rw [hl] at q; exact False.elim q
  | some ns =>
    rw [hl] at q
    have done : ∀ ns' : List Int, ns'.Perm ns → ns'.Pairwise (· ≤ ·) → ns.length ≤ sizeLine → ∀ p, H p = none → Q (.ref p) (upd H p (.lst (ns'.map V.int))) := fun ns' h1 h2 hz p hp => by
      rw [sortI_eq h1 h2]
      exact q.lst st (RepVs.of_ints _) (by rw [List.length_map, (sortI_perm ns).length_eq]; exact hz) hp
    by_cases hd : (lstD m d).bind intsD = some ns
    · obtain ⟨p, rfl, hs, hz⟩ := ints_rep st rd hd
      exact cr_sortedI pins s σ H _ us Q I r ⟨p, ns, rfl, hs, fun ns' p' h1 h2 h3 => done ns' h1 h2 hz p' h3⟩
    · cases rd with
      | @ref k p h2 =>
        simp only [keysD] at hl
        split at hl
        · rename_i ds' h3
          exact absurd (by simp only [lstD, h3]; exact hl) hd
        · rename_i kvs h3
          obtain ⟨ho, g1, g2⟩ := st.at_ k p _ h2 h3
          cases g2 with
          | @dct _ ks hl' r2 =>
            have e := intsD_map (by simpa using hl)
            obtain ⟨u, rfl, rx⟩ := vals1 r
            cases rx
            have ek := keys_ints e
            have hz : ns.length ≤ sizeLine := by
              have := congrArg List.length ek
              simp only [List.length_map] at this
              omega
            exact sorted_dict_ints hc I (.inl g1) (by rw [r2.keys]; exact ek) fun ys p h1 h2 h3 => done ys h1 h2 hz p h3
        · cases hl
      | _ => exact absurd hl hd
/-! ### items -/
theorem atI_rep {K : PySem.W.Frag} {H : Hp} {a : Ad} {ds : List D} {xs : List V} {i : Int} {d : D} (r : RepVs K H a ds xs) (h : atI ds i = some d) : ∃ v, atI xs i = some v ∧ RepV K H a d v := by
  unfold atI at h ⊢
  rw [← r.length]
  obtain ⟨j, h1, h2⟩ := Option.bind_eq_some_iff.mp h
  obtain ⟨v, h3, h4⟩ := r.get h2
  exact ⟨v, by rw [h1]; exact h3, h4⟩
/-- not of a dict -/
def notDct (m : Mem) : D → Bool
  | .ref n => match m[n]? with
    | some (.dct _) => false
    | _ => true
  | _ => true
theorem strOk_one {s : Str} (h : PyData.strOk s = true) {i : Int} {c : Nat} (e : atI s.cps.toList i = some c) : PyData.strOk ⟨#[c]⟩ = true := by
  obtain ⟨j, h1, h2⟩ := Option.bind_eq_some_iff.mp e
  unfold PyData.strOk at h ⊢
  have hm := List.mem_of_getElem? h2
  rw [Array.all_eq_true'] at h
  have := h c (by simpa using hm)
  simpa using this
theorem ixD_seq : IxR X (fun x y H Q => ∃ a m d e, MRel X.K a m H ∧ RepV X.K H a d x ∧ RepV X.K H a e y ∧ notDct m d = true ∧ Tr X.K a H (optR (idxD m d e) m) Q) := by
  intro value slice pins s σ H x y v u Q I rx ry h hs
  obtain ⟨a, m, d, e, st, r1, r2, nd, q⟩ := h
  cases r1
  case str z hz =>
    cases r2 <;> first | exact False.elim q | skip
    rename_i i
    simp only [idxD] at q
    split at q
    · rename_i hb
      cases hc : atI z.cps.toList i with
      | none => rw [hc] at q; exact False.elim q
      | some c =>
        rw [hc] at q
        exact ix_str value slice pins s σ H _ _ v u Q I rx ry ⟨z, i, c, rfl, rfl, big_line hb, hc, q.val st (.str _ (strOk_one hz hc))⟩ hs
    · exact False.elim q
  case tup ds p xs h1 hl r =>
    cases r2 <;> first | exact False.elim q | skip
    rename_i i
    simp only [idxD, itemsD, Option.bind_some] at q
    cases hc : atI ds i with
    | none => rw [hc] at q; exact False.elim q
    | some c =>
      rw [hc] at q
      obtain ⟨w, h3, h4⟩ := atI_rep r hc
      exact ix_tup value slice pins s σ H _ _ v u Q I rx ry ⟨p, xs, i, w, rfl, rfl, h1.sq, h3, q.val st h4⟩ hs
  case lst ds p xs h1 hn hl r =>
    cases r2 <;> first | exact False.elim q | skip
    rename_i i
    simp only [idxD, itemsD, Option.bind_some] at q
    cases hc : atI ds i with
    | none => rw [hc] at q; exact False.elim q
    | some c =>
      rw [hc] at q
      obtain ⟨w, h3, h4⟩ := atI_rep r hc
      exact ix_list value slice pins s σ H _ _ v u Q I rx ry ⟨p, xs, i, w, rfl, rfl, SqL.of h1, h3, q.val st h4⟩ hs
  case scr ns p h1 hl =>
    cases r2 <;> first | exact False.elim q | skip
    rename_i i
    simp only [idxD, itemsD, Option.bind_some] at q
    cases hc : atI (ns.map D.int) i with
    | none => rw [hc] at q; exact False.elim q
    | some c =>
      rw [hc] at q
      obtain ⟨w, h3, h4⟩ := atI_rep (RepVs.of_ints ns) hc
      exact ix_list value slice pins s σ H _ _ v u Q I rx ry ⟨p, _, i, w, rfl, rfl, h1.sq, h3, q.val st h4⟩ hs
  case ref n p h1 =>
    simp only [notDct] at nd
    simp only [idxD] at q
    split at q
    · rename_i ds h2
      obtain ⟨ho, g1, g2⟩ := st.at_ n p _ h1 h2
      cases g2 with
      | @lst _ xs hl r =>
        cases r2 <;> first | exact False.elim q | skip
        rename_i i
        simp only at q
        cases hc : atI ds i with
        | none => rw [hc] at q; exact False.elim q
        | some c =>
          rw [hc] at q
          obtain ⟨w, h3, h4⟩ := atI_rep r hc
          exact ix_list value slice pins s σ H _ _ v u Q I rx ry ⟨p, xs, i, w, rfl, rfl, SqL.of g1, h3, q.val st h4⟩ hs
    · rename_i kvs h2
      rw [h2] at nd
      cases nd
    · exact False.elim q
  case non => cases r2 <;> exact False.elim q
  case bl => cases r2 <;> exact False.elim q
  case int => cases r2 <;> exact False.elim q
/-! ### slices -/
theorem cut_rep {K : PySem.W.Frag} {H : Hp} {a : Ad} {ds : List D} {xs : List V} (r : RepVs K H a ds xs) (lo hi : Option Int) : RepVs K H a (cutD ds lo hi) (cutV xs lo hi) := by
  unfold cutD cutV
  rw [← r.length]
  exact (r.drop _).take _
theorem cut_len {ds : List D} {lo hi : Option Int} : (cutD ds lo hi).length ≤ ds.length := by
  unfold cutD
  rw [List.length_take, List.length_drop]
  omega
theorem cut_all {ds : List D} {lo hi : Option Int} (h : HT.sIx ds.length 0 lo = 0 ∧ HT.sIx ds.length ds.length hi = ds.length) : cutD ds lo hi = ds := by
  unfold cutD
  rw [h.1, h.2]
  simp
theorem slD : SlR X (fun x lo hi H Q => ∃ a m d, MRel X.K a m H ∧ RepV X.K H a d x ∧ Tr X.K a H (optR (sliD m d lo hi) m) Q) := by
  intro pins s σ H x v vl vu lo hi sl Q I rx hs pl pu h
  obtain ⟨a, m, d, st, r1, q⟩ := h
  cases r1 <;> simp only [sliD] at q <;> first | exact False.elim q | skip
  case tup ds p xs h1 hl r =>
    refine sl_tupA pins s σ H _ v vl vu lo hi sl Q I rx hs pl pu ⟨p, xs, rfl, h1.sq, fun e => ?_, fun e z hz => q.tup st (cut_rep r lo hi) (Nat.le_trans cut_len hl) hz⟩
    rw [← r.length] at e
    rw [cut_all e] at q
    exact q.val st (.tup h1 hl r)
  case lst ds p xs h1 hn hl r =>
    exact sl_list pins s σ H _ v vl vu lo hi sl Q I rx hs pl pu ⟨p, xs, rfl, SqL.of h1, fun z hz => q.lst st (cut_rep r lo hi) (Nat.le_trans cut_len hl) hz⟩
  case ref n p h1 =>
    split at q
    · rename_i ds h2
      obtain ⟨ho, g1, g2⟩ := st.at_ n p _ h1 h2
      cases g2 with
      | @lst _ xs hl r =>
        exact sl_list pins s σ H _ v vl vu lo hi sl Q I rx hs pl pu ⟨p, xs, rfl, SqL.of g1, fun z hz => q.lst st (cut_rep r lo hi) (Nat.le_trans cut_len hl) hz⟩
    · exact False.elim q
/-! ### isinstance -/
def Ty.name : Ty → String
  | .int => "int"
  | .bool => "bool"
  | .str => "str"
  | .list => "list"
  | .tuple => "tuple"
/-- the built-in type of a thing -/
def tyName (m : Mem) : D → Option String
  | .non => some "NoneType"
  | .bl _ => some "bool"
  | .int _ => some "int"
  | .str _ => some "str"
  | .tup _ => some "tuple"
  | .lst _ => some "list"
  | .scr _ => some "list"
  | .ref n => match m[n]? with
    | some (.lst _) => some "list"
    | _ => none
theorem kitB_all : ∀ t : Ty, kitB "NoneType" t.name = some false ∧ kitB "bool" t.name = some (t == .bool || t == .int) ∧ kitB "int" t.name = some (t == .int) ∧ kitB "str" t.name = some (t == .str) ∧ kitB "tuple" t.name = some (t == .tuple) ∧ kitB "list" t.name = some (t == .list) := by
  intro t
  cases t <;> decide +kernel
theorem isTy_kit {K : PySem.W.Frag} {m : Mem} {d : D} {t : Ty} {n : String} {b : Bool} (h : tyName m d = some n) (e : isTy m d t = some b) : PySem.W.kitOne K (.type n) (.type t.name) = some b := by
  obtain ⟨k1, k2, k3, k4, k5, k6⟩ := kitB_all t
  refine kit_ty ?_
  cases d <;> simp only [tyName, isTy] at h e
  case ref k =>
    split at h
    · rename_i ds h2
      rw [h2] at e
      cases h
      rw [k6, ← e]
    · cases h
  all_goals (cases h; rw [← e]; assumption)
theorem tyX_of {K : PySem.W.Frag} {H : Hp} {a : Ad} {m : Mem} (st : MRel K a m H) {d : D} {x : V} {n : String} (r : RepV K H a d x) (h : tyName m d = some n) : TyX K H x (.type n) := by
  cases r <;> simp only [tyName] at h
  case non => cases h; exact .base .non
  case bl b => cases h; exact .base (.bl b)
  case int b => cases h; exact .base (.int b)
  case str b _ => cases h; exact .base (.str b)
  case tup ds p xs h1 hl r =>
    cases h
    rcases h1 with ⟨h1 | ⟨o, h1⟩, _⟩ | ⟨o, its, n, h1, h2, _⟩
    · exact .base (.tup h1)
    · exact .fTuple h1
    · exact .kTuple h1 h2
  case lst ds p xs h1 hn hl r => cases h; exact .base (.lst h1)
  case scr ns p h1 hl =>
    cases h
    rcases h1 with ⟨h1 | ⟨o, h1⟩, _⟩ | ⟨o, its, n, h1, h2, _⟩
    · exact .base (.lst h1)
    · exact .base (.frz h1)
    · exact .kList h1 h2
  case ref k p h1 =>
    split at h
    · rename_i ds h2
      cases h
      obtain ⟨ho, g1, g2⟩ := st.at_ k p _ h1 h2
      cases g2 with
      | lst hl r => exact .base (.lst g1)
    · cases h
theorem anyTy_name {m : Mem} {d : D} : ∀ {ts : List Ty} {b : Bool}, ts ≠ [] → anyTy m d ts = some b → ∃ n, tyName m d = some n
  | [], _, h, _ => absurd rfl h
  | t :: r, b, _, e => by
    simp only [anyTy] at e
    cases d <;> first | exact ⟨_, rfl⟩ | skip
    rename_i k
    simp only [isTy] at e
    simp only [tyName]
    cases hk : m[k]? with
    | none => rw [hk] at e; simp at e
    | some o =>
      rw [hk] at e
      cases o <;> first | exact ⟨_, rfl⟩ | (simp at e)
theorem anyTy_kit {K : PySem.W.Frag} {m : Mem} {d : D} {n : String} (h : tyName m d = some n) : ∀ {ts : List Ty} {b : Bool}, anyTy m d ts = some b → PySem.W.kitAny K (.type n) (ts.map fun t => .type t.name) = some b
  | [], b, e => e
  | t :: r, b, e => by
    simp only [anyTy] at e
    split at e
    · rename_i b1 b2 e1 e2
      refine kitAny_cons (isTy_kit h e1) (fun z => ?_) (fun z => ?_)
      · rw [z, Bool.false_or] at e
        rw [← e]
        exact anyTy_kit h e2
      · rw [z, Bool.true_or] at e
        exact (Option.some.inj e).symm
    · cases e
end
end Br


set_option autoImplicit false
namespace Br
open PySem PySem.Spec PyProof.Rows L2
variable [LamTab] [LamCl] [ExC]
theorem strOk_of (s : String) : PyData.strOk (Str.ofString s) = true := by
  rw [Str.ofString_eq_toList]
  unfold PyData.strOk
  simp only [List.all_toArray, List.all_map, List.all_eq_true, Function.comp_apply, decide_eq_true_eq]
  intro c _
  have h := c.valid
  unfold Char.toNat
  rcases h with h | h
  · exact Nat.lt_trans h (by decide)
  · exact h.2
theorem strOk_int (i : Int) : PyData.strOk (toString i : Str) = true := strOk_of _
theorem cD_str {X : Cx} : CallR X (.type "str") (rFn X.K .str) := by
  intro pins s σ H xs us Q I r h
  obtain ⟨a, m, ds, st, rr, q⟩ := h
  replace q : Tr X.K a H (fnD m .str ds) Q := q
  match ds, q, rr with
  | [.int i], q, rr =>
    cases rr with
    | cons h t =>
      cases t
      cases h
      simp only [fnD] at q
      split at q
      · rename_i hz
        exact call_str_int pins s σ H _ us Q I r ⟨i, rfl, hz, q.val st (.str _ (strOk_int i))⟩
      · exact False.elim q
theorem pairs_rep {K : PySem.W.Frag} {H : Hp} {a : Ad} : ∀ {ds : List D} {xs : List V} {ps : List (Key × D)}, RepVs K H a ds xs → pairsD ds = some ps →
    ∃ (qs : List Addr) (kvs : List (Key × V)), xs = qs.map V.ref ∧ Paired (fun p kv => SqT K H p [kV kv.1, kv.2]) qs kvs ∧ RepK K H a ps kvs
  | _, _, _, .nil, e => by
    simp only [pairsD, Option.some.injEq] at e
    subst e
    exact ⟨[], [], rfl, .nil, .nil⟩
  | d :: ds, _, ps, .cons h t, e => by
    cases h <;> first | (simp [pairsD] at e; done) | skip
    rename_i es p ys h1 hl r
    match es, e, r with
    | [x, y], e, r =>
      simp only [pairsD] at e
      split at e
      · rename_i k q e1 e2
        cases e
        obtain ⟨v, w, rfl, r1, r2⟩ := two_of r
        obtain ⟨qs, kvs, g1, g2, g3⟩ := pairs_rep t e2
        have ek := key_rep r1 e1
        subst ek
        exact ⟨p :: qs, (k, w) :: kvs, by rw [g1]; rfl, .cons h1.sq g2, .cons r2 g3⟩
      · cases e
    | [], e, r => simp [pairsD] at e
    | [_], e, r => simp [pairsD] at e
    | _ :: _ :: _ :: _, e, r => simp [pairsD] at e
theorem merge_rep {K : PySem.W.Frag} {H : Hp} {a : Ad} : ∀ {ps : List (Key × D)} {kvs : List (Key × V)} {b : List (Key × D)} {c : List (Key × V)}, RepK K H a ps kvs → RepK K H a b c → RepK K H a (ps.foldl (fun a p => putK a p.1 p.2) b) (L2.mergeK c kvs)
  | _, _, _, _, .nil, r => r
  | _, _, b, c, .cons (k := k) (d := d) (v := v) (r := r) (q := q) h t, z => by
    show RepK K H a (r.foldl (fun a p => putK a p.1 p.2) (putK b k d)) (L2.mergeK (L2.putK c k v) q)
    exact merge_rep t (put_rep k h z)
theorem Tr.new {K : PySem.W.Frag} {H : Hp} {a : Ad} {m : Mem} {o : O} {ho : HO} {Q : VK} (st : MRel K a m H) (h : Tr K a H (.ok (.ref m.length) (m ++ [o])) Q) {p : Addr} (r : RepO K H a p o ho) (hp : H p = none) : Q (.ref p) (upd H p ho) := by
  obtain ⟨h1, h2⟩ := st.push hp r
  refine h _ _ _ h2 h1 (.ref ?_)
  show (a.st ++ [p])[m.length]? = some p
  rw [← st.len, List.getElem?_append_right (Nat.le_refl _)]
  simp
theorem cD_dict {X : Cx} (hc : X.calm = true) : CallR X (.type "dict") (rFn X.K .dict) := by
  refine cr_one (fun m d => match (lstD m d).bind pairsD with | some ps => .ok (.ref m.length) (m ++ [.dct (ps.foldl (fun a p => putK a p.1 p.2) [])]) | none => .bad) (fun _ _ => rfl) (fun m ds h => fnD_one (by decide) (by decide) (by decide) (by decide) h) ?_
  intro pins s σ H x us Q a m d I r st rd q
  replace q : Tr X.K a H (match (lstD m d).bind pairsD with | some ps => .ok (.ref m.length) (m ++ [.dct (ps.foldl (fun a p => putK a p.1 p.2) [])]) | none => .bad) Q := q
  cases hl : (lstD m d).bind pairsD with
  | none => rw [hl] at q; exact False.elim q
  | some ps =>
    rw [hl] at q
    obtain ⟨ds, h1, h2⟩ := Option.bind_eq_some_iff.mp hl
    have key : ∀ (p : Addr) (xs : List V), x = .ref p → SqL X.K H p xs → RepVs X.K H a ds xs → ds.length ≤ sizeLine → wpAny (model X.prog X.w) X.A (call (.type "dict") us) (EP X pins σ Q) X.xe s := fun p xs ex hs r2 hz => by
      subst ex
      obtain ⟨qs, kvs, g1, g2, g3⟩ := pairs_rep r2 h2
      subst g1
      refine call_dictP hc pins s σ H _ us Q I r ⟨p, qs, kvs, rfl, hs, g2, fun z hz' => ?_⟩
      have r3 := merge_rep g3 (.nil (K := X.K) (H := H) (a := a))
      refine Tr.new st q (.dct ?_ r3) hz'
      have e1 := length_mergeK kvs []
      have e2 := r3.length
      have e3 := g3.length
      have e4 := r2.length
      have e5 := Paired.length g2
      simp only [List.length_map, List.length_nil] at *
      omega
    cases rd <;> simp only [lstD] at h1 <;> first | (cases h1; done) | skip
    case lst ds' p xs h3 hn hz r2 => cases h1; exact key p xs rfl (SqL.of h3) r2 hz
    case scr ns p h3 hz => cases h1; exact key p _ rfl h3.sq (RepVs.of_ints ns) (by rw [List.length_map]; exact hz)
    case ref k p h3 =>
      split at h1
      · rename_i ds' h4
        cases h1
        obtain ⟨ho, g1, g2⟩ := st.at_ k p _ h3 h4
        cases g2 with
        | lst hz r2 => exact key p _ rfl (SqL.of g1) r2 hz
      · cases h1
end Br


set_option Elab.async false
set_option linter.all false
set_option autoImplicit false
set_option maxRecDepth 100000
namespace Br
open PySem PySem.Spec PyProof.Rows L2
variable [LamTab] [LamCl] [ExC]
/-- the set that is begun -/
abbrev set0 (w : World) : Obj := { cls := .type "set", dict := none, data := .set #[] 0 (.fresh 0 0 (!w.params.followText "set-order")) }
section
variable {P : Program} {w : World} {A : Around} {E : Value → Shared → Prop} {s : Shared}
set_option maxHeartbeats 3200000 in
/-- set(xs), xs a list of ints: what it holds, and that it can be put in order -/
theorem set_of_ints {l : Addr} {items : Array Value} (ns : List Int) {Q : Value → Shared → Prop} (hh : A.handled = none) (hl : s.heap.IsList l items) (hit : IntsAre items.toList ns) (hb : ns.length + 1 < scanBound)
    (h : ∀ (h' : Heap) (tk c : Nat), SetR w h' s.heap.objs.size (fun j => decide (j ∈ ns)) c → c ≤ ns.length → (∀ b o, s.heap.get? b = some o → h'.get? b = some o) → Q (.ref s.heap.objs.size) { s with heap := h', toks := tk }) :
    wpAny (model P w) A (call (.type "set") [.ref l]) Q E s := by
  have hn : items.size = ns.length := by simpa using IntsAre.length hit
  obtain ⟨c, tl, hmro⟩ := F.called_set.mro
  have k1 := F.called_set.made
  have k2 := F.called_set.sub
  have k3 := F.called_set.notType
  have k4 := F.called_set.canCreate
  have k5 := F.typeCall_set_1 (.ref l)
  refine wpAny_call (codeAny_of_tree ?_)
  show wpAny _ _ (callAny (.type "set") _) _ _ _
  refine wpAny_pure ⟨Code.quiet_builtin _ (by decide +kernel), codeAny_builtin F.entry_type_call ?_⟩
  rw [Around.under_plain (weight_type_call_type "set" [.ref l] []) rfl]
  repeat (any_goals (first | assumption | wp_step))
  refine codeAny_mono (code_set_led1 (.ref l) (E := E) (Q₁ := fun x s₁ => x = .ref s.heap.objs.size ∧ s₁ = { s with heap := s.heap.push (set0 w) }) ⟨rfl, rfl⟩) fun r s₁ hr => ?_
  match r, hr with
  | .error e, hr => exact hr
  | .ok .next, hr => exact hr.elim
  | .ok .brk, hr => exact hr.elim
  | .ok .cont, hr => exact hr.elim
  | .ok (.ret x), hr =>
    obtain ⟨rfl, rfl⟩ := hr
    have g0 : (s.heap.push (set0 w)).get? s.heap.objs.size = some (set0 w) := Heap.get?_push_size _ rfl
    have gT : Shared.TypeIs { s with heap := s.heap.push (set0 w) } (.ref s.heap.objs.size) "set" := ⟨_, g0, rfl⟩
    have k6 := F.called_set.init.lookup
    have k7 := F.called_set.init.bind (.ref s.heap.objs.size)
    repeat (any_goals (first | assumption | wp_step))
    refine codeAny_mono (codeAny_call_builtin (R := wants (fun v s₂ => v = .none ∧ ∃ h' tk c, s₂ = { s with heap := h', toks := tk } ∧ SetR w h' s.heap.objs.size (fun j => decide (j ∈ ns)) c ∧ c ≤ ns.length ∧
        (∀ b o, s.heap.get? b = some o → h'.get? b = some o)) E) F.called_set.init.plain F.entry_set_init (check_set_init_1 gT ?_)) fun r₂ s₂ hr₂ => ?_
    · obtain ⟨⟨ocls, odict, odata, oslots⟩, hol, hcl, nl, hdl⟩ := hl
      simp only at hcl hdl
      subst hcl hdl
      have gl : (s.heap.push (set0 w)).get? l = some { cls := .type "list", dict := odict, data := .seq items nl, slots := oslots } := Heap.get?_push_of_some _ hol
      have k8 := F.sub_list_set
      have k9 := F.sub_list_frozenset
      have kd : (Value.type "list" == Value.type "dict") = false := by decide
      have gL : (s.heap.push (set0 w)).IsList l items := ⟨_, gl, rfl, nl, rfl⟩
      unfold Builtin.«set.__init__» noKeywords Builtin.Frozenset.updateFrom
      generalize hPI : pyIter = PI
      wp_walk
      subst hPI
      refine wpAny_pyIter_list gL (wpAny_bind (wpAny_runValue ?_))
      have lt : l < s.heap.objs.size := Heap.lt_size hol
      have sz : (s.heap.push (set0 w)).objs.size = s.heap.objs.size + 1 := Heap.size_push ..
      have hh3 : A.in1.in1.in1.handled = none := by simp [hh]
      have n1 : l ≠ (s.heap.push (set0 w)).objs.size := by rw [sz]; exact Nat.ne_of_lt (Nat.lt_succ_of_lt lt)
      have n2 : s.heap.objs.size ∉ [(s.heap.push (set0 w)).objs.size, l] := by
        simp only [List.mem_cons, List.not_mem_nil, or_false, not_or]
        exact ⟨by rw [sz]; exact Nat.ne_of_lt (Nat.lt_succ_self _), Nat.ne_of_gt lt⟩
      have hval : ∀ (i : Nat) (v : Value), items[i]? = some v → ∃ k t, ns[i]? = some k ∧ v = .int k t := fun i v hv => by
        have hi : i < ns.length := by rw [← hn]; exact (Array.getElem?_eq_some_iff.mp hv).1
        obtain ⟨t, e⟩ := PyProof.Rows.IntsAre.int_at hit i v (by rw [Array.getElem?_toList]; exact hv)
        exact ⟨ns[i], t, List.getElem?_eq_getElem hi, by rw [e, List.getD_eq_getElem?_getD, List.getElem?_eq_getElem hi]; rfl⟩
      refine set_update_ints ((PySem.Walks.list hh3 _ l n1 items).toS) s.heap.objs.size n2 ns hn hb hval (items.size - 0) 0 _ (by omega) (Nat.zero_le _) ⟨⟨_, Heap.get?_push_size _ rfl, rfl, rfl⟩, gL.push _⟩
        ⟨0, Nat.le_refl 0, setR_new_at (Heap.get?_push_of_some _ g0)⟩ fun s' c' hm hc' hS' => ?_
      obtain ⟨h', g2, d', tk', os'⟩ := s'
      obtain rfl : g2 = s.gens := hm.gens
      obtain rfl : d' = s.drawn := hm.drawn
      obtain rfl : os' = s.os := hm.os
      show wpAny _ _ _ _ _ _
      refine wpAny_pure ?_
      show wpAny _ _ (ret Value.none) _ _ _
      refine wpAny_pure ⟨rfl, h', tk', c', rfl, hS', by rw [hn] at hc'; exact hc', fun b o e => ?_⟩
      have hb0 : b < s.heap.objs.size := Heap.lt_size e
      refine hm.heap b o ?_ (Heap.get?_push_of_some _ (Heap.get?_push_of_some _ e))
      simp only [List.mem_cons, List.not_mem_nil, or_false, not_or]
      exact ⟨Nat.ne_of_lt hb0, by rw [sz]; exact Nat.ne_of_lt (Nat.lt_succ_of_lt hb0)⟩
    · match r₂, hr₂ with
      | .error e, hr₂ => exact hr₂
      | .ok .next, hr₂ => exact hr₂.elim
      | .ok .brk, hr₂ => exact hr₂.elim
      | .ok .cont, hr₂ => exact hr₂.elim
      | .ok (.ret v), hr₂ =>
        obtain ⟨rfl, h', tk, c, rfl, hS', hc', hk'⟩ := hr₂
        repeat (any_goals (first | assumption | wp_step))
        exact h _ _ _ hS' hc' hk'
end
section
variable {P : Program} {w : World} {A : Around} {E : Value → Shared → Prop} {s : Shared}
/-- sorted(s), s a set of ints, any number of them -/
theorem sorted_set_any {a : Addr} {S : Int → Bool} {n : Nat} {Q : Value → Shared → Prop} (R : SetR w s.heap a S n) (hh : A.handled = none) (hz : n ≤ 4000)
    (done : ∀ (s2 : Shared) (p : Addr) (out : Array Value) (c : Nat) (ys : List Int), (∀ b o, s.heap.get? b = some o → s2.heap.get? b = some o) → s2.gens = s.gens → s2.os = s.os → s.heap.objs.size ≤ p →
      s2.heap.get? p = some (seqObj "list" out c) → IntsAre out.toList ys → ys.Pairwise (· < ·) → (∀ k, k ∈ ys ↔ S k = true) → ys.length = n → Q (.ref p) s2) :
    wpAny (model P w) A (call (.builtin "sorted") [.ref a]) Q E s := by
  obtain ⟨so, es, ep, t, e1, e2, e3, e4, e5, e6, e7, e8, e9, e10, e11⟩ := R
  refine Calls.call_function_entry PyProof.Rows.kind_sorted PyProof.Rows.plain_sorted PyProof.Rows.entry_sorted (PyProof.Rows.args_sorted1 _) ?_
  unfold Builtin.«sorted»
  refine wpAny_bind (m := checkCount "sorted" 1 1 _) (wpAny_pure ?_)
  refine wpAny_bind (collect_set (A := A.in1) hh ⟨so, e1, e2.1, e3⟩ e8 e7 e10 e11 fun s1 got kk hz1 g1 o1 perm => ?_)
  have gl : got.length = n := by rw [perm.length_eq, List.length_map, Array.length_toList]; exact e9
  have gi : IntsAre got (got.map Builtin.Re.reRawOf) := ints_of got fun v hv => by
    obtain ⟨x, hx, q⟩ := List.mem_map.mp (perm.mem_iff.mp hv)
    obtain ⟨k, tk, h1, _⟩ := e4 x hx
    exact ⟨k, tk, q ▸ h1⟩
  have kp : (got.map Builtin.Re.reRawOf).Perm (es.toList.map keyOf) := by
    have q := perm.map Builtin.Re.reRawOf
    rw [List.map_map] at q
    exact q
  have gz : got.length ≤ sizeLine := by rw [gl, sizeLine_eq]; omega
  refine wpAny_bind (wpAny_newList ?_ gz)
  have at1 : (s1.heap.push (seqObj "list" got.toArray 0)).get? s1.heap.objs.size = some (seqObj "list" got.toArray 0) := Heap.get?_push_size _ rfl
  refine wpAny_bind (wpAny_holding (wpAny_call_entry PyProof.Rows.slot_list_sort ⟨_, at1, rfl⟩ PyProof.Rows.entry_list_sort
    (SrtO.list_sort_ord (s := { s1 with heap := s1.heap.push (seqObj "list" got.toArray 0) }) SrtO.swo_int at1 gz (fun h2 => SrtO.ints_sortable gi h2) fun out f1 f2 => ⟨_, rfl, ?_⟩) (PyProof.Rows.args_list_sort _)))
  obtain ⟨k1, k2, k3⟩ := SrtO.ints_out gi f1 f2
  obtain ⟨c', hc'⟩ := PyProof.Rows.sortedHeap_at (vs := got) (out := out.toArray) at1
  have pn : (out.map SrtO.iv).Perm (es.toList.map keyOf) := k2.trans kp
  refine wpAny_pure ⟨_, rfl, done _ s1.heap.objs.size out.toArray c' (out.map SrtO.iv) (fun b u e => ?_) g1 o1 hz1 hc' (by simpa using k1) (lt_of_le_nodup _ k3 (pn.nodup_iff.mpr e5)) (fun k => by rw [pn.mem_iff, ← e6 k]) ?_⟩
  · have q := kk b u e
    have hb : b < s1.heap.objs.size := Heap.lt_size q
    show (PyProof.Rows.sortedHeap (s1.heap.push (seqObj "list" got.toArray 0)) s1.heap.objs.size got out.toArray).get? b = some u
    rw [PyProof.Rows.sortedHeap_old (Nat.ne_of_lt hb) (by rw [size_push']; exact Nat.lt_succ_of_lt hb)]
    exact Heap.get?_push_of_some _ q
  · rw [pn.length_eq, List.length_map, Array.length_toList]
    exact e9
end
section
variable {X : Cx}
def rSortSet (w : World) : List V → Hp → VK → Prop := fun vs H Q => ∃ (a : Addr) (S : Int → Bool) (n : Nat), vs = [V.ref a] ∧ H a = some (SetO w a S n) ∧ n ≤ 4000 ∧
  ∀ (ns : List Int) (p : Addr), ns.Pairwise (· < ·) → (∀ k : Int, k ∈ ns ↔ S k = true) → ns.length = n → H p = none → Q (.ref p) (upd H p (.lst (ns.map V.int)))
theorem cr_sortSet (hc : X.calm = true) : CallR X (.builtin "sorted") (rSortSet X.w) := by
  intro pins s σ H vs us Q I r h
  obtain ⟨a, S, n, rfl, ha, hz, q⟩ := h
  rw [Vals.ref1 r]
  refine sorted_set_any (setO_get I ha) (I.ok.hd hc) hz fun s2 p out c ys k g o hp hg hi hs hm hl => ?_
  have hn : H p = none := I.hok.fresh hp
  have hy : (ys.map V.int).length ≤ sizeLine := by rw [List.length_map, hl, sizeLine_eq]; omega
  obtain ⟨h2, g2, d2, t2, o2⟩ := s2
  obtain rfl : o2 = s.os := o
  exact ⟨.ref p, upd H p (.lst (ys.map V.int)), I.call (ch := []) (Un.laid k hp hn) (I.hok.laid k hp ⟨hy, out.toList, c, vals_of_ints hi, hg⟩) (by rw [show g2 = s.gens from g]; exact I.bare) (fun _ z => nomatch z), rfl, q ys p hs hm hl hn⟩
end
section
variable {X : Cx}
/-- set(xs) -/
def rSetI (K : PySem.W.Frag) (w : World) : List V → Hp → VK → Prop := fun xs H Q => ∃ (a : Addr) (ns : List Int), xs = [.ref a] ∧ SqL K H a (ns.map V.int) ∧ ns.length ≤ 4000 ∧ ∀ p c, H p = none → c ≤ ns.length → Q (.ref p) (upd H p (SetO w p (fun j => decide (j ∈ ns)) c))
theorem cr_setI (hc : X.calm = true) : CallR X (.type "set") (rSetI X.K X.w) := by
  intro pins s σ H xs us Q I r h
  obtain ⟨a, ns, rfl, hs, hz, q⟩ := h
  rw [Vals.ref1 r]
  obtain ⟨its, rv, hl, _⟩ := I.list hs
  refine set_of_ints ns (I.ok.hd hc) hl.isList (by simpa using rv.ints) (by unfold scanBound; omega) fun h' tk c R hcn k => ?_
  have hn : H s.heap.objs.size = none := I.hok.fresh (Nat.le_refl _)
  exact ⟨.ref _, _, I.laid (t' := tk) k (Nat.le_refl _) (setO_new R), rfl, q _ c hn hcn⟩
end
theorem dedI_nodup : ∀ ns : List Int, (dedI ns).Nodup ∧ ∀ k, k ∈ dedI ns ↔ k ∈ ns
  | [] => ⟨by simp [dedI], by simp [dedI]⟩
  | a :: r => by
    obtain ⟨h1, h2⟩ := dedI_nodup r
    simp only [dedI]
    split
    · rename_i ha
      exact ⟨h1, fun k => by rw [h2]; simp; intro e; rw [e]; exact ha⟩
    · rename_i ha
      exact ⟨List.nodup_cons.mpr ⟨fun z => ha ((h2 a).mp z), h1⟩, fun k => by simp [h2]⟩
theorem ded_len : ∀ ns : List Int, (dedI ns).length ≤ ns.length
  | [] => Nat.le_refl _
  | a :: r => by
    have := ded_len r
    simp only [dedI]
    split
    · simp; omega
    · simp; omega
theorem sortDed_eq {ns ms : List Int} (h1 : ms.Pairwise (· < ·)) (h2 : ∀ k : Int, k ∈ ms ↔ k ∈ ns) : ms = sortI (dedI ns) := by
  obtain ⟨d1, d2⟩ := dedI_nodup ns
  have nd : ms.Nodup := h1.imp (fun h => Int.ne_of_lt h)
  refine sortI_eq ?_ (h1.imp (fun h => Int.le_of_lt h))
  exact (List.perm_ext_iff_of_nodup nd d1).mpr fun k => by rw [h2, d2]
/-- sorted(set(xs)) -/
theorem pe_sset {X : Cx} {ta : TA} {e : Expr} {p q r s : Pos} (hc : X.calm = true) (h1 : X.mg "sorted" = none) (h2 : X.mg "set" = none) (g1 : Gl X "sorted") (g2 : Gl X "set") (hs : starEach [e] X.env = (false, eval e X.env) :: starEach [] X.env) (h : PA X [e] ta) :
    PE X (.Call (.Name "sorted" p) [.Call (.Name "set" q) [e] [] r] [] s) (tCB (rSortSet X.w) (tCons (tCB (rSetI X.K X.w) ta) tNil)) :=
  pe_callB (cr_sortSet hc) g1 h1 PyProof.Rows.boot_sorted (pa_cons (pe_callTy (cr_setI hc) g2 h2 PyProof.Rows.boot_set h (by decide) (by decide) hs rfl) pa_nil)
theorem sset_read {K : PySem.W.Frag} {w : World} {H : Hp} {a : Ad} {m : Mem} {ds : List D} {xs : List V} {Q : VK} (st : MRel K a m H) (r : RepVs K H a ds xs) (q : Tr K a H (fnD m .sortedSet ds) Q) :
    rSetI K w xs H fun v H1 => rSortSet w [v] H1 Q := by
  by_cases h1 : ds.length = 1
  · obtain ⟨d, x, rfl, rfl, rd⟩ := one_of r h1
    replace q : Tr K a H (match (lstD m d).bind intsD with | some ns => if ns.length ≤ 4000 then .ok (.lst ((sortI (dedI ns)).map .int)) m else .bad | none => .bad) Q := q
    cases hl : (lstD m d).bind intsD with
    | none => rw [hl] at q; exact False.elim q
    | some ns =>
      rw [hl] at q
      simp only at q
      split at q
      · rename_i hz
        obtain ⟨p, rfl, hs, _⟩ := ints_rep st rd hl
        refine ⟨p, ns, rfl, hs, hz, fun z c hz' hc => ⟨z, _, c, rfl, upd_same, by omega, fun ns' y g1 g2 _ hy => ?_⟩⟩
        have hy0 := upd_no hy
        rw [sortDed_eq (ns := ns) g1 (fun k => by rw [g2]; simp)]
        have e1 : Ext a H a (upd H z (SetO w z (fun j => decide (j ∈ ns)) c)) := Ext.new hz'
        exact Tr.lst (st.fresh hz') (Tr.mono q e1) (RepVs.of_ints _) (by rw [List.length_map, (sortI_perm _).length_eq]; exact Nat.le_trans (ded_len ns) (Nat.le_trans hz (by decide))) hy
      · exact False.elim q
  · rw [show fnD m .sortedSet ds = .bad from fnD_one (by decide) (by decide) (by decide) (by decide) h1] at q
    exact False.elim q
/-! ### sorted(set(tuples)) -/
theorem lexQ_asym : ∀ {a b : List Int}, HT.lexLt a b = true → HT.lexLt b a = false
  | [], [], h => by cases h
  | [], _ :: _, _ => rfl
  | _ :: _, [], h => by cases h
  | x :: a, y :: b, h => by
    rw [HT.lexLt_cons] at h ⊢
    by_cases e : x = y
    · rw [if_pos e] at h
      rw [if_pos e.symm]
      exact lexQ_asym h
    · rw [if_neg e] at h
      rw [if_neg (fun z => e z.symm)]
      simp at h ⊢
      omega
theorem lexQ_tr : ∀ {a b c : List Int}, HT.lexLt b a = false → HT.lexLt c b = false → HT.lexLt c a = false
  | [], [], c, _, h => h
  | [], _ :: _, [], _, _ => rfl
  | [], _ :: _, _ :: _, h, _ => rfl
  | _ :: _, [], _, h, _ => by cases h
  | _ :: _, _ :: _, [], _, h => by cases h
  | x :: a, y :: b, z :: c, h1, h2 => by
    rw [HT.lexLt_cons] at h1 h2 ⊢
    by_cases e1 : y = x
    · subst e1
      rw [if_pos rfl] at h1
      by_cases e2 : z = y
      · subst e2
        rw [if_pos rfl] at h2 ⊢
        exact lexQ_tr h1 h2
      · rw [if_neg e2] at h2 ⊢
        exact h2
    · rw [if_neg e1] at h1
      simp at h1
      by_cases e2 : z = y
      · subst e2
        rw [if_neg e1]
        simp
        omega
      · rw [if_neg e2] at h2
        simp at h2
        rw [if_neg (by omega)]
        simp
        omega
theorem lexQ_tot : ∀ {a b : List Int}, a.length = b.length → HT.lexLt a b = false → HT.lexLt b a = false → a = b
  | [], [], _, _, _ => rfl
  | [], _ :: _, h, _, _ => by cases h
  | _ :: _, [], h, _, _ => by cases h
  | x :: a, y :: b, h, h1, h2 => by
    rw [HT.lexLt_cons] at h1 h2
    by_cases e : x = y
    · subst e
      rw [if_pos rfl] at h1 h2
      rw [lexQ_tot (by simpa using h) h1 h2]
    · rw [if_neg e] at h1
      rw [if_neg (fun z => e z.symm)] at h2
      simp at h1 h2
      omega
theorem lexQ_eq : ∀ {a b : List (List Int)}, a.Pairwise (fun x y => HT.lexLt x y = true) → b.Pairwise (fun x y => HT.lexLt x y = true) → (∀ x, x ∈ a ↔ x ∈ b) → a = b
  | [], [], _, _, _ => rfl
  | [], y :: b, _, _, h => by have := (h y).mpr (by simp); cases this
  | x :: a, [], _, _, h => by have := (h x).mp (by simp); cases this
  | x :: a, y :: b, ha, hb, h => by
    rw [List.pairwise_cons] at ha hb
    have e : x = y := by
      have h1 := (h x).mp (by simp)
      have h2 := (h y).mpr (by simp)
      rcases List.mem_cons.mp h1 with z | z
      · exact z
      · rcases List.mem_cons.mp h2 with w | w
        · exact w.symm
        · have q1 := hb.1 x z
          have q2 := ha.1 y w
          rw [lexQ_asym q1] at q2
          cases q2
    subst e
    rw [lexQ_eq ha.2 hb.2 fun z => ⟨fun hz => ?_, fun hz => ?_⟩]
    · rcases List.mem_cons.mp ((h z).mp (List.mem_cons_of_mem _ hz)) with w | w
      · have q1 := ha.1 z hz
        rw [w] at q1
        have := lexQ_asym q1
        rw [q1] at this
        cases this
      · exact w
    · rcases List.mem_cons.mp ((h z).mpr (List.mem_cons_of_mem _ hz)) with w | w
      · have q1 := hb.1 z hz
        rw [w] at q1
        have := lexQ_asym q1
        rw [q1] at this
        cases this
      · exact w
theorem dedT_nodup : ∀ ns : List (List Int), (dedT ns).Nodup ∧ ∀ k, k ∈ dedT ns ↔ k ∈ ns
  | [] => ⟨by simp [dedT], by simp [dedT]⟩
  | a :: r => by
    obtain ⟨h1, h2⟩ := dedT_nodup r
    simp only [dedT]
    split
    · rename_i ha
      exact ⟨h1, fun k => by rw [h2]; simp; intro e; rw [e]; exact ha⟩
    · rename_i ha
      exact ⟨List.nodup_cons.mpr ⟨fun z => ha ((h2 a).mp z), h1⟩, fun k => by simp [h2]⟩
theorem strictQ {l : List (List Int)} {d : Nat} (hl : ∀ x ∈ l, x.length = d) (hn : l.Nodup) (hp : l.Pairwise fun x y => HT.lexLt y x = false) : l.Pairwise fun x y => HT.lexLt x y = true := by
  refine (List.Pairwise.and_mem.mp (hp.and hn)).imp fun {x y} ⟨hx, hy, h1, h2⟩ => ?_
  cases e : HT.lexLt x y with
  | true => rfl
  | false => exact absurd (lexQ_tot (by rw [hl x hx, hl y hy]) e h1) h2
theorem sortT_strict {l : List (List Int)} {d : Nat} (hl : ∀ x ∈ l, x.length = d) : (sortT (dedT l)).Pairwise (fun x y => HT.lexLt x y = true) ∧ ∀ x, x ∈ sortT (dedT l) ↔ x ∈ l := by
  have hm : ∀ x, x ∈ sortT (dedT l) ↔ x ∈ l := fun x => by
    unfold sortT
    rw [List.mem_mergeSort]
    exact (dedT_nodup l).2 x
  refine ⟨strictQ (d := d) (fun x hx => hl x ((hm x).mp hx)) ((List.mergeSort_perm _ _).nodup_iff.mpr (dedT_nodup l).1) ?_, hm⟩
  have := List.pairwise_mergeSort (le := fun a b : List Int => !HT.lexLt b a) (fun a b c h1 h2 => by
    simp only [Bool.not_eq_true'] at h1 h2 ⊢
    exact lexQ_tr h1 h2) (fun a b => by
    cases e : HT.lexLt b a with
    | false => rfl
    | true => rw [lexQ_asym e]; rfl) (dedT l)
  exact this.imp fun h => by simpa using h
theorem code_lexQ {B : Int} : ∀ {a b : List Int}, a.length = b.length → TS.Bd B a → TS.Bd B b → HT.lexLt a b = true → TS.code B a < TS.code B b
  | [], [], _, _, _, h => by cases h
  | [], _ :: _, h, _, _, _ => by cases h
  | _ :: _, [], h, _, _, _ => by cases h
  | x :: a, y :: b, hl, ha, hb, h => by
    rw [HT.lexLt_cons] at h
    have hl2 : a.length = b.length := by simpa using hl
    by_cases e : x = y
    · subst e
      rw [if_pos rfl] at h
      exact (TS.code_same hl2).mpr (code_lexQ hl2 ha.tail hb.tail h)
    · rw [if_neg e] at h
      exact TS.code_lt hl2 ha.tail hb.tail (by simpa using h)
/-- tuples of ints, each where it stands -/
theorem tups_rep {K : PySem.W.Frag} {H : Hp} {a : Ad} : ∀ {ds : List D} {xs : List V} {l : List (List Int)}, RepVs K H a ds xs → tupsD ds = some l → ∃ ks : List (Addr × List Int), xs = (ks.map fun p => V.ref p.1) ∧ ks.map (·.2) = l ∧ ∀ p ∈ ks, TT K H a p.1 (p.2.map V.int) ∧ p.2.length ≤ sizeLine
  | _, _, l, .nil, h => by
    simp only [tupsD, Option.some.injEq] at h
    exact ⟨[], rfl, h, fun p hp => by cases hp⟩
  | _ :: _, _, l, .cons r t, h => by
    cases r <;> simp only [tupsD] at h <;> first | (cases h; done) | skip
    rename_i es p ys h1 hl r
    split at h
    · rename_i x q e1 e2
      cases h
      obtain ⟨ks, g1, g2, g3⟩ := tups_rep t e2
      have e3 := intsD_map e1
      subst e3
      have e4 := r.ints
      subst e4
      refine ⟨(p, x) :: ks, by rw [g1]; rfl, by simp [g2], fun z hz => ?_⟩
      rcases List.mem_cons.mp hz with rfl | hz
      · exact ⟨h1, by simpa using hl⟩
      · exact g3 z hz
    · cases h
theorem tupI_reps {K : PySem.W.Frag} {H : Hp} {a : Ad} : ∀ (L : List (Addr × List Int)), (∀ p ∈ L, TT K H a p.1 (p.2.map V.int) ∧ p.2.length ≤ sizeLine) → RepVs K H a ((L.map (·.2)).map tupI) (L.map fun q => V.ref q.1)
  | [], _ => .nil
  | p :: L, h => .cons (.tup (h p List.mem_cons_self).1 (by simpa using (h p List.mem_cons_self).2) (RepVs.of_ints p.2)) (tupI_reps L fun q hq => h q (List.mem_cons_of_mem _ hq))
theorem okT_d {l : List (List Int)} (h : okT l = true) : l.length < 64 ∧ ∃ d, 1 ≤ d ∧ ∀ t ∈ l, t.length = d ∧ TS.Bd 1000 t := by
  unfold okT at h
  simp only [Bool.and_eq_true, decide_eq_true_eq, List.all_eq_true] at h
  obtain ⟨h1, h2⟩ := h
  refine ⟨h1, ?_⟩
  cases l with
  | nil => exact ⟨1, Nat.le_refl _, fun t ht => by cases ht⟩
  | cons a r =>
    refine ⟨a.length, (h2 a List.mem_cons_self).1.1, fun t ht => ⟨(h2 t ht).1.2, fun m hm => (h2 t ht).2 m hm⟩⟩
theorem tlist_rep {K : PySem.W.Frag} {H : Hp} {a : Ad} {m : Mem} (st : MRel K a m H) {d : D} {x : V} {l : List (List Int)} (r : RepV K H a d x) (h : (lstD m d).bind tupsD = some l) :
    ∃ (p : Addr) (ks : List (Addr × List Int)), x = .ref p ∧ SqL K H p (ks.map fun p => V.ref p.1) ∧ ks.map (·.2) = l ∧ ∀ p ∈ ks, TT K H a p.1 (p.2.map V.int) ∧ p.2.length ≤ sizeLine := by
  obtain ⟨ds, h1, h2⟩ := Option.bind_eq_some_iff.mp h
  cases r <;> simp only [lstD] at h1 <;> first | (cases h1; done) | skip
  case lst ds' p xs g1 g2 g3 r2 =>
    cases h1
    obtain ⟨ks, rfl, e2, e3⟩ := tups_rep r2 h2
    exact ⟨p, ks, rfl, SqL.of g1, e2, e3⟩
  case scr ns p g1 g2 =>
    cases h1
    cases ns with
    | cons a b => simp [tupsD] at h2
    | nil =>
      simp only [List.map_nil, tupsD, Option.some.injEq] at h2
      exact ⟨p, [], rfl, g1.sq, h2, fun p hp => by cases hp⟩
  case ref k p g1 =>
    split at h1
    · rename_i ds' g2
      cases h1
      obtain ⟨ho, g3, g4⟩ := st.at_ k p _ g1 g2
      cases g4 with
      | lst hz r2 =>
        obtain ⟨ks, rfl, e2, e3⟩ := tups_rep r2 h2
        exact ⟨p, ks, rfl, SqL.of g3, e2, e3⟩
    · cases h1
/-- sorted(set(xs)), xs tuples -/
theorem pe_ssetT {X : Cx} {ta : TA} {e : Expr} {p q r s : Pos} (hc : X.calm = true) (hu : X.A.units + 64 < cLine) (h1 : X.mg "sorted" = none) (h2 : X.mg "set" = none) (g1 : Gl X "sorted") (g2 : Gl X "set") (hs : starEach [e] X.env = (false, eval e X.env) :: starEach [] X.env) (h : PA X [e] ta) :
    PE X (.Call (.Name "sorted" p) [.Call (.Name "set" q) [e] [] r] [] s) (tCB (rSortedT X.K X.prog X.w) (tCons (tCB (rSetOfT X.K X.prog X.w) ta) tNil)) :=
  pe_callB (cr_sortedT hc) g1 h1 PyProof.Rows.boot_sorted (pa_cons (pe_callTy (cr_setOfT hc hu) g2 h2 PyProof.Rows.boot_set h (by decide) (by decide) hs rfl) pa_nil)
theorem ssetT_read {K : PySem.W.Frag} {P : Program} {w : World} {H : Hp} {a : Ad} {m : Mem} {ds : List D} {xs : List V} {Q : VK} (st : MRel K a m H) (r : RepVs K H a ds xs) (q : Tr K a H (fnD m .sortedSetT ds) Q) :
    rSetOfT K P w xs H fun v H1 => rSortedT K P w [v] H1 Q := by
  by_cases h1 : ds.length = 1
  · obtain ⟨d, x, rfl, rfl, rd⟩ := one_of r h1
    replace q : Tr K a H (match (lstD m d).bind tupsD with | some l => if okT l = true then .ok (.lst ((sortT (dedT l)).map tupI)) m else .bad | none => .bad) Q := q
    cases hl : (lstD m d).bind tupsD with
    | none => rw [hl] at q; exact False.elim q
    | some l =>
      rw [hl] at q
      simp only at q
      split at q
      · rename_i hz
        obtain ⟨h64, dd, hd1, hdl⟩ := okT_d hz
        obtain ⟨p, ks, rfl, hs, e2, e3⟩ := tlist_rep st rd hl
        have hkl : ks.length < 64 := by rw [← e2, List.length_map] at h64; exact h64
        have kin : ∀ p ∈ ks, p.2 ∈ l := fun p hp => by rw [← e2]; exact List.mem_map_of_mem hp
        refine ⟨p, ks, rfl, hs, fun p hp => (e3 p hp).1.sq, hkl, fun z L hz' hsub hall => ?_⟩
        have x1 : Ext a H a (upd H z (SetTO P w z L)) := Ext.new hz'
        refine ⟨z, L, dd, 1000, rfl, upd_same, fun p hp => ((e3 p (hsub p hp)).1.mono x1).sq, hd1, fun p hp => hdl _ (kin p (hsub p hp)), fun L' y pm nd few srt hy => ?_⟩
        have hmem : ∀ p ∈ L', p ∈ ks := fun p hp => hsub p (pm.mem_iff.mp hp)
        have hst : (L'.map (·.2)).Pairwise fun x y => HT.lexLt x y = true := by
          refine strictQ (d := dd) (fun x hx => ?_) nd ?_
          · obtain ⟨p, hp, rfl⟩ := List.mem_map.mp hx
            exact (hdl _ (kin p (hmem p hp))).1
          · rw [List.pairwise_map]
            refine (List.Pairwise.and_mem.mp srt).imp fun {x y} ⟨hx, hy, hle⟩ => ?_
            cases e : HT.lexLt y.2 x.2 with
            | false => rfl
            | true =>
              have q1 := hdl _ (kin x (hmem x hx))
              have q2 := hdl _ (kin y (hmem y hy))
              have := code_lexQ (by rw [q1.1, q2.1]) q2.2 q1.2 e
              omega
        obtain ⟨s1, s2⟩ := sortT_strict (l := l) (d := dd) fun x hx => (hdl x hx).1
        have ee : L'.map (·.2) = sortT (dedT l) := lexQ_eq hst s1 fun x => by
          rw [s2]
          constructor
          · intro hx
            obtain ⟨p, hp, rfl⟩ := List.mem_map.mp hx
            exact kin p (hmem p hp)
          · intro hx
            rw [← e2] at hx
            obtain ⟨p, hp, rfl⟩ := List.mem_map.mp hx
            have := hall p hp
            exact ((pm.map (·.2)).mem_iff).mpr this
        have hy0 := upd_no hy
        rw [← ee] at q
        refine Tr.lst (st.fresh hz') (Tr.mono q x1) (tupI_reps L' fun p hp => ⟨(e3 p (hmem p hp)).1.mono x1, (e3 p (hmem p hp)).2⟩) ?_ hy
        simp only [List.length_map]
        rw [sizeLine_eq]
        omega
      · exact False.elim q
  · rw [show fnD m .sortedSetT ds = .bad from fnD_one (by decide) (by decide) (by decide) (by decide) h1] at q
    exact False.elim q
end Br


set_option Elab.async false
set_option linter.all false
set_option maxRecDepth 100000
set_option maxHeartbeats 1000000
set_option autoImplicit false
/-! Br: enumerate of a tuple; list(range), tuple(range). -/
namespace Br
open PySem PySem.Spec PyProof.Rows L2
open AutoSeq1 (wpAny_loadPart')
theorem meets_enumerate_newT (l : Addr) (items : Array Value) (n : Nat) (dct : Option Addr) (sl : Array (Option Value)) :
    Meets (Builtin.«enumerate.__new__» ⟨[.type "enumerate", .ref l], []⟩) (fun _ R s => s.heap.get? l = some { cls := .type "tuple", dict := dct, data := .seq items n, slots := sl } ∧
      R (.ok (.ret (.ref (s.heap.push { cls := .type "tuple_iterator", data := .fields #[.ref l, .int 0 0] }).objs.size)))
        { s with heap := (s.heap.push { cls := .type "tuple_iterator", data := .fields #[.ref l, .int 0 0] }).push { cls := .type "enumerate", data := .fields #[.none, .bool false, .ref s.heap.objs.size, rawInt 0, .none, .none] } }) :=
  .of_wp fun prog w A R s h => by
    obtain ⟨hp, g, d, tk, os⟩ := s; obtain ⟨hl, h⟩ := h
    have hsub := sub_enumerate
    have hL : Heap.IsTuple (Shared.heap ⟨hp, g, d, tk, os⟩) l items := ⟨_, hl, rfl, n, rfl⟩
    wp_walk using wpAny_loadPart' hl
    refine wpAny_stack_any fun st => wpAny_pure ?_
    split
    · rename_i c _ _ _ _ _
      cases (c == Value.type "enumerate")
      · wp_walk using wpAny_loadPart' hl, wpAny_pyIter_tuple hL
        exact ⟨_, rfl, h⟩
      · wp_walk using wpAny_loadPart' hl, wpAny_pyIter_tuple hL
        exact ⟨_, rfl, h⟩
    · wp_walk using wpAny_loadPart' hl, wpAny_pyIter_tuple hL
      exact ⟨_, rfl, h⟩
theorem call_enumerate_tuple {prog : Program} {w : World} {A : Around} {E : Value → Shared → Prop} {s : Shared} {l : Addr} {items : Array Value} {Q : Value → Shared → Prop} (hL : s.heap.IsTuple l items)
    (h : ∀ h', IsEnum h' (s.heap.objs.size + 1) s.heap.objs.size 0 .none → h'.IsTupleIter s.heap.objs.size l 0 → h'.objs.size = s.heap.objs.size + 2 →
      (∀ b o, s.heap.get? b = some o → h'.get? b = some o) → Q (.ref (s.heap.objs.size + 1)) { s with heap := h' }) :
    wpAny (model prog w) A (call (.type "enumerate") [.ref l]) Q E s := by
  obtain ⟨⟨c, dct, dt, sl⟩, hl, hc, n, hd⟩ := hL
  replace hc : c = .type "tuple" := hc
  replace hd : dt = .seq items n := hd
  subst hc hd
  refine callType_new F.called_enumerate (by decide) (F.typeCall_enumerate_1 _) (F.newCall_enumerate_1 _) (fun obj => F.args_object_init_2 obj _) F.entry_enumerate_new
    (meets_enumerate_newT l items n dct sl) ⟨hl, ?_⟩
  have hz : (s.heap.push { cls := .type "tuple_iterator", data := .fields #[.ref l, .int 0 0] }).objs.size = s.heap.objs.size + 1 := Heap.size_push ..
  show _ ∧ _
  rw [hz]
  have he : IsEnum ((s.heap.push { cls := .type "tuple_iterator", data := .fields #[.ref l, .int 0 0] }).push
      { cls := .type "enumerate", data := .fields #[.none, .bool false, .ref s.heap.objs.size, rawInt 0, .none, .none] }) (s.heap.objs.size + 1) s.heap.objs.size 0 .none := by
    have := Heap.get?_push_size (s.heap.push { cls := .type "tuple_iterator", data := .fields #[.ref l, .int 0 0] })
      (o := { cls := .type "enumerate", data := .fields #[.none, .bool false, .ref s.heap.objs.size, rawInt 0, .none, .none] }) rfl
    rw [hz] at this; exact this
  refine ⟨⟨_, he, rfl⟩, h _ he ⟨_, Heap.get?_push_of_some _ (Heap.get?_push_size _ rfl), rfl, rfl⟩ (by rw [Heap.size_push, hz]) fun b o x => Heap.get?_push_of_some _ (Heap.get?_push_of_some _ x)⟩
/-- the tuple at a, each item in a new pair -/
def IteT (K : PySem.W.Frag) (a : Addr) : It :=
  ⟨fun i H => ∃ (xs : List V) (x : V), SqT K H a xs ∧ xs[i]? = some x, fun i H v H' => ∃ T x, v = .ref T ∧ H T = none ∧ H' = upd H T (.tup [.int (i : Nat), x]) ∧ ∀ xs, SqT K H a xs → xs[i]? = some x, fun i H => ∃ xs : List V, SqT K H a xs ∧ xs.length ≤ i⟩
theorem turn_enumT {P : Program} {w : World} {K : PySem.W.Frag} {elts : List Expr} {kk : Nat} {tpos : Pos} (a e it : Addr) :
    Turn P w K (.Tuple elts kk tpos) (IteT K a) [e, it] e (fun i h => (∃ old, IsEnum h e it ((i : Nat) : Int) old) ∧ h.IsTupleIter it a i ∧ e ≠ it ∧ a ≠ it ∧ a ≠ e) where
  mem := by simp
  obj := fun i h st b hb => by
    obtain ⟨⟨old, he⟩, ⟨o, ho, hc, hd⟩, _⟩ := st
    have e' : b = e ∨ b = it := by simpa using hb
    rcases e' with z | z
    · rw [z]; exact ⟨_, he, fun v q => nomatch q⟩
    · rw [z]; exact ⟨o, ho, fun v q => by rw [hd] at q; cases q⟩
  keep := fun i h h' st k => by
    obtain ⟨⟨old, he⟩, ⟨o, ho, hc, hd⟩, hne⟩ := st
    exact ⟨⟨old, k e (by simp) _ he⟩, ⟨o, k it (by simp) _ ho, hc, hd⟩, hne⟩
  item := by
    intro X hP hw hK hc i pins s σ H E I hf st hg
    subst hP hw hK
    obtain ⟨⟨old, he⟩, hit, hne, hna, hnb⟩ := st
    obtain ⟨xs, x, hq, hx⟩ := hg
    obtain ⟨its, rv, p, hz⟩ := I.tuple hq
    obtain ⟨u, hu, ru⟩ := rv.get hx
    have hel : e < s.heap.objs.size := Heap.lt_size he
    have hil : it < s.heap.objs.size := by obtain ⟨_, q, _⟩ := hit; exact Heap.lt_size q
    have hp : s.heap.IsTuple a its.toArray := by
      obtain ⟨o, ho, hc', n, hd⟩ := p
      exact ⟨o, ho, hc', n, hd⟩
    have hlt : i < its.toArray.size := by
      have := (List.getElem?_eq_some_iff.mp hu).1
      simpa using this
    refine wpAny_pyNext_enum_itemD (Draws.tuple (A := X.A.in1) (I.ok.hd hc) it a hna its.toArray) he ⟨hit, hp⟩ hlt hne (by simp [hne, Ne.symm hnb]) fun y h' tk hy ho hst' hT hsz hk => ?_
    have ey : y = u := by
      have hy : its.toArray[i]? = some y := hy
      have hu' : its.toArray[i]? = some u := by simpa using hu
      rw [hu'] at hy
      exact (Option.some.inj hy).symm
    subst ey
    refine ⟨_, rfl, wpAny_letOwnedTupleGo_enum (s := { s with heap := h', toks := tk + 1 }) ho fun h'' he' sb => ?_⟩
    have hT2 : h''.get? s.heap.objs.size = some { cls := .type "tuple", data := .seq #[.int i tk, y] } := (sb.2 _ (Nat.ne_of_gt hel)).trans hT
    have new : ObjOk X.prog X.w (upd H s.heap.objs.size (.tup [.int (i : Nat), x])) h'' s.heap.objs.size (.tup [.int (i : Nat), x]) :=
      ⟨by show 2 ≤ sizeLine; decide, [.int i tk, y], .cons ⟨_, rfl⟩ (.cons ru .nil), ⟨_, hT2, rfl, _, rfl⟩⟩
    have I1 : Inv X pins σ (upd H s.heap.objs.size (.tup [.int (i : Nat), x])) { s with heap := h'', toks := tk + 1 } :=
      I.turnedNew (ch := [e, it]) (fun b ob hb q => (sb.2 b (fun z => hb (by simp [z]))).trans (hk b ob (fun z => hb (by simp [z])) (fun z => hb (by simp [z])) q)) hf (Nat.le_refl _) new
    obtain ⟨⟨o2, ho2, hc2, hd2⟩, _⟩ := hst'
    refine ⟨.ref s.heap.objs.size, _, I1, rfl, ⟨_, x, rfl, I.hok.fresh (Nat.le_refl _), rfl, fun ys hy => by rw [I.tuple_inj hy hq]; exact hx⟩, ⟨⟨y, ?_⟩, ⟨o2, (sb.2 it (Ne.symm hne)).trans ho2, hc2, hd2⟩, hne, hna, hnb⟩, fun b hb => ?_⟩
    · have e1 : ((i + 1 : Nat) : Int) = (i : Int) + 1 := by omega
      rw [e1]; exact he'
    · have hb' : b < s.heap.objs.size := by
        have e' : b = e ∨ b = it := by simpa using hb
        rcases e' with z | z
        · rw [z]; exact hel
        · rw [z]; exact hil
      rw [upd_ne (Nat.ne_of_lt hb')]
      exact (hf b hb).1
  done := by
    intro X hP hw hK hc i pins s σ H E I hf st hg
    subst hP hw hK
    obtain ⟨⟨old, he⟩, hit, hne, hna, hnb⟩ := st
    obtain ⟨xs, hq, hx⟩ := hg
    obtain ⟨its, rv, p, hz⟩ := I.tuple hq
    obtain ⟨f0, f1, f2, f3, f4, f5⟩ := hf it (by simp)
    have hl := rv.length
    have hp : s.heap.IsTuple a its.toArray := by
      obtain ⟨o, ho, hc', n, hd⟩ := p
      exact ⟨o, ho, hc', n, hd⟩
    have hT : s.TypeIs (.ref e) "enumerate" := ⟨_, he, rfl⟩
    unfold pyNext
    refine wpAny_bind (wpAny_attempt (wpAny_callSpecial?_slot (name := Str.ofString "__next__") hT F.slot_enumerate_next
      (wpAny_call_entry F.slot_enumerate_next hT F.entry_enumerate_next ?_ (F.args_enumerate_next_1 _))))
    show wpAny _ _ (field (.ref e) 2 >>= _) _ _ _
    refine wpAny_bind (wpAny_field he rfl (x := .ref it) rfl ?_)
    refine wpAny_bind (wpAny_nextOf_tuple_end (A := X.A.in1) (I.ok.hd hc) hit hp (by simp; omega) fun h' x he' hx' => ?_)
    obtain ⟨o, ho, hc⟩ := hx'
    refine wpAny_bind (wpAny_isInstance (T := "StopIteration") (b := true) ⟨o, ho, hc⟩ isSubtype_stop ?_)
    exact wpAny_pure ⟨rfl, I.turned (t' := s.toks) (fun b o hb q => he' b o hb q) f0 f1 f3 f4 f5⟩
  self := fun A i s Q E st h => let ⟨⟨_, he⟩, _⟩ := st; wpAny_pyIter_enum he h
def iEnumT (K : PySem.W.Frag) (ta : TA) : TI := fun σ H R => ta σ H fun vs H1 => ∃ a xs, vs = [.ref a] ∧ SqT K H1 a xs ∧ R (IteT K a) H1
theorem pi_enumT {X : Cx} {e : Expr} {ta : TA} {p pos tpos : Pos} {elts : List Expr} {kk : Nat} (hg : Gl X "enumerate") (hm : X.mg "enumerate" = none) (ha : PA X [e] ta) (hs : starEach [e] X.env = [(false, eval e X.env)] := by rfl) :
    PI X (.Tuple elts kk tpos) (.Call (.Name "enumerate" p) [e] [] pos) (iEnumT X.K ta) := by
  refine ⟨fun pins s σ H R I h => ?_⟩
  refine Call_ (ld_blt I hg hm boot_enumerate (PyProof.Rows.callWith_type1 (thn (ha.run pos pins s σ H _ I h) fun us s1 ⟨vs, H1, I1, r1, q1⟩ => ?_) hs rfl))
  obtain ⟨a, xs, ex, hq, q⟩ := q1
  subst ex
  cases r1 with
  | cons r rr =>
    cases rr
    cases r
    obtain ⟨its, rv, p', hz⟩ := I1.tuple hq
    have hp : s1.heap.IsTuple a its.toArray := by
      obtain ⟨o, ho, hc', n, hd⟩ := p'
      exact ⟨o, ho, hc', n, hd⟩
    have hal : a < s1.heap.objs.size := by
      obtain ⟨o, ho, _⟩ := hp
      exact Heap.lt_size ho
    refine call_enumerate_tuple hp fun h' he hit hsz hk => wpAny_pyIter_enum he ?_
    have I2 : Inv X pins σ H1 { s1 with heap := h' } := I1.kept (t' := s1.toks) hk
    refine ⟨s1.heap.objs.size + 1, [s1.heap.objs.size + 1, s1.heap.objs.size], _, _, H1, rfl, I2, turn_enumT a (s1.heap.objs.size + 1) s1.heap.objs.size, ⟨⟨.none, he⟩, hit, Nat.succ_ne_self _, Nat.ne_of_lt hal, Nat.ne_of_lt (Nat.lt_succ_of_lt hal)⟩, fun b hb => ?_, q⟩
    have e' : b = s1.heap.objs.size + 1 ∨ b = s1.heap.objs.size := by simpa using hb
    have hle : s1.heap.objs.size ≤ b := by
      rcases e' with z | z
      · rw [z]; exact Nat.le_add_right _ _
      · rw [z]; exact Nat.le_refl _
    exact I1.fpOk hle (I1.hok.fresh hle)
end Br


set_option Elab.async false
set_option linter.all false
set_option maxRecDepth 100000
set_option maxHeartbeats 1000000
set_option autoImplicit false
/-! Br: dicts with tuple keys, the least of tuples. -/
namespace Br
open PySem PySem.Spec PyProof.Rows L2
variable [LamTab] [LamCl] [ExC]
theorem lexT_tot : ∀ {a b : List Int}, HT.lexLt a b = false → HT.lexLt b a = false → a = b
  | [], [], _, _ => rfl
  | [], _ :: _, h, _ => by cases h
  | _ :: _, [], _, h => by cases h
  | x :: a, y :: b, h1, h2 => by
    rw [HT.lexLt_cons] at h1 h2
    by_cases e : x = y
    · subst e
      rw [if_pos rfl] at h1 h2
      rw [lexT_tot h1 h2]
    · rw [if_neg e] at h1
      rw [if_neg (fun z => e z.symm)] at h2
      simp at h1 h2
      omega
theorem strictT {l : List (List Int)} (hn : l.Nodup) (hp : l.Pairwise fun x y => HT.lexLt y x = false) : l.Pairwise fun x y => HT.lexLt x y = true :=
  (hp.and hn).imp fun {x y} ⟨h1, h2⟩ => by
    cases e : HT.lexLt x y with
    | true => rfl
    | false => exact absurd (lexT_tot e h1) h2
theorem sortT_perm (l : List (List Int)) : (sortT l).Perm l := List.mergeSort_perm _ _
theorem sortT_sorted (l : List (List Int)) : (sortT l).Pairwise fun x y => HT.lexLt y x = false := by
  have := List.pairwise_mergeSort (le := fun a b : List Int => !HT.lexLt b a) (fun a b c h1 h2 => by
    simp only [Bool.not_eq_true'] at h1 h2 ⊢
    exact lexQ_tr h1 h2) (fun a b => by
    cases e : HT.lexLt b a with
    | false => rfl
    | true => rw [lexQ_asym e]; rfl) l
  exact this.imp fun h => by simpa using h
theorem sortT_uniq {l l' : List (List Int)} (hp : l'.Perm l) (hs : l'.Pairwise fun x y => HT.lexLt y x = false) (hn : l'.Nodup) : l' = sortT l :=
  lexQ_eq (strictT hn hs) (strictT ((sortT_perm l).nodup_iff.mpr (hp.nodup_iff.mp hn)) (sortT_sorted l)) fun x => by rw [hp.mem_iff, (sortT_perm l).mem_iff]
theorem RepT.tts {K : PySem.W.Frag} {H : Hp} {a : Ad} : ∀ {kvs : List (List Int × D)} {xs : List (List Int × Addr × V)}, RepT K H a kvs xs → ∀ x ∈ xs, TT K H a x.2.1 (x.1.map V.int) ∧ x.1.length ≤ sizeLine
  | _, _, .nil, x, h => by cases h
  | _, _, .cons hk hl h t, x, hx => by
    rcases List.mem_cons.mp hx with rfl | hx
    · exact ⟨hk, hl⟩
    · exact RepT.tts t x hx
theorem RepT.sq {K : PySem.W.Frag} {H : Hp} {a : Ad} {kvs : List (List Int × D)} {xs : List (List Int × Addr × V)} (r : RepT K H a kvs xs) : ∀ x ∈ xs, SqT K H x.2.1 (x.1.map V.int) := fun x hx => (r.tts x hx).1.sq
theorem RepT.look {K : PySem.W.Frag} {H : Hp} {a : Ad} {k : List Int} : ∀ {kvs : List (List Int × D)} {xs : List (List Int × Addr × V)}, RepT K H a kvs xs → (∀ v, valT xs k = some v → ∃ d, lookT kvs k = some d ∧ RepV K H a d v) ∧ (valT xs k = none → lookT kvs k = none) ∧ (∀ d, lookT kvs k = some d → ∃ v, valT xs k = some v ∧ RepV K H a d v)
  | _, _, .nil => ⟨fun v h => (nomatch h), fun _ => rfl, fun v h => (nomatch h)⟩
  | (k', d) :: kvs, (_, q, v) :: xs, .cons hk hl h t => by
    obtain ⟨h1, h2, h3⟩ := RepT.look (k := k) t
    by_cases e : k' = k
    · have a1 : valT ((k', q, v) :: xs) k = some v := by simp [valT, e]
      have a2 : lookT ((k', d) :: kvs) k = some d := by simp [lookT, e]
      rw [a1, a2]
      refine ⟨fun v hv => ?_, fun hv => (nomatch hv), fun p hp => ?_⟩
      · cases hv
        exact ⟨_, rfl, h⟩
      · cases hp
        exact ⟨_, rfl, h⟩
    · have a1 : valT ((k', q, v) :: xs) k = valT xs k := by simp [valT, e]
      have a2 : lookT ((k', d) :: kvs) k = lookT kvs k := by simp [lookT, e]
      rw [a1, a2]
      exact ⟨h1, h2, h3⟩
theorem RepT.snoc {K : PySem.W.Frag} {H : Hp} {a : Ad} {k : List Int} {q : Addr} {d : D} {v : V} (hk : TT K H a q (k.map V.int)) (hl : k.length ≤ sizeLine) (h : RepV K H a d v) : ∀ {kvs : List (List Int × D)} {xs : List (List Int × Addr × V)}, RepT K H a kvs xs → RepT K H a (kvs ++ [(k, d)]) (xs ++ [(k, q, v)])
  | _, _, .nil => .cons hk hl h .nil
  | _, _, .cons hk' hl' h' t => .cons hk' hl' h' (RepT.snoc hk hl h t)
section
variable {X : Cx}
theorem cD_sortedDT (hc : X.calm = true) (hu : X.A.units + 64 < cLine) : CallR X (.builtin "sorted") (rFn X.K .sortedDT) := by
  refine cr_one (fun m d => fnD m .sortedDT [d]) (fun _ _ => rfl) (fun m ds h => fnD_one (by decide) (by decide) (by decide) (by decide) h) ?_
  intro pins s σ H x us Q a m d I r st rd q
  cases rd <;> first | exact False.elim q | skip
  rename_i n p h1
  simp only [fnD] at q
  split at q
  · rename_i kvs h2
    split at q
    · rename_i hz
      obtain ⟨ho, g1, g2⟩ := st.at_ n p _ h1 h2
      cases g2 with
      | @dtt _ xs rr =>
        obtain ⟨u, rfl, rx⟩ := vals1 r
        cases rx
        refine sorted_dictT hc I (by omega) g1 rr.sq (fun x hx => ?_) fun L p' hp hsrt hnd hno => ?_
        · have h3 := List.all_eq_true.mp hz.1 x.1 (by rw [← rr.keys]; exact List.mem_map_of_mem hx)
          intro e
          rw [e] at h3
          cases h3
        · have e1 : (L.map (·.2)).Perm (kvs.map (·.1)) := by
            have := hp.map (·.2)
            rw [List.map_map] at this
            rw [← rr.keys]
            exact this
          have e2 : L.map (·.2) = sortT (kvs.map (·.1)) := sortT_uniq e1 (List.pairwise_map.mpr hsrt) hnd
          rw [← e2] at q
          refine Tr.lst st q (tupI_reps L fun z hz' => ?_) ?_ hno
          · have hm := hp.mem_iff.mp hz'
            obtain ⟨x, hx, rfl⟩ := List.mem_map.mp hm
            exact rr.tts x hx
          · rw [List.length_map, e1.length_eq, List.length_map]
            exact big_line hz.2
    · exact False.elim q
  · exact False.elim q
theorem pures_ints (x : List Int) : D.pures (x.map .int) = true := by
  induction x with
  | nil => rfl
  | cons a r ih => simp only [List.map_cons, D.pures, D.pure, ih, Bool.and_self]
theorem toPy_tupI (t : List Int) : toPy (tupI t) = .tuple (t.map PyData.int) := by simp [tupI, toPy, toPys_ints]
theorem reads_tups {pins : List (Addr × Obj)} {σ : L2.St} {H : Hp} {s : Shared} (I : Inv X pins σ H s) {a : Ad} : ∀ (ks : List (Addr × List Int)), (∀ p ∈ ks, TT X.K H a p.1 (p.2.map V.int) ∧ p.2.length ≤ sizeLine) → ∃ as, ReadsAll s.heap (ks.map fun p => Value.ref p.1) (ks.map fun p => .tuple (p.2.map PyData.int)) as
  | [], _ => ⟨[], .nil⟩
  | p :: ks, h => by
    obtain ⟨as, ha⟩ := reads_tups I ks fun q hq => h q (List.mem_cons_of_mem _ hq)
    have h1 := h p List.mem_cons_self
    have d1 := dp_of (K := X.K) (H := H) (a := a) (d := tupI p.2) (v := .ref p.1) (RepV.tup h1.1 (by simpa using h1.2) (RepVs.of_ints _)) (by unfold tupI; rw [D.pure]; exact pures_ints _)
    obtain ⟨bs, g1⟩ := Dp.reads I _ _ (Value.ref p.1) d1 rfl
    rw [toPy_tupI] at g1
    exact ⟨_, .cons g1 ha⟩
theorem minD_ints : ∀ (l : List (List Int)) (x : List Int), PySem.W.minD (.tuple (x.map PyData.int)) (l.map fun t => .tuple (t.map PyData.int)) = .tuple ((minTs x l).map PyData.int)
  | [], x => rfl
  | y :: l, x => by
    have ih := minD_ints l (if HT.lexLt y x = true then y else x)
    unfold PySem.W.minD minTs at ih ⊢
    simp only [List.map_cons, List.foldl_cons, dataLt_ints]
    rw [← ih]
    congr 1
    split <;> rfl
theorem ints_of_py {t u : List Int} (h : PyData.tuple (t.map PyData.int) = .tuple (u.map PyData.int)) : t = u := by
  have h := PyData.tuple.inj h
  have : ∀ t u : List Int, t.map PyData.int = u.map PyData.int → t = u := by
    intro t
    induction t with
    | nil => intro u e; cases u with
      | nil => rfl
      | cons b r => simp at e
    | cons a r ih => intro u e; cases u with
      | nil => simp at e
      | cons b r2 =>
        simp only [List.map_cons, List.cons.injEq, PyData.int.injEq] at e
        rw [e.1, ih r2 e.2]
  exact this t u h
theorem depth_ints (t : List Int) : PyData.depthAll (t.map PyData.int) ≤ 1 := by
  induction t with
  | nil => simp [PyData.depthAll]
  | cons a r ih => simp only [List.map_cons, PyData.depthAll, PyData.depth]; omega
theorem depth_tups (l : List (List Int)) : PyData.depthAll (l.map fun t => PyData.tuple (t.map PyData.int)) ≤ 3 := by
  induction l with
  | nil => simp [PyData.depthAll]
  | cons a r ih =>
    have := depth_ints a
    simp only [List.map_cons, PyData.depthAll, PyData.depth]
    omega
theorem cD_minT (hc : X.calm = true) (hu : X.A.units + 64 < cLine) : CallR X (.builtin "min") (rFn X.K .minT) := by
  refine cr_one (fun m d => fnD m .minT [d]) (fun _ _ => rfl) (fun m ds h => fnD_one (by decide) (by decide) (by decide) (by decide) h) ?_
  intro pins s σ H x us Q a m d I r st rd q
  simp only [fnD] at q
  split at q
  · rename_i t0 l hl
    split at q
    · rename_i hz
      obtain ⟨p, ks, rfl, hs, e2, e3⟩ := tlist_rep st rd hl
      rw [Vals.ref1 r]
      obtain ⟨its, rv, pl, hz'⟩ := I.list hs
      have eits : its = ks.map fun p => Value.ref p.1 := refs_of_vals rv
      obtain ⟨as, hr⟩ := reads_tups I ks e3
      have el : (ks.map fun p => PyData.tuple (p.2.map PyData.int)) = PyData.tuple (t0.map PyData.int) :: l.map fun t => PyData.tuple (t.map PyData.int) := by
        have : (ks.map fun p => PyData.tuple (p.2.map PyData.int)) = (ks.map (·.2)).map fun t => PyData.tuple (t.map PyData.int) := by rw [List.map_map]; rfl
        rw [this, e2]
        rfl
      rw [el, ← eits] at hr
      have hdep : PyData.depthAll (PyData.tuple (t0.map PyData.int) :: l.map fun t => PyData.tuple (t.map PyData.int)) ≤ 3 := depth_tups (t0 :: l)
      have al : PySem.W.AlikeAll (PyData.tuple (t0.map PyData.int) :: l.map fun t => PyData.tuple (t.map PyData.int)) := by
        have all : ∀ x ∈ (PyData.tuple (t0.map PyData.int) :: l.map fun t => PyData.tuple (t.map PyData.int)), ∃ t : List Int, x = .tuple (t.map PyData.int) := fun x hx => by
          rcases List.mem_cons.mp hx with rfl | hx
          · exact ⟨t0, rfl⟩
          · obtain ⟨t, _, rfl⟩ := List.mem_map.mp hx
            exact ⟨t, rfl⟩
        refine ⟨fun x hx y hy => ?_, fun x hx => ?_⟩
        · obtain ⟨t, rfl⟩ := all x hx
          obtain ⟨u, rfl⟩ := all y hy
          simp [PySem.W.alike, alike_ints]
        · obtain ⟨t, rfl⟩ := all x hx
          intro z
          cases z
      refine PySem.W.min_list_data (vs := its.toArray) (I.ok.hd hc) pl.isList (by simpa using hr) al (by omega) fun i v h' tk bs hv rd' kp => ?_
      have hv : its[i]? = some v := by simpa using hv
      rw [eits, List.getElem?_map, Option.map_eq_some_iff] at hv
      obtain ⟨⟨b, t⟩, hb, rfl⟩ := hv
      have hbm := List.mem_of_getElem? hb
      rw [minD_ints] at rd'
      have I' : Inv X pins σ H { s with heap := h', toks := tk } := I.kept kp
      have h1 := e3 _ hbm
      have d1 := dp_of (K := X.K) (H := H) (a := a) (d := tupI t) (v := .ref b) (RepV.tup h1.1 (by simpa using h1.2) (RepVs.of_ints _)) (by unfold tupI; rw [D.pure]; exact pures_ints _)
      obtain ⟨cs, g1⟩ := Dp.reads I' _ _ (Value.ref b) d1 rfl
      rw [toPy_tupI] at g1
      have et : t = minTs t0 l := ints_of_py (PySem.Reads.unique g1 _ _ rd').1
      subst et
      exact ⟨.ref b, H, I', rfl, q.val st (RepV.tup h1.1 (by simpa using h1.2) (RepVs.of_ints _))⟩
    · exact False.elim q
  · exact False.elim q
end
end Br


set_option Elab.async false
set_option linter.all false
set_option maxRecDepth 100000
set_option autoImplicit false
/-! Br: readings by the evaluator; targets; walks; comprehensions. -/
namespace Br
open PySem PySem.Spec PyProof.Rows L2
variable [LamTab] [LamCl] [ExC]
/-! ### what stays -/
section
variable {K : PySem.W.Frag} {H H' H1 H2 : Hp} {a a' a1 a2 : Ad} {m : Mem}
theorem Kp.hide {st hd : List Addr} {q : Addr} {o : HO} (hq : H q = none) : Kp ⟨st, hd⟩ H ⟨st, q :: hd⟩ (upd H q o) :=
  ⟨⟨[], by simp⟩, fun p o h hn _ => ⟨by rw [upd_ne (ne_of_none h hq)]; exact h, Ad.no_in hn hq h⟩⟩
theorem Kp.hid {st hd : List Addr} {q : Addr} {o : HO} : Kp ⟨st, q :: hd⟩ H ⟨st, q :: hd⟩ (upd H q o) :=
  ⟨⟨[], by simp⟩, fun p o h hn _ => ⟨by rw [upd_ne (fun z => hn.2 (by rw [z]; exact List.mem_cons_self))]; exact h, hn⟩⟩
theorem TT.kp (e : Kp a H a' H') {p : Addr} {xs : List V} (h : TT K H a p xs) : TT K H' a' p xs := by
  rcases h with ⟨h | ⟨o, h⟩, hp⟩ | h
  · obtain ⟨h1, h2⟩ := e.keep _ _ h hp (by intro _ z; cases z)
    exact .inl ⟨.inl h1, h2⟩
  · obtain ⟨h1, h2⟩ := e.keep _ _ h hp (by intro _ z; cases z)
    exact .inl ⟨.inr ⟨o, h1⟩, h2⟩
  · exact .inr h
theorem SC.kp (e : Kp a H a' H') {p : Addr} {xs : List V} (h : SC K H a p xs) : SC K H' a' p xs := by
  rcases h with ⟨h | ⟨o, h⟩, hp⟩ | h
  · obtain ⟨h1, h2⟩ := e.keep _ _ h hp (by intro _ z; cases z)
    exact .inl ⟨.inl h1, h2⟩
  · obtain ⟨h1, h2⟩ := e.keep _ _ h hp (by intro _ z; cases z)
    exact .inl ⟨.inr ⟨o, h1⟩, h2⟩
  · exact .inr h
theorem Kp.old (e : Kp a H a' H') {n : Nat} {p : Addr} (h : a.st[n]? = some p) : a'.st[n]? = some p := by
  obtain ⟨x, e1⟩ := e.pre
  rw [e1, List.getElem?_append_left (List.getElem?_eq_some_iff.mp h).1]
  exact h
mutual
theorem RepV.kp (e : Kp a H a' H') : ∀ {d : D} {v : V}, RepV K H a d v → RepV K H' a' d v
  | _, _, .non => .non
  | _, _, .bl b => .bl b
  | _, _, .int b => .int b
  | _, _, .str b h => .str b h
  | _, _, .tup h hl r => .tup (h.kp e) hl (RepVs.kp e r)
  | _, _, .lst h hn hl r => .lst (e.keep _ _ h hn (by intro _ z; cases z)).1 (e.keep _ _ h hn (by intro _ z; cases z)).2 hl (RepVs.kp e r)
  | _, _, .scr h hl => .scr (h.kp e) hl
  | _, _, .ref h => .ref (e.old h)
theorem RepVs.kp (e : Kp a H a' H') : ∀ {ds : List D} {xs : List V}, RepVs K H a ds xs → RepVs K H' a' ds xs
  | _, _, .nil => .nil
  | _, _, .cons h r => .cons (RepV.kp e h) (RepVs.kp e r)
end
theorem RepK.kp {κ : Type} (e : Kp a H a' H') : ∀ {kvs : List (κ × D)} {ks : List (κ × V)}, RepK K H a kvs ks → RepK K H' a' kvs ks
  | _, _, .nil => .nil
  | _, _, .cons h t => .cons (h.kp e) (RepK.kp e t)
theorem RepT.kp (e : Kp a H a' H') : ∀ {kvs : List (List Int × D)} {xs : List (List Int × Addr × V)}, RepT K H a kvs xs → RepT K H' a' kvs xs
  | _, _, .nil => .nil
  | _, _, .cons hk hl h t => .cons (hk.kp e) hl (h.kp e) (RepT.kp e t)
theorem RepO.kp (e : Kp a H a' H') {p : Addr} {o : O} {ho : HO} (h : RepO K H a p o ho) : RepO K H' a' p o ho := by
  cases h with
  | lst hl r => exact .lst hl (r.kp e)
  | dct hl r => exact .dct hl (r.kp e)
  | dtt r => exact .dtt (r.kp e)
theorem SRel.kp (e : Kp a H a' H') {ρ : List (Option D)} {σ : L2.St} (h : SRel K a H ρ σ) : SRel K a' H' ρ σ :=
  ⟨h.len, fun i d q => let ⟨v, h1, h2⟩ := h.at_ i d q; ⟨v, h1, h2.kp e⟩, h.clo, fun z => (h.kp0 z).trans e⟩
/-- the new list q lies hidden -/
theorem MRel.hide {st hd : List Addr} {q : Addr} (r : MRel K ⟨st, hd⟩ m H) (hq : H q = none) : MRel K ⟨st, q :: hd⟩ m (upd H q (.lst [])) := by
  refine ⟨r.nd, r.len, fun p hp z => ?_, fun n p o h1 h2 => ?_, fun p hp => ?_, tabs_new r.tabs hq⟩
  · rcases List.mem_cons.mp z with z | z
    · obtain ⟨o, e⟩ := r.there hp
      rw [z, hq] at e
      cases e
    · exact r.sep p hp z
  · obtain ⟨ho, h3, h4⟩ := r.at_ n p o h1 h2
    exact ⟨ho, by rw [upd_ne (ne_of_none h3 hq)]; exact h3, h4.kp (Kp.hide hq)⟩
  · rcases List.mem_cons.mp hp with z | z
    · rw [z]; exact ⟨[], upd_same⟩
    · obtain ⟨xs, e⟩ := r.hid p z
      exact ⟨xs, by rw [upd_ne (ne_of_none e hq)]; exact e⟩
theorem MRel.hidden {st hd : List Addr} {q : Addr} (r : MRel K ⟨st, q :: hd⟩ m H) (hq : q ∉ hd) (xs : List V) : MRel K ⟨st, q :: hd⟩ m (upd H q (.lst xs)) := by
  have ns : ∀ p, p ∈ st → p ≠ q := fun p hp z => r.sep p hp (by rw [z]; exact List.mem_cons_self)
  have ht : LamX.Tabs LamTab.T (upd H q (.lst xs)) := by
    obtain ⟨ys, e⟩ := r.hid q List.mem_cons_self
    exact tabs_put r.tabs e rfl
  refine ⟨r.nd, r.len, r.sep, fun n p o h1 h2 => ?_, fun p hp => ?_, ht⟩
  · obtain ⟨ho, h3, h4⟩ := r.at_ n p o h1 h2
    exact ⟨ho, by rw [upd_ne (ns p (List.mem_of_getElem? h1))]; exact h3, h4.kp Kp.hid⟩
  · rcases List.mem_cons.mp hp with z | z
    · rw [z]; exact ⟨xs, upd_same⟩
    · obtain ⟨ys, e⟩ := r.hid p (List.mem_cons_of_mem _ z)
      exact ⟨ys, by rw [upd_ne (fun w => hq (by rw [← w]; exact z))]; exact e⟩
theorem Kp.show {st hd : List Addr} {q : Addr} : Kp ⟨st, q :: hd⟩ H ⟨st, hd⟩ H := ⟨⟨[], by simp⟩, fun p o h hn _ => ⟨h, Ad.no_out hn⟩⟩
theorem MRel.show {st hd : List Addr} {q : Addr} (r : MRel K ⟨st, q :: hd⟩ m H) : MRel K ⟨st, hd⟩ m H :=
  ⟨r.nd, r.len, fun p hp z => r.sep p hp (List.mem_cons_of_mem _ z), fun n p o h1 h2 => let ⟨ho, h3, h4⟩ := r.at_ n p o h1 h2; ⟨ho, h3, h4.kp Kp.show⟩, fun p hp => r.hid p (List.mem_cons_of_mem _ hp), r.tabs⟩
end

/-! ### readings -/
def tS (K : PySem.W.Frag) (ev : Sl → Mem → Res D) : TE := fun σ H Q => ∃ a ρ m, MRel K a m H ∧ SRel K a H ρ σ ∧ Tr K a H (ev ρ m) Q
/-- .. that tells a new list -/
def tF (K : PySem.W.Frag) (ev : Sl → Mem → Res D) : TE := fun σ H Q => ∃ a ρ m, MRel K a m H ∧ SRel K a H ρ σ ∧ TrF K a H (ev ρ m) Q
def TrA (K : PySem.W.Frag) (a : Ad) (H : Hp) (r : Res (List D)) (Q : List V → Hp → Prop) : Prop := match r with
  | .ok ds m' => ∀ a' H' vs, Ext a H a' H' → MRel K a' m' H' → RepVs K H' a' ds vs → Q vs H'
  | .ex c ds m' => XOk K a H c ds m'
  | .bad => False
def tA (K : PySem.W.Frag) (ev : Sl → Mem → Res (List D)) : TA := fun σ H Q => ∃ a ρ m, MRel K a m H ∧ SRel K a H ρ σ ∧ TrA K a H (ev ρ m) Q
def TrB (K : PySem.W.Frag) (a : Ad) (H : Hp) (r : Res D) (Q : Bool → Hp → Prop) : Prop := match r with
  | .ok (.bl b) m' => ∀ a' H', Ext a H a' H' → MRel K a' m' H' → Q b H'
  | .ok _ _ => False
  | .ex c ds m' => XOk K a H c ds m'
  | .bad => False
def tT (K : PySem.W.Frag) (ev : Sl → Mem → Res D) : L2.TT := fun σ H Q => ∃ a ρ m, MRel K a m H ∧ SRel K a H ρ σ ∧ TrB K a H (ev ρ m) Q
/-- arguments, then one more -/
def tSnoc (K : PySem.W.Frag) (ev : Sl → Mem → Res (List D)) (tc : TE) : TA := fun σ H Q => ∃ a ρ m ds m1, MRel K a m H ∧ SRel K a H ρ σ ∧ ev ρ m = .ok ds m1 ∧ ∀ a1 H1 vs, Ext a H a1 H1 → MRel K a1 m1 H1 → RepVs K H1 a1 ds vs → tc σ H1 fun v H2 => Q (vs ++ [v]) H2
section
variable {K : PySem.W.Frag} {H H' : Hp} {a a' : Ad} {m : Mem} {ρ : Sl} {σ : L2.St}
theorem TrA.mono {r : Res (List D)} {Q : List V → Hp → Prop} (h : TrA K a H r Q) (e : Ext a H a' H') : TrA K a' H' r Q := by
  cases r with
  | ok d m' => exact fun a2 H2 v x => h a2 H2 v (e.trans x)
  | ex c ds m' => exact XOk.mono h e
  | bad => exact h
theorem TrB.mono {r : Res D} {Q : Bool → Hp → Prop} (h : TrB K a H r Q) (e : Ext a H a' H') : TrB K a' H' r Q := by
  cases r with
  | ok d m' => cases d <;> first | exact h | exact fun a2 H2 x => h a2 H2 (e.trans x)
  | ex c ds m' => exact XOk.mono h e
  | bad => exact h
theorem tS_bind {ev : Sl → Mem → Res D} {f : D → Mem → Res D} {Q Q' : VK} (st : MRel K a m H) (sl : SRel K a H ρ σ) (q : Tr K a H ((ev ρ m).bind f) Q)
    (k : ∀ d m1 a1 H1 v, MRel K a1 m1 H1 → SRel K a1 H1 ρ σ → RepV K H1 a1 d v → Ext a H a1 H1 → Tr K a1 H1 (f d m1) Q → Q' v H1) : tS K ev σ H Q' := by
  refine ⟨a, ρ, m, st, sl, ?_⟩
  cases e : ev ρ m with
  | ok d m1 =>
    rw [e] at q
    exact fun a1 H1 v x r rv => k d m1 a1 H1 v r (sl.mono x) rv x (Tr.mono (r := f d m1) q x)
  | ex c ds m' => rw [e] at q; exact q
  | bad => rw [e] at q; exact q
theorem tS_bindA {ev : Sl → Mem → Res D} {f : D → Mem → Res (List D)} {Q : List V → Hp → Prop} {Q' : VK} (st : MRel K a m H) (sl : SRel K a H ρ σ) (q : TrA K a H ((ev ρ m).bind f) Q)
    (k : ∀ d m1 a1 H1 v, MRel K a1 m1 H1 → SRel K a1 H1 ρ σ → RepV K H1 a1 d v → Ext a H a1 H1 → TrA K a1 H1 (f d m1) Q → Q' v H1) : tS K ev σ H Q' := by
  refine ⟨a, ρ, m, st, sl, ?_⟩
  cases e : ev ρ m with
  | ok d m1 =>
    rw [e] at q
    exact fun a1 H1 v x r rv => k d m1 a1 H1 v r (sl.mono x) rv x (TrA.mono (r := f d m1) q x)
  | ex c ds m' => rw [e] at q; exact q
  | bad => rw [e] at q; exact q
theorem tA_bind {ev : Sl → Mem → Res (List D)} {f : List D → Mem → Res D} {Q : VK} {Q' : List V → Hp → Prop} (st : MRel K a m H) (sl : SRel K a H ρ σ) (q : Tr K a H ((ev ρ m).bind f) Q)
    (k : ∀ ds m1 a1 H1 vs, MRel K a1 m1 H1 → SRel K a1 H1 ρ σ → RepVs K H1 a1 ds vs → Ext a H a1 H1 → Tr K a1 H1 (f ds m1) Q → Q' vs H1) : tA K ev σ H Q' := by
  refine ⟨a, ρ, m, st, sl, ?_⟩
  cases e : ev ρ m with
  | ok d m1 =>
    rw [e] at q
    exact fun a1 H1 v x r rv => k d m1 a1 H1 v r (sl.mono x) rv x (Tr.mono (r := f d m1) q x)
  | ex c ds m' => rw [e] at q; exact q
  | bad => rw [e] at q; exact q
theorem tA_bindA {ev : Sl → Mem → Res (List D)} {f : List D → Mem → Res (List D)} {Q : List V → Hp → Prop} {Q' : List V → Hp → Prop} (st : MRel K a m H) (sl : SRel K a H ρ σ) (q : TrA K a H ((ev ρ m).bind f) Q)
    (k : ∀ ds m1 a1 H1 vs, MRel K a1 m1 H1 → SRel K a1 H1 ρ σ → RepVs K H1 a1 ds vs → Ext a H a1 H1 → TrA K a1 H1 (f ds m1) Q → Q' vs H1) : tA K ev σ H Q' := by
  refine ⟨a, ρ, m, st, sl, ?_⟩
  cases e : ev ρ m with
  | ok d m1 =>
    rw [e] at q
    exact fun a1 H1 v x r rv => k d m1 a1 H1 v r (sl.mono x) rv x (TrA.mono (r := f d m1) q x)
  | ex c ds m' => rw [e] at q; exact q
  | bad => rw [e] at q; exact q
/-- a test, then what its answer leads to -/
theorem tT_on {ev : Sl → Mem → Res D} {f : Bool → Mem → Res D} {Q : VK} {Q' : Bool → Hp → Prop} (st : MRel K a m H) (sl : SRel K a H ρ σ) (q : Tr K a H (onB (ev ρ m) f) Q)
    (k : ∀ b m1 a1 H1, MRel K a1 m1 H1 → SRel K a1 H1 ρ σ → Ext a H a1 H1 → Tr K a1 H1 (f b m1) Q → Q' b H1) : tT K ev σ H Q' := by
  refine ⟨a, ρ, m, st, sl, ?_⟩
  cases e : ev ρ m with
  | ok d m1 =>
    rw [e] at q
    cases d <;> first | exact False.elim q | skip
    rename_i b
    exact fun a1 H1 x r => k b m1 a1 H1 r (sl.mono x) x (Tr.mono (r := f b m1) q x)
  | ex c ds m' => rw [e] at q; exact q
  | bad => rw [e] at q; exact q
theorem tT_onB {ev : Sl → Mem → Res D} {f : Bool → Mem → Res D} {Q Q' : Bool → Hp → Prop} (st : MRel K a m H) (sl : SRel K a H ρ σ) (q : TrB K a H (onB (ev ρ m) f) Q)
    (k : ∀ b m1 a1 H1, MRel K a1 m1 H1 → SRel K a1 H1 ρ σ → Ext a H a1 H1 → TrB K a1 H1 (f b m1) Q → Q' b H1) : tT K ev σ H Q' := by
  refine ⟨a, ρ, m, st, sl, ?_⟩
  cases e : ev ρ m with
  | ok d m1 =>
    rw [e] at q
    cases d <;> first | exact False.elim q | skip
    rename_i b
    exact fun a1 H1 x r => k b m1 a1 H1 r (sl.mono x) x (TrB.mono (r := f b m1) q x)
  | ex c ds m' => rw [e] at q; exact q
  | bad => rw [e] at q; exact q
theorem tS_onV {ev : Sl → Mem → Res D} {f : Bool → Mem → Res D} {Q Q' : VK} (st : MRel K a m H) (sl : SRel K a H ρ σ) (q : Tr K a H (onB (ev ρ m) f) Q)
    (k : ∀ b m1 a1 H1, MRel K a1 m1 H1 → SRel K a1 H1 ρ σ → Ext a H a1 H1 → Tr K a1 H1 (f b m1) Q → Q' (.bl b) H1) : tS K ev σ H Q' := by
  refine ⟨a, ρ, m, st, sl, ?_⟩
  cases e : ev ρ m with
  | ok d m1 =>
    rw [e] at q
    cases d <;> first | exact False.elim q | skip
    rename_i b
    refine fun a1 H1 v x r rv => ?_
    cases rv
    exact k b m1 a1 H1 r (sl.mono x) x (Tr.mono (r := f b m1) q x)
  | ex c ds m' => rw [e] at q; exact q
  | bad => rw [e] at q; exact q
end
theorem weakE {X : Cx} {e : Expr} {t t' : TE} (h : PE X e t) (w : ∀ σ H Q, t' σ H Q → t σ H Q) : PE X e t' := ⟨fun pins s σ H Q I q => h.run pins s σ H Q I (w _ _ _ q)⟩
theorem weakT {X : Cx} {e : Expr} {t t' : L2.TT} (h : PT X e t) (w : ∀ σ H Q, t' σ H Q → t σ H Q) : PT X e t' := ⟨fun pins s σ H Q I q => h.run pins s σ H Q I (w _ _ _ q)⟩
theorem weakW {X : Cx} {e : Expr} {t t' : L2.TT} (h : PW X e t) (w : ∀ σ H Q, t' σ H Q → t σ H Q) : PW X e t' := ⟨fun wh pins s σ H Q I q => h.run wh pins s σ H Q I (w _ _ _ q)⟩
theorem weakA {X : Cx} {es : List Expr} {t t' : TA} (h : PA X es t) (w : ∀ σ H Q, t' σ H Q → t σ H Q) : PA X es t' := ⟨fun pos pins s σ H Q I q => h.run pos pins s σ H Q I (w _ _ _ q)⟩
theorem weakI {X : Cx} {tg e : Expr} {t t' : TI} (h : PI X tg e t) (w : ∀ σ H R, t' σ H R → t σ H R) : PI X tg e t' := ⟨fun pins s σ H R I q => h.run pins s σ H R I (w _ _ _ q)⟩
theorem weakG {X : Cx} {e : Expr} {t t' : TG} (h : PG X e t) (w : ∀ v σ H Q, t' v σ H Q → t v σ H Q) : PG X e t' := ⟨fun pins s σ H v u Q I r q => h.run pins s σ H v u Q I r (w _ _ _ _ q)⟩
theorem eitherG {X : Cx} {e : Expr} {t t1 t2 : TG} (h1 : PG X e t1) (h2 : PG X e t2) (w : ∀ v σ H Q, t v σ H Q → t1 v σ H Q ∨ t2 v σ H Q) : PG X e t := ⟨fun pins s σ H v u Q I r q => (w _ _ _ _ q).elim (h1.run pins s σ H v u Q I r) (h2.run pins s σ H v u Q I r)⟩
theorem weakS {X : Cx} {e : Stmt} {t t' : TS} (h : PS X e t) (w : ∀ D σ H, t' D σ H → t D σ H) : PS X e t' := ⟨fun pins s σ H D I q => h.run pins s σ H D I (w _ _ _ q)⟩
theorem weakSs {X : Cx} {e : List Stmt} {t t' : TS} (h : PSs X e t) (w : ∀ D σ H, t' D σ H → t D σ H) : PSs X e t' := ⟨fun pins s σ H D I q => h.run pins s σ H D I (w _ _ _ q)⟩
theorem eitherE {X : Cx} {e : Expr} {t t1 t2 : TE} (h1 : PE X e t1) (h2 : PE X e t2) (w : ∀ σ H Q, t σ H Q → t1 σ H Q ∨ t2 σ H Q) : PE X e t := ⟨fun pins s σ H Q I q => (w _ _ _ q).elim (h1.run pins s σ H Q I) (h2.run pins s σ H Q I)⟩
theorem eitherI {X : Cx} {tg e : Expr} {t t1 t2 : TI} (h1 : PI X tg e t1) (h2 : PI X tg e t2) (w : ∀ σ H Q, t σ H Q → t1 σ H Q ∨ t2 σ H Q) : PI X tg e t := ⟨fun pins s σ H Q I q => (w _ _ _ q).elim (h1.run pins s σ H Q I) (h2.run pins s σ H Q I)⟩
theorem eitherS {X : Cx} {e : Stmt} {t t1 t2 : TS} (h1 : PS X e t1) (h2 : PS X e t2) (w : ∀ D σ H, t D σ H → t1 D σ H ∨ t2 D σ H) : PS X e t := ⟨fun pins s σ H D I q => (w _ _ _ q).elim (h1.run pins s σ H D I) (h2.run pins s σ H D I)⟩

/-! ### targets -/
/-- but for the slots is the same -/
structure But (is : List Nat) (σ σ' : L2.St) : Prop where
  len : σ'.length = σ.length
  at_ : ∀ j, j ∉ is → σ'[j]? = σ[j]?
theorem But.refl {is : List Nat} {σ : L2.St} : But is σ σ := ⟨rfl, fun _ _ => rfl⟩
def Tg.slots : Tg → List Nat
  | .one i => [i]
  | .tup is => is
def Tg.isT : Tg → Bool
  | .one _ => false
  | .tup _ => true
def gD (K : PySem.W.Frag) (tg : Tg) : TG := fun v σ H Q => ∃ a m d ρ ρ', MRel K a m H ∧ RepV K H a d v ∧ SRel K a H ρ σ ∧ bindT m tg d ρ = some ρ' ∧ ∀ σ', SRel K a H ρ' σ' → But tg.slots σ σ' → Q σ' H
theorem Av.one {i : Nat} (h : Av [i]) : ∀ q ∈ LamCl.cl, q.1 ≠ i := fun q hq z => h q hq (by simp [z])
theorem Av.sub {is js : List Nat} (h : Av js) (hs : ∀ i ∈ is, i ∈ js) : Av is := fun q hq z => h q hq (hs _ z)
theorem SRel.set {K : PySem.W.Frag} {H : Hp} {a : Ad} {ρ : Sl} {σ : L2.St} (h : SRel K a H ρ σ) (i : Nat) (hi : Av [i]) {d : D} {v : V} (r : RepV K H a d v) : SRel K a H (ρ.set i (some d)) (σ.set i (some v)) := by
  refine ⟨by simp [h.len], fun j e q => ?_, fun q hq => ?_, ?_⟩
  · by_cases hj : i = j
    · subst hj
      have hl := (List.getElem?_eq_some_iff.mp q).1
      rw [List.length_set] at hl
      rw [List.getElem?_set_self hl] at q
      cases q
      exact ⟨v, by rw [List.getElem?_set_self (by rw [← h.len]; exact hl)], r⟩
    · rw [List.getElem?_set_ne hj] at q ⊢
      exact h.at_ j e q
  · rw [List.getElem?_set_ne (fun z => hi.one q hq z.symm)]
    exact h.clo q hq
  · exact h.kp0
theorem But.set {is : List Nat} {σ σ' : L2.St} (b : But is σ σ') {i : Nat} (hi : i ∈ is) (v : Option V) : But is σ (σ'.set i v) :=
  ⟨by rw [List.length_set]; exact b.len, fun j hj => by rw [List.getElem?_set_ne (fun z => hj (by rw [← z]; exact hi))]; exact b.at_ j hj⟩
/-- the reading of several names -/
def gIs : List Nat → TGs
  | [] => gNil
  | i :: r => gCons (gName i) (gIs r)
theorem gIs_go {K : PySem.W.Frag} {H : Hp} {a : Ad} {Q : L2.St → Hp → Prop} {all : List Nat} (hav : Av all) {σ0 : L2.St} : ∀ {is : List Nat} {ds : List D} {xs : List V} {ρ ρ' : Sl} {σ : L2.St}, RepVs K H a ds xs → SRel K a H ρ σ → bindIs is ds ρ = some ρ' → (∀ i ∈ is, i ∈ all) → But all σ0 σ →
    (∀ σ', SRel K a H ρ' σ' → But all σ0 σ' → Q σ' H) → gIs is xs σ H Q
  | [], _, _, ρ, ρ', σ, .nil, sl, e, _, b, q => by
    simp [bindIs] at e
    subst e
    exact ⟨rfl, q σ sl b⟩
  | [], _, _, _, _, _, .cons _ _, _, e, _, _, _ => by simp [bindIs] at e
  | _ :: _, _, _, _, _, _, .nil, _, e, _, _, _ => by simp [bindIs] at e
  | i :: r, _, _, ρ, ρ', σ, .cons (v := v) (xs := xs) h t, sl, e, hi, b, q => by
    simp only [bindIs] at e
    exact ⟨v, xs, rfl, gIs_go hav t (sl.set i (hav.sub (by simp [hi i List.mem_cons_self])) h) e (fun j hj => hi j (List.mem_cons_of_mem _ hj)) (b.set (hi i List.mem_cons_self) _) q⟩
def tgB (loc : Str → Bool) (N : List Str) : Tg → Expr → Bool
  | .one i, .Name x _ => decide (N[i]? = some x) && loc x
  | .tup is, .Tuple es _ _ => go is es
  | _, _ => false
where go : List Nat → List Expr → Bool
  | [], [] => true
  | i :: is, .Name x _ :: es => decide (N[i]? = some x) && loc x && go is es
  | _, _ => false
section
variable {X : Cx} {loc : Str → Bool} (hl : ∀ x, loc x = true → Loc X.env.scope x ∧ (X.fn x = true ∨ X.env.scope.names.lookup x = some .local))
include hl
theorem tgB_go (hnd : X.N.Nodup) : ∀ {is : List Nat} {es : List Expr}, tgB.go loc X.N is es = true → PGs X es (gIs is) ∧ es.length = is.length ∧ (assignEach es X.env).length = es.length ∧ List.findIdx? (·.1) (assignEach es X.env) = none
  | [], [], _ => ⟨pgs_nil, rfl, rfl, rfl⟩
  | [], _ :: _, h => by simp [tgB.go] at h
  | i :: is, [], h => by simp [tgB.go] at h
  | i :: is, e :: es, h => by
    cases e <;> first | (simp [tgB.go] at h; done) | skip
    rename_i x pos
    simp only [tgB.go, Bool.and_eq_true, decide_eq_true_eq] at h
    obtain ⟨⟨h1, h2⟩, h3⟩ := h
    obtain ⟨k1, k2, k3, k4⟩ := tgB_go hnd h3
    obtain ⟨l1, l2⟩ := hl x h2
    refine ⟨pgs_cons (pg_name (i := i) hnd h1 l1 l2) k1, by simp [k2], ?_, ?_⟩
    · show (assignEach es X.env).length + 1 = es.length + 1
      rw [k3]
    · show List.findIdx? (·.1) ((false, assign (.Name x pos) X.env) :: assignEach es X.env) = none
      rw [List.findIdx?_cons, k4]
      rfl
theorem sound_tg (hnd : X.N.Nodup) {tg : Tg} (hc : tg.isT = true → X.calm = true) (hav : Av tg.slots) {e : Expr} (h : tgB loc X.N tg e = true) : PG X e (gD X.K tg) := by
  cases tg with
  | one i =>
    cases e <;> first | (simp [tgB] at h; done) | skip
    rename_i x pos
    simp only [tgB, Bool.and_eq_true, decide_eq_true_eq] at h
    obtain ⟨l1, l2⟩ := hl x h.2
    refine weakG (pg_name (i := i) hnd h.1 l1 l2) ?_
    rintro v σ H Q ⟨a, m, d, ρ, ρ', st, r, sl, e, q⟩
    simp only [bindT, Option.some.injEq] at e
    subst e
    exact q _ (sl.set i hav r) (But.refl.set (by simp [Tg.slots]) _)
  | tup is =>
    cases e <;> first | (simp [tgB] at h; done) | skip
    rename_i es k pos
    simp only [tgB] at h
    obtain ⟨k1, k2, k3, k4⟩ := tgB_go hl hnd h
    refine eitherG (pg_tup (n := es.length) (hc rfl) k1 k3 k4) (pg_lst (n := es.length) (hc rfl) k1 k3 k4) ?_
    rintro v σ H Q ⟨a, m, d, ρ, ρ', st, r, sl, e, q⟩
    cases d <;> simp only [bindT] at e <;> first | (cases e; done) | skip
    case tup ds =>
      split at e
      · rename_i hlen
        cases r with
        | @tup _ p xs h1 hl2 r2 => exact .inl ⟨p, xs, rfl, h1.sq, by rw [← r2.length, hlen, k2], gIs_go hav r2 sl e (fun _ h => h) But.refl q⟩
      · cases e
    case lst ds =>
      split at e
      · rename_i hlen
        cases r with
        | @lst _ p xs h1 hn hl2 r2 => exact .inr ⟨p, xs, rfl, SqL.of h1, by rw [← r2.length, hlen, k2], gIs_go hav r2 sl e (fun _ h => h) But.refl q⟩
      · cases e
end
end Br



set_option Elab.async false
set_option linter.all false
set_option maxRecDepth 100000
set_option autoImplicit false
/-! Br: the language against the written syntax: the look. -/
namespace Br
open PySem PySem.Spec PyProof.Rows L2
variable [LamTab] [LamCl] [ExC]

def plainE : Expr → Bool
  | .Starred .. => false
  | .Slice .. => false
  | .Set .. => false
  | .SetComp .. => false
  | .DictComp .. => false
  | .NamedExpr .. => false
  | _ => true
theorem star_plain {e : Expr} (h : plainE e = true) (es : List Expr) (env : Env) : starEach (e :: es) env = (false, eval e env) :: starEach es env := by
  cases e <;> first | rfl | (simp [plainE] at h)
theorem plain_ix {e : Expr} (h : plainE e = true) : PlainIx e := by
  intro o i
  cases e <;> first | rfl | (simp [plainE] at h)
theorem plain_set {e : Expr} (h : plainE e = true) (env : Env) : ∀ x, foldedSetIterable e env x = pure x := by
  intro x
  cases e <;> first | rfl | (simp [plainE] at h)
theorem plain_marks {e : Expr} (h : plainE e = true) (op : CmpOp) : behindInMarks op e = false := by
  cases e <;> first | rfl | (simp [plainE] at h)
def okN (x : Str) : Bool := !(x == ("__debug__" : Str)) && !(x == ("__classdict__" : Str)) && !(x == ("__name__" : Str))
theorem okN_d {x : Str} (h : okN x = true) : (x == ("__debug__" : Str)) = false ∧ (x == ("__classdict__" : Str)) = false ∧ x ≠ "__name__" := by
  simp only [okN, Bool.and_eq_true, Bool.not_eq_true'] at h
  exact ⟨h.1.1, h.1.2, by simpa using h.2⟩
def visB (sc : Scope) (x : Str) : Bool := match sc.names.lookup x with
  | some .local => true
  | some .cell => true
  | some .free => true
  | _ => false
theorem visB_of {sc : Scope} {x : Str} (h : visB sc x = true) : Vis sc x := by
  unfold visB at h
  split at h
  · rename_i e; exact .inl e
  · rename_i e; exact .inr (.inl e)
  · rename_i e; exact .inr (.inr e)
  · cases h
def glB (sc : Scope) (x : Str) : Bool := match sc.names.lookup x with
  | some .globalImplicit => true
  | _ => false
theorem glB_of {X : Cx} {x : Str} (h : glB X.env.scope x = true) : Gl X x := by
  unfold glB at h
  split at h
  · rename_i e; exact e
  · cases h
def locB (sc : Scope) (x : Str) : Bool := match sc.names.lookup x with
  | some .local => true
  | some .cell => true
  | _ => false
def cstB : D → Const → Bool
  | .non, .none => true
  | .bl a, .bool b => a == b
  | .int a, .int b => a == b
  | .str a, .str b => decide (a = b) && PyData.strOk a
  | _, _ => false
def Bop.py : Bop → Operator
  | .add => .Add
  | .sub => .Sub
  | .mul => .Mult
  | .fdiv => .FloorDiv
  | .mod => .Mod
  | .pow => .Pow
def Cop.py : Cop → CmpOp
  | .eq => .Eq
  | .ne => .NotEq
  | .lt => .Lt
  | .le => .LtE
  | .gt => .Gt
  | .ge => .GtE
  | .isn => .Is
  | .notn => .IsNot
  | .inn => .In
  | .nin => .NotIn
def Fn.name : Fn → Str
  | .len => "len"
  | .list => "list"
  | .tuple => "tuple"
  | .sorted => "sorted"
  | .min => "min"
  | .max => "max"
  | .sum => "sum"
  | .str => "str"
  | .int => "int"
  | .dict => "dict"
  | .min2 => "min"
  | .max2 => "max"
  | .sortedSet => "sorted"
  | .rngL => "list"
  | .rngT => "tuple"
  | .dct0 => "dict"
  | .sortedSetT => "sorted"
  | .index => "index"
  | .dctT0 => "dict"
  | .sortedDT => "sorted"
  | .minT => "min"
  | .count => "count"
def tailB (op : BoolOp) (b : Expr) (r : List Expr) (pos : Pos) : Expr := match r with
  | [] => b
  | c :: r => .BoolOp op (b :: c :: r) pos
def tyB1 (sc : Scope) : Ty → Expr → Bool
  | t, .Name x _ => decide (x = Str.ofString t.name) && glB sc x
  | _, _ => false
def tysB (sc : Scope) : List Ty → List Expr → Bool
  | [], [] => true
  | t :: r, e :: es => tyB1 sc t e && tysB sc r es
  | _, _ => false
def tyB (sc : Scope) : List Ty → Expr → Bool
  | [t], .Name x p => tyB1 sc t (.Name x p)
  | ts, .Tuple es _ _ => tysB sc ts es && !ts.isEmpty && decide (ts.length ≤ 20)
  | _, _ => false
/-- the scope within a comprehension -/
def inSc (scope sc : Scope) : Scope := relS scope sc
/-- which target goes with which walk -/
def wkTg : Wk → Expr → Bool
  | .enum, .Tuple .. => true
  | .enum, _ => false
  | .enumT, .Tuple .. => true
  | .enumT, _ => false
  | _, _ => true
def arity : Fn → Nat → Bool
  | .min2, n => n == 2
  | .max2, n => n == 2
  | _, n => n == 1
/-- what a walk reckons ahead -/
def wkArgs : Wk → Expr → List Expr
  | .seq, e => [e]
  | .str, e => [e]
  | .rngD, .Call _ [a, b, _] _ _ => [a, b]
  | _, .Call _ es _ _ => es
  | _, _ => []
/-- written: the number one below nought -/
def m1B : Expr → Bool
  | .UnaryOp .USub (.Constant (.int j) _ _) _ => decide (j = 1)
  | .BinOp (.Constant (.int i) _ _) .Sub (.Constant (.int j) _ _) _ => decide (i = 0) && decide (j = 1)
  | _ => false
def wkB (sc : Scope) : Wk → Expr → Bool
  | .seq, _ => true
  | .str, _ => true
  | .rng1, .Call (.Name x _) [_] [] _ => decide (x = "range") && glB sc x
  | .rng2, .Call (.Name x _) [_, _] [] _ => decide (x = "range") && glB sc x
  | .rngD, .Call (.Name x _) [_, _, c] [] _ => decide (x = "range") && glB sc x && m1B c
  | .enum, .Call (.Name x _) [_] [] _ => decide (x = "enumerate") && glB sc x
  | .enumT, .Call (.Name x _) [_] [] _ => decide (x = "enumerate") && glB sc x
  | _, _ => false
def noCallE : Expr → Bool
  | .Call _ [] [] _ => false
  | _ => true
def strKeys : List Str → List (Option Expr) → Bool
  | [], [] => true
  | k :: r, some (.Constant (.str s) _ _) :: es => decide (s = k) && PyData.strOk k && strKeys r es
  | _, _ => false
/-- what the text may use: defs; defs that take a function last; the slots that hold functions; whether one of them may be called here; whether functions may be made here -/
structure FS where
  fs : List Str
  hs : List Str
  cl : List Nat
  lv : Bool
  lk : Bool
  /-- nothing is handled here -/
  cm : Bool
  /-- the one slot of cl holds the exception that is caught -/
  xc : Bool
  /-- the classes of exceptions are known -/
  xk : Bool
def FS.inner (fs : FS) : FS := { fs with lv := false, lk := false, xc := false, xk := false }
def FS.lamb (fs : FS) : FS := ⟨fs.fs, [], [], false, false, true, false, false⟩
/-- within a try -/
def FS.tryb (fs : FS) : FS := { fs with xk := false, xc := false }
/-- within an except suite -/
def FS.suite (i : Nat) : FS := ⟨[], [], [i], false, false, false, true, false⟩
def FS.av (fs : FS) (is : List Nat) : Bool := is.all fun i => !fs.cl.contains i
/-- a lambda's parameters: plain ones -/
def lamPs : Arguments → Option (List Str)
  | ⟨[], as, none, [], [], none, []⟩ => some (as.map (·.arg))
  | _ => none
def splitLast : List Expr → Option (List Expr × Expr)
  | [] => none
  | [e] => some ([], e)
  | e :: r => (splitLast r).map fun p => (e :: p.1, p.2)
def capN (N : List Str) (caps : List Nat) : List Str := caps.filterMap fun i => N[i]?
/-- what gives a new list -/
def newB : Ex → Bool
  | .bin .add _ _ => true
  | .comp .. => true
  | .fn .list _ => true
  | .fn .rngL _ => true
  | .sortK .. => true
  | _ => false
/-- no exception is told -/
def calmX : Ex → Bool
  | .var _ => true
  | .cst _ => true
  | .idx a b => calmX a && calmX b
  | _ => false
def calm2 : Exs → Bool
  | .cons _ (.cons z .nil) => calmX z
  | _ => false
theorem calmX_ok {F : Fe} : ∀ {x : Ex} {ρ : Sl} {m m' : Mem} {c : Str} {ds : List D}, calmX x = true → evE F x ρ m = .ex c ds m' → False
  | .var i, ρ, m, m', c, ds, _, e => by
    simp only [evE] at e
    split at e <;> cases e
  | .cst d, ρ, m, m', c, ds, _, e => by
    simp only [evE] at e
    cases e
  | .idx a b, ρ, m, m', c, ds, h, e => by
    simp only [calmX, Bool.and_eq_true] at h
    simp only [evE] at e
    cases e1 : evE F a ρ m with
    | ex c1 d1 m1 => exact calmX_ok h.1 e1
    | bad => rw [e1] at e; cases e
    | ok x m1 =>
      rw [e1] at e
      simp only [Res.bind] at e
      cases e2 : evE F b ρ m1 with
      | ex c1 d1 m2 => exact calmX_ok h.2 e2
      | bad => rw [e2] at e; cases e
      | ok y m2 =>
        rw [e2] at e
        simp only at e
        cases e3 : idxD m2 x y <;> rw [e3] at e <;> cases e
  | .glo _, _, _, _, _, _, h, _ => by simp [calmX] at h
  | .bin .., _, _, _, _, _, h, _ => by simp [calmX] at h
  | .cmp .., _, _, _, _, _, h, _ => by simp [calmX] at h
  | .chain .., _, _, _, _, _, h, _ => by simp [calmX] at h
  | .and .., _, _, _, _, _, h, _ => by simp [calmX] at h
  | .or .., _, _, _, _, _, h, _ => by simp [calmX] at h
  | .not .., _, _, _, _, _, h, _ => by simp [calmX] at h
  | .ite .., _, _, _, _, _, h, _ => by simp [calmX] at h
  | .fn .., _, _, _, _, _, h, _ => by simp [calmX] at h
  | .isin .., _, _, _, _, _, h, _ => by simp [calmX] at h
  | .call .., _, _, _, _, _, h, _ => by simp [calmX] at h
  | .sli .., _, _, _, _, _, h, _ => by simp [calmX] at h
  | .tup .., _, _, _, _, _, h, _ => by simp [calmX] at h
  | .lst .., _, _, _, _, _, h, _ => by simp [calmX] at h
  | .comp .., _, _, _, _, _, h, _ => by simp [calmX] at h
  | .scope .., _, _, _, _, _, h, _ => by simp [calmX] at h
  | .new .., _, _, _, _, _, h, _ => by simp [calmX] at h
  | .hof .., _, _, _, _, _, h, _ => by simp [calmX] at h
  | .callv .., _, _, _, _, _, h, _ => by simp [calmX] at h
  | .sortK .., _, _, _, _, _, h, _ => by simp [calmX] at h
  | .lpop .., _, _, _, _, _, h, _ => by simp [calmX] at h
  | .sdef .., _, _, _, _, _, h, _ => by simp [calmX] at h
  | .dgetT .., _, _, _, _, _, h, _ => by simp [calmX] at h
  | .pick .., _, _, _, _, _, h, _ => by simp [calmX] at h
  | .isx .., _, _, _, _, _, h, _ => by simp [calmX] at h
  | .xat .., _, _, _, _, _, h, _ => by simp [calmX] at h
mutual
def chkE (fs : FS) (N : List Str) (sc : Scope) : Ex → Expr → Bool
  | .var i, e => match e with
    | .Name x _ => decide (N[i]? = some x) && visB sc x && okN x
    | _ => false
  | .glo g, e => match e with
    | .Name x _ => decide (g = x) && glB sc x && okN x
    | _ => false
  | .cst d, e => match e with
    | .Constant c _ _ => cstB d c
    | .UnaryOp .USub (.Constant (.int j) _ _) _ => decide (d = .int (-j))
    | _ => false
  | .bin o a b, e => match e with
    | .BinOp a' o' b' _ => decide (o' = o.py) && chkE fs N sc a a' && chkE fs N sc b b'
    | _ => false
  | .cmp o a b, e => match e with
    | .Compare a' [o'] [b'] _ => decide (o' = o.py) && plainE b' && chkE fs N sc a a' && chkE fs N sc b b'
    | _ => false
  | .chain o o2 a b c, e => match e with
    | .Compare a' [o', o2'] [b', c'] _ => decide (o' = o.py) && decide (o2' = o2.py) && decide (o ≠ .inn ∧ o ≠ .nin ∧ o2 ≠ .inn ∧ o2 ≠ .nin) && chkE fs N sc a a' && chkE fs N sc b b' && chkE fs N sc c c'
    | _ => false
  | .and a b, e => match e with
    | .BoolOp .And (a' :: b' :: r) pos => chkE fs N sc a a' && chkE fs N sc b (tailB .And b' r pos)
    | _ => false
  | .or a b, e => match e with
    | .BoolOp .Or (a' :: b' :: r) pos => chkE fs N sc a a' && chkE fs N sc b (tailB .Or b' r pos)
    | _ => false
  | .not a, e => match e with
    | .UnaryOp .Not a' _ => chkE fs N sc a a'
    | _ => false
  | .ite c a b, e => match e with
    | .IfExp c' a' b' _ => chkE fs N sc c c' && chkE fs N sc a a' && chkE fs N sc b b'
    | _ => false
  | .fn f es, e => match f with
    | .sortedSet => match e with
      | .Call (.Name x _) [.Call (.Name y _) es' [] _] [] _ => fs.cm && decide (x = "sorted") && decide (y = "set") && glB sc x && glB sc y && decide (es'.length = 1) && chkEs fs N sc es es'
      | _ => false
    | .sortedSetT => match e with
      | .Call (.Name x _) [.Call (.Name y _) es' [] _] [] _ => fs.cm && decide (x = "sorted") && decide (y = "set") && glB sc x && glB sc y && decide (es'.length = 1) && chkEs fs N sc es es'
      | _ => false
    | .dct0 => match e with
      | .Dict [] [] _ => (match es with | .nil => true | _ => false)
      | _ => false
    | .dctT0 => match e with
      | .Dict [] [] _ => (match es with | .nil => true | _ => false)
      | _ => false
    | .index => match e with
      | .Call (.Attribute o' x ap) [e'] [] cp => decide (x = "index") && calm2 es && noCallE o' && (ap.endLine == cp.line) && chkEs fs N sc es [o', e']
      | _ => false
    | .count => match e with
      | .Call (.Attribute o' x ap) [e'] [] cp => decide (x = "count") && calm2 es && noCallE o' && (ap.endLine == cp.line) && chkEs fs N sc es [o', e']
      | _ => false
    | .rngL => match e with
      | .Call (.Name x _) [.Call (.Name y _) es' [] _] [] _ => fs.cm && decide (x = "list") && decide (y = "range") && glB sc x && glB sc y && decide (es'.length = 1) && chkEs fs N sc es es'
      | _ => false
    | .rngT => match e with
      | .Call (.Name x _) [.Call (.Name y _) es' [] _] [] _ => fs.cm && decide (x = "tuple") && decide (y = "range") && glB sc x && glB sc y && decide (es'.length = 1) && chkEs fs N sc es es'
      | _ => false
    | f => match e with
      | .Call (.Name x _) es' [] _ => fs.cm && decide (x = f.name) && glB sc x && arity f es'.length && chkEs fs N sc es es'
      | _ => false
  | .isin a ts, e => match e with
    | .Call (.Name x _) [a', t] [] _ => decide (x = "isinstance") && glB sc x && plainE t && plainE a' && chkE fs N sc a a' && tyB sc ts t
    | _ => false
  | .call f es, e => match e with
    | .Call (.Name x _) (e' :: es') [] _ => fs.cm && decide (f = x) && fs.fs.contains f && glB sc x && okN x && chkEs fs N sc es (e' :: es')
    | _ => false
  | .idx a b, e => match e with
    | .Subscript a' b' _ => plainE b' && chkE fs N sc a a' && chkE fs N sc b b'
    | _ => false
  | .sli a lo hi, e => match e with
    | .Subscript a' (.Slice lo' hi' none _) _ => chkE fs N sc a a' && chkEs fs N sc lo lo'.toList && chkEs fs N sc hi hi'.toList
    | _ => false
  | .tup es, e => match e with
    | .Tuple es' _ _ => chkEs fs N sc es es'
    | _ => false
  | .lst _ es, e => match e with
    | .List es' _ => chkEs fs N sc es es'
    | _ => false
  | .comp own tg k it c el, e => match e with
    | .ListComp elt [⟨tg', iter, ifs, 0⟩] scope _ => fs.cm && blkC N sc scope own && tgB (locB scope) N tg tg' && tg.slots.all (fun i => decide (i ∈ own.map (·.2))) && plainE iter && wkTg k tg' &&
        wkB sc k iter && chkEs fs N sc it (wkArgs k iter) && decide (ifs.length ≤ 1) && chkEs fs.inner N (inSc scope sc) c ifs && chkE fs.inner N (inSc scope sc) el elt && fs.av (own.map (·.2))
    | _ => false
  | .scope a, e => chkE fs N sc a e
  | .new a, e => newB a && chkE fs N sc a e
  | .hof f es np caps x, e => match e with
    | .Call (.Name g _) es' [] _ => match splitLast es' with
      | some (es2, .Lambda params body scope _) => fs.cm && decide (f = g) && fs.hs.contains f && fs.lk && glB sc g && okN g && chkEs fs N sc es es2 && (match lamPs params with
          | some ps => decide (ps.length = np) && decide (np ≤ 2) && decide (caps.map (fun j => N[j]?) = (capN N caps).map some) && NdefX.nscB (ps ++ capN N caps) ps (capN N caps) scope && NdefX.ndefB sc scope (capN N caps) && plainE body && chkE fs.lamb (ps ++ capN N caps) scope x body
          | none => false)
      | _ => false
    | _ => false
  | .callv es, e => match e with
    | .Call (.Name x _) es' [] _ => fs.cm && fs.lv && (match fs.cl with
      | [i] => decide (N[i]? = some x)
      | _ => false) && visB sc x && okN x && chkEs fs N sc es es'
    | _ => false
  | .sortK es caps x, e => match e with
    | .Call (.Name g _) [e'] [⟨some key, .Lambda params body scope _, _⟩] _ => fs.cm && decide (g = "sorted") && decide (key = "key") && glB sc g && fs.lk && plainE e' && chkEs fs N sc es [e'] && (match lamPs params with
          | some ps => decide (ps.length = 1) && decide (caps.map (fun j => N[j]?) = (capN N caps).map some) && NdefX.nscB (ps ++ capN N caps) ps (capN N caps) scope && NdefX.ndefB sc scope (capN N caps) && plainE body && chkE fs.lamb (ps ++ capN N caps) scope x body
          | none => false)
    | _ => false
  | .lpop o es, e => match e with
    | .Call (.Attribute o' x ap) es' [] cp => decide (x = "pop") && noCallE o' && (ap.endLine == cp.line) && decide (es'.length ≤ 1) && chkE fs N sc o o' && chkEs fs N sc es es'
    | _ => false
  | .sdef o k z, e => match e with
    | .Call (.Attribute o' x ap) [k', z'] [] cp => decide (x = "setdefault") && noCallE o' && (ap.endLine == cp.line) && plainE k' && plainE z' && chkE fs N sc o o' && chkE fs N sc k k' && chkE fs N sc z z'
    | _ => false
  | .dgetT o k, e => match e with
    | .Subscript o' k' _ => plainE k' && chkE fs N sc o o' && chkE fs N sc k k'
    | _ => false
  | .isx i c, e => match e with
    | .Call (.Name x _) [.Name y _, .Name z _] [] _ => fs.xc && decide (fs.cl = [i]) && decide (x = "isinstance") && glB sc x && decide (N[i]? = some y) && visB sc y && okN y && decide (z = c) && glB sc z && okN z && ((xcls.lookup c).isSome || decide (c = "ValueError"))
    | _ => false
  | .xat i f, e => match e with
    | .Attribute (.Name y _) f' _ => fs.xc && decide (fs.cl = [i]) && decide (N[i]? = some y) && visB sc y && okN y && decide (f' = f)
    | _ => false
  | .pick get ks es k, e => match get with
    | false => match e with
      | .Subscript (.Dict keys vals _) k' _ => plainE k' && strKeys ks keys && decide ks.Nodup && decide (keys.length = vals.length ∧ 0 < keys.length) && decide (keys.length ≤ 15) && chkEs fs N sc es vals && chkE fs N sc k k'
      | _ => false
    | true => match e with
      | .Call (.Attribute (.Dict keys vals _) x ap) [k'] [] cp => decide (x = "get") && (ap.endLine == cp.line) && plainE k' && strKeys ks keys && decide ks.Nodup && decide (keys.length = vals.length ∧ 0 < keys.length) && decide (keys.length ≤ 15) && chkEs fs N sc es vals && chkE fs N sc k k'
      | _ => false
def chkEs (fs : FS) (N : List Str) (sc : Scope) : Exs → List Expr → Bool
  | .nil, [] => true
  | .cons e r, e' :: r' => plainE e' && chkE fs N sc e e' && chkEs fs N sc r r'
  | _, _ => false
end
end Br


set_option Elab.async false
set_option linter.all false
set_option maxRecDepth 100000
set_option autoImplicit false
/-! Br: walks, comprehensions. -/
namespace Br
open PySem PySem.Spec PyProof.Rows L2
variable [LamTab] [LamCl] [ExC]
def Walks (K : PySem.W.Frag) (J : It) (xs : List D) (g : Mem → Bool) (a1 : Ad) (H1 : Hp) : Prop := ∀ a' m H', Kp a1 H1 a' H' → MRel K a' m H' → g m = true →
  (∀ i, i < xs.length → J.go i H' ∧ ∀ x H'', J.yld i H' x H'' → ∃ d, xs[i]? = some d ∧ Ext a' H' a' H'' ∧ MRel K a' m H'' ∧ RepV K H'' a' d x) ∧ (∀ i, xs.length ≤ i → J.stop i H')
def tW (K : PySem.W.Frag) (k : Wk) (ev : Sl → Mem → Res (List D)) : TI := fun σ H R => ∃ a ρ m ds m1 xs, MRel K a m H ∧ SRel K a H ρ σ ∧ ev ρ m = .ok ds m1 ∧ walkD m1 k ds = some xs ∧
  ∀ J a1 H1, Ext a H a1 H1 → MRel K a1 m1 H1 → Walks K J xs (walkG m1 k ds) a1 H1 → xs.length ≤ sizeLine → R J H1
section
variable {K : PySem.W.Frag} {H H1 : Hp} {a a1 : Ad} {m : Mem} {gd : Mem → Bool}
theorem walks_list {p : Addr} {ds : List D} {xs : List V} (h : ∀ a' H', Kp a1 H1 a' H' → SqL K H' p xs ∧ RepVs K H' a' ds xs) : Walks K (Itl K p) ds gd a1 H1 := by
  intro a' m H' kp st _
  obtain ⟨hs, hr⟩ := h a' H' kp
  refine ⟨fun i hi => ?_, fun i hi => ⟨xs, hs, by rw [← hr.length]; exact hi⟩⟩
  have hx : i < xs.length := by rw [← hr.length]; exact hi
  refine ⟨⟨xs, xs[i], hs, List.getElem?_eq_getElem hx⟩, ?_⟩
  rintro x H'' ⟨rfl, hy⟩
  obtain ⟨d, h1, h2⟩ := hr.get' (hy xs hs)
  exact ⟨d, h1, Ext.refl, st, h2⟩
theorem walks_live {p : Addr} {n : Nat} {ds : List D} (hp : a1.st[n]? = some p) (hg : ∀ m, gd m = true → m[n]? = some (.lst ds)) : Walks K (Itl K p) ds gd a1 H1 := by
  intro a' m H' kp st hm
  obtain ⟨new, hst⟩ := kp.pre
  have hp' : a'.st[n]? = some p := by rw [hst, List.getElem?_append_left (List.getElem?_eq_some_iff.mp hp).1]; exact hp
  obtain ⟨ho, g1, g2⟩ := st.at_ n p _ hp' (hg m hm)
  cases g2 with
  | @lst _ xs hl hr =>
    have hs : SqL K H' p xs := SqL.of g1
    refine ⟨fun i hi => ?_, fun i hi => ⟨xs, hs, by rw [← hr.length]; exact hi⟩⟩
    have hx : i < xs.length := by rw [← hr.length]; exact hi
    refine ⟨⟨xs, xs[i], hs, List.getElem?_eq_getElem hx⟩, ?_⟩
    rintro x H'' ⟨rfl, hy⟩
    obtain ⟨d, h1, h2⟩ := hr.get' (hy xs hs)
    exact ⟨d, h1, Ext.refl, st, h2⟩
theorem walks_tup {p : Addr} {ds : List D} {xs : List V} (h : ∀ a' H', Kp a1 H1 a' H' → SqT K H' p xs ∧ RepVs K H' a' ds xs) : Walks K (Itt K p) ds gd a1 H1 := by
  intro a' m H' kp st _
  obtain ⟨hs, hr⟩ := h a' H' kp
  refine ⟨fun i hi => ?_, fun i hi => ⟨xs, hs, by rw [← hr.length]; exact hi⟩⟩
  have hx : i < xs.length := by rw [← hr.length]; exact hi
  refine ⟨⟨xs, xs[i], hs, List.getElem?_eq_getElem hx⟩, ?_⟩
  rintro x H'' ⟨rfl, hy⟩
  obtain ⟨d, h1, h2⟩ := hr.get' (hy xs hs)
  exact ⟨d, h1, Ext.refl, st, h2⟩
theorem walks_enum {p : Addr} {ds : List D} {xs : List V} (h : ∀ a' H', Kp a1 H1 a' H' → SqL K H' p xs ∧ RepVs K H' a' ds xs) : Walks K (Ite K p) (ds.zipIdx.map fun q => .tup [.int q.2, q.1]) gd a1 H1 := by
  intro a' m H' kp st _
  obtain ⟨hs, hr⟩ := h a' H' kp
  have hl : (ds.zipIdx.map fun q => D.tup [.int q.2, q.1]).length = ds.length := by simp
  rw [hl]
  refine ⟨fun i hi => ?_, fun i hi => ⟨xs, hs, by rw [← hr.length]; exact hi⟩⟩
  have hx : i < xs.length := by rw [← hr.length]; exact hi
  refine ⟨⟨xs, xs[i], hs, List.getElem?_eq_getElem hx⟩, ?_⟩
  rintro x H'' ⟨T, y, rfl, hT, rfl, hy⟩
  obtain ⟨d, h1, h2⟩ := hr.get' (hy xs hs)
  refine ⟨.tup [.int i, d], ?_, Ext.new hT, st.fresh hT, .tup (.inl ⟨.inl upd_same, st.out hT⟩) (by show 2 ≤ sizeLine; decide) (.cons (.int _) (.cons (h2.mono (Ext.new hT)) .nil))⟩
  rw [List.getElem?_map, List.getElem?_zipIdx, h1]
  simp
theorem walks_enumLive {p : Addr} {n : Nat} {ds : List D} (hp : a1.st[n]? = some p) (hg : ∀ m, gd m = true → m[n]? = some (.lst ds)) : Walks K (Ite K p) (ds.zipIdx.map fun q => .tup [.int q.2, q.1]) gd a1 H1 := by
  intro a' m H' kp st hm
  obtain ⟨new, hst⟩ := kp.pre
  have hp' : a'.st[n]? = some p := by rw [hst, List.getElem?_append_left (List.getElem?_eq_some_iff.mp hp).1]; exact hp
  obtain ⟨ho, g1, g2⟩ := st.at_ n p _ hp' (hg m hm)
  cases g2 with
  | @lst _ xs hl hr =>
    have hs : SqL K H' p xs := SqL.of g1
    have hl : (ds.zipIdx.map fun q => D.tup [.int q.2, q.1]).length = ds.length := by simp
    rw [hl]
    refine ⟨fun i hi => ?_, fun i hi => ⟨xs, hs, by rw [← hr.length]; exact hi⟩⟩
    have hx : i < xs.length := by rw [← hr.length]; exact hi
    refine ⟨⟨xs, xs[i], hs, List.getElem?_eq_getElem hx⟩, ?_⟩
    rintro x H'' ⟨T, y, rfl, hT, rfl, hy⟩
    obtain ⟨d, h1, h2⟩ := hr.get' (hy xs hs)
    refine ⟨.tup [.int i, d], ?_, Ext.new hT, st.fresh hT, .tup (.inl ⟨.inl upd_same, st.out hT⟩) (by show 2 ≤ sizeLine; decide) (.cons (.int _) (.cons (h2.mono (Ext.new hT)) .nil))⟩
    rw [List.getElem?_map, List.getElem?_zipIdx, h1]
    simp
theorem walks_rng {lo : Int} {n : Nat} {ds : List D} (hl : ds.length = n) (h : ∀ i, i < n → ds[i]? = some (.int (lo + (i : Nat)))) : Walks K (Itr lo n) ds gd a1 H1 := by
  intro a' m H' kp st _
  rw [hl]
  refine ⟨fun i hi => ⟨hi, ?_⟩, fun i hi => hi⟩
  rintro x H'' ⟨rfl, rfl⟩
  exact ⟨_, h i hi, Ext.refl, st, .int _⟩
theorem walks_enumT {p : Addr} {ds : List D} {xs : List V} (h : ∀ a' H', Kp a1 H1 a' H' → SqT K H' p xs ∧ RepVs K H' a' ds xs) : Walks K (IteT K p) (ds.zipIdx.map fun q => .tup [.int q.2, q.1]) gd a1 H1 := by
  intro a' m H' kp st _
  obtain ⟨hs, hr⟩ := h a' H' kp
  have hl : (ds.zipIdx.map fun q => D.tup [.int q.2, q.1]).length = ds.length := by simp
  rw [hl]
  refine ⟨fun i hi => ?_, fun i hi => ⟨xs, hs, by rw [← hr.length]; exact hi⟩⟩
  have hx : i < xs.length := by rw [← hr.length]; exact hi
  refine ⟨⟨xs, xs[i], hs, List.getElem?_eq_getElem hx⟩, ?_⟩
  rintro x H'' ⟨T, y, rfl, hT, rfl, hy⟩
  obtain ⟨d, h1, h2⟩ := hr.get' (hy xs hs)
  refine ⟨.tup [.int i, d], ?_, Ext.new hT, st.fresh hT, .tup (.inl ⟨.inl upd_same, st.out hT⟩) (by show 2 ≤ sizeLine; decide) (.cons (.int _) (.cons (h2.mono (Ext.new hT)) .nil))⟩
  rw [List.getElem?_map, List.getElem?_zipIdx, h1]
  simp
theorem walks_rngC {lo c : Int} {n : Nat} {ds : List D} (hl : ds.length = n) (h : ∀ i, i < n → ds[i]? = some (.int (lo + (i : Nat) * c))) : Walks K (Itc lo c n) ds gd a1 H1 := by
  intro a' m H' kp st _
  rw [hl]
  refine ⟨fun i hi => ⟨hi, ?_⟩, fun i hi => hi⟩
  rintro x H'' ⟨rfl, rfl⟩
  exact ⟨_, h i hi, Ext.refl, st, .int _⟩
theorem walks_str {s : Str} (hs : PyData.strOk s = true) : Walks K (Its s) (s.cps.toList.map fun c => .str ⟨#[c]⟩) gd a1 H1 := by
  intro a' m H' kp st _
  have hl : (s.cps.toList.map fun c => D.str ⟨#[c]⟩).length = s.cps.size := by simp
  rw [hl]
  refine ⟨fun i hi => ⟨hi, ?_⟩, fun i hi => hi⟩
  rintro x H'' ⟨rfl, c, hc, rfl⟩
  refine ⟨_, by rw [List.getElem?_map, Array.getElem?_toList, hc]; rfl, Ext.refl, st, .str _ ?_⟩
  unfold PyData.strOk at hs ⊢
  rw [Array.all_eq_true'] at hs
  have := hs c (Array.mem_of_getElem? hc)
  simpa using this
end
section
variable {X : Cx} {F : Fe} {tg it : Expr}
theorem evEs_one {x : Ex} {ρ : Sl} {m m1 : Mem} {ds : List D} (h : evEs F (.cons x .nil) ρ m = .ok ds m1) : ∃ d, ds = [d] ∧ evE F x ρ m = .ok d m1 := by
  simp only [evEs] at h
  cases e : evE F x ρ m with
  | ok d m2 =>
    rw [e] at h
    simp only [Res.bind, Res.ok.injEq] at h
    exact ⟨d, h.1.symm, by rw [h.2]⟩
  | ex c ds m' => rw [e] at h; simp [Res.bind] at h
  | bad => rw [e] at h; simp [Res.bind] at h
theorem sound_seq {x : Ex} (h : PE X it (tS X.K (evE F x))) : PI X tg it (tW X.K .seq (evEs F (.cons x .nil))) := by
  refine eitherI (pi_list h) (pi_tup h) ?_
  rintro σ H R ⟨a, ρ, m, ds, m1, xs, st, sl, e1, e2, q⟩
  obtain ⟨d, rfl, e3⟩ := evEs_one e1
  cases d <;> simp only [walkD, itemsD] at e2 <;> first | (cases e2; done) | skip
  case tup ds =>
    cases e2
    refine .inr ⟨a, ρ, m, st, sl, ?_⟩
    rw [e3]
    intro a1 H1 v x1 st1 r
    cases r with
    | @tup _ p xs h1 hl r =>
      exact ⟨p, rfl, ⟨xs, h1.sq⟩, q _ _ _ x1 st1 (walks_tup fun a' H' kp => ⟨(h1.kp kp).sq, r.kp kp⟩) hl⟩
  case lst ds =>
    cases e2
    refine .inl ⟨a, ρ, m, st, sl, ?_⟩
    rw [e3]
    intro a1 H1 v x1 st1 r
    cases r with
    | @lst _ p xs h1 hn hl r =>
      exact ⟨p, rfl, ⟨xs, SqL.of h1⟩, q _ _ _ x1 st1 (walks_list fun a' H' kp => ⟨SqL.of (kp.keep _ _ h1 hn (by intro _ z; cases z)).1, r.kp kp⟩) hl⟩
  case scr ns =>
    cases e2
    refine .inl ⟨a, ρ, m, st, sl, ?_⟩
    rw [e3]
    intro a1 H1 v x1 st1 r
    cases r with
    | @scr _ p h1 hl =>
      exact ⟨p, rfl, ⟨_, h1.sq⟩, q _ _ _ x1 st1 (walks_list fun a' H' kp => ⟨(h1.kp kp).sq, RepVs.of_ints ns⟩) (by rw [List.length_map]; exact hl)⟩
  case ref n =>
    split at e2
    · rename_i ds hm
      cases e2
      refine .inl ⟨a, ρ, m, st, sl, ?_⟩
      rw [e3]
      intro a1 H1 v x1 st1 r
      cases r with
      | @ref _ p hp =>
        obtain ⟨ho, g1, g2⟩ := st1.at_ n p _ hp hm
        cases g2 with
        | @lst _ ys hl rr => exact ⟨p, rfl, ⟨ys, SqL.of g1⟩, q _ _ _ x1 st1 (walks_live hp fun m' h => by
            simp only [walkG, decide_eq_true_eq] at h
            rw [h, hm]) hl⟩
    · cases e2
theorem sound_str {x : Ex} (h : PE X it (tS X.K (evE F x))) : PI X tg it (tW X.K .str (evEs F (.cons x .nil))) := by
  refine weakI (pi_str h) ?_
  rintro σ H R ⟨a, ρ, m, ds, m1, xs, st, sl, e1, e2, q⟩
  obtain ⟨d, rfl, e3⟩ := evEs_one e1
  cases d <;> simp only [walkD] at e2 <;> first | (cases e2; done) | skip
  rename_i s
  split at e2
  · cases e2
    refine ⟨a, ρ, m, st, sl, ?_⟩
    rw [e3]
    intro a1 H1 v x1 st1 r
    cases r with
    | str _ hs => exact ⟨s, rfl, q _ _ _ x1 st1 (walks_str hs) (by simp; exact big_line (by assumption))⟩
  · cases e2
theorem sound_rng1 {es : Exs} {e : Expr} {p pos : Pos} (hg : Gl X "range") (hm : X.mg "range" = none) (hp : plainE e = true) (h : PA X [e] (tA X.K (evEs F es))) : PI X tg (.Call (.Name "range" p) [e] [] pos) (tW X.K .rng1 (evEs F es)) := by
  refine weakI (pi_range1 hg hm h (star_plain hp _ _)) ?_
  rintro σ H R ⟨a, ρ, m, ds, m1, xs, st, sl, e1, e2, q⟩
  refine ⟨a, ρ, m, st, sl, ?_⟩
  rw [e1]
  intro a1 H1 vs x1 st1 r
  match ds, e2, r with
  | [.int j], e2, r =>
    cases r with
    | cons h1 t =>
      cases t
      cases h1
      simp only [walkD] at e2
      split at e2
      · rename_i hj
        cases e2
        refine ⟨j, rfl, hj.1, ?_, q _ _ _ x1 st1 (walks_rng (by simp) fun i hi => ?_) ?_⟩
        · have := hj.2
          unfold big at this
          omega
        · rw [List.getElem?_map, List.getElem?_range hi]
          simp
        · simp only [List.length_map, List.length_range]
          have := hj.2
          exact big_line (by omega)
      · cases e2
theorem sound_rng2 {es : Exs} {e e' : Expr} {p pos : Pos} (hg : Gl X "range") (hm : X.mg "range" = none) (hp : plainE e = true) (hp' : plainE e' = true) (h : PA X [e, e'] (tA X.K (evEs F es))) :
    PI X tg (.Call (.Name "range" p) [e, e'] [] pos) (tW X.K .rng2 (evEs F es)) := by
  refine weakI (pi_range2 hg hm h (by rw [star_plain hp, star_plain hp']; rfl) (star_plain hp' _ _)) ?_
  rintro σ H R ⟨a, ρ, m, ds, m1, xs, st, sl, e1, e2, q⟩
  refine ⟨a, ρ, m, st, sl, ?_⟩
  rw [e1]
  intro a1 H1 vs x1 st1 r
  match ds, e2, r with
  | [.int i, .int j], e2, r =>
    obtain ⟨x, y, rfl, r1, r2⟩ := two_of r
    cases r1
    cases r2
    simp only [walkD] at e2
    split at e2
    · rename_i hj
      cases e2
      refine ⟨i, j, rfl, ⟨hj.1, hj.2.1, hj.2.2.1, hj.2.2.2.1⟩, q _ _ _ x1 st1 (walks_rng (by simp) fun k hk => ?_) (by simp only [List.length_map, List.length_range]; exact big_line hj.2.2.2.2)⟩
      rw [List.getElem?_map, List.getElem?_range hk]
      simp
    · cases e2
/-- -1, as it is written -/
theorem pe_m1 {c : Expr} (h : m1B c = true) : PE X c (fun σ H Q => Q (.int (-1)) H) ∧ plainE c = true := by
  unfold m1B at h
  split at h
  · rename_i j k p q
    simp only [decide_eq_true_eq] at h
    subst h
    refine ⟨weakE (pe_un un_neg pe_int) ?_, rfl⟩
    intro σ H Q q
    exact ⟨1, rfl, q⟩
  · rename_i i k p j k2 p2 q
    simp only [Bool.and_eq_true, decide_eq_true_eq] at h
    obtain ⟨rfl, rfl⟩ := h
    refine ⟨weakE (pe_op op_sub pe_int pe_int) ?_, rfl⟩
    intro σ H Q q
    exact ⟨0, 1, rfl, rfl, q⟩
  · cases h
theorem sound_rngD {es : Exs} {e e' c : Expr} {p pos : Pos} (hg : Gl X "range") (hm : X.mg "range" = none) (hp : plainE e = true) (hp' : plainE e' = true) (hc : m1B c = true) (h : PA X [e, e', c] (tSnoc X.K (evEs F es) fun σ H Q => Q (.int (-1)) H)) :
    PI X tg (.Call (.Name "range" p) [e, e', c] [] pos) (tW X.K .rngD (evEs F es)) := by
  have h2 := (pe_m1 (X := X) hc).2
  refine weakI (pi_range3 hg hm h (star_plain hp _ _) (by rw [star_plain hp', star_plain h2]; rfl)) ?_
  rintro σ H R ⟨a, ρ, m, ds, m1, xs, st, sl, e1, e2, q⟩
  refine ⟨a, ρ, m, ds, m1, st, sl, e1, ?_⟩
  intro a1 H1 vs x1 st1 r
  match ds, e2, r with
  | [.int i, .int j], e2, r =>
    obtain ⟨x, y, rfl, r1, r2⟩ := two_of r
    cases r1
    cases r2
    simp only [walkD] at e2
    split at e2
    · rename_i hj
      cases e2
      refine ⟨i, j, -1, (i - j).toNat, rfl, RgC.neg hj.1 hj.2.1 hj.2.2.1 hj.2.2.2.1, q _ _ _ x1 st1 (walks_rngC (by simp) fun k hk => ?_) (by simp only [List.length_map, List.length_range]; exact big_line hj.2.2.2.2)⟩
      rw [List.getElem?_map, List.getElem?_range hk]
      simp
      try omega
    · cases e2
theorem sound_enumT {es : Exs} {e : Expr} {p pos tpos : Pos} {elts : List Expr} {kk : Nat} (hg : Gl X "enumerate") (hm : X.mg "enumerate" = none) (hp : plainE e = true) (h : PA X [e] (tA X.K (evEs F es))) :
    PI X (.Tuple elts kk tpos) (.Call (.Name "enumerate" p) [e] [] pos) (tW X.K .enumT (evEs F es)) := by
  refine weakI (pi_enumT hg hm h (star_plain hp _ _)) ?_
  rintro σ H R ⟨a, ρ, m, ds, m1, xs, st, sl, e1, e2, q⟩
  refine ⟨a, ρ, m, st, sl, ?_⟩
  rw [e1]
  intro a1 H1 vs x1 st1 r
  match ds, e2, r with
  | [.tup ds], e2, r =>
    cases r with
    | cons h1 t =>
      cases t
      cases h1 with
      | @tup _ p ys h1 hl r5 =>
        cases e2
        exact ⟨p, ys, rfl, h1.sq, q _ _ _ x1 st1 (walks_enumT fun a' H' kp => ⟨(h1.kp kp).sq, r5.kp kp⟩) (by simp; exact hl)⟩
theorem sound_enum {es : Exs} {e : Expr} {p pos tpos : Pos} {elts : List Expr} {kk : Nat} (hg : Gl X "enumerate") (hm : X.mg "enumerate" = none) (hp : plainE e = true) (h : PA X [e] (tA X.K (evEs F es))) :
    PI X (.Tuple elts kk tpos) (.Call (.Name "enumerate" p) [e] [] pos) (tW X.K .enum (evEs F es)) := by
  refine weakI (pi_enum hg hm h (star_plain hp _ _)) ?_
  rintro σ H R ⟨a, ρ, m, ds, m1, xs, st, sl, e1, e2, q⟩
  refine ⟨a, ρ, m, st, sl, ?_⟩
  rw [e1]
  intro a1 H1 vs x1 st1 r
  match ds, e2, r with
  | [.lst ds], e2, r =>
    cases r with
    | cons h1 t =>
      cases t
      cases h1 with
      | @lst _ p ys h1 hn hl r5 =>
        cases e2
        exact ⟨p, ys, rfl, SqL.of h1, q _ _ _ x1 st1 (walks_enum fun a' H' kp => ⟨SqL.of (kp.keep _ _ h1 hn (by intro _ z; cases z)).1, r5.kp kp⟩) (by simp; exact hl)⟩
  | [.ref n], e2, r =>
    cases r with
    | cons h1 t =>
      cases t
      cases h1 with
      | @ref _ p hp =>
        simp only [walkD] at e2
        split at e2
        · rename_i ds hm
          cases e2
          obtain ⟨ho, g1, g2⟩ := st1.at_ n p _ hp hm
          cases g2 with
          | @lst _ ys hl rr => exact ⟨p, ys, rfl, SqL.of g1, q _ _ _ x1 st1 (walks_enumLive hp fun m' h => by
              simp only [walkG, decide_eq_true_eq] at h
              rw [h, hm]) (by simp; exact hl)⟩
        · cases e2
end

/-! ### comprehensions -/
theorem wipe_get (σ : L2.St) (j : Nat) : ∀ vs : List Nat, (L2.wipe σ vs)[j]? = if j ∈ vs then (if j < σ.length then some none else none) else σ[j]?
  | [] => by simp [L2.wipe]
  | v :: vs => by
    unfold L2.wipe
    by_cases hj : v = j
    · subst hj
      rw [if_pos List.mem_cons_self]
      by_cases hl : v < σ.length
      · rw [if_pos hl, List.getElem?_set_self (by rw [L2.wipe_length]; exact hl)]
      · rw [if_neg hl, List.getElem?_eq_none (by simpa [L2.wipe_length] using hl)]
    · rw [List.getElem?_set_ne hj, wipe_get σ j vs]
      simp only [List.mem_cons, Ne.symm hj, false_or, eq_comm]
theorem wipe_but {is vs : List Nat} {σ σ' : L2.St} (b : But is (L2.wipe σ vs) σ') (h : ∀ i ∈ is, i ∈ vs) : L2.wipe σ' vs = L2.wipe σ vs := by
  refine List.ext_getElem? fun j => ?_
  have hl : σ'.length = σ.length := b.len.trans (L2.wipe_length σ vs)
  rw [wipe_get, wipe_get, hl]
  by_cases hj : j ∈ vs
  · rw [if_pos hj, if_pos hj]
  · rw [if_neg hj, if_neg hj, b.at_ j (fun z => hj (h j z)), wipe_get, if_neg hj]
theorem SRel.wipe {K : PySem.W.Frag} {H : Hp} {a : Ad} {ρ : Sl} {σ : L2.St} (h : SRel K a H ρ σ) : ∀ vs : List Nat, Av vs → SRel K a H (wipeS ρ vs) (L2.wipe σ vs)
  | [], _ => h
  | v :: vs, hv => by
    have ih := SRel.wipe h vs (hv.sub fun i hi => List.mem_cons_of_mem _ hi)
    unfold wipeS L2.wipe
    refine ⟨by simp [ih.len], fun i d e => ?_, fun q hq => by
      rw [List.getElem?_set_ne (fun z => hv q hq (by simp [z]))]
      exact ih.clo q hq, ih.kp0⟩
    by_cases hj : v = i
    · subst hj
      have hl := (List.getElem?_eq_some_iff.mp e).1
      rw [List.length_set] at hl
      rw [List.getElem?_set_self hl] at e
      cases e
    · rw [List.getElem?_set_ne hj] at e ⊢
      exact ih.at_ i d e
theorem compL_nil {tg : Tg} {ρ0 : Sl} {gd : Mem → Bool} {c e : Sl → Mem → Res D} {m m2 : Mem} {vs : List D} (h : compL tg ρ0 gd c e [] m = .ok vs m2) : vs = [] ∧ m = m2 ∧ gd m = true := by
  simp only [compL] at h
  split at h
  · simp only [Res.ok.injEq] at h
    exact ⟨h.1.symm, h.2, by assumption⟩
  · cases h
theorem compL_guard {tg : Tg} {ρ0 : Sl} {gd : Mem → Bool} {c e : Sl → Mem → Res D} {m m2 : Mem} {ds vs : List D} (h : compL tg ρ0 gd c e ds m = .ok vs m2) : gd m = true := by
  cases hg : gd m with
  | true => rfl
  | false =>
    cases ds with
    | nil => simp [compL, hg] at h
    | cons d r => simp [compL, hg] at h
theorem Ext.hdx {s s' h1 : List Addr} {H H' : Hp} (e : Ext ⟨s, h1⟩ H ⟨s', h1⟩ H') (h2 : List Addr) : Ext ⟨s, h2⟩ H ⟨s', h2⟩ H' := ⟨rfl, e.pre, e.keep, e.dom⟩
/-- one turn of a comprehension -/
theorem compL_cons {tg : Tg} {ρ0 : Sl} {gd : Mem → Bool} {c e : Sl → Mem → Res D} {d : D} {ds : List D} {m m2 : Mem} {vs : List D} (h : compL tg ρ0 gd c e (d :: ds) m = .ok vs m2) :
    gd m = true ∧ ∃ ρ, bindT m tg d ρ0 = some ρ ∧ ((∃ m1, c ρ m = .ok (.bl false) m1 ∧ compL tg ρ0 gd c e ds m1 = .ok vs m2) ∨
      ∃ m1 v m3 vs', c ρ m = .ok (.bl true) m1 ∧ e ρ m1 = .ok v m3 ∧ compL tg ρ0 gd c e ds m3 = .ok vs' m2 ∧ vs = v :: vs') := by
  have hg := compL_guard h
  simp only [compL] at h
  rw [if_pos hg] at h
  refine ⟨hg, ?_⟩
  split at h
  · cases h
  · rename_i ρ h1
    refine ⟨ρ, h1, ?_⟩
    split at h
    · rename_i m1 h2
      split at h
      · rename_i v m3 h3
        split at h
        · rename_i vs' m4 h4
          simp only [Res.ok.injEq] at h
          exact .inr ⟨m1, v, m3, vs', h2, h3, by rw [← h.2]; exact h4, h.1.symm⟩
        · cases h
      · cases h
    · rename_i m1 h2
      exact .inl ⟨m1, h2, h⟩
    · cases h
theorem comp_readG (E0 : XK) (mg0 : Str → Option Value) {K : PySem.W.Frag} {k : Wk} {evs : Sl → Mem → Res (List D)} {tg : Tg} {c e : Sl → Mem → Res D} {vs : List Nat} (hsub : ∀ i ∈ tg.slots, i ∈ vs) (hav : Av vs) {σ : L2.St} {H : Hp} {Q : VK} {a : Ad} {ρ : Sl} {m m1 m2 : Mem} {ds xs out : List D}
    (st : MRel K a m H) (sl : SRel K a H ρ σ) (e1 : evs ρ m = .ok ds m1) (e2 : walkD m1 k ds = some xs) (e3 : compL tg (wipeS ρ vs) (walkG m1 k ds) c e xs m1 = .ok out m2)
    (q : ∀ s' H' q accV, Ext a H ⟨s', a.hd⟩ H' → MRel K ⟨s', q :: a.hd⟩ m2 H' → q ∉ a.hd → H q = none → H' q = some (.lst accV) → RepVs K H' ⟨s', q :: a.hd⟩ out accV → out.length ≤ sizeLine → Q (.ref q) H') :
    tLc (tW K k evs) (gD K tg) (letI : ExC := ⟨E0, mg0⟩; tT K c) (letI : ExC := ⟨E0, mg0⟩; tS K e) vs σ H Q := by
  refine ⟨a, ρ, m, ds, m1, xs, st, sl, e1, e2, fun J a1 H1 x1 st1 wk hz D0 hD => ?_⟩
  obtain ⟨st1', hd1⟩ := a1
  have kp0 : Kp ⟨st1', hd1⟩ H1 ⟨st1', D0 :: hd1⟩ (upd H1 D0 (.lst [])) := Kp.hide hD
  have hDn : D0 ∉ hd1 := fun z => by
    obtain ⟨ys, e⟩ := st1.hid D0 z
    rw [hD] at e
    cases e
  refine ⟨fun i n H' => n = xs.length - i ∧ i ≤ xs.length ∧ ∃ (s' : List Addr) (m' : Mem) (acc : List D) (accV : List V) (rest : List D), Kp ⟨st1', hd1⟩ H1 ⟨s', D0 :: hd1⟩ H' ∧ Ext ⟨st1', hd1⟩ H1 ⟨s', hd1⟩ H' ∧ MRel K ⟨s', D0 :: hd1⟩ m' H' ∧
      H' D0 = some (.lst accV) ∧ RepVs K H' ⟨s', D0 :: hd1⟩ acc accV ∧ acc.length ≤ i ∧ compL tg (wipeS ρ vs) (walkG m1 k ds) c e (xs.drop i) m' = .ok rest m2 ∧ out = acc ++ rest, ?_, ?_⟩
  · exact ⟨xs.length, by simp, Nat.zero_le _, st1', m1, [], [], out, kp0, Ext.new hD, st1.hide hD, upd_same, .nil, Nat.le_refl _, by simpa using e3, by simp⟩
  · rintro i n H' ⟨rfl, hi, s', m', acc, accV, rest, kp, ex, stm, hDl, hacc, hal, hc, hout⟩
    obtain ⟨w1, w2⟩ := wk _ m' H' kp stm (compL_guard hc)
    by_cases hlt : i < xs.length
    · refine .inr ⟨(w1 i hlt).1, fun H'' => ∃ n', n' < xs.length - i ∧ (n' = xs.length - (i + 1) ∧ i + 1 ≤ xs.length ∧ ∃ (s' : List Addr) (m' : Mem) (acc : List D) (accV : List V) (rest : List D), Kp ⟨st1', hd1⟩ H1 ⟨s', D0 :: hd1⟩ H'' ∧ Ext ⟨st1', hd1⟩ H1 ⟨s', hd1⟩ H'' ∧ MRel K ⟨s', D0 :: hd1⟩ m' H'' ∧
        H'' D0 = some (.lst accV) ∧ RepVs K H'' ⟨s', D0 :: hd1⟩ acc accV ∧ acc.length ≤ i + 1 ∧ compL tg (wipeS ρ vs) (walkG m1 k ds) c e (xs.drop (i + 1)) m' = .ok rest m2 ∧ out = acc ++ rest), fun H'' z => z, fun x H'' hy => ?_⟩
      obtain ⟨d, hd, xe, stm2, rd⟩ := (w1 i hlt).2 x H'' hy
      have hdrop : xs.drop i = d :: xs.drop (i + 1) := by
        rw [List.drop_eq_getElem_cons hlt]
        have : xs[i] = d := by
          rw [List.getElem?_eq_getElem hlt] at hd
          exact Option.some.inj hd
        rw [this]
      rw [hdrop] at hc
      obtain ⟨_, ρ1, hb, hrest⟩ := compL_cons hc
      have sl1 : SRel K ⟨s', D0 :: hd1⟩ H'' (wipeS ρ vs) (L2.wipe σ vs) := (SRel.wipe (sl.kp (x1.kp.trans (kp.trans xe.kp))) vs hav)
      have nDs : ∀ {s2 : List Addr} {m2 : Mem} {H2 : Hp}, MRel K ⟨s2, D0 :: hd1⟩ m2 H2 → D0 ∉ s2 := fun r z => r.sep D0 z List.mem_cons_self
      have ex2 : Ext ⟨st1', hd1⟩ H1 ⟨s', hd1⟩ H'' := ex.trans (xe.hdx hd1)
      refine ⟨_, m', d, _, ρ1, stm2, rd, sl1, hb, fun σ2 sl2 b2 => ⟨wipe_but b2 hsub, ?_⟩⟩
      refine ⟨_, ρ1, m', stm2, sl2, ?_⟩
      rcases hrest with ⟨m3, hc1, hc2⟩ | ⟨m3, v, m4, rest', hc1, he1, hc2, hv⟩
      · rw [hc1]
        intro a3 H3 x3 st3
        obtain ⟨s3, hd3⟩ := a3
        have ehd : hd3 = D0 :: hd1 := x3.hd
        subst ehd
        show if false = true then _ else _
        rw [if_neg Bool.false_ne_true]
        refine ⟨_, by omega, rfl, hlt, s3, m3, acc, accV, rest, kp.trans (xe.kp.trans x3.kp), ?_, st3, x3.keep _ _ (xe.keep _ _ hDl (nDs stm) (by intro _ z; cases z)) (nDs stm2) (by intro _ z; cases z), (hacc.mono xe).mono x3, by omega, hc2, hout⟩
        exact ex2.trans (x3.hdx hd1)
      · rw [hc1]
        intro a3 H3 x3 st3
        obtain ⟨s3, hd3⟩ := a3
        have ehd : hd3 = D0 :: hd1 := x3.hd
        subst ehd
        show if true = true then _ else _
        rw [if_pos rfl]
        refine ⟨_, ρ1, m3, st3, sl2.mono x3, ?_⟩
        rw [he1]
        intro a4 H4 y x4 st4 ry
        obtain ⟨s4, hd4⟩ := a4
        have ehd : hd4 = D0 :: hd1 := x4.hd
        subst ehd
        have hD4 : H4 D0 = some (.lst accV) := x4.keep _ _ (x3.keep _ _ (xe.keep _ _ hDl (nDs stm) (by intro _ z; cases z)) (nDs stm2) (by intro _ z; cases z)) (nDs st3) (by intro _ z; cases z)
        have hacc4 := (((hacc.mono xe).mono x3).mono x4)
        have ex4 : Ext ⟨st1', hd1⟩ H1 ⟨s4, hd1⟩ H4 := (ex2.trans (x3.hdx hd1)).trans (x4.hdx hd1)
        refine ⟨accV, hD4, by rw [← hacc4.length]; omega, _, by omega, rfl, hlt, s4, m4, acc ++ [v], accV ++ [y], rest', ?_, ?_, st4.hidden hDn _, upd_same, (hacc4.append (.cons ry .nil)).kp Kp.hid, by simp; omega, hc2, by rw [hout, hv]; simp⟩
        · exact (kp.trans (xe.kp.trans (x3.kp.trans x4.kp))).trans Kp.hid
        · refine ⟨ex4.hd, ex4.pre, fun p o h hp ht => ?_, fun p z => ex4.dom p (upd_no z)⟩
          rw [upd_ne (ne_of_none h hD)]
          exact ex4.keep p o h hp ht
    · have e : i = xs.length := by omega
      subst e
      rw [List.drop_length] at hc
      obtain ⟨hr, hm, _⟩ := compL_nil hc
      subst hr hm
      rw [List.append_nil] at hout
      subst hout
      refine .inl ⟨w2 _ (Nat.le_refl _), ?_⟩
      have eh : hd1 = a.hd := x1.hd
      subst eh
      exact q s' H' D0 accV (x1.trans ex) stm hDn (x1.dom _ hD) hDl hacc (by omega)
theorem comp_read (E0 : XK) (mg0 : Str → Option Value) {K : PySem.W.Frag} {k : Wk} {evs : Sl → Mem → Res (List D)} {tg : Tg} {c e : Sl → Mem → Res D} {vs : List Nat} (hsub : ∀ i ∈ tg.slots, i ∈ vs) (hav : Av vs) {σ : L2.St} {H : Hp} {Q : VK} {a : Ad} {ρ : Sl} {m m1 m2 : Mem} {ds xs out : List D}
    (st : MRel K a m H) (sl : SRel K a H ρ σ) (e1 : evs ρ m = .ok ds m1) (e2 : walkD m1 k ds = some xs) (e3 : compL tg (wipeS ρ vs) (walkG m1 k ds) c e xs m1 = .ok out m2) (q : Tr K a H (.ok (.lst out) m2) Q) :
    tLc (tW K k evs) (gD K tg) (letI : ExC := ⟨E0, mg0⟩; tT K c) (letI : ExC := ⟨E0, mg0⟩; tS K e) vs σ H Q :=
  comp_readG E0 mg0 hsub hav st sl e1 e2 e3 fun s' H' p accV x stm hn _ hDl hacc hz =>
    q ⟨s', a.hd⟩ H' (.ref p) x stm.show (.lst hDl ⟨fun z => stm.sep p z List.mem_cons_self, hn⟩ hz (hacc.kp Kp.show))
/-- the list that was hidden is a thing of the store from now on -/
theorem MRel.adopt {K : PySem.W.Frag} {H : Hp} {m : Mem} {st hd : List Addr} {q : Addr} {ds : List D} {xs : List V} (r : MRel K ⟨st, q :: hd⟩ m H) (hn : q ∉ hd) (h : H q = some (.lst xs)) (rv : RepVs K H ⟨st, q :: hd⟩ ds xs) (hl : ds.length ≤ sizeLine) : MRel K ⟨st ++ [q], hd⟩ (m ++ [.lst ds]) H := by
  have hq : q ∉ st := fun z => r.sep q z List.mem_cons_self
  have kp : Kp ⟨st, q :: hd⟩ H ⟨st ++ [q], hd⟩ H := ⟨⟨[q], rfl⟩, fun p o e n _ => ⟨e, ⟨fun z => by
    rcases List.mem_append.mp z with z | z
    · exact n.1 z
    · exact n.2 (by rw [List.mem_singleton.mp z]; exact List.mem_cons_self), fun z => n.2 (List.mem_cons_of_mem _ z)⟩⟩⟩
  refine ⟨?_, by simp [r.len], fun p hp => ?_, fun n p o h1 h2 => ?_, fun p hp => r.hid p (List.mem_cons_of_mem _ hp), r.tabs⟩
  · show (st ++ [q]).Nodup
    rw [List.nodup_append]
    exact ⟨r.nd, by simp, fun x hx y hy z => hq (by rw [← List.mem_singleton.mp hy, ← z]; exact hx)⟩
  · rcases List.mem_append.mp hp with z | z
    · exact fun w => r.sep p z (List.mem_cons_of_mem _ w)
    · rw [List.mem_singleton.mp z]; exact hn
  · have hlen : st.length = m.length := r.len
    have h1 : (st ++ [q])[n]? = some p := h1
    by_cases hn : n < st.length
    · rw [List.getElem?_append_left hn] at h1
      rw [List.getElem?_append_left (by rw [← hlen]; exact hn)] at h2
      obtain ⟨ho, g1, g2⟩ := r.at_ n p o h1 h2
      exact ⟨ho, g1, g2.kp kp⟩
    · have hl2 := (List.getElem?_eq_some_iff.mp h1).1
      simp only [List.length_append, List.length_singleton] at hl2
      have en : n = st.length := by omega
      subst en
      rw [List.getElem?_append_right (Nat.le_refl _)] at h1
      rw [hlen, List.getElem?_append_right (Nat.le_refl _)] at h2
      simp at h1 h2
      subst h1 h2
      exact ⟨_, h, .lst hl (rv.kp kp)⟩
/-- .. whose list is a thing of the store -/
theorem comp_readN (E0 : XK) (mg0 : Str → Option Value) {K : PySem.W.Frag} {k : Wk} {evs : Sl → Mem → Res (List D)} {tg : Tg} {c e : Sl → Mem → Res D} {vs : List Nat} (hsub : ∀ i ∈ tg.slots, i ∈ vs) (hav : Av vs) {σ : L2.St} {H : Hp} {Q : VK} {a : Ad} {ρ : Sl} {m m1 m2 : Mem} {ds xs out : List D}
    (st : MRel K a m H) (sl : SRel K a H ρ σ) (e1 : evs ρ m = .ok ds m1) (e2 : walkD m1 k ds = some xs) (e3 : compL tg (wipeS ρ vs) (walkG m1 k ds) c e xs m1 = .ok out m2) (q : Tr K a H (.ok (.ref m2.length) (m2 ++ [.lst out])) Q) :
    tLc (tW K k evs) (gD K tg) (letI : ExC := ⟨E0, mg0⟩; tT K c) (letI : ExC := ⟨E0, mg0⟩; tS K e) vs σ H Q :=
  comp_readG E0 mg0 hsub hav st sl e1 e2 e3 fun s' H' p accV x stm hn hp hDl hacc hz => by
    have st2 := stm.adopt hn hDl hacc hz
    have hlen : s'.length = m2.length := stm.len
    obtain ⟨new, x1, x2⟩ := x.pre
    have x1 : s' = a.st ++ new := x1
    refine q ⟨s' ++ [p], a.hd⟩ H' (.ref p) ⟨rfl, ⟨new ++ [p], by show s' ++ [p] = _; rw [x1, List.append_assoc], fun z hz => ?_⟩, x.keep, x.dom⟩ st2 (.ref (by show (s' ++ [p])[m2.length]? = some p; rw [← hlen]; simp))
    rcases List.mem_append.mp hz with w | w
    · exact x2 z w
    · rw [List.mem_singleton.mp w]; exact hp
end Br


set_option Elab.async false
set_option linter.all false
set_option maxRecDepth 100000
set_option autoImplicit false
/-! Br: expressions do what the evaluator tells. -/
namespace Br
open PySem PySem.Spec PyProof.Rows L2
variable [LamTab] [LamCl] [ExC]
/-- a def's promise: what the evaluator's call tells -/
def spS (K : PySem.W.Frag) (mg : Str → Option Value) (n : Nat) (c : List D → Mem → Res D) : Sp := fun vs H Q E => ∃ a m ds, MRel K a m H ∧ RepVs K H a ds vs ∧ ds.length = n ∧ TrE E mg K a H (c ds m) Q
def blts : List Str := ["len", "list", "tuple", "sorted", "min", "max", "sum", "str", "int", "dict", "set", "isinstance", "range", "enumerate", "bool", "ValueError"]
/-- a def of the module keeps what the evaluator tells, so many calls within one another -/
def FnFact (P : Program) (w : World) (K : PySem.W.Frag) (mg : Str → Option Value) (base : Heap) (k : Nat) (f : Str) (c : List D → Mem → Res D) : Prop :=
  ∃ (p : Addr) (fd : FuncData) (ps : List Str), mg f = some (.ref p) ∧ PySem.W.keepIn K (.ref p) = true ∧ Binds K fd ps [] ∧ FnOk P w K mg base (L2.CX P w) k p fd ps (spS K mg ps.length c) ∧
    ∀ ds m, ds.length ≠ ps.length → c ds m = .bad
/-- the function at f0, handed on at s and H from the frames outer: it tells what L does -/
structure LamFrom (P : Program) (w : World) (K : PySem.W.Frag) (mg : Str → Option Value) (base : Heap) (fs : List Str) (outer : List Env) (s : Shared) (a0 : Ad) (H : Hp) (k : Nat) (f0 : Addr) (L : Lf) : Prop where
  fn : ∀ Z : Cx, Z.s_0 = s → Z.H_0 = H → Z.outer = outer → Z.ex = [] → ∀ pins σ H' s', Inv Z pins σ H' s' → PySem.W.FnAt f0 s'.heap
  run : ∀ (Z : Cx) (j : Nat) (c2 : Str → List D → Mem → Res D), Z.prog = P → Z.w = w → Z.K = K → Z.mg = mg → Z.base = base → Z.s_0 = s → Z.H_0 = H → Z.outer = outer → Z.ex = [] → Z.calm = true → k = j + 3 → Room (j + 1) Z.A →
    (∀ f ∈ fs, FnFact P w K mg base j f (c2 f)) → ∀ (E : XK), Takes Z (fun cls d _ H => E cls d H) → ∀ (pins : List (Addr × Obj)) (σ : L2.St) (H' : Hp) (s' : Shared) (us : List Value) (vs : List V) (ds : List D) (a : Ad) (m : Mem) (Q : VK), Inv Z pins σ H' s' → Vals vs us → Kp a0 H a H' → MRel K a m H' → RepVs K H' a ds vs → TrE E mg K a H' (L c2 ds m) Q →
    wpAny (model P w) Z.A (call (.ref f0) us) (EP Z pins σ Q) Z.xe s'
/-- a def that takes a function last -/
def HofFact (P : Program) (w : World) (K : PySem.W.Frag) (mg : Str → Option Value) (base : Heap) (fs : List Str) (k : Nat) (f : Str) (h : Lf → List D → Mem → Res D) : Prop :=
  ∃ (p : Addr) (fd : FuncData) (ps : List Str), mg f = some (.ref p) ∧ PySem.W.keepIn K (.ref p) = true ∧ Binds K fd ps [] ∧ (∀ L ds m, ds.length + 1 ≠ ps.length → h L ds m = .bad) ∧
    ∀ (A : Around) (outer : List Env) (s : Shared) (H : Hp) (L : Lf) (us : List Value) (vs : List V) (ds : List D) (a : Ad) (m : Mem) (Q : VK) (E : XK) (f0 : Addr), Room k A → Env0 P w K mg base A outer s H → LamFrom P w K mg base fs outer s a H k f0 L →
      MRel K a m H → RepVs K H a ds vs → Vals vs us → ds.length + 1 = ps.length → TrE E mg K a H (h L ds m) Q → codeAny (model P w) A (.call (.ref p) ⟨us ++ [.ref f0], []⟩) (CR (L2.CX P w) outer P w H s Q E) s
/-- an exception of the class c is made of so many values -/
def MkFact (X : Cx) (c : Str) : Prop := ∃ (C : Addr) (sp : Sp), X.mg c = some (.ref C) ∧ (flds c ≠ [] → (∀ (e : Expr) (es : List Expr) (ta : TA) (p pos : Pos), Gl X c → PA X (e :: es) ta → starEach (e :: es) X.env = (false, eval e X.env) :: starEach es X.env → (backTo pos (starEach es X.env)).any (·.1) = false →
    PMk X (.Call (.Name c p) (e :: es) [] pos) (tMkO C sp [] ta)) ∧
    ∀ (vs : List V) (H1 : Hp) (Q : XK), vs.length = (flds c).length → (∀ d fs, H1 d = none → (∀ f v, ((flds c).zip vs).lookup f = some v → fs.lookup f = some v) → Q (.ref C) (some d) (upd H1 d (.xd fs))) →
      ∀ a, H1 a = none → sp (.ref a :: (vs ++ [])) (upd H1 a (exo a C none)) (fun v H2 => v = .non ∧ ∃ (d : Addr) (fs : List (Str × V)), H2 a = some (exo a C (some d)) ∧ H2 d = some (exd d fs) ∧ H1 d = none ∧ Q (.ref C) (some d) (upd (del H2 a) d (.xd fs))) (fun _ _ _ => False)) ∧
  (flds c = [] → ∀ (x : Str) (j : Nat) (p p2 pos : Pos), Gl X c → PMk X (.Call (.Name c p) [.Constant (.str x) j p2] [] pos) (fun _ H Q => Q (.ref C) none H))
theorem flds_few {c : Str} : (flds c).length ≤ 2 := by
  unfold flds
  have : ∀ q ∈ xcls, q.2.length ≤ 2 := by decide
  cases e : xcls.lookup c with
  | none => simp
  | some l =>
    have hm : ∀ {L : List (Str × List Str)}, L.lookup c = some l → ∃ q ∈ L, q.2 = l := by
      intro L
      induction L with
      | nil => intro h; cases h
      | cons q r ih =>
        intro h
        obtain ⟨x, y⟩ := q
        rw [List.lookup_cons] at h
        split at h
        · exact ⟨(x, y), List.mem_cons_self, Option.some.inj h⟩
        · obtain ⟨q, h1, h2⟩ := ih h
          exact ⟨q, List.mem_cons_of_mem _ h1, h2⟩
    obtain ⟨q, h1, h2⟩ := hm e
    rw [Option.getD_some, ← h2]
    exact this q h1
/-- a class, as a value -/
def ClsIs (mg : Str → Option Value) (c : Str) (v : V) : Prop := (∃ C, mg c = some (.ref C) ∧ v = .ref C) ∨ (c = "ValueError" ∧ v = .ty "ValueError")
/-- what the suite has of the exception that is caught -/
structure XcFact (X : Cx) (F : Fe) (q : Nat × Addr) : Prop where
  isx : ∀ c b, isxD F c = some b → (xcls.lookup c).isSome = true ∨ c = "ValueError" → CallR X (.builtin "isinstance") (fun xs H Q => ∃ v, xs = [.ref q.2, v] ∧ ClsIs X.mg c v ∧ (∃ a, Kp LamCl.a0 LamCl.H0 a H) ∧ Q (.bl b) H)
  nms : ∀ c b, isxD F c = some b → (xcls.lookup c).isSome = true → ∃ C, X.mg c = some (.ref C)
  xat : ∀ f d, xatD F f = some d → ∀ (y : Str) (np pos : Pos), X.N[q.1]? = some y → Vis X.env.scope y → okN y = true → PE X (.Attribute (.Name y np) f pos) (fun σ H Q => σ[q.1]? = some (some (.ref q.2)) ∧ ∃ a, Kp LamCl.a0 LamCl.H0 a H ∧ ∀ v, RepV X.K H a d v → Q v H)
structure Good (X : Cx) (F : Fe) (k : Nat) (fs : FS) : Prop where
  calm : fs.cm = true → X.calm = true
  nd : X.N.Nodup
  room : fs.cm = true → Room k X.A
  un : X.A.units + 16 * k + 200 < cLine
  fn : ∀ f ∈ fs.fs, FnFact X.prog X.w X.K X.mg X.base k f (F.call f)
  blt : ∀ x ∈ blts, X.mg x = none
  glo : ∀ x d, F.glo x = some d → ∃ v u, X.mg x = some u ∧ RelV v u ∧ ∀ H a, RepV X.K H a d v
  av : ∀ q ∈ LamCl.cl, q.1 ∈ fs.cl
  clv : fs.lv = true → LamCl.cl.map (·.1) = fs.cl
  lo : ∀ c, F.low = some c → ∃ j, k = j + 2 ∧ ∀ f ∈ fs.fs, FnFact X.prog X.w X.K X.mg X.base j f (c f)
  hof : ∀ f ∈ fs.hs, HofFact X.prog X.w X.K X.mg X.base fs.fs k f (F.hof f)
  lam : fs.lv = true → ∀ q ∈ LamCl.cl, (∀ pn xe pins σ H s, Inv (X.tr pn xe) pins σ H s → PySem.W.FnAt q.2 s.heap) ∧ ∀ (pn : List (Addr × Obj)) (xe : Value → Shared → Prop) (E : XK), Takes (X.tr pn xe) (fun cls d _ H => E cls d H) → ∀ (pins : List (Addr × Obj)) (σ : L2.St) (H : Hp) (s : Shared) (us : List Value) (vs : List V) (ds : List D) (a : Ad) (m : Mem) (Q : VK), Inv (X.tr pn xe) pins σ H s → Vals vs us → Kp LamCl.a0 LamCl.H0 a H → MRel X.K a m H → RepVs X.K H a ds vs → TrE E X.mg X.K a H (F.lam ds m) Q →
    wpAny (model X.prog X.w) X.A (call (.ref q.2) us) (EP (X.tr pn xe) pins σ Q) xe s
  mkl : fs.lk = true → ∃ c P, LamX.TabB X.base X.mg c P ∧ X.env.code = .ref c ∧ (P, X.env.qual ++ "<lambda>") ∈ LamTab.T ∧ ∀ p ∈ LamTab.T, p.1 = P → p.2 = X.env.qual ++ "<lambda>"
  tk : Takes X (fun cls d _ H => ExC.E cls d H)
  xm : ExC.mg = X.mg
  mkx : fs.xk = true → 2 ≤ k → ∀ c, (xcls.lookup c).isSome = true → MkFact X c
  xc : fs.xc = true → LamCl.cl.map (·.1) = fs.cl ∧ ∀ q ∈ LamCl.cl, XcFact X F q
theorem Good.units {X : Cx} {F : Fe} {k : Nat} {fs : FS} (g : Good X F k fs) : X.A.units + 64 < cLine := by have := g.un; omega
theorem Good.units0 {X : Cx} {F : Fe} {k : Nat} {fs : FS} (g : Good X F k fs) : X.A.units < cLine := by have := g.un; omega
theorem Good.hu {X : Cx} {F : Fe} {k : Nat} {fs : FS} (g : Good X F k fs) : X.A.units + 1 < cLine := by have := g.un; omega
theorem Good.trE {X : Cx} {F : Fe} {k : Nat} {fs : FS} (g : Good X F k fs) {a : Ad} {H : Hp} {r : Res D} {Q : VK} (q : Tr X.K a H r Q) : TrE ExC.E X.mg X.K a H r Q := by
  rw [← g.xm]
  exact q
theorem takes_no {X : Cx} {W : WX} (h : ∀ cls d σ H, ¬ W cls d σ H) : Takes X W := fun _ _ ⟨_, _, _, _, _, _, _, _, _, _, _, _, _, _, _, _, w⟩ => (h _ _ _ _ w).elim
theorem Good.blk {X : Cx} {F : Fe} {k : Nat} {fs : FS} (g : Good X F k fs) (s : Shared) (H : Hp) (scope : Scope) (cenv : Env) (fp : List Addr) : @Good _ _ (ExC.none X.mg) (X.blk s H scope cenv fp) F k fs.inner :=
  @Good.mk _ _ (ExC.none X.mg) (X.blk s H scope cenv fp) F k fs.inner g.calm g.nd g.room g.un g.fn g.blt g.glo g.av (fun z => Bool.noConfusion z) g.lo g.hof (fun z => Bool.noConfusion z) (fun z => Bool.noConfusion z) (takes_no fun _ _ _ _ h => h) rfl (fun z => Bool.noConfusion z) (fun z => Bool.noConfusion z)
theorem Good.avs {X : Cx} {F : Fe} {k : Nat} {fs : FS} (g : Good X F k fs) {is : List Nat} (h : fs.av is = true) : Av is := fun q hq z => by
  unfold FS.av at h
  have := List.all_eq_true.mp h _ z
  simp [g.av q hq] at this
section
variable {X : Cx} {F : Fe} {k : Nat} {fs : FS}
theorem PA.nil' : PA X [] (tA X.K (evEs F .nil)) := weakA pa_nil fun σ H Q ⟨a, ρ, m, st, sl, q⟩ => q a H [] Ext.refl st .nil
theorem PA.cons' {x : Ex} {r : Exs} {e : Expr} {es : List Expr} (hp : plainE e = true) (h : PE X e (tS X.K (evE F x))) (t : PA X es (tA X.K (evEs F r))) : PA X (e :: es) (tA X.K (evEs F (.cons x r))) := by
  refine weakA (pa_cons h t (star_plain hp _ _)) ?_
  rintro σ H Q ⟨a, ρ, m, st, sl, q⟩
  refine tS_bindA (f := fun d m1 => (evEs F r ρ m1).bind fun ds m2 => .ok (d :: ds) m2) st sl q fun d m1 a1 H1 v st1 sl1 rv x1 q1 => ?_
  refine tA_bindA (f := fun ds m2 => .ok (d :: ds) m2) st1 sl1 q1 fun ds m2 a2 H2 vs st2 sl2 rvs x2 q2 => ?_
  exact q2 a2 H2 _ Ext.refl st2 (.cons (rv.mono x2) rvs)
/-- a built-in's call -/
theorem fn_read {f : Fn} {es : Exs} {c : Value} {σ : L2.St} {H : Hp} {Q : VK} (h : tS X.K (evE F (.fn f es)) σ H Q) : tCB (rFn X.K f) (tA X.K (evEs F es)) σ H Q := by
  obtain ⟨a, ρ, m, st, sl, q⟩ := h
  exact tA_bind (f := fun ds m1 => fnD m1 f ds) st sl q fun ds m1 a1 H1 vs st1 sl1 rv x1 q1 => ⟨a1, m1, ds, st1, rv, q1⟩
theorem star_any : ∀ {es : List Expr} {xs : Exs} {N : List Str} {sc : Scope}, chkEs fs N sc xs es = true → ∀ (pos : Pos) (env : Env), (backTo pos (starEach es env)).any (·.1) = false
  | [], _, _, _, _, _, _ => rfl
  | e :: es, .nil, _, _, h, _, _ => by simp [chkEs] at h
  | e :: es, .cons x r, N, sc, h, pos, env => by
    simp only [chkEs, Bool.and_eq_true] at h
    rw [star_plain h.1.1]
    show (false || (backTo pos (starEach es env)).any (·.1)) = false
    rw [star_any h.2]
    rfl
theorem bin_read {o : Bop} {a b : Ex} {r : R2} (hr : ∀ x y H Q, rD2 X.K (fun m x y => optR (binD m o x y) m) x y H Q → r x y H Q) {σ : L2.St} {H : Hp} {Q : VK} (h : tS X.K (evE F (.bin o a b)) σ H Q) : tOp r (tS X.K (evE F a)) (tS X.K (evE F b)) σ H Q := by
  obtain ⟨a', ρ, m, st, sl, q⟩ := h
  refine tS_bind (f := fun x m1 => (evE F b ρ m1).bind fun y m2 => optR (binD m2 o x y) m2) st sl q fun d m1 a1 H1 v st1 sl1 rv x1 q1 => ?_
  refine tS_bind (f := fun y m2 => optR (binD m2 o d y) m2) st1 sl1 q1 fun e m2 a2 H2 w st2 sl2 rw x2 q2 => ?_
  exact hr _ _ _ _ ⟨a2, m2, d, e, st2, rv.mono x2, rw, q2⟩
theorem cmp_read {o : Cop} {a b : Ex} {σ : L2.St} {H : Hp} {Q : VK} (h : tS X.K (evE F (.cmp o a b)) σ H Q) : tOp (rCmp X.K o) (tS X.K (evE F a)) (tS X.K (evE F b)) σ H Q := by
  obtain ⟨a', ρ, m, st, sl, q⟩ := h
  refine tS_bind (f := fun x m1 => (evE F b ρ m1).bind fun y m2 => optB (cmpD m2 o x y) m2) st sl q fun d m1 a1 H1 v st1 sl1 rv x1 q1 => ?_
  refine tS_bind (f := fun y m2 => optB (cmpD m2 o d y) m2) st1 sl1 q1 fun e m2 a2 H2 w st2 sl2 rw x2 q2 => ?_
  exact ⟨a2, m2, d, e, st2, rv.mono x2, rw, q2⟩
theorem cop_ok (g : Good X F k fs) : ∀ o : Cop, OpR X (compareOp o.py) (rCmp X.K o)
  | .eq => opD_eq g.units
  | .ne => opD_ne g.units
  | .lt => opD_lt g.units0
  | .le => opD_le
  | .gt => opD_gt
  | .ge => opD_ge g.units
  | .isn => opD_is
  | .notn => opD_isnot
  | .inn => opD_in g.hu
  | .nin => opD_nin g.hu
theorem bop_ok : ∀ o : Bop, OpR X (binaryOp o.py) (rD2 X.K fun m x y => optR (binD m o x y) m)
  | .add => opD_add
  | .sub => opD_sub
  | .mul => opD_mul
  | .fdiv => opD_fdiv
  | .mod => opD_mod
  | .pow => opD_pow
/-- a test of a value -/
theorem tT_val {ev : Sl → Mem → Res D} {σ : L2.St} {H : Hp} {Q : Bool → Hp → Prop} (h : tT X.K ev σ H Q) : tB (tS X.K ev) σ H Q := by
  obtain ⟨a, ρ, m, st, sl, q⟩ := h
  refine ⟨a, ρ, m, st, sl, ?_⟩
  cases e : ev ρ m with
  | ok d m1 =>
    rw [e] at q
    cases d <;> first | exact False.elim q | skip
    intro a1 H1 v x1 st1 rv
    cases rv
    exact ⟨_, rfl, q a1 H1 x1 st1⟩
  | ex c ds m' => rw [e] at q; exact q
  | bad => rw [e] at q; exact q
theorem PT_of {e : Expr} {x : Ex} (h : PE X e (tS X.K (evE F x))) (he : ∀ whole, isTrue e X.env whole = (do let v ← whole; standAt e.pos; holding [v] (truthy v)) := by intro _; rfl) : PT X e (tT X.K (evE F x)) := weakT (pt_val h he) fun _ _ _ => tT_val
theorem optB_ok {m : Mem} {o : Option Bool} {K : PySem.W.Frag} {a : Ad} {H : Hp} {Q : Bool → Hp → Prop} (h : TrB K a H (optB o m) Q) : Tr K a H (optB o m) fun v H' => ∃ b, v = .bl b ∧ Q b H' := by
  cases o with
  | none => exact h
  | some b =>
    intro a' H' v x st rv
    cases rv
    exact ⟨b, rfl, h a' H' x st⟩
/-- the chain's reading -/
theorem chain_read {o o2 : Cop} {a b c : Ex} {σ : L2.St} {H : Hp} {Q : VK} (h : tS X.K (evE F (.chain o o2 a b c)) σ H Q) : tChain (rCmp X.K o) (rCmp X.K o2) (tS X.K (evE F a)) (tS X.K (evE F b)) (tS X.K (evE F c)) σ H Q := by
  obtain ⟨a', ρ, m, st, sl, q⟩ := h
  simp only [evE] at q
  refine tS_bind (f := _) st sl q fun d m1 a1 H1 v st1 sl1 rv x1 q1 => ?_
  refine tS_bind (f := _) st1 sl1 q1 fun e m2 a2 H2 w st2 sl2 rw x2 q2 => ?_
  refine ⟨a2, m2, d, e, st2, rv.mono x2, rw, ?_⟩
  cases hc : cmpD m2 o d e with
  | none => rw [hc] at q2; exact False.elim q2
  | some t =>
    rw [hc] at q2
    show Tr X.K a2 H2 (optB (cmpD m2 o d e) m2) _
    rw [hc]
    intro a3 H3 z x3 st3 rz
    cases rz
    cases t with
    | false => exact ⟨false, rfl, q2 a3 H3 _ x3 st3 (.bl _)⟩
    | true =>
      refine ⟨true, rfl, ?_⟩
      have q3 : Tr X.K a3 H3 ((evE F c ρ m2).bind fun z m3 => optB (cmpD m3 o2 e z) m3) Q := Tr.mono q2 x3
      refine tS_bind (f := _) st3 (sl2.mono x3) q3 fun z m4 a4 H4 u st4 sl4 ru x4 q4 => ?_
      exact ⟨a4, m4, e, z, st4, (rw.mono x3).mono x4, ru, q4⟩
/-- expressions: as a value; a list of them; the one of a list -/
structure SndE (F : Fe) (fs : FS) (x : Ex) : Prop where
  val : ∀ (e : Expr) (N : List Str) (sc : Scope), chkE fs N sc x e = true → ∀ (X : Cx) (k : Nat), Good X F k fs → X.N = N → X.env.scope = sc → PE X e (tS X.K (evE F x))
  tst : ∀ (e : Expr) (N : List Str) (sc : Scope), chkE fs N sc x e = true → ∀ (X : Cx) (k : Nat), Good X F k fs → X.N = N → X.env.scope = sc → PT X e (tT X.K (evE F x))
  whl : ∀ (op : BoolOp) (es : List Expr) (pos : Pos) (N : List Str) (sc : Scope), chkE fs N sc x (.BoolOp op es pos) = true → ∀ (X : Cx) (k : Nat), Good X F k fs → X.N = N → X.env.scope = sc → PW X (.BoolOp op es pos) (tT X.K (evE F x))
/-- each of a list -/
inductive EachE (X : Cx) (F : Fe) : Exs → List Expr → Prop
  | nil : EachE X F .nil []
  | cons {x : Ex} {r : Exs} {e : Expr} {es : List Expr} (h : PE X e (tS X.K (evE F x))) (t : EachE X F r es) : EachE X F (.cons x r) (e :: es)
structure SndEs (F : Fe) (fs : FS) (xs : Exs) : Prop where
  each : ∀ (es : List Expr) (N : List Str) (sc : Scope), chkEs fs N sc xs es = true → ∀ (X : Cx) (k : Nat), Good X F k fs → X.N = N → X.env.scope = sc → EachE X F xs es
  snocW : ∀ (es : List Expr) (N : List Str) (sc : Scope), chkEs fs N sc xs es = true → ∀ (X : Cx) (k : Nat), Good X F k fs → X.N = N → X.env.scope = sc → ∀ (c : Expr), plainE c = true →
    ∀ (pos : Pos) (pins : List (Addr × Obj)) (s : Shared) (σ : L2.St) (H : Hp) (R : List Value → Shared → Prop) (a : Ad) (ρ : Sl) (m : Mem) (ds : List D) (m1 : Mem), Inv X pins σ H s → MRel X.K a m H → SRel X.K a H ρ σ → evEs F xs ρ m = .ok ds m1 →
    (∀ us vs a1 H1 s1, Inv X pins σ H1 s1 → Ext a H a1 H1 → MRel X.K a1 m1 H1 → RepVs X.K H1 a1 ds vs → Vals vs us → wpAny (model X.prog X.w) X.A (eval c X.env) (fun u s2 => R (us ++ [u]) s2) X.xe s1) →
    wpAny (model X.prog X.w) X.A (spliced (backTo pos (starEach (es ++ [c]) X.env))) R X.xe s
  args : ∀ (es : List Expr) (N : List Str) (sc : Scope), chkEs fs N sc xs es = true → ∀ (X : Cx) (k : Nat), Good X F k fs → X.N = N → X.env.scope = sc → PA X es (tA X.K (evEs F xs))
  one : ∀ (e : Expr) (N : List Str) (sc : Scope), chkEs fs N sc xs [e] = true → ∀ (X : Cx) (k : Nat), Good X F k fs → X.N = N → X.env.scope = sc → ∃ x, xs = .cons x .nil ∧ PE X e (tS X.K (evE F x)) ∧ PT X e (tT X.K (evE F x))
theorem SndEs.snoc {F : Fe} {fs : FS} {xs : Exs} (ih : SndEs F fs xs) (es : List Expr) (N : List Str) (sc : Scope) (h : chkEs fs N sc xs es = true) (X : Cx) (k : Nat) (g : Good X F k fs) (hN : X.N = N) (hS : X.env.scope = sc) (c : Expr) (tc : TE) (hp : plainE c = true) (hc : PE X c tc) : PA X (es ++ [c]) (tSnoc X.K (evEs F xs) tc) := by
  refine ⟨fun pos pins s σ H Q I ⟨a, ρ, m, ds, m1, st, sl, e1, q⟩ => ?_⟩
  refine ih.snocW es N sc h X k g hN hS c hp pos pins s σ H _ a ρ m ds m1 I st sl e1 fun us vs a1 H1 s1 I1 x1 st1 rv r => ?_
  refine thn (hc.run pins s1 σ H1 _ I1 (q a1 H1 vs x1 st1 rv)) fun u s2 ⟨v, H2, I2, r2, q2⟩ => ?_
  exact ⟨vs ++ [v], H2, I2, r.append (.cons r2 .nil), q2⟩
/-- where the expression is no and, or -/
theorem SndE.of {x : Ex} (hv : ∀ (e : Expr) (N : List Str) (sc : Scope), chkE fs N sc x e = true → ∀ (X : Cx) (k : Nat), Good X F k fs → X.N = N → X.env.scope = sc → PE X e (tS X.K (evE F x)))
    (hn : ∀ (e : Expr) (N : List Str) (sc : Scope), chkE fs N sc x e = true → (∀ whole env, isTrue e env whole = (do let v ← whole; standAt e.pos; holding [v] (truthy v))) ∧ ∀ op es pos, e ≠ .BoolOp op es pos) {x' : Ex} (hx : x' = x) : SndE F fs x' := by
  subst hx
  exact ⟨hv, fun e N sc h X k g h1 h2 => PT_of (hv e N sc h X k g h1 h2) fun w => (hn e N sc h).1 w _, fun op es pos N sc h => absurd rfl ((hn _ N sc h).2 op es pos)⟩
end
end Br


set_option Elab.async false
set_option linter.all false
set_option maxRecDepth 100000
set_option maxHeartbeats 1000000
set_option autoImplicit false
/-! Br: expressions, all of them. -/
namespace Br
open PySem PySem.Spec PyProof.Rows L2
variable [LamTab] [LamCl] [ExC]
section
variable {F : Fe} {fs : FS}
theorem blt_of {X : Cx} {k : Nat} (g : Good X F k fs) (x : Str) (h : x ∈ blts := by decide) : X.mg x = none := g.blt x h
theorem one_list {α : Type} {l : List α} (h : l.length = 1) : ∃ x, l = [x] := by
  match l, h with
  | [x], _ => exact ⟨x, rfl⟩
theorem two_list {α : Type} {l : List α} (h : l.length = 2) : ∃ x y, l = [x, y] := by
  match l, h with
  | [x, y], _ => exact ⟨x, y, rfl⟩
theorem plain_head {xs : Exs} {e : Expr} {es : List Expr} {N : List Str} {sc : Scope} (h : chkEs fs N sc xs (e :: es) = true) : plainE e = true := by
  cases xs with
  | nil => simp [chkEs] at h
  | cons x r => simp only [chkEs, Bool.and_eq_true] at h; exact h.1.1
/-- the built-in function or type of a name, the look at it -/
inductive FnB (X : Cx) : Fn → Prop where
  | fn {f : Fn} {id : String} (hb : f.name ∈ blts) (hv : bootBuiltins f.name = some (.builtin id)) (cr : CallR X (.builtin id) (rFn X.K f)) : FnB X f
  | ty {f : Fn} {T : String} (hb : f.name ∈ blts) (hv : bootBuiltins f.name = some (.type T)) (cr : CallR X (.type T) (rFn X.K f)) : FnB X f
theorem boot_min : bootBuiltins "min" = some (.builtin "min") := by decide +kernel
theorem boot_max : bootBuiltins "max" = some (.builtin "max") := by decide +kernel
theorem boot_sum : bootBuiltins "sum" = some (.builtin "sum") := by decide +kernel
/-- those of a form of their own -/
def fnOwn : Fn → Bool
  | .sortedSet => true
  | .rngL => true
  | .rngT => true
  | .dct0 => true
  | .sortedSetT => true
  | .index => true
  | .count => true
  | .dctT0 => true
  | _ => false
theorem fnB_all {X : Cx} (hc : X.calm = true) (hu : X.A.units + 64 < cLine) : ∀ f : Fn, fnOwn f = false → FnB X f
  | .len, _ => .fn (by decide) PySem.boot_len cD_len
  | .list, _ => .ty (by decide) PyProof.Rows.boot_list cD_list
  | .tuple, _ => .ty (by decide) PyProof.Rows.boot_tuple cD_tuple
  | .sorted, _ => .fn (by decide) PyProof.Rows.boot_sorted (cD_sorted hc)
  | .min, _ => .fn (by decide) boot_min (cD_min hc)
  | .max, _ => .fn (by decide) boot_max (cD_max hc)
  | .sum, _ => .fn (by decide) boot_sum (cD_sum hc)
  | .str, _ => .ty (by decide) PyProof.Rows.boot_str cD_str
  | .int, _ => .ty (by decide) PyProof.Rows.boot_int cD_int
  | .dict, _ => .ty (by decide) PyProof.Rows.boot_dict (cD_dict hc)
  | .min2, _ => .fn (by decide) boot_min (cD_min2 hc)
  | .max2, _ => .fn (by decide) boot_max (cD_max2 hc)
  | .sortedSet, h => by cases h
  | .rngL, h => by cases h
  | .rngT, h => by cases h
  | .dct0, h => by cases h
  | .sortedSetT, h => by cases h
  | .index, h => by cases h
  | .count, h => by cases h
  | .dctT0, h => by cases h
  | .sortedDT, _ => .fn (by decide) PyProof.Rows.boot_sorted (cD_sortedDT hc hu)
  | .minT, _ => .fn (by decide) boot_min (cD_minT hc hu)
/-- what tells a new list tells a list that stays -/
theorem ofF {X : Cx} {e : Expr} {ev : Sl → Mem → Res D} (h : PE X e (tF X.K ev)) (hl : ∀ ρ m d m', ev ρ m = .ok d m' → ∃ ds, d = .lst ds) : PE X e (tS X.K ev) := by
  refine weakE h ?_
  rintro σ H Q ⟨a, ρ, m, st, sl, q⟩
  refine ⟨a, ρ, m, st, sl, ?_⟩
  cases e1 : ev ρ m with
  | ok d m1 =>
    rw [e1] at q
    obtain ⟨ds, rfl⟩ := hl ρ m d m1 e1
    exact TrF.of q
  | ex c ds m' => rw [e1] at q; exact q
  | bad => rw [e1] at q; exact q
theorem evEs_cons1 {x : Ex} {ρ : Sl} {m : Mem} {β : Type} {f : List D → Mem → Res β} : (evEs F (.cons x .nil) ρ m).bind f = (evE F x ρ m).bind fun d m1 => f [d] m1 := by
  simp only [evEs]
  cases evE F x ρ m <;> rfl
/-- a value, then what tells a new list -/
theorem tS_bindF {K : PySem.W.Frag} {a : Ad} {H : Hp} {m : Mem} {ρ : Sl} {σ : L2.St} {ev : Sl → Mem → Res D} {f : D → Mem → Res D} {Q Q' : VK} (st : MRel K a m H) (sl : SRel K a H ρ σ) (q : TrF K a H ((ev ρ m).bind f) Q)
    (k : ∀ d m1 a1 H1 v, MRel K a1 m1 H1 → SRel K a1 H1 ρ σ → RepV K H1 a1 d v → Ext a H a1 H1 → TrF K a1 H1 (f d m1) Q → Q' v H1) : tS K ev σ H Q' := by
  refine ⟨a, ρ, m, st, sl, ?_⟩
  cases e : ev ρ m with
  | ok d m1 =>
    rw [e] at q
    exact fun a1 H1 v x r rv => k d m1 a1 H1 v r (sl.mono x) rv x (TrF.mono (r := f d m1) q x)
  | ex c ds m' => rw [e] at q; exact q
  | bad => rw [e] at q; exact q
theorem tA_bindF {K : PySem.W.Frag} {a : Ad} {H : Hp} {m : Mem} {ρ : Sl} {σ : L2.St} {ev : Sl → Mem → Res (List D)} {f : List D → Mem → Res D} {Q : VK} {Q' : List V → Hp → Prop} (st : MRel K a m H) (sl : SRel K a H ρ σ) (q : TrF K a H ((ev ρ m).bind f) Q)
    (k : ∀ ds m1 a1 H1 vs, MRel K a1 m1 H1 → SRel K a1 H1 ρ σ → RepVs K H1 a1 ds vs → Ext a H a1 H1 → TrF K a1 H1 (f ds m1) Q → Q' vs H1) : tA K ev σ H Q' := by
  refine ⟨a, ρ, m, st, sl, ?_⟩
  cases e : ev ρ m with
  | ok d m1 =>
    rw [e] at q
    exact fun a1 H1 v x r rv => k d m1 a1 H1 v r (sl.mono x) rv x (TrF.mono (r := f d m1) q x)
  | ex c ds m' => rw [e] at q; exact q
  | bad => rw [e] at q; exact q
theorem rg_rep {K : PySem.W.Frag} {H : Hp} {a : Ad} (n : Int) : RepVs K H a ((List.range n.toNat).map fun (i : Nat) => D.int (i : Int)) (rgV 0 n) := by
  unfold rgV
  have e : ((List.range (n - 0).toNat).map fun i : Nat => V.int (0 + (i : Nat))) = ((List.range n.toNat).map fun i : Nat => ((i : Nat) : Int)).map V.int := by
    rw [List.map_map]
    simp only [Int.sub_zero]
    refine List.map_congr_left fun i _ => ?_
    simp
  have e2 : ((List.range n.toNat).map fun (i : Nat) => D.int (i : Int)) = ((List.range n.toNat).map fun i : Nat => ((i : Nat) : Int)).map D.int := by
    rw [List.map_map]
    rfl
  rw [e, e2]
  exact RepVs.of_ints _
theorem blts_ok : ∀ x ∈ blts, okN x = true := by decide
/-- list(range(..)) as it is written -/
theorem rngL_key {es : Exs} {e : Expr} {N : List Str} {sc : Scope} (h : chkE fs N sc (.fn .rngL es) e = true) : ∃ x y p q e' r s, e = .Call (.Name x p) [.Call (.Name y q) [e'] [] r] [] s ∧ (x = "list" ∧ y = "range" ∧ glB sc x = true ∧ glB sc y = true) ∧ chkEs fs N sc es [e'] = true ∧ fs.cm = true := by
  simp only [chkE] at h
  split at h
  · rename_i x p y q es' r s
    simp only [Bool.and_eq_true, decide_eq_true_eq] at h
    obtain ⟨⟨⟨⟨⟨⟨h0, h1⟩, h2⟩, h3⟩, h4⟩, h5⟩, h6⟩ := h
    obtain ⟨e', rfl⟩ := one_list h5
    exact ⟨x, y, p, q, e', r, s, rfl, ⟨h1, h2, h3, h4⟩, h6, h0⟩
  · cases h
theorem fnD_rngL {m m' : Mem} {ds : List D} {d : D} (h : fnD m .rngL ds = .ok d m') : ∃ l, d = .lst l := by
  rcases ds with _ | ⟨a, _ | ⟨b, r⟩⟩
  · cases h
  · cases a <;> first | (cases h; done) | (simp only [fnD] at h; split at h <;> cases h; exact ⟨_, rfl⟩)
  · cases a <;> cases h
theorem rngL_F {es : Exs} (ih : SndEs F fs es) {e : Expr} {N : List Str} {sc : Scope} (h : chkE fs N sc (.fn .rngL es) e = true) {X : Cx} {k : Nat} (g : Good X F k fs) (hN : X.N = N) (hS : X.env.scope = sc) : PE X e (tF X.K (evE F (.fn .rngL es))) := by
  subst hN hS
  obtain ⟨x, y, p, q, e', r, s, rfl, ⟨rfl, rfl, h3, h4⟩, h6, hcm⟩ := rngL_key h
  obtain ⟨z, rfl, hz, _⟩ := ih.one e' _ _ h6 X k g rfl rfl
  have s1 := star_plain (plain_head h6) [] X.env
  refine weakE (pe_listRg (g.calm hcm) (glB_of h3) (blt_of g _) (prg_1 (glB_of h4) (blt_of g _) hz s1) (star_plain rfl _ _)) ?_
  rintro σ H Q ⟨a, ρ, m, st, sl, q⟩
  simp only [evE, evEs_cons1] at q
  refine tS_bindF (f := fun d m1 => fnD m1 .rngL [d]) st sl q fun d m1 a1 H1 v st1 sl1 rv x1 q1 => ?_
  cases rv <;> simp only [fnD] at q1 <;> first | exact False.elim q1 | skip
  rename_i n
  split at q1
  · rename_i hn
    have hb : n ≤ 1000000 := hn.2
    refine ⟨n, rfl, ⟨by omega, by omega, by omega, by omega, by omega⟩, fun p hp => q1 a1 H1 _ p Ext.refl st1 (rg_rep n) ?_ hp⟩
    simp only [List.length_map, List.length_range]
    exact big_line (show n.toNat ≤ 1000000 by omega)
  · exact False.elim q1
theorem rngT_S {es : Exs} (ih : SndEs F fs es) {e : Expr} {N : List Str} {sc : Scope} (h : chkE fs N sc (.fn .rngT es) e = true) {X : Cx} {k : Nat} (g : Good X F k fs) (hN : X.N = N) (hS : X.env.scope = sc) : PE X e (tS X.K (evE F (.fn .rngT es))) := by
  subst hN hS
  simp only [chkE] at h
  split at h
  · rename_i x p y q es' r s
    simp only [Bool.and_eq_true, decide_eq_true_eq] at h
    obtain ⟨⟨⟨⟨⟨⟨hcm, rfl⟩, rfl⟩, h3⟩, h4⟩, h5⟩, h6⟩ := h
    obtain ⟨e', rfl⟩ := one_list h5
    obtain ⟨z, rfl, hz, _⟩ := ih.one e' _ _ h6 X k g rfl rfl
    have s1 := star_plain (plain_head h6) [] X.env
    refine weakE (pe_tupRg (g.calm hcm) (glB_of h3) (blt_of g _) (prg_1 (glB_of h4) (blt_of g _) hz s1) (star_plain rfl _ _)) ?_
    rintro σ H Q ⟨a, ρ, m, st, sl, q⟩
    simp only [evE, evEs_cons1] at q
    refine tS_bind (f := fun d m1 => fnD m1 .rngT [d]) st sl q fun d m1 a1 H1 v st1 sl1 rv x1 q1 => ?_
    cases rv <;> simp only [fnD] at q1 <;> first | exact False.elim q1 | skip
    rename_i n
    split at q1
    · rename_i hn
      have hb : n ≤ 1000000 := hn.2
      refine ⟨n, rfl, ⟨by omega, by omega, by omega, by omega, by omega⟩, fun p hp => q1.tup st1 (rg_rep n) ?_ hp⟩
      simp only [List.length_map, List.length_range]
      exact big_line (show n.toNat ≤ 1000000 by omega)
    · exact False.elim q1
  · cases h
/-- {} -/
theorem dct0_S {es : Exs} {e : Expr} {N : List Str} {sc : Scope} (h : chkE fs N sc (.fn .dct0 es) e = true) {X : Cx} : PE X e (tS X.K (evE F (.fn .dct0 es))) := by
  simp only [chkE] at h
  split at h
  · split at h
    · refine weakE pe_dnewK ?_
      rintro σ H Q ⟨a, ρ, m, st, sl, q⟩
      simp only [evE, evEs, Res.bind, fnD] at q
      exact fun p hp => Tr.new st q (.dct (Nat.zero_le _) .nil) hp
    · cases h
  · cases h
theorem dctT0_S {es : Exs} {e : Expr} {N : List Str} {sc : Scope} (h : chkE fs N sc (.fn .dctT0 es) e = true) {X : Cx} : PE X e (tS X.K (evE F (.fn .dctT0 es))) := by
  simp only [chkE] at h
  split at h
  · split at h
    · refine weakE pe_dnewX ?_
      rintro σ H Q ⟨a, ρ, m, st, sl, q⟩
      simp only [evE, evEs, Res.bind, fnD] at q
      exact fun p hp => Tr.new st q (.dtt .nil) hp
    · cases h
  · cases h
theorem setT_S {es : Exs} (ih : SndEs F fs es) {e : Expr} {N : List Str} {sc : Scope} (h : chkE fs N sc (.fn .sortedSetT es) e = true) {X : Cx} {k : Nat} (g : Good X F k fs) (hN : X.N = N) (hS : X.env.scope = sc) : PE X e (tS X.K (evE F (.fn .sortedSetT es))) := by
  subst hN hS
  simp only [chkE] at h
  split at h
  · rename_i x p y q es' r s
    simp only [Bool.and_eq_true, decide_eq_true_eq] at h
    obtain ⟨⟨⟨⟨⟨⟨hcm, rfl⟩, rfl⟩, h3⟩, h4⟩, h5⟩, h6⟩ := h
    obtain ⟨e', rfl⟩ := one_list h5
    refine weakE (pe_ssetT (g.calm hcm) g.units (blt_of g _) (blt_of g _) (glB_of h3) (glB_of h4) (star_plain (plain_head h6) _ _) (ih.args _ _ _ h6 X k g rfl rfl)) ?_
    rintro σ H Q ⟨a, ρ, m, st, sl, q⟩
    exact tA_bind (f := fun ds m1 => fnD m1 .sortedSetT ds) st sl q fun ds m1 a1 H1 vs st1 sl1 rv x1 q1 => ssetT_read st1 rv q1
  · cases h
theorem flats_rep {K : PySem.W.Frag} {H : Hp} {a : Ad} : ∀ {ds : List D} {xs : List V}, RepVs K H a ds xs → ds.all flatD = true → xs.all flatV = true
  | _, _, .nil, _ => rfl
  | _, _, .cons r t, h => by
    simp only [List.all_cons, Bool.and_eq_true] at h ⊢
    exact ⟨flat_rep r h.1, flats_rep t h.2⟩
theorem list_rep {K : PySem.W.Frag} {H : Hp} {a : Ad} {m : Mem} (st : MRel K a m H) {d : D} {x : V} {ds : List D} (r : RepV K H a d x) (h : lstD m d = some ds) :
    ∃ p xs, x = .ref p ∧ SqL K H p xs ∧ RepVs K H a ds xs := by
  cases r <;> simp only [lstD] at h <;> first | (cases h; done) | skip
  case lst ds' p xs h1 hn hl r => cases h; exact ⟨p, xs, rfl, SqL.of h1, r⟩
  case scr ns p h1 hl => cases h; exact ⟨p, _, rfl, h1.sq, RepVs.of_ints ns⟩
  case ref n p h1 =>
    split at h
    · rename_i ds' h2
      cases h
      obtain ⟨ho, g1, g2⟩ := st.at_ n p _ h1 h2
      cases g2 with
      | lst hl r => exact ⟨p, _, rfl, SqL.of g1, r⟩
    · cases h
theorem find_at {ds : List D} {p : D → Bool} {j : Nat} (h : ds.findIdx? p = some j) : ∃ y, ds[j]? = some y ∧ p y = true ∧ ∀ (i : Nat) (z : D), i < j → ds[i]? = some z → p z = false := by
  obtain ⟨hj, h1, h2⟩ := List.findIdx?_eq_some_iff_getElem.mp h
  refine ⟨ds[j], List.getElem?_eq_getElem hj, h1, fun i z hi hz => ?_⟩
  have hil : i < ds.length := by omega
  rw [List.getElem?_eq_getElem hil] at hz
  cases hz
  have := h2 i hi
  simpa using this
theorem index_S {es : Exs} (ih : SndEs F fs es) {e : Expr} {N : List Str} {sc : Scope} (h : chkE fs N sc (.fn .index es) e = true) {X : Cx} {k : Nat} (g : Good X F k fs) (hN : X.N = N) (hS : X.env.scope = sc) : PE X e (tS X.K (evE F (.fn .index es))) := by
  subst hN hS
  simp only [chkE] at h
  split at h
  · rename_i o' x ap e' cp
    simp only [Bool.and_eq_true, decide_eq_true_eq] at h
    obtain ⟨⟨⟨⟨rfl, hcx⟩, h2⟩, h3⟩, h6⟩ := h
    have base : attributeBase o' "index" X.env (eval o' X.env) = eval o' X.env := by
      cases o' <;> first | rfl | skip
      rename_i f as ks p
      cases as with
      | nil =>
        cases ks with
        | nil => simp [noCallE] at h2
        | cons _ _ => cases f <;> rfl
      | cons _ _ => cases f <;> rfl
    have ea := ih.each _ _ _ h6 X k g rfl rfl
    cases es with
    | nil => simp [chkEs] at h6
    | cons o r =>
      cases r with
      | nil => simp [chkEs] at h6
      | cons z r2 =>
        cases r2 with
        | cons _ _ => simp [chkEs] at h6
        | nil =>
          simp only [chkEs, Bool.and_eq_true] at h6
          have hpl : plainE e' = true := h6.2.1.1
          cases ea with
          | cons po t =>
            cases t with
            | cons pz _ =>
              refine weakE (pe_bm (r := rIndex X.K) PySem.F.plainAttrs_list PySem.F.slot_list_index PySem.F.type_list_index mt_index po (PA.cons' hpl pz PA.nil') base (by rw [star_plain hpl]; rfl) h3 (star_plain hpl _ _) rfl) ?_
              rintro σ H Q ⟨a, ρ, m, st, sl, q⟩
              simp only [evE] at q
              have q : Tr X.K a H ((evE F o ρ m).bind fun d m1 => (evEs F (.cons z .nil) ρ m1).bind fun ds m2 => fnD m2 .index (d :: ds)) Q := by
                have e1 : (evEs F (.cons o (.cons z .nil)) ρ m).bind (fun ds m1 => fnD m1 .index ds) = (evE F o ρ m).bind fun d m1 => (evEs F (.cons z .nil) ρ m1).bind fun ds m2 => fnD m2 .index (d :: ds) := by
                  rw [evEs]
                  cases evE F o ρ m with
                  | ok d m1 =>
                    show ((evEs F (.cons z .nil) ρ m1).bind fun ds m2 => Res.ok (d :: ds) m2).bind _ = (evEs F (.cons z .nil) ρ m1).bind _
                    cases evEs F (.cons z .nil) ρ m1 <;> rfl
                  | ex _ _ _ => rfl
                  | bad => rfl
                rw [← e1]
                exact q
              refine tS_bind (f := _) st sl q fun d m1 a1 H1 v st1 sl1 rv x1 q1 => ?_
              have no : (∀ l, d ≠ .lst l) → False := fun hd => by
                cases e1 : evEs F (.cons z .nil) ρ m1 with
                | ok ds m2 =>
                  rw [e1] at q1
                  have : fnD m2 .index (d :: ds) = .bad := by
                    cases d <;> first | exact absurd rfl (hd _) | skip
                    all_goals (rcases ds with _ | ⟨y, _ | ⟨y2, _⟩⟩ <;> first | rfl | (cases y <;> rfl))
                  have q2 : Tr X.K a1 H1 (fnD m2 .index (d :: ds)) Q := q1
                  rw [this] at q2
                  exact q2
                | ex _ _ _ =>
                  simp only [evEs] at e1
                  cases e2 : evE F z ρ m1 with
                  | ex _ _ _ => exact calmX_ok (show calmX z = true from hcx) e2
                  | ok _ _ => rw [e2] at e1; cases e1
                  | bad => rw [e2] at e1; cases e1
                | bad => rw [e1] at q1; exact q1
              cases rv
              case lst ds p xs hp hn hl rr =>
                refine ⟨Or.inl ⟨rfl, _, SqL.of hp⟩, ?_⟩
                refine tA_bind (f := fun es m2 => fnD m2 .index (.lst ds :: es)) st1 sl1 q1 fun es m2 a2 H2 vs st2 sl2 rvs x2 q2 => ?_
                have rl : RepV X.K H2 a2 (.lst ds) (.ref p) := (RepV.lst hp hn hl rr).mono x2
                cases rl with
                | lst hp2 hn2 hl2 rr2 =>
                  cases rvs with
                  | nil => exact False.elim q2
                  | cons ry rt =>
                    cases rt with
                    | cons _ _ => exact False.elim q2
                    | nil =>
                      rename_i xs2 y w
                      have q2 : Tr X.K a2 H2 (if flatD y = true ∧ ds.all flatD = true then match ds.findIdx? (fun u => eqF u y) with | some j => .ok (.int (j : Nat)) m2 | none => .bad else .bad) Q := q2
                      split at q2
                      · rename_i hf
                        cases hj : ds.findIdx? (fun u => eqF u y) with
                        | none => rw [hj] at q2; exact False.elim q2
                        | some j =>
                          rw [hj] at q2
                          obtain ⟨u, h7, h8, h9⟩ := find_at hj
                          obtain ⟨uv, h10, h11⟩ := rr2.get h7
                          have fu : ∀ (i : Nat) (e : D), ds[i]? = some e → flatD e = true := fun i e he => List.all_eq_true.mp hf.2 e (List.mem_of_getElem? he)
                          refine ⟨p, xs2, w, j, uv, rfl, rfl, SqL.of hp2, flat_rep ry hf.1, flats_rep rr2 hf.2, h10, by rw [eqF_rep h11 ry (fu j u h7) hf.1]; exact h8, fun i z' hi hz' => ?_, q2.val st2 (.int _)⟩
                          obtain ⟨e, h12, h13⟩ := rr2.get' hz'
                          rw [eqF_rep h13 ry (fu i e h12) hf.1]
                          exact h9 i e hi h12
                      · exact False.elim q2
              all_goals exact (no (by intro l z; cases z)).elim
  · cases h
/-! list.count, flat items -/
def rCntF (K : PySem.W.Frag) : V → List V → Hp → VK → Prop := fun x xs H Q => ∃ (a : Addr) (ys : List V) (y : V), x = V.ref a ∧ xs = [y] ∧ SqL K H a ys ∧ flatV y = true ∧ ys.all flatV = true ∧ Q (.int (ys.countP (fun z => eqV z y) : Nat)) H
theorem countU {y : V} : ∀ {ys : List V} {its : List Value}, Vals ys its → ys.all flatV = true → its.countP (eqU y) = ys.countP (fun z => eqV z y)
  | _, _, .nil, _ => rfl
  | _, _, .cons r t, h => by
    simp only [List.all_cons, Bool.and_eq_true] at h
    rw [List.countP_cons, List.countP_cons, countU t h.2, eqU_of r h.1]
theorem mt_countF {X : Cx} : MtR X "list.count" (rCntF X.K) := by
  intro pins s σ H x xs v us Q I rx rxs h
  obtain ⟨a, ys, y, rfl, rfl, hs, fy, fys, q⟩ := h
  cases rx
  cases rxs with
  | cons ry rt =>
    rename_i uy ut
    cases rt
    obtain ⟨its, rv, ⟨⟨cls, dd, data, sl⟩, n, ho, hc, hdn, hd⟩, hlen⟩ := I.list hs
    simp only at hc hd
    subst hc hd
    refine call_meets PySem.F.slot_list_count ⟨_, ho, rfl⟩ PySem.F.entry_list_count (PySem.F.args_list_count_2 _ _)
      (SeqAt.list_countAt a its.toArray n dd sl uy (eqU y)) ⟨ho, fun u' hu' => mem_eqAt ry fy rv fys u' (by simpa using hu'), ?_⟩
    have ec : its.toArray.toList.countP (eqU y) = ys.countP (fun z => eqV z y) := countU rv fys
    refine ⟨.int (ys.countP (fun z => eqV z y) : Nat), H, I.tok _, ⟨s.toks, ?_⟩, q⟩
    show Value.int ((its.toArray.toList.countP (eqU y) : Nat) : Int) s.toks = Value.int ((ys.countP (fun z => eqV z y) : Nat) : Int) s.toks
    rw [ec]
theorem count_rep {K : PySem.W.Frag} {H : Hp} {a : Ad} {y : D} {w : V} (ry : RepV K H a y w) (hy : flatD y = true) : ∀ {ds : List D} {xs : List V}, RepVs K H a ds xs → ds.all flatD = true → xs.countP (fun z => eqV z w) = ds.countP (fun u => eqF u y)
  | _, _, .nil, _ => rfl
  | _, _, .cons r t, h => by
    simp only [List.all_cons, Bool.and_eq_true] at h
    rw [List.countP_cons, List.countP_cons, count_rep ry hy t h.2, eqF_rep r ry h.1 hy]
theorem count_S {es : Exs} (ih : SndEs F fs es) {e : Expr} {N : List Str} {sc : Scope} (h : chkE fs N sc (.fn .count es) e = true) {X : Cx} {k : Nat} (g : Good X F k fs) (hN : X.N = N) (hS : X.env.scope = sc) : PE X e (tS X.K (evE F (.fn .count es))) := by
  subst hN hS
  simp only [chkE] at h
  split at h
  · rename_i o' x ap e' cp
    simp only [Bool.and_eq_true, decide_eq_true_eq] at h
    obtain ⟨⟨⟨⟨rfl, hcx⟩, h2⟩, h3⟩, h6⟩ := h
    have base : attributeBase o' "count" X.env (eval o' X.env) = eval o' X.env := by
      cases o' <;> first | rfl | skip
      rename_i f as ks p
      cases as with
      | nil =>
        cases ks with
        | nil => simp [noCallE] at h2
        | cons _ _ => cases f <;> rfl
      | cons _ _ => cases f <;> rfl
    have ea := ih.each _ _ _ h6 X k g rfl rfl
    cases es with
    | nil => simp [chkEs] at h6
    | cons o r =>
      cases r with
      | nil => simp [chkEs] at h6
      | cons z r2 =>
        cases r2 with
        | cons _ _ => simp [chkEs] at h6
        | nil =>
          simp only [chkEs, Bool.and_eq_true] at h6
          have hpl : plainE e' = true := h6.2.1.1
          cases ea with
          | cons po t =>
            cases t with
            | cons pz _ =>
              refine weakE (pe_bm (r := rCntF X.K) PySem.F.plainAttrs_list PySem.F.slot_list_count PySem.F.type_list_count mt_countF po (PA.cons' hpl pz PA.nil') base (by rw [star_plain hpl]; rfl) h3 (star_plain hpl _ _) rfl) ?_
              rintro σ H Q ⟨a, ρ, m, st, sl, q⟩
              simp only [evE] at q
              have q : Tr X.K a H ((evE F o ρ m).bind fun d m1 => (evEs F (.cons z .nil) ρ m1).bind fun ds m2 => fnD m2 .count (d :: ds)) Q := by
                have e1 : (evEs F (.cons o (.cons z .nil)) ρ m).bind (fun ds m1 => fnD m1 .count ds) = (evE F o ρ m).bind fun d m1 => (evEs F (.cons z .nil) ρ m1).bind fun ds m2 => fnD m2 .count (d :: ds) := by
                  rw [evEs]
                  cases evE F o ρ m with
                  | ok d m1 =>
                    show ((evEs F (.cons z .nil) ρ m1).bind fun ds m2 => Res.ok (d :: ds) m2).bind _ = (evEs F (.cons z .nil) ρ m1).bind _
                    cases evEs F (.cons z .nil) ρ m1 <;> rfl
                  | ex _ _ _ => rfl
                  | bad => rfl
                rw [← e1]
                exact q
              refine tS_bind (f := _) st sl q fun d m1 a1 H1 v st1 sl1 rv x1 q1 => ?_
              have no : (∀ l, d ≠ .lst l) → False := fun hd => by
                cases e1 : evEs F (.cons z .nil) ρ m1 with
                | ok ds m2 =>
                  rw [e1] at q1
                  have : fnD m2 .count (d :: ds) = .bad := by
                    cases d <;> first | exact absurd rfl (hd _) | skip
                    all_goals (rcases ds with _ | ⟨y, _ | ⟨y2, _⟩⟩ <;> first | rfl | (cases y <;> rfl))
                  have q2 : Tr X.K a1 H1 (fnD m2 .count (d :: ds)) Q := q1
                  rw [this] at q2
                  exact q2
                | ex _ _ _ =>
                  simp only [evEs] at e1
                  cases e2 : evE F z ρ m1 with
                  | ex _ _ _ => exact calmX_ok (show calmX z = true from hcx) e2
                  | ok _ _ => rw [e2] at e1; cases e1
                  | bad => rw [e2] at e1; cases e1
                | bad => rw [e1] at q1; exact q1
              cases rv
              case lst ds p xs hp hn hl rr =>
                refine ⟨Or.inl ⟨rfl, _, SqL.of hp⟩, ?_⟩
                refine tA_bind (f := fun es m2 => fnD m2 .count (.lst ds :: es)) st1 sl1 q1 fun es m2 a2 H2 vs st2 sl2 rvs x2 q2 => ?_
                have rl : RepV X.K H2 a2 (.lst ds) (.ref p) := (RepV.lst hp hn hl rr).mono x2
                cases rl with
                | lst hp2 hn2 hl2 rr2 =>
                  cases rvs with
                  | nil => exact False.elim q2
                  | cons ry rt =>
                    cases rt with
                    | cons _ _ => exact False.elim q2
                    | nil =>
                      rename_i xs2 y w
                      have q2 : Tr X.K a2 H2 (if flatD y = true ∧ ds.all flatD = true then .ok (.int ((ds.countP fun u => eqF u y : Nat) : Int)) m2 else .bad) Q := q2
                      split at q2
                      · rename_i hf
                        refine ⟨p, xs2, w, rfl, rfl, SqL.of hp2, flat_rep ry hf.1, flats_rep rr2 hf.2, ?_⟩
                        rw [count_rep ry hf.1 rr2 hf.2]
                        exact q2.val st2 (.int _)
                      · exact False.elim q2
              all_goals exact (no (by intro l z; cases z)).elim
  · cases h
theorem fn_ok {f : Fn} {es : Exs} (ih : SndEs F fs es) {e : Expr} {N : List Str} {sc : Scope} (h : chkE fs N sc (.fn f es) e = true) {X : Cx} {k : Nat} (g : Good X F k fs) (hN : X.N = N) (hS : X.env.scope = sc) : PE X e (tS X.K (evE F (.fn f es))) := by
  subst hN hS
  by_cases hr : f = .rngL
  · subst hr
    obtain ⟨x, y, p, q, e', r, s, rfl, hx, h1⟩ := rngL_key h
    exact ofF (rngL_F ih h g rfl rfl) fun ρ m d m' e => by
      simp only [evE] at e
      cases e1 : evEs F es ρ m with
      | ok ds m1 =>
        rw [e1] at e
        exact fnD_rngL e
      | ex _ _ _ => rw [e1] at e; cases e
      | bad => rw [e1] at e; cases e
  by_cases ht : f = .rngT
  · subst ht
    exact rngT_S ih h g rfl rfl
  by_cases hd0 : f = .dct0
  · subst hd0
    exact dct0_S h
  by_cases hdT : f = .dctT0
  · subst hdT
    exact dctT0_S h
  by_cases hsT : f = .sortedSetT
  · subst hsT
    exact setT_S ih h g rfl rfl
  by_cases hix : f = .index
  · subst hix
    exact index_S ih h g rfl rfl
  by_cases hct : f = .count
  · subst hct
    exact count_S ih h g rfl rfl
  by_cases hs : f = .sortedSet
  · subst hs
    simp only [chkE] at h
    split at h
    · rename_i x p y q es' r s
      simp only [Bool.and_eq_true, decide_eq_true_eq] at h
      obtain ⟨⟨⟨⟨⟨⟨hcm, rfl⟩, rfl⟩, h3⟩, h4⟩, h5⟩, h6⟩ := h
      obtain ⟨e', rfl⟩ := one_list h5
      refine weakE (pe_sset (g.calm hcm) (blt_of g _) (blt_of g _) (glB_of h3) (glB_of h4) (star_plain (plain_head h6) _ _) (ih.args _ _ _ h6 X k g rfl rfl)) ?_
      rintro σ H Q ⟨a, ρ, m, st, sl, q⟩
      refine tA_bind (f := fun ds m1 => fnD m1 .sortedSet ds) st sl q fun ds m1 a1 H1 vs st1 sl1 rv x1 q1 => sset_read st1 rv q1
    · cases h
  · have key : ∃ x p es' pos, e = .Call (.Name x p) es' [] pos ∧ x = f.name ∧ glB X.env.scope x = true ∧ es' ≠ [] ∧ chkEs fs X.N X.env.scope es es' = true ∧ fs.cm = true := by
      cases f <;> first | exact absurd rfl hs | exact absurd rfl hr | exact absurd rfl ht | exact absurd rfl hd0 | exact absurd rfl hdT | exact absurd rfl hsT | exact absurd rfl hix | exact absurd rfl hct | (simp only [chkE] at h; split at h <;> first | (cases h; done) | (simp only [Bool.and_eq_true, decide_eq_true_eq] at h; exact ⟨_, _, _, _, rfl, h.1.1.1.2, h.1.1.2, (by intro z; rw [z] at h; simp [arity] at h), h.2, h.1.1.1.1⟩))
    obtain ⟨x, p, es', pos, rfl, rfl, hg, har, hc, hcm⟩ := key
    have gl := glB_of hg
    have pa := ih.args _ _ _ hc X k g rfl rfl
    match es', har with
    | e' :: r, _ =>
      have s1 := star_plain (plain_head hc) r X.env
      have s2 : (backTo pos (starEach r X.env)).any (·.1) = false := by
        cases es with
        | nil => simp [chkEs] at hc
        | cons x t =>
          simp only [chkEs, Bool.and_eq_true] at hc
          exact star_any hc.2 _ _
      cases fnB_all (X := X) (g.calm hcm) g.units f (by cases f <;> first | rfl | exact absurd rfl hct | exact absurd rfl hs | exact absurd rfl hr | exact absurd rfl ht | exact absurd rfl hd0 | exact absurd rfl hdT | exact absurd rfl hsT | exact absurd rfl hix) with
      | fn hb hv cr => exact weakE (pe_callB cr gl (blt_of g _ hb) hv pa (okN_d (blts_ok _ hb)).2.2 (okN_d (blts_ok _ hb)).1 s1 s2) fun _ _ _ => fn_read (c := .none)
      | ty hb hv cr => exact weakE (pe_callTy cr gl (blt_of g _ hb) hv pa (okN_d (blts_ok _ hb)).2.2 (okN_d (blts_ok _ hb)).1 s1 s2) fun _ _ _ => fn_read (c := .none)
/-! ### isinstance -/
theorem boot_ty : ∀ t : Ty, bootBuiltins (Str.ofString t.name) = some (.type t.name)
  | .int => PyProof.Rows.boot_int
  | .bool => PyProof.Rows.boot_bool
  | .str => PyProof.Rows.boot_str
  | .list => PyProof.Rows.boot_list
  | .tuple => PyProof.Rows.boot_tuple
theorem ty_blt : ∀ t : Ty, Str.ofString t.name ∈ blts := by intro t; cases t <;> decide
theorem pe_ty {X : Cx} {k : Nat} (g : Good X F k fs) {t : Ty} {e : Expr} (h : tyB1 X.env.scope t e = true) : PE X e (tC (.ty t.name)) ∧ plainE e = true := by
  cases e <;> first | (simp [tyB1] at h; done) | skip
  rename_i x p
  simp only [tyB1, Bool.and_eq_true, decide_eq_true_eq] at h
  obtain ⟨rfl, hg⟩ := h
  have ok := okN_d (blts_ok _ (ty_blt t))
  exact ⟨pe_bltn (glB_of hg) (blt_of g _ (ty_blt t)) (boot_ty t) rfl ok.2.2 ok.1, rfl⟩
def tyTs : List Ty → TA
  | [] => tNil
  | t :: r => tCons (tC (.ty t.name)) (tyTs r)
theorem tyTs_go : ∀ (ts : List Ty) (σ : L2.St) (H : Hp) (Q : List V → Hp → Prop), Q (ts.map fun t => V.ty t.name) H → tyTs ts σ H Q
  | [], _, _, _, q => q
  | t :: r, σ, H, Q, q => tyTs_go r σ H (fun xs H2 => Q (V.ty t.name :: xs) H2) q
theorem pe_tys {X : Cx} {k : Nat} (g : Good X F k fs) : ∀ {ts : List Ty} {es : List Expr}, tysB X.env.scope ts es = true → PA X es (tyTs ts)
  | [], [], _ => pa_nil
  | [], _ :: _, h => by simp [tysB] at h
  | _ :: _, [], h => by simp [tysB] at h
  | t :: r, e :: es, h => by
    simp only [tysB, Bool.and_eq_true] at h
    obtain ⟨h1, h2⟩ := pe_ty g h.1
    exact pa_cons h1 (pe_tys g h.2) (star_plain h2 _ _)
theorem clsVs (ts : List Ty) : Paired ClsV (ts.map fun t => V.ty t.name) (ts.map fun t => Value.type t.name) := by
  induction ts with
  | nil => exact .nil
  | cons t r ih => exact .cons (.ty _) ih
theorem isin_ok {a : Ex} {ts : List Ty} (ih : SndE F fs a) {e : Expr} {N : List Str} {sc : Scope} (h : chkE fs N sc (.isin a ts) e = true) {X : Cx} {k : Nat} (g : Good X F k fs) (hN : X.N = N) (hS : X.env.scope = sc) : PE X e (tS X.K (evE F (.isin a ts))) := by
  subst hN hS
  simp only [chkE] at h
  split at h
  · rename_i x p a' t pos
    simp only [Bool.and_eq_true, decide_eq_true_eq] at h
    obtain ⟨⟨⟨⟨⟨rfl, h2⟩, h3⟩, h4⟩, h5⟩, h6⟩ := h
    have pa := ih.val _ _ _ h5 X k g rfl rfl
    have s1 : starEach [a', t] X.env = (false, eval a' X.env) :: starEach [t] X.env := star_plain h4 _ _
    have s2 : (backTo pos (starEach [t] X.env)).any (·.1) = false := by rw [star_plain h3]; rfl
    unfold tyB at h6
    split at h6
    · rename_i t1 x2 p2
      obtain ⟨q1, _⟩ := pe_ty g h6
      refine weakE (pe_callB call_isi (glB_of h2) (blt_of g _) PyProof.Rows.boot_isinstance (pa_cons pa (pa_cons q1 pa_nil (star_plain h3 _ _)) s1) (by decide) (by decide) s1 s2) ?_
      rintro σ H Q ⟨a, ρ, m, st, sl, q⟩
      refine tS_bind (f := fun x m1 => optB (anyTy m1 x [t1]) m1) st sl q fun d m1 a1 H1 v st1 sl1 rv x1 q1 => ?_
      cases hb : anyTy m1 d [t1] with
      | none => rw [hb] at q1; exact False.elim q1
      | some b =>
        rw [hb] at q1
        obtain ⟨n, hn⟩ := anyTy_name (by simp) hb
        have hk := anyTy_kit (K := X.K) hn hb
        have hk1 : PySem.W.kitOne X.K (.type n) (.type t1.name) = some b := by
          simp only [List.map_cons, List.map_nil, PySem.W.kitAny] at hk
          split at hk
          · rename_i e; rw [e]; exact hk
          · rename_i e; rw [e]; exact hk
          · cases hk
        exact ⟨v, .ty t1.name, .type n, .type t1.name, b, rfl, .ty _, tyX_of st1 rv hn, hk1, q1.val st1 (.bl _)⟩
    · rename_i es2 k2 p2
      simp only [Bool.and_eq_true, Bool.not_eq_true', List.isEmpty_eq_false_iff, decide_eq_true_eq] at h6
      have q1 := pe_tup (x1 := k2) (pos := p2) (pe_tys g h6.1.1)
      refine weakE (pe_callB call_isiT (glB_of h2) (blt_of g _) PyProof.Rows.boot_isinstance (pa_cons pa (pa_cons q1 pa_nil (star_plain h3 _ _)) s1) (by decide) (by decide) s1 s2) ?_
      rintro σ H Q ⟨a, ρ, m, st, sl, q⟩
      refine tS_bind (f := fun x m1 => optB (anyTy m1 x ts) m1) st sl q fun d m1 a1 H1 v st1 sl1 rv x1 q1 => ?_
      cases hb : anyTy m1 d ts with
      | none => rw [hb] at q1; exact False.elim q1
      | some b =>
        rw [hb] at q1
        obtain ⟨n, hn⟩ := anyTy_name h6.1.2 hb
        have hk := anyTy_kit (K := X.K) hn hb
        refine tyTs_go ts σ H1 _ ⟨?_, fun p hp => ?_⟩
        · rw [List.length_map]
          exact Nat.le_trans h6.2 (by decide)
        · have e1 : Ext a1 H1 a1 (upd H1 p (.tup (ts.map fun t => V.ty t.name))) := Ext.new hp
          exact ⟨v, p, _, .type n, _, b, rfl, upd_same, clsVs ts, tyX_of (st1.fresh hp) (rv.mono e1) hn, hk, Tr.val (st1.fresh hp) (Tr.mono q1 e1) (.bl _)⟩
    · cases h6
  · cases h
end
end Br


set_option Elab.async false
set_option linter.all false
set_option maxRecDepth 100000
set_option maxHeartbeats 1000000
set_option autoImplicit false
/-! Br: every expression does what the evaluator tells. -/
namespace Br
open PySem PySem.Spec PyProof.Rows L2
variable [LamTab] [LamCl] [ExC]
section
variable {K : PySem.W.Frag} {H : Hp} {a : Ad} {n : Nat}
mutual
theorem und_rep : ∀ {d : D} {v : V}, RepV K H a d v → D.und n d = true → RepV K H ⟨a.st.take n, a.hd⟩ d v
  | _, _, .non, _ => .non
  | _, _, .bl b, _ => .bl b
  | _, _, .int b, _ => .int b
  | _, _, .str b h, _ => .str b h
  | _, _, .tup h hl r, e => .tup (h.imp (fun z => ⟨z.1, ⟨fun y => z.2.1 (List.mem_of_mem_take y), z.2.2⟩⟩) id) hl (unds_rep r (by simpa [D.und] using e))
  | _, _, .lst h hn hl r, e => .lst h ⟨fun y => hn.1 (List.mem_of_mem_take y), hn.2⟩ hl (unds_rep r (by simpa [D.und] using e))
  | _, _, .scr h hl, _ => .scr (h.imp (fun z => ⟨z.1, ⟨fun y => z.2.1 (List.mem_of_mem_take y), z.2.2⟩⟩) id) hl
  | _, _, .ref (n := i) h, e => .ref (by
      simp only [D.und, decide_eq_true_eq] at e
      show (a.st.take n)[i]? = _
      rw [List.getElem?_take, if_pos e]
      exact h)
theorem unds_rep : ∀ {ds : List D} {xs : List V}, RepVs K H a ds xs → D.unds n ds = true → RepVs K H ⟨a.st.take n, a.hd⟩ ds xs
  | _, _, .nil, _ => .nil
  | _, _, .cons h r, e => by
    simp only [D.unds, Bool.and_eq_true] at e
    exact .cons (und_rep h e.1) (unds_rep r e.2)
end
theorem undK_rep {κ : Type} : ∀ {kvs : List (κ × D)} {ks : List (κ × V)}, RepK K H a kvs ks → D.unds n (kvs.map (·.2)) = true → RepK K H ⟨a.st.take n, a.hd⟩ kvs ks
  | _, _, .nil, _ => .nil
  | _, _, .cons h t, e => by
    simp only [List.map_cons, D.unds, Bool.and_eq_true] at e
    exact .cons (und_rep h e.1) (undK_rep t e.2)
theorem undT_rep : ∀ {kvs : List (List Int × D)} {xs : List (List Int × Addr × V)}, RepT K H a kvs xs → D.unds n (kvs.map (·.2)) = true → RepT K H ⟨a.st.take n, a.hd⟩ kvs xs
  | _, _, .nil, _ => .nil
  | _, _, .cons hk hl h t, e => by
    simp only [List.map_cons, D.unds, Bool.and_eq_true] at e
    exact .cons (hk.imp (fun z => ⟨z.1, ⟨fun y => z.2.1 (List.mem_of_mem_take y), z.2.2⟩⟩) id) hl (und_rep h e.1) (undT_rep t e.2)
theorem undO_rep {p : Addr} {o : O} {ho : HO} (r : RepO K H a p o ho) (e : O.und n o = true) : RepO K H ⟨a.st.take n, a.hd⟩ p o ho := by
  cases r with
  | lst hl r => exact .lst hl (unds_rep r e)
  | dct hl r => exact .dct hl (undK_rep r e)
  | dtt r => exact .dtt (undT_rep r e)
mutual
theorem rep_und : ∀ {d : D} {v : V}, RepV K H a d v → D.und a.st.length d = true
  | _, _, .non => rfl
  | _, _, .bl b => rfl
  | _, _, .int b => rfl
  | _, _, .str b h => rfl
  | _, _, .tup h hl r => by simpa [D.und] using reps_und r
  | _, _, .lst h hn hl r => by simpa [D.und] using reps_und r
  | _, _, .scr h hl => rfl
  | _, _, .ref (n := i) h => by
    simp only [D.und, decide_eq_true_eq]
    exact (List.getElem?_eq_some_iff.mp h).1
theorem reps_und : ∀ {ds : List D} {xs : List V}, RepVs K H a ds xs → D.unds a.st.length ds = true
  | _, _, .nil => rfl
  | _, _, .cons h r => by simp only [D.unds, rep_und h, reps_und r, Bool.and_self]
end
theorem repK_und {κ : Type} : ∀ {kvs : List (κ × D)} {ks : List (κ × V)}, RepK K H a kvs ks → D.unds a.st.length (kvs.map (·.2)) = true
  | _, _, .nil => rfl
  | _, _, .cons h t => by simp only [List.map_cons, D.unds, rep_und h, repK_und t, Bool.and_self]
theorem repT_und : ∀ {kvs : List (List Int × D)} {xs : List (List Int × Addr × V)}, RepT K H a kvs xs → D.unds a.st.length (kvs.map (·.2)) = true
  | _, _, .nil => rfl
  | _, _, .cons _ _ h t => by simp only [List.map_cons, D.unds, rep_und h, repT_und t, Bool.and_self]
theorem mrel_und {m : Mem} (st : MRel K a m H) : m.all (O.und m.length) = true := by
  rw [List.all_eq_true]
  intro o ho
  obtain ⟨i, hi⟩ := List.getElem?_of_mem ho
  have hl := (List.getElem?_eq_some_iff.mp hi).1
  rw [← st.len] at hl
  obtain ⟨u, _, r⟩ := st.at_ i a.st[i] o (List.getElem?_eq_getElem hl) hi
  rw [← st.len]
  cases r with
  | lst _ r => exact reps_und r
  | dct _ r => exact repK_und r
  | dtt r => exact repT_und r
end
/-- behind a scope: the store is as long as it was -/
theorem scope_read {K : PySem.W.Frag} {H : Hp} {a : Ad} {m m' : Mem} {d d' : D} {Q : VK} (st : MRel K a m H) (hf : frzD m' m.length d = some d') (hu : m'.take m.length = m ∨ (m'.take m.length).all (O.und m.length) = true)
    (q : Tr K a H (.ok d' (m'.take m.length)) Q) : Tr K a H (.ok d m') Q := by
  replace hu : (m'.take m.length).all (O.und m.length) = true := by
    rcases hu with e | e
    · rw [e]; exact mrel_und st
    · exact e
  intro a' H' v x1 st' rv
  obtain ⟨new, e1, fr⟩ := x1.pre
  have et : (⟨a'.st.take m.length, a'.hd⟩ : Ad) = a := by
    rw [e1, ← st.len, List.take_left, x1.hd]
  have ex : Ext a H a H' := ⟨rfl, ⟨[], by simp, by simp⟩, x1.keep, x1.dom⟩
  have hl : m.length ≤ m'.length := by
    rw [← st'.len, ← st.len, e1, List.length_append]
    omega
  refine q a H' v ex ⟨st.nd, by rw [List.length_take, Nat.min_eq_left hl]; exact st.len, st.sep, fun i p o h1 h2 => ?_, fun p hp => st'.hid p (by rw [x1.hd]; exact hp), st'.tabs⟩ (by rw [← et]; exact frzD_rep st' rv hf)
  have h3 : a'.st[i]? = some p := x1.old h1
  have h4 : m'[i]? = some o := by
    rw [List.getElem?_take] at h2
    split at h2
    · exact h2
    · cases h2
  obtain ⟨ho, g1, g2⟩ := st'.at_ i p o h3 h4
  have hm := List.mem_of_getElem? h2
  exact ⟨ho, g1, by rw [← et]; exact undO_rep g2 (List.all_eq_true.mp hu o hm)⟩
theorem pt_ifExp {X : Cx} {c a b : Expr} {tc ta tb : L2.TT} {pos : Pos} (hc : PT X c tc) (ha : PT X a ta) (hb : PT X b tb) : PT X (.IfExp c a b pos) (fun σ H Q => tc σ H fun d H1 => if d = true then ta σ H1 Q else tb σ H1 Q) := by
  refine ⟨fun pins s σ H Q I h => ?_⟩
  unfold PySem.isTrue
  refine wpAny_bind (thn (hc.run pins s σ H _ I h) fun d s1 ⟨H1, I1, q1⟩ => ?_)
  cases d with
  | true =>
    rw [if_pos rfl] at q1 ⊢
    exact ha.run pins s1 σ H1 Q I1 q1
  | false =>
    rw [if_neg Bool.false_ne_true] at q1 ⊢
    exact hb.run pins s1 σ H1 Q I1 q1
section
variable {F : Fe} {fs : FS}
/-- an expression that is no and, or, not, comparison, if: its test is its value -/
def isPl : Expr → Bool
  | .UnaryOp .Not .. => false
  | .BoolOp .. => false
  | .IfExp .. => false
  | .Compare .. => false
  | _ => true
theorem isPl_true {e : Expr} (h : isPl e = true) : (∀ whole env, isTrue e env whole = (do let v ← whole; standAt e.pos; holding [v] (truthy v))) ∧ ∀ op es pos, e ≠ .BoolOp op es pos := by
  cases e <;> first | exact ⟨fun _ _ => rfl, fun _ _ _ z => nomatch z⟩ | skip
  case UnaryOp op x p => cases op <;> first | exact ⟨fun _ _ => rfl, fun _ _ _ z => nomatch z⟩ | (simp [isPl] at h)
  all_goals simp [isPl] at h
theorem SndE.pl {x : Ex} (hv : ∀ (e : Expr) (N : List Str) (sc : Scope), chkE fs N sc x e = true → isPl e = true ∧ ∀ (X : Cx) (k : Nat), Good X F k fs → X.N = N → X.env.scope = sc → PE X e (tS X.K (evE F x))) : SndE F fs x :=
  SndE.of (fun e N sc h => (hv e N sc h).2) (fun e N sc h => isPl_true (hv e N sc h).1) rfl
theorem s_var (i : Nat) : SndE F fs (.var i) := SndE.pl fun e N sc h => by
  simp only [chkE] at h
  split at h
  · rename_i x p
    simp only [Bool.and_eq_true, decide_eq_true_eq] at h
    refine ⟨rfl, fun X k g hN hS => ?_⟩
    subst hN hS
    obtain ⟨d1, d2, _⟩ := okN_d h.2
    refine weakE (pe_var h.1.1 (visB_of h.1.2) d1 d2) ?_
    rintro σ H Q ⟨a, ρ, m, st, sl, q⟩
    simp only [evE] at q
    split at q
    · rename_i d hd
      obtain ⟨v, h1, h2⟩ := sl.at_ i d hd
      exact ⟨v, h1, q.val st h2⟩
    · exact False.elim q
  · cases h
theorem s_glo (x : Str) : SndE F fs (.glo x) := SndE.pl fun e N sc h => by
  simp only [chkE] at h
  split at h
  · rename_i y p
    simp only [Bool.and_eq_true, decide_eq_true_eq] at h
    refine ⟨rfl, fun X k g hN hS => ?_⟩
    subst hN hS
    obtain ⟨⟨rfl, h2⟩, h3⟩ := h
    obtain ⟨d1, d2, _⟩ := okN_d h3
    cases hg : F.glo x with
    | none =>
      refine ⟨fun pins s σ H Q I ⟨a, ρ, m, st, sl, q⟩ => ?_⟩
      simp only [evE, hg] at q
      exact False.elim q
    | some d =>
      obtain ⟨v, u, h4, h5, h6⟩ := g.glo x d hg
      refine weakE (pe_glob (glB_of h2) h4 h5 d1) ?_
      rintro σ H Q ⟨a, ρ, m, st, sl, q⟩
      simp only [evE, hg] at q
      exact q.val st (h6 H a)
  · cases h
theorem s_cst (d : D) : SndE F fs (.cst d) := SndE.pl fun e N sc h => by
  simp only [chkE] at h
  split at h
  · rename_i c k p
    refine ⟨rfl, fun X k g hN hS => ?_⟩
    cases d <;> cases c <;> first | (simp [cstB] at h; done) | skip
    case non.none =>
      refine weakE pe_non ?_
      rintro σ H Q ⟨a, ρ, m, st, sl, q⟩
      exact q.val st .non
    case bl.bool b c =>
      simp only [cstB, beq_iff_eq] at h
      subst h
      refine weakE pe_bl ?_
      rintro σ H Q ⟨a, ρ, m, st, sl, q⟩
      exact q.val st (.bl _)
    case int.int b c =>
      simp only [cstB, beq_iff_eq] at h
      subst h
      refine weakE pe_int ?_
      rintro σ H Q ⟨a, ρ, m, st, sl, q⟩
      exact q.val st (.int _)
    case str.str b c =>
      simp only [cstB, Bool.and_eq_true, decide_eq_true_eq] at h
      obtain ⟨rfl, h2⟩ := h
      refine weakE pe_str ?_
      rintro σ H Q ⟨a, ρ, m, st, sl, q⟩
      exact q.val st (.str _ h2)
  · rename_i j p q r
    simp only [decide_eq_true_eq] at h
    subst h
    refine ⟨rfl, fun X k g hN hS => weakE (pe_un un_neg pe_int) ?_⟩
    rintro σ H Q ⟨a, ρ, m, st, sl, q⟩
    exact ⟨j, rfl, q.val st (.int _)⟩
  · cases h
theorem s_bin (o : Bop) {a b : Ex} (ha : SndE F fs a) (hb : SndE F fs b) : SndE F fs (.bin o a b) := SndE.pl fun e N sc h => by
  simp only [chkE] at h
  split at h
  · simp only [Bool.and_eq_true, decide_eq_true_eq] at h
    obtain ⟨⟨rfl, h2⟩, h3⟩ := h
    exact ⟨rfl, fun X k g hN hS => weakE (pe_op (bop_ok o) (ha.val _ _ _ h2 X k g hN hS) (hb.val _ _ _ h3 X k g hN hS)) fun σ H Q => bin_read fun _ _ _ _ z => z⟩
  · cases h
theorem s_cmp (o : Cop) {a b : Ex} (ha : SndE F fs a) (hb : SndE F fs b) : SndE F fs (.cmp o a b) := by
  have key : ∀ (e : Expr) (N : List Str) (sc : Scope), chkE fs N sc (.cmp o a b) e = true → ∃ a' b' p, e = .Compare a' [o.py] [b'] p ∧ plainE b' = true ∧ chkE fs N sc a a' = true ∧ chkE fs N sc b b' = true := fun e N sc h => by
    simp only [chkE] at h
    split at h
    · simp only [Bool.and_eq_true, decide_eq_true_eq] at h
      obtain ⟨⟨⟨rfl, h1⟩, h2⟩, h3⟩ := h
      exact ⟨_, _, _, rfl, h1, h2, h3⟩
    · cases h
  refine ⟨fun e N sc h X k g hN hS => ?_, fun e N sc h X k g hN hS => ?_, fun op es pos N sc h => ?_⟩
  · obtain ⟨a', b', p, rfl, h1, h2, h3⟩ := key e N sc h
    exact weakE (pe_cmpR (cop_ok g o) (ha.val _ _ _ h2 X k g hN hS) (hb.val _ _ _ h3 X k g hN hS) (plain_marks h1 _)) fun σ H Q => cmp_read
  · obtain ⟨a', b', p, rfl, h1, h2, h3⟩ := key e N sc h
    exact weakT (pt_cmpR (cop_ok g o) (ha.val _ _ _ h2 X k g hN hS) (hb.val _ _ _ h3 X k g hN hS) (plain_marks h1 _)) fun σ H Q z => cmp_read (tT_val z)
  · obtain ⟨a', b', p, e, _⟩ := key _ N sc h
    cases e
theorem s_chain (o o2 : Cop) {a b c : Ex} (ha : SndE F fs a) (hb : SndE F fs b) (hc : SndE F fs c) : SndE F fs (.chain o o2 a b c) := by
  have key : ∀ (e : Expr) (N : List Str) (sc : Scope), chkE fs N sc (.chain o o2 a b c) e = true → ∃ a' b' c' p, e = .Compare a' [o.py, o2.py] [b', c'] p ∧ (o2 ≠ .inn ∧ o2 ≠ .nin) ∧ chkE fs N sc a a' = true ∧ chkE fs N sc b b' = true ∧ chkE fs N sc c c' = true := fun e N sc h => by
    simp only [chkE] at h
    split at h
    · simp only [Bool.and_eq_true, decide_eq_true_eq] at h
      obtain ⟨⟨⟨⟨⟨rfl, rfl⟩, h0⟩, h1⟩, h2⟩, h3⟩ := h
      exact ⟨_, _, _, _, rfl, h0.2.2, h1, h2, h3⟩
    · cases h
  have mk : ∀ (b c : Expr), (o2 ≠ .inn ∧ o2 ≠ .nin) → lastMarks [o.py, o2.py] [b, c] = false := fun b c h => by
    show behindInMarks o2.py c = false
    refine nomark c ?_ ?_
    · cases o2 <;> simp [Cop.py] at h ⊢
    · cases o2 <;> simp [Cop.py] at h ⊢
  refine ⟨fun e N sc h X k g hN hS => ?_, fun e N sc h X k g hN hS => ?_, fun op es pos N sc h => ?_⟩
  · obtain ⟨a', b', c', p, rfl, h0, h1, h2, h3⟩ := key e N sc h
    exact weakE (pe_chain (cop_ok g o) (cop_ok g o2) (ha.val _ _ _ h1 X k g hN hS) (hb.val _ _ _ h2 X k g hN hS) (hc.val _ _ _ h3 X k g hN hS) (mk _ _ h0)) fun σ H Q => chain_read
  · obtain ⟨a', b', c', p, rfl, h0, h1, h2, h3⟩ := key e N sc h
    exact weakT (pt_chain (cop_ok g o) (cop_ok g o2) (ha.val _ _ _ h1 X k g hN hS) (hb.val _ _ _ h2 X k g hN hS) (hc.val _ _ _ h3 X k g hN hS) (mk _ _ h0)) fun σ H Q z => chain_read (tT_val z)
  · obtain ⟨a', b', c', p, e, _⟩ := key _ N sc h
    cases e
/-! ### and, or, not, if -/
theorem s_and {a b : Ex} (ha : SndE F fs a) (hb : SndE F fs b) : SndE F fs (.and a b) := by
  have key : ∀ (e : Expr) (N : List Str) (sc : Scope), chkE fs N sc (.and a b) e = true → ∃ a' b' r p, e = .BoolOp .And (a' :: b' :: r) p ∧ chkE fs N sc a a' = true ∧ chkE fs N sc b (tailB .And b' r p) = true := fun e N sc h => by
    simp only [chkE] at h
    split at h
    · simp only [Bool.and_eq_true] at h
      exact ⟨_, _, _, _, rfl, h.1, h.2⟩
    · cases h
  have hw : ∀ (op : BoolOp) (es : List Expr) (pos : Pos) (N : List Str) (sc : Scope), chkE fs N sc (.and a b) (.BoolOp op es pos) = true → ∀ (X : Cx) (k : Nat), Good X F k fs → X.N = N → X.env.scope = sc → PW X (.BoolOp op es pos) (tT X.K (evE F (.and a b))) := fun op es pos N sc h X k g hN hS => by
    obtain ⟨a', b', r, p, e, h1, h2⟩ := key _ N sc h
    cases e
    have hbt : PW X (.BoolOp .And (b' :: r) pos) (tT X.K (evE F b)) := by
      cases r with
      | nil => exact pw_and1 (hb.tst _ _ _ h2 X k g hN hS)
      | cons c r => exact hb.whl _ _ _ _ _ h2 X k g hN hS
    refine weakW (pw_and (ha.tst _ _ _ h1 X k g hN hS) hbt) ?_
    rintro σ H Q ⟨a1, ρ, m, st, sl, q⟩
    refine tT_onB (f := fun x m1 => if x then evE F b ρ m1 else .ok (.bl false) m1) st sl q fun d m1 a1 H1 st1 sl1 x1 q1 => ?_
    cases d with
    | true =>
      rw [if_pos rfl]
      exact ⟨a1, ρ, m1, st1, sl1, q1⟩
    | false =>
      rw [if_neg Bool.false_ne_true]
      exact q1 a1 H1 Ext.refl st1
  refine ⟨fun e N sc h X k g hN hS => ?_, fun e N sc h X k g hN hS => ?_, hw⟩
  · obtain ⟨a', b', r, p, rfl, h1, h2⟩ := key e N sc h
    have hbv : PE X (.BoolOp .And (b' :: r) p) (tS X.K (evE F b)) := by
      cases r with
      | nil => exact pe_one (hb.val _ _ _ h2 X k g hN hS)
      | cons c r => exact hb.val _ _ _ h2 X k g hN hS
    refine weakE (pe_and (ha.val _ _ _ h1 X k g hN hS) hbv) ?_
    rintro σ H Q ⟨a1, ρ, m, st, sl, q⟩
    refine tS_onV (f := fun x m1 => if x then evE F b ρ m1 else .ok (.bl false) m1) st sl q fun d m1 a1 H1 st1 sl1 x1 q1 => ⟨d, rfl, ?_⟩
    cases d with
    | true =>
      rw [if_pos rfl]
      exact ⟨a1, ρ, m1, st1, sl1, q1⟩
    | false =>
      rw [if_neg Bool.false_ne_true]
      exact q1 a1 H1 _ Ext.refl st1 (.bl _)
  · obtain ⟨a', b', r, p, rfl, h1, h2⟩ := key e N sc h
    exact (hw _ _ _ _ _ h X k g hN hS).pt
theorem s_or {a b : Ex} (ha : SndE F fs a) (hb : SndE F fs b) : SndE F fs (.or a b) := by
  have key : ∀ (e : Expr) (N : List Str) (sc : Scope), chkE fs N sc (.or a b) e = true → ∃ a' b' r p, e = .BoolOp .Or (a' :: b' :: r) p ∧ chkE fs N sc a a' = true ∧ chkE fs N sc b (tailB .Or b' r p) = true := fun e N sc h => by
    simp only [chkE] at h
    split at h
    · simp only [Bool.and_eq_true] at h
      exact ⟨_, _, _, _, rfl, h.1, h.2⟩
    · cases h
  have hw : ∀ (op : BoolOp) (es : List Expr) (pos : Pos) (N : List Str) (sc : Scope), chkE fs N sc (.or a b) (.BoolOp op es pos) = true → ∀ (X : Cx) (k : Nat), Good X F k fs → X.N = N → X.env.scope = sc → PW X (.BoolOp op es pos) (tT X.K (evE F (.or a b))) := fun op es pos N sc h X k g hN hS => by
    obtain ⟨a', b', r, p, e, h1, h2⟩ := key _ N sc h
    cases e
    have hbt : PW X (.BoolOp .Or (b' :: r) pos) (tT X.K (evE F b)) := by
      cases r with
      | nil => exact pw_or1 (hb.tst _ _ _ h2 X k g hN hS)
      | cons c r => exact hb.whl _ _ _ _ _ h2 X k g hN hS
    refine weakW (pw_or (ha.tst _ _ _ h1 X k g hN hS) hbt) ?_
    rintro σ H Q ⟨a1, ρ, m, st, sl, q⟩
    refine tT_onB (f := fun x m1 => if x then .ok (.bl true) m1 else evE F b ρ m1) st sl q fun d m1 a1 H1 st1 sl1 x1 q1 => ?_
    cases d with
    | true =>
      rw [if_pos rfl]
      exact q1 a1 H1 Ext.refl st1
    | false =>
      rw [if_neg Bool.false_ne_true]
      exact ⟨a1, ρ, m1, st1, sl1, q1⟩
  refine ⟨fun e N sc h X k g hN hS => ?_, fun e N sc h X k g hN hS => ?_, hw⟩
  · obtain ⟨a', b', r, p, rfl, h1, h2⟩ := key e N sc h
    have hbv : PE X (.BoolOp .Or (b' :: r) p) (tS X.K (evE F b)) := by
      cases r with
      | nil => exact pe_one (hb.val _ _ _ h2 X k g hN hS)
      | cons c r => exact hb.val _ _ _ h2 X k g hN hS
    refine weakE (pe_or (ha.val _ _ _ h1 X k g hN hS) hbv) ?_
    rintro σ H Q ⟨a1, ρ, m, st, sl, q⟩
    refine tS_onV (f := fun x m1 => if x then .ok (.bl true) m1 else evE F b ρ m1) st sl q fun d m1 a1 H1 st1 sl1 x1 q1 => ⟨d, rfl, ?_⟩
    cases d with
    | true =>
      rw [if_pos rfl]
      exact q1 a1 H1 _ Ext.refl st1 (.bl _)
    | false =>
      rw [if_neg Bool.false_ne_true]
      exact ⟨a1, ρ, m1, st1, sl1, q1⟩
  · obtain ⟨a', b', r, p, rfl, h1, h2⟩ := key e N sc h
    exact (hw _ _ _ _ _ h X k g hN hS).pt
theorem s_not {a : Ex} (ha : SndE F fs a) : SndE F fs (.not a) := by
  have key : ∀ (e : Expr) (N : List Str) (sc : Scope), chkE fs N sc (.not a) e = true → ∃ a' p, e = .UnaryOp .Not a' p ∧ chkE fs N sc a a' = true := fun e N sc h => by
    simp only [chkE] at h
    split at h
    · exact ⟨_, _, rfl, h⟩
    · cases h
  refine ⟨fun e N sc h X k g hN hS => ?_, fun e N sc h X k g hN hS => ?_, fun op es pos N sc h => ?_⟩
  · obtain ⟨a', p, rfl, h1⟩ := key e N sc h
    refine weakE (pe_not (ha.val _ _ _ h1 X k g hN hS)) ?_
    rintro σ H Q ⟨a1, ρ, m, st, sl, q⟩
    exact tS_onV (f := fun x m1 => .ok (.bl (!x)) m1) st sl q fun d m1 a1 H1 st1 sl1 x1 q1 => ⟨d, rfl, q1.val st1 (.bl _)⟩
  · obtain ⟨a', p, rfl, h1⟩ := key e N sc h
    refine weakT (pt_not (ha.tst _ _ _ h1 X k g hN hS)) ?_
    rintro σ H Q ⟨a1, ρ, m, st, sl, q⟩
    exact tT_onB (f := fun x m1 => .ok (.bl (!x)) m1) st sl q fun d m1 a1 H1 st1 sl1 x1 q1 => q1 a1 H1 Ext.refl st1
  · obtain ⟨a', p, e, _⟩ := key _ N sc h
    cases e
theorem s_ite {c a b : Ex} (hc : SndE F fs c) (ha : SndE F fs a) (hb : SndE F fs b) : SndE F fs (.ite c a b) := by
  have key : ∀ (e : Expr) (N : List Str) (sc : Scope), chkE fs N sc (.ite c a b) e = true → ∃ c' a' b' p, e = .IfExp c' a' b' p ∧ chkE fs N sc c c' = true ∧ chkE fs N sc a a' = true ∧ chkE fs N sc b b' = true := fun e N sc h => by
    simp only [chkE] at h
    split at h
    · simp only [Bool.and_eq_true] at h
      exact ⟨_, _, _, _, rfl, h.1.1, h.1.2, h.2⟩
    · cases h
  refine ⟨fun e N sc h X k g hN hS => ?_, fun e N sc h X k g hN hS => ?_, fun op es pos N sc h => ?_⟩
  · obtain ⟨c', a', b', p, rfl, h1, h2, h3⟩ := key e N sc h
    refine weakE (pe_ifExp (hc.tst _ _ _ h1 X k g hN hS) (ha.val _ _ _ h2 X k g hN hS) (hb.val _ _ _ h3 X k g hN hS)) ?_
    rintro σ H Q ⟨a1, ρ, m, st, sl, q⟩
    refine tT_on (f := fun x m1 => if x then evE F a ρ m1 else evE F b ρ m1) st sl q fun d m1 a1 H1 st1 sl1 x1 q1 => ?_
    cases d with
    | true => exact iteT ⟨a1, ρ, m1, st1, sl1, q1⟩
    | false => exact iteF ⟨a1, ρ, m1, st1, sl1, q1⟩
  · obtain ⟨c', a', b', p, rfl, h1, h2, h3⟩ := key e N sc h
    refine weakT (pt_ifExp (hc.tst _ _ _ h1 X k g hN hS) (ha.tst _ _ _ h2 X k g hN hS) (hb.tst _ _ _ h3 X k g hN hS)) ?_
    rintro σ H Q ⟨a1, ρ, m, st, sl, q⟩
    refine tT_onB (f := fun x m1 => if x then evE F a ρ m1 else evE F b ρ m1) st sl q fun d m1 a1 H1 st1 sl1 x1 q1 => ?_
    cases d with
    | true => exact iteT ⟨a1, ρ, m1, st1, sl1, q1⟩
    | false => exact iteF ⟨a1, ρ, m1, st1, sl1, q1⟩
  · obtain ⟨c', a', b', p, e, _⟩ := key _ N sc h
    cases e
end
end Br


set_option Elab.async false
set_option linter.all false
set_option maxRecDepth 100000
set_option maxHeartbeats 1000000
set_option autoImplicit false
/-! Br: every expression does what the evaluator tells: calls, items, lists, comprehensions, scopes. -/
namespace Br
open PySem PySem.Spec PyProof.Rows L2
variable [LamTab] [LamCl] [ExC]
section
variable {F : Fe} {fs : FS}
theorem s_fn (f : Fn) {es : Exs} (ih : SndEs F fs es) : SndE F fs (.fn f es) := SndE.pl fun e N sc h => by
  refine ⟨?_, fun X k g hN hS => fn_ok ih h g hN hS⟩
  simp only [chkE] at h
  split at h <;> (split at h <;> first | rfl | (cases h; done))
theorem s_isin {a : Ex} (ts : List Ty) (ih : SndE F fs a) : SndE F fs (.isin a ts) := SndE.pl fun e N sc h => by
  refine ⟨?_, fun X k g hN hS => isin_ok ih h g hN hS⟩
  simp only [chkE] at h
  split at h
  · rfl
  · cases h
theorem s_call (f : Str) {es : Exs} (ih : SndEs F fs es) : SndE F fs (.call f es) := SndE.pl fun e N sc h => by
  simp only [chkE] at h
  split at h
  · rename_i x p e' es' pos
    simp only [Bool.and_eq_true, decide_eq_true_eq] at h
    obtain ⟨⟨⟨⟨⟨hcm, rfl⟩, h2⟩, h3⟩, h4⟩, h5⟩ := h
    refine ⟨rfl, fun X k g hN hS => ?_⟩
    subst hN hS
    obtain ⟨q, fd, ps, g1, g2, g3, g4, g5⟩ := g.fn f (by simpa using h2)
    have pa := ih.args _ _ _ h5 X k g rfl rfl
    have s2 : (backTo pos (starEach es' X.env)).any (·.1) = false := by
      cases es with
      | nil => simp [chkEs] at h5
      | cons x t =>
        simp only [chkEs, Bool.and_eq_true] at h5
        exact star_any h5.2 _ _
    refine weakE (pe_callS (E := WE fun cls d _ H => ExC.E cls d H) g4 (g.room hcm) (glB_of h3) g1 g2 g3 (fun σ => passAt g.tk σ) pa (okN_d h4).1 (star_plain (plain_head h5) _ _) s2) ?_
    rintro σ H Q ⟨a, ρ, m, st, sl, q⟩
    refine tA_bind (f := fun ds m1 => F.call f ds m1) st sl q fun ds m1 a1 H1 vs st1 sl1 rv x1 q1 => ?_
    refine ⟨a1, m1, ds, st1, rv, ?_, g.trE q1⟩
    by_cases hl : ds.length = ps.length
    · exact hl
    · rw [g5 ds m1 hl] at q1
      exact False.elim q1
  · cases h
theorem tS_bindE {K : PySem.W.Frag} {H : Hp} {a : Ad} {m : Mem} {ρ : Sl} {σ : L2.St} {ev : Sl → Mem → Res D} {f : D → Mem → Res D} {Q Q' : VK} (st : MRel K a m H) (sl : SRel K a H ρ σ) (q : Tr K a H ((ev ρ m).bind f) Q)
    (k : ∀ d m1 a1 H1 v, ev ρ m = .ok d m1 → MRel K a1 m1 H1 → SRel K a1 H1 ρ σ → RepV K H1 a1 d v → Ext a H a1 H1 → Tr K a1 H1 (f d m1) Q → Q' v H1) : tS K ev σ H Q' := by
  refine ⟨a, ρ, m, st, sl, ?_⟩
  cases e : ev ρ m with
  | ok d m1 =>
    rw [e] at q
    exact fun a1 H1 v x r rv => k d m1 a1 H1 v e r (sl.mono x) rv x (Tr.mono (r := f d m1) q x)
  | ex c ds m' => rw [e] at q; exact q
  | bad => rw [e] at q; exact q
theorem s_idx {a b : Ex} (ha : SndE F fs a) (hb : SndE F fs b) : SndE F fs (.idx a b) := SndE.pl fun e N sc h => by
  simp only [chkE] at h
  split at h
  · rename_i a' b' p
    simp only [Bool.and_eq_true] at h
    obtain ⟨⟨h1, h2⟩, h3⟩ := h
    refine ⟨rfl, fun X k g hN hS => ?_⟩
    have pa := ha.val _ _ _ h2 X k g hN hS
    have pb := hb.val _ _ _ h3 X k g hN hS
    refine eitherE (pe_ix ixD_seq pa pb (plain_ix h1)) (pe_dget g.hu pa pb (plain_ix h1)) ?_
    rintro σ H Q ⟨a1, ρ, m, st, sl, q⟩
    by_cases hd : ∃ x m1 y m2, evE F a ρ m = .ok x m1 ∧ evE F b ρ m1 = .ok y m2 ∧ notDct m2 x = false
    · refine .inr ?_
      obtain ⟨x, m1, y, m2, e1, e2, e3⟩ := hd
      refine ⟨a1, ρ, m, st, sl, ?_⟩
      have q0 : Tr X.K a1 H (optR (idxD m2 x y) m2) Q := by
        have := q
        simp only [evE, e1, e2, Res.bind] at this
        exact this
      rw [e1]
      intro a2 H2 v x1 st1 rv
      refine ⟨a2, ρ, m1, st1, sl.mono x1, ?_⟩
      rw [e2]
      intro a3 H3 w x2 st2 rw
      have q1 := Tr.mono (Tr.mono q0 x1) x2
      have rv3 := rv.mono x2
      cases rv3 <;> first | (simp [notDct] at e3; done) | skip
      rename_i n p2 h5
      simp only [notDct] at e3
      split at e3
      · rename_i kvs h6
        obtain ⟨ho, g1, g2⟩ := st2.at_ n p2 _ h5 h6
        cases g2 with
        | @dct _ ks hl r =>
          simp only [idxD, h6] at q1
          cases hk : keyD y with
          | none => rw [hk] at q1; exact False.elim q1
          | some kk =>
            rw [hk, Option.bind_some] at q1
            rcases look_rep kk r with ⟨l1, l2⟩ | ⟨d, u, l1, l2, l3⟩
            · rw [l1] at q1; exact False.elim q1
            · rw [l1] at q1
              have ek := key_rep rw hk
              subst ek
              exact ⟨p2, u, rfl, by rw [← l2]; exact DGet.k g1, q1.val st2 l3⟩
      · cases e3
    · refine .inl ?_
      refine tS_bindE (f := fun x m1 => (evE F b ρ m1).bind fun y m2 => optR (idxD m2 x y) m2) st sl q fun d m1 a2 H2 v e1 st1 sl1 rv x1 q1 => ?_
      refine tS_bindE (f := fun y m2 => optR (idxD m2 d y) m2) st1 sl1 q1 fun y m2 a3 H3 w e2 st2 sl2 rw x2 q2 => ?_
      refine ⟨a3, m2, d, y, st2, rv.mono x2, rw, ?_, q2⟩
      cases hn : notDct m2 d with
      | true => rfl
      | false => exact absurd ⟨d, m1, y, m2, e1, e2, hn⟩ hd
  · cases h
/-! ### slices -/
def tO (K : PySem.W.Frag) (ev : Sl → Mem → Res (List D)) : TO := fun σ H Q => ∃ a ρ m ds m1 o, MRel K a m H ∧ SRel K a H ρ σ ∧ ev ρ m = .ok ds m1 ∧ partOf ds = some o ∧ ∀ a' H', Ext a H a' H' → MRel K a' m1 H' → Q o H'
theorem po_of {X : Cx} {k : Nat} (g : Good X F k fs) {es : Exs} (ih : SndEs F fs es) {o : Option Expr} (h : chkEs fs X.N X.env.scope es o.toList = true) : PO X o (tO X.K (evEs F es)) := by
  cases o with
  | none =>
    cases es with
    | cons _ _ => simp [chkEs] at h
    | nil =>
      refine ⟨fun pins s σ H Q I h => po_none.run pins s σ H Q I ?_⟩
      obtain ⟨a, ρ, m, ds, m1, o, st, sl, e1, e2, q⟩ := h
      simp only [evEs, Res.ok.injEq] at e1
      obtain ⟨rfl, rfl⟩ := e1
      simp only [partOf, Option.some.injEq] at e2
      subst e2
      exact q a H Ext.refl st
  | some e =>
    obtain ⟨x, rfl, hx, _⟩ := ih.one e _ _ h X k g rfl rfl
    refine ⟨fun pins s σ H Q I h => (po_some hx).run pins s σ H Q I ?_⟩
    obtain ⟨a, ρ, m, ds, m1, o, st, sl, e1, e2, q⟩ := h
    obtain ⟨d, rfl, e3⟩ := evEs_one e1
    refine ⟨a, ρ, m, st, sl, ?_⟩
    rw [e3]
    intro a1 H1 v x1 st1 rv
    cases rv <;> simp only [partOf] at e2 <;> first | (cases e2; done) | skip
    cases e2
    exact ⟨_, rfl, q a1 H1 x1 st1⟩
theorem tO_bind {K : PySem.W.Frag} {H : Hp} {a : Ad} {m : Mem} {ρ : Sl} {σ : L2.St} {ev : Sl → Mem → Res (List D)} {f : Option Int → Mem → Res D} {Q : VK} {Q' : Option Int → Hp → Prop} (st : MRel K a m H) (sl : SRel K a H ρ σ)
    (q : Tr K a H ((ev ρ m).nox.bind fun ds m1 => match partOf ds with | some o => f o m1 | none => .bad) Q)
    (k : ∀ o m1 a1 H1, MRel K a1 m1 H1 → SRel K a1 H1 ρ σ → Ext a H a1 H1 → Tr K a1 H1 (f o m1) Q → Q' o H1) : tO K ev σ H Q' := by
  cases e : ev ρ m with
  | ok ds m1 =>
    rw [e] at q
    cases ho : partOf ds with
    | none =>
      simp only [Res.nox, Res.bind, ho] at q
      exact False.elim q
    | some o =>
      simp only [Res.nox, Res.bind, ho] at q
      exact ⟨a, ρ, m, ds, m1, o, st, sl, e, ho, fun a1 H1 x r => k o m1 a1 H1 r (sl.mono x) x (Tr.mono q x)⟩
  | ex c ds m' => rw [e] at q; exact False.elim q
  | bad => rw [e] at q; exact False.elim q
theorem s_sli {a : Ex} {lo hi : Exs} (ha : SndE F fs a) (hlo : SndEs F fs lo) (hhi : SndEs F fs hi) : SndE F fs (.sli a lo hi) := SndE.pl fun e N sc h => by
  simp only [chkE] at h
  split at h
  · rename_i a' lo' hi' p2 p
    simp only [Bool.and_eq_true] at h
    obtain ⟨⟨h1, h2⟩, h3⟩ := h
    refine ⟨rfl, fun X k g hN hS => ?_⟩
    subst hN hS
    refine weakE (pe_slice slD (ha.val _ _ _ h1 X k g rfl rfl) (po_of g hlo h2) (po_of g hhi h3)) ?_
    rintro σ H Q ⟨a1, ρ, m, st, sl, q⟩
    have q' : Tr X.K a1 H ((evE F a ρ m).bind fun x m1 => (evEs F lo ρ m1).nox.bind fun l m2 => match partOf l with
      | some l' => (evEs F hi ρ m2).nox.bind fun h m3 => match partOf h with
        | some h' => optR (sliD m3 x l' h') m3
        | none => .bad
      | none => .bad) Q := by
      simp only [evE] at q
      revert q
      cases evE F a ρ m with
      | bad => exact id
      | ex _ _ _ => exact id
      | ok x m1 =>
        simp only [Res.bind]
        cases evEs F lo ρ m1 with
        | bad => exact id
        | ex _ _ _ => exact id
        | ok l m2 =>
          simp only [Res.nox]
          cases hl : partOf l with
          | none =>
            intro q
            revert q
            cases evEs F hi ρ m2 <;> exact id
          | some l' =>
            simp only
            cases evEs F hi ρ m2 with
            | bad => exact id
            | ex _ _ _ => exact id
            | ok h m3 =>
              simp only
              cases hh : partOf h <;> exact id
    refine tS_bind (f := _) st sl q' fun d m1 a2 H2 v st1 sl1 rv x1 q1 => ?_
    refine tO_bind (f := fun l' m2 => (evEs F hi ρ m2).nox.bind fun h m3 => match partOf h with
        | some h' => optR (sliD m3 d l' h') m3
        | none => .bad) st1 sl1 q1 fun l' m2 a3 H3 st2 sl2 x2 q2 => ?_
    refine tO_bind (f := fun h' m3 => optR (sliD m3 d l' h') m3) st2 sl2 q2 fun h' m3 a4 H4 st3 sl3 x3 q3 => ?_
    exact ⟨a4, m3, d, st3, (rv.mono x2).mono x3, q3⟩
  · cases h
theorem s_tup {es : Exs} (ih : SndEs F fs es) : SndE F fs (.tup es) := SndE.pl fun e N sc h => by
  simp only [chkE] at h
  split at h
  · refine ⟨rfl, fun X k g hN hS => ?_⟩
    refine weakE (pe_tup (ih.args _ _ _ h X k g hN hS)) ?_
    rintro σ H Q ⟨a, ρ, m, st, sl, q⟩
    refine tA_bind (f := fun ds m1 => if ds.length ≤ big then .ok (.tup ds) m1 else .bad) st sl q fun ds m1 a1 H1 vs st1 sl1 rv x1 q1 => ?_
    split at q1
    · rename_i hz
      have hz' := big_line hz
      exact ⟨by rw [← rv.length]; exact hz', fun p hp => q1.tup st1 rv hz' hp⟩
    · exact False.elim q1
  · cases h
theorem s_lst (fr : Bool) {es : Exs} (ih : SndEs F fs es) : SndE F fs (.lst fr es) := SndE.pl fun e N sc h => by
  simp only [chkE] at h
  split at h
  · refine ⟨rfl, fun X k g hN hS => ?_⟩
    refine weakE (pe_lst (ih.args _ _ _ h X k g hN hS)) ?_
    rintro σ H Q ⟨a, ρ, m, st, sl, q⟩
    refine tA_bind (f := fun ds m1 => if ds.length ≤ big then (if fr then .ok (.lst ds) m1 else .ok (.ref m1.length) (m1 ++ [O.lst ds])) else .bad) st sl q fun ds m1 a1 H1 vs st1 sl1 rv x1 q1 => ?_
    split at q1
    · rename_i hz
      have hz' := big_line hz
      refine ⟨by rw [← rv.length]; exact hz', fun p hp => ?_⟩
      cases fr with
      | true => exact Tr.lst st1 q1 rv hz' hp
      | false => exact Tr.new st1 q1 (.lst hz' rv) hp
    · exact False.elim q1
  · cases h
/-! ### scopes -/
theorem s_scope {a : Ex} (ih : SndE F fs a) : SndE F fs (.scope a) := by
  have key : ∀ {K : PySem.W.Frag} {H : Hp} {b : Ad} {m : Mem} {ρ : Sl} {Q : VK}, MRel K b m H → Tr K b H (evE F (.scope a) ρ m) Q → Tr K b H (evE F a ρ m) Q := fun {K H b m ρ Q} st q => by
    simp only [evE] at q
    cases e : evE F a ρ m with
    | bad => rw [e] at q; exact q
    | ex _ _ _ => rw [e] at q; exact q
    | ok d m' =>
      rw [e] at q
      simp only at q
      cases hf : frzD m' m.length d with
      | none => rw [hf] at q; exact False.elim q
      | some d' =>
        rw [hf] at q
        simp only at q
        split at q
        · rename_i hu
          exact scope_read st hf hu q
        · exact False.elim q
  have keyB : ∀ {K : PySem.W.Frag} {σ : L2.St} {H : Hp} {Q : Bool → Hp → Prop}, tT K (evE F (.scope a)) σ H Q → tT K (evE F a) σ H Q := fun {K σ H Q} q => by
    obtain ⟨b, ρ, m, st, sl, q⟩ := q
    refine ⟨b, ρ, m, st, sl, ?_⟩
    have q1 : Tr K b H (evE F (.scope a) ρ m) (fun v H' => ∃ c, v = .bl c ∧ Q c H') := by
      revert q
      cases evE F (.scope a) ρ m with
      | bad => exact id
      | ex _ _ _ => exact id
      | ok d m1 =>
        intro q
        cases d <;> first | exact False.elim q | skip
        intro a1 H1 v x1 st1 rv
        cases rv
        exact ⟨_, rfl, q a1 H1 x1 st1⟩
    have q2 := key st q1
    simp only [evE] at q
    cases e : evE F a ρ m with
    | bad => rw [e] at q; exact q
    | ex _ _ _ => rw [e] at q; exact q
    | ok d m' =>
      rw [e] at q q2
      cases d
      case bl c =>
        intro a1 H1 x1 st1
        obtain ⟨c', hc, hq⟩ := q2 a1 H1 _ x1 st1 (.bl c)
        cases hc
        exact hq
      all_goals
        simp only at q
        split at q
        · rename_i d' hf
          split at q
          · first
              | (cases hf; exact q)
              | (simp only [frzD, D.res, Option.map_eq_some_iff] at hf; obtain ⟨_, _, rfl⟩ := hf; exact q)
              | (rename_i hu
                 exfalso
                 simp only [frzD, D.res] at hf
                 unfold frz at hf
                 split at hf
                 · cases hf; exact q
                 · split at hf
                   · rw [Option.map_eq_some_iff] at hf; obtain ⟨_, _, rfl⟩ := hf; exact q
                   · cases hf)
          · exact False.elim q
        · exact False.elim q
  refine ⟨fun e N sc h X k g hN hS => ?_, fun e N sc h X k g hN hS => ?_, fun op es pos N sc h X k g hN hS => ?_⟩
  · have h' : chkE fs N sc a e = true := by simpa only [chkE] using h
    exact weakE (ih.val _ _ _ h' X k g hN hS) fun σ H Q ⟨b, ρ, m, st, sl, q⟩ => ⟨b, ρ, m, st, sl, key st q⟩
  · have h' : chkE fs N sc a e = true := by simpa only [chkE] using h
    exact weakT (ih.tst _ _ _ h' X k g hN hS) fun σ H Q => keyB
  · have h' : chkE fs N sc a (.BoolOp op es pos) = true := by simpa only [chkE] using h
    exact weakW (ih.whl _ _ _ _ _ h' X k g hN hS) fun σ H Q => keyB
/-! ### comprehensions -/
theorem weakTs {X : Cx} {es : List Expr} {t t' : L2.TT} (h : PTs X es t) (w : ∀ σ H Q, t' σ H Q → t σ H Q) : PTs X es t' := ⟨fun pins s σ H Q I q => h.run pins s σ H Q I (w _ _ _ q)⟩
theorem tests_ok {X : Cx} {k : Nat} (g : Good X F k fs) {c : Exs} (ih : SndEs F fs c) {ifs : List Expr} (hl : ifs.length ≤ 1) (h : chkEs fs X.N X.env.scope c ifs = true) : PTs X ifs (tT X.K fun ρ m => evC F c ρ m) := by
  match ifs, hl with
  | [], _ =>
    cases c with
    | cons _ _ => simp [chkEs] at h
    | nil => exact weakTs pts_nil fun σ H Q ⟨a, ρ, m, st, sl, q⟩ => q a H Ext.refl st
  | [e], _ =>
    obtain ⟨x, rfl, _, hx⟩ := ih.one e _ _ h X k g rfl rfl
    exact pts_one hx
theorem walk_ok {X : Cx} {k : Nat} (g : Good X F k fs) {w : Wk} {it : Exs} (ih : SndEs F fs it) {tg iter : Expr} (hp : plainE iter = true) (h1 : wkTg w tg = true) (h2 : wkB X.env.scope w iter = true) (h3 : chkEs fs X.N X.env.scope it (wkArgs w iter) = true) :
    PI X tg iter (tW X.K w (evEs F it)) := by
  cases w
  case seq =>
    obtain ⟨x, rfl, hx, _⟩ := ih.one iter _ _ h3 X k g rfl rfl
    exact sound_seq hx
  case str =>
    obtain ⟨x, rfl, hx, _⟩ := ih.one iter _ _ h3 X k g rfl rfl
    exact sound_str hx
  case rng1 =>
    unfold wkB at h2
    split at h2 <;> first | (rename_i hh; cases hh; done) | skip
    all_goals first | (cases h2; done) | skip
    rename_i x p e pos hh
    simp only [Bool.and_eq_true, decide_eq_true_eq] at h2
    obtain ⟨rfl, h2⟩ := h2
    have pa := ih.args _ _ _ h3 X k g rfl rfl
    exact sound_rng1 (glB_of h2) (blt_of g _) (plain_head h3) pa
  case rng2 =>
    unfold wkB at h2
    split at h2 <;> first | (rename_i hh; cases hh; done) | skip
    all_goals first | (cases h2; done) | skip
    rename_i x p e e2 pos hh
    simp only [Bool.and_eq_true, decide_eq_true_eq] at h2
    obtain ⟨rfl, h2⟩ := h2
    have pa := ih.args _ _ _ h3 X k g rfl rfl
    have hp2 : plainE e2 = true := by
      cases it with
      | nil => simp [wkArgs, chkEs] at h3
      | cons x r => simp only [wkArgs, chkEs, Bool.and_eq_true] at h3; exact plain_head (xs := r) (N := X.N) (sc := X.env.scope) (fs := fs) (by simpa [chkEs] using h3.2)
    exact sound_rng2 (glB_of h2) (blt_of g _) (plain_head h3) hp2 pa
  case rngD =>
    unfold wkB at h2
    split at h2 <;> first | (rename_i hh; cases hh; done) | skip
    all_goals first | (cases h2; done) | skip
    rename_i x p e e2 c pos hh
    simp only [Bool.and_eq_true, decide_eq_true_eq] at h2
    obtain ⟨⟨rfl, h2⟩, h4⟩ := h2
    have hp2 : plainE e2 = true := by
      cases it with
      | nil => simp [wkArgs, chkEs] at h3
      | cons x r => simp only [wkArgs, chkEs, Bool.and_eq_true] at h3; exact plain_head (xs := r) (N := X.N) (sc := X.env.scope) (fs := fs) (by simpa [chkEs] using h3.2)
    have hm := pe_m1 (X := X) h4
    exact sound_rngD (glB_of h2) (blt_of g _) (plain_head h3) hp2 h4 (ih.snoc _ _ _ h3 X k g rfl rfl c _ hm.2 hm.1)
  case enumT =>
    unfold wkB at h2
    split at h2 <;> first | (rename_i hh; cases hh; done) | skip
    all_goals first | (cases h2; done) | skip
    rename_i x p e pos hh
    simp only [Bool.and_eq_true, decide_eq_true_eq] at h2
    obtain ⟨rfl, h2⟩ := h2
    have pa := ih.args _ _ _ h3 X k g rfl rfl
    cases tg <;> first | (simp [wkTg] at h1; done) | skip
    exact sound_enumT (glB_of h2) (blt_of g _) (plain_head h3) pa
  case enum =>
    unfold wkB at h2
    split at h2 <;> first | (rename_i hh; cases hh; done) | skip
    all_goals first | (cases h2; done) | skip
    rename_i x p e pos hh
    simp only [Bool.and_eq_true, decide_eq_true_eq] at h2
    obtain ⟨rfl, h2⟩ := h2
    have pa := ih.args _ _ _ h3 X k g rfl rfl
    cases tg <;> first | (simp [wkTg] at h1; done) | skip
    exact sound_enum (glB_of h2) (blt_of g _) (plain_head h3) pa
end
end Br


set_option Elab.async false
set_option linter.all false
set_option maxRecDepth 100000
set_option maxHeartbeats 1000000
set_option autoImplicit false
/-! Br: a lambda entered. -/
namespace Br
open PySem PySem.Spec PyProof.Rows L2 LamX NdefX
/-- a lambda's function object: F.body says nothing -/
abbrev lamFd (F : NF) (body : Expr) (pm ctv : Value) : FuncData := PySem.W.kla_fn F.name F.qual F.params body F.scope F.cl pm (.ref F.c) ctv
section
variable {CX : CXT} {P : Program} {w : World} {K : PySem.W.Frag} {mg : Str → Option Value} {base : Heap} {N ps fr : List Str} {F : NF} {f : Addr} {k : Nat}
theorem lam_run {body : Expr} {tb : TE} {A : Around} {outer : List Env} {s : Shared} {H : Hp} {us : List Value} {vs : List V} {ws : List (Option V)} {Q : VK} {E : XK} {od : Option Addr} {sl : Array (Option Value)} {pm ctv : Value}
    (S : NScope N ps fr F.scope) (hb : ∀ (pm ctv : Value) (us : List Value), us.length = ps.length → bindArgs (lamFd F body pm ctv) ⟨us, []⟩ = pure (ps.zip us))
    (hr : Room (k + 1) A) (e0 : Env0 P w K mg base A outer s H) (ho : s.heap.get? f = some (⟨.type "function", od, .func (lamFd F body pm ctv), sl⟩ : Obj)) (hc : s.heap.CodeRec (.ref F.c) F.qual)
    (C : CellsAt F.cl fr ws s.heap H) (r : Vals vs us) (hl : vs.length = ps.length)
    (hbody : Room k (A.deeper (envF F f s.heap.objs.size)) → PE (ncx CX P w K mg base N F f A outer s H E) body tb) (ht : tb (startF N vs ws) H Q) :
    codeAny (model P w) A (.call (.ref f) ⟨us, []⟩) (CR CX outer P w H s Q E) s := by
  have nl : s.heap.NoLimit := e0.mod.nolimit.keeps (fun p u q => (e0.bs p u q).1)
  refine PySem.W.kla_callFunE hr.depth ho rfl S.co S.gen rfl hc ?_
  rw [hb pm ctv us (r.length.symm.trans hl)]
  refine wpAny_pure (wpAny_newFunctionEnv S.nocell (fun ⟨y, _⟩ hy => S.par y (List.of_mem_zip hy).1) (fun g hns hg => ⟨nl.fresh _ hg, ?_⟩) S.kind)
  show codeAny _ _ (.expr body (envF F f s.heap.objs.size)) _ _
  have stays : ∀ p u, s.heap.get? p = some u → g.get? p = some u := fun p u q => hg.extBut p u (Nat.ne_of_lt (Heap.lt_size q)) (Heap.get?_push_of_some _ q)
  have J0 : Inv (ncx CX P w K mg base N F f A outer s H E) [] (startF N vs ws) H { s with heap := g, toks := s.toks + (ps.zip us).length } := inv_startN S hr.hd e0 hl r C hns stays
  refine PySem.W.kla_codeExpr (wpAny_mono ((hbody (hr.deeper _)).run [] _ _ H Q J0 ht) (fun u s2 hq => ?_) fun u s2 hq => hq)
  obtain ⟨v2, H2, J, rv, q⟩ := hq
  exact ⟨v2, H2, J.os, J.bare, J.base, J.hok, rv, q⟩
end
end Br


set_option Elab.async false
set_option linter.all false
set_option maxRecDepth 100000
set_option maxHeartbeats 1000000
set_option autoImplicit false
/-! Br: a lambda made; what its call tells later. -/
namespace Br
open PySem PySem.Spec PyProof.Rows L2 LamX NdefX
variable [LamTab] [LamCl] [ExC]
section
variable {X : Cx} {pins : List (Addr × Obj)} {σ : L2.St} {H : Hp} {s : Shared}
/-- what the making of a lambda does to H: nothing, or a code object more in the table -/
def Made (H H1 : Hp) (P c' : Addr) (q : Str) : Prop := H1 = H ∨ ∃ ps more : Array Value, H P = some (.tbl ps) ∧ H c' = none ∧ H1 = upd (upd H P (.tbl (ps ++ more))) c' (CodeO c' q)
/-- the table at P tells c' for the place -/
def TabHas (H : Hp) (P : Addr) (pos : Pos) (c' : Addr) : Prop := ∃ ps : Array Value, H P = some (.tbl ps) ∧ TriplesOk ps.toList ∧ codeAmong pos ps.toList = some (.ref c')
theorem among_more {pos : Pos} {cv : Value} (l r : List Value) (h : TriplesOk l) (hc : codeAmong pos l = some cv) : codeAmong pos (l ++ r) = some cv := by
  fun_induction TriplesOk l with
  | case1 => simp [codeAmong] at hc
  | case2 a t b u x rest ih =>
    simp only [List.cons_append, codeAmong] at hc ⊢
    split at hc
    · rename_i q
      rw [if_pos q]
      exact hc
    · rename_i q
      rw [if_neg q]
      exact ih h hc
  | case3 l h1 h2 => exact h.elim
theorem lam_make3 {T : List (Addr × Str)} {c P : Addr} {q : Str} {params : Arguments} {body : Expr} {scope : Scope} {pos : Pos} {E Q : Value → Shared → Prop} (I : Inv X pins σ H s) (TB : TabB X.base X.mg c P) (hcode : X.env.code = .ref c)
    (hq : q = X.env.qual ++ "<lambda>") (hm : (P, q) ∈ T) (hu : ∀ p ∈ T, p.1 = P → p.2 = q) (hT : Tabs T H) (hdef : defaultsOf params X.env = ([], [])) (hfree : ∀ y ∈ scope.names, y.2 = .free → ∃ c, X.env.cells.lookup y.1 = some c)
    (k : ∀ (f c' : Addr) (pm ctv : Value) (H1 : Hp) (s' : Shared), Inv X pins σ H1 s' → Made H H1 P c' q → Tabs T H1 → H1 f = none → f ∉ frs X.stack → TabHas H1 P pos c' →
      s'.heap.get? f = some (PySem.W.kla_obj "<lambda>" q params body scope (cloFrom X.env.cells scope.names []) pm c' ctv) → s.heap.objs.size ≤ f → Q (.ref f) s') :
    wpAny (model X.prog X.w) X.A (eval (.Lambda params body scope pos) X.env) Q E s := by
  subst hq
  obtain ⟨ps, tP, tr, names⟩ := hT _ hm
  have blt := TB.bm.keeps I.bk
  have oP : s.heap.get? P = some { cls := .none, data := .fields ps } := I.hok P _ tP
  have ltP : P < s.heap.objs.size := Heap.lt_size oP
  have nofr : ∀ f, s.heap.objs.size ≤ f → f ∉ frs X.stack := fun f hf z => by
    rcases List.mem_cons.mp (I.stkSub _ z) with e | e
    · have h1 := I.lt
      rw [← e] at h1
      exact Nat.lt_irrefl _ (Nat.lt_of_lt_of_le h1 hf)
    · exact I.nofs hf e
  refine PySem.W.kla_eval hdef ?_
  cases e : codeAmong pos ps.toList with
  | some cv =>
    obtain ⟨c', rfl, hco⟩ := names pos cv e
    refine PySem.W.kla_makeFunctionHit (mg := X.mg) (c := c) (P := P) (ps := ps) (closure_ok hfree) I.ok.glob (I.mod.glob.keeps I.bk) hcode (TB.code.keeps I.bk) oP tr e blt fun ctv g tk old big => ?_
    refine k g.objs.size c' _ ctv H _ (I.kept (t' := tk) fun b o z => Heap.get?_push_of_some _ (old b o z)) (.inl rfl) hT (I.hok.fresh big) (nofr _ big) ⟨ps, tP, tr, e⟩ (Heap.get?_push_size _ rfl) big
  | none =>
    refine PySem.W.kla_makeFunction (mg := X.mg) (c := c) (P := P) (ps := ps) (closure_ok hfree) I.ok.glob (I.mod.glob.keeps I.bk) hcode (TB.code.keeps I.bk) oP tr e TB.gP blt fun c' ctv g tk old ge lt rec tab => ?_
    obtain ⟨c2, oc, vs, t, ec, hoc, hd, hv⟩ := rec
    cases ec
    have nC : H c' = none := I.hok.fresh ge
    have big : s.heap.objs.size ≤ g.objs.size := Nat.le_trans ge (Nat.le_of_lt lt)
    have up := inv_table (t' := tk) (more := #[rawInt pos.line, rawInt pos.col, .ref c']) (h' := g.push (PySem.W.kla_obj "<lambda>" (X.env.qual ++ "<lambda>") params body scope (cloFrom X.env.cells scope.names []) ((X.mg "__name__").getD .none) c' ctv)) I tP (fun b o hb z => Heap.get?_push_of_some _ (old b o hb z)) (Heap.get?_push_of_some _ tab) ge ⟨oc, vs, t, Heap.get?_push_of_some _ hoc, hd, hv⟩
    have kept : ExtN H (upd (upd H P (.tbl (ps ++ #[rawInt pos.line, rawInt pos.col, .ref c']))) c' (CodeO c' (X.env.qual ++ "<lambda>"))) := fun p u z n => by
      have n1 : p ≠ c' := ne_of_none z nC
      have n2 : p ≠ P := fun w => by
        subst w
        exact n ps (Option.some.inj (z.symm.trans tP))
      rw [upd_ne n1, upd_ne n2]
      exact z
    have tP' : upd (upd H P (.tbl (ps ++ #[rawInt pos.line, rawInt pos.col, .ref c']))) c' (CodeO c' (X.env.qual ++ "<lambda>")) P = some (.tbl (ps ++ #[rawInt pos.line, rawInt pos.col, .ref c'])) := by rw [upd_ne (ne_of_none tP nC), upd_same]
    have eL : (ps ++ #[rawInt pos.line, rawInt pos.col, .ref c']).toList = ps.toList ++ [rawInt pos.line, rawInt pos.col, .ref c'] := by simp
    refine k g.objs.size c' _ ctv _ _ up (.inr ⟨ps, _, tP, nC, rfl⟩) (fun r hr => ?_) ?_ (nofr _ big) ⟨_, tP', by rw [eL]; exact PySem.TriplesOk_snoc _ _ _ _ tr, by rw [eL]; exact codeAmong_snoc _ tr e⟩ (Heap.get?_push_size _ rfl) big
    · by_cases w : r.1 = P
      · rw [hu r hr w, w]
        refine ⟨ps ++ #[rawInt pos.line, rawInt pos.col, .ref c'], tP', ?_, fun pos2 cv hc => ?_⟩
        · rw [eL]
          exact PySem.TriplesOk_snoc _ _ _ _ tr
        · rw [eL] at hc
          rcases among_app _ tr hc with z | z
          · obtain ⟨c0, e1, e2⟩ := names pos2 cv z
            exact ⟨c0, e1, kept _ _ e2 codeO_ne⟩
          · exact ⟨c', z, upd_same⟩
      · obtain ⟨ps2, a1, a2, a3⟩ := hT r hr
        refine ⟨ps2, by rw [upd_ne (ne_of_none a1 nC), upd_ne w]; exact a1, a2, fun pos2 cv hc => ?_⟩
        obtain ⟨c0, e1, e2⟩ := a3 pos2 cv hc
        exact ⟨c0, e1, kept _ _ e2 codeO_ne⟩
    · rw [upd_ne (Nat.ne_of_gt lt), upd_ne (Nat.ne_of_gt (Nat.lt_of_lt_of_le ltP big))]
      exact I.hok.fresh big
end
section
variable {K : PySem.W.Frag} {H H1 : Hp} {a : Ad} {m : Mem} {P c' : Addr} {q : Str}
theorem Made.keep (h : Made H H1 P c' q) {p : Addr} {o : HO} (e : H p = some o) (n : ∀ ps, o ≠ .tbl ps) : H1 p = some o := by
  rcases h with rfl | ⟨ps, more, tP, nC, rfl⟩
  · exact e
  · have n1 : p ≠ c' := ne_of_none e nC
    have n2 : p ≠ P := fun w => by
      subst w
      exact n ps (Option.some.inj (e.symm.trans tP))
    rw [upd_ne n1, upd_ne n2]
    exact e
theorem Made.dom (h : Made H H1 P c' q) {p : Addr} (e : H1 p = none) : H p = none := by
  rcases h with rfl | ⟨ps, more, tP, nC, rfl⟩
  · exact e
  · exact upd_no (upd_no e)
theorem Made.ext (h : Made H H1 P c' q) : Ext a H a H1 := ⟨rfl, ⟨[], by simp, by simp⟩, fun p o e _ n => h.keep e n, fun p e => h.dom e⟩
theorem Made.mrel (st : MRel K a m H) (h : Made H H1 P c' q) (t : Tabs LamTab.T H1) : MRel K a m H1 := by
  refine ⟨st.nd, st.len, st.sep, fun n p o h1 h2 => ?_, fun p hp => ?_, t⟩
  · obtain ⟨ho, e, r⟩ := st.at_ n p o h1 h2
    refine ⟨ho, h.keep e ?_, r.mono h.ext⟩
    cases r with
    | lst _ _ => exact fun ps z => by cases z
    | dct _ _ => exact fun ps z => by cases z
    | dtt _ => exact fun ps z => by unfold DTO at z; cases z
  · obtain ⟨xs, e⟩ := st.hid p hp
    exact ⟨xs, h.keep e fun ps z => by cases z⟩
end
/-! ### the frame of a lambda -/
/-- a frame that got no function -/
@[reducible] def noCl : LamCl := ⟨[], ⟨[], []⟩, fun _ => none⟩
section
variable {K : PySem.W.Frag} {H H' : Hp} {a a' : Ad}
theorem cap_rel {ρ : Sl} {σ : L2.St} (sl : SRel K a H ρ σ) (kp : Kp a H a' H') (j : Nat) (d : D) (e : getS ρ j = some d) : ∃ v, slotAt σ j = some v ∧ RepV K H' a' d v := by
  unfold getS at e
  cases h : ρ[j]? with
  | none => rw [h] at e; cases e
  | some o =>
    rw [h] at e
    have e : o = some d := e
    subst e
    obtain ⟨v, h1, h2⟩ := sl.at_ j d h
    exact ⟨v, slotAt_of h1, h2.kp kp⟩
theorem srel_lam {ρ : Sl} {σ : L2.St} (sl : SRel K a H ρ σ) (kp : Kp a H a' H') {ds : List D} {vs : List V} (r : RepVs K H' a' ds vs) (caps : List Nat) {N : List Str} (hN : N.length = ds.length + caps.length) :
    @SRel K noCl a' H' (ds.map some ++ capS ρ caps) (startF N vs (caps.map (slotAt σ))) := by
  have hl := r.length
  refine @SRel.mk K noCl a' H' _ _ ?_ (fun i d e => ?_) (fun q hq => by cases hq) (fun z => absurd rfl z)
  · unfold startF capS
    simp only [List.length_append, List.length_map, List.length_replicate]
    omega
  · unfold startF
    by_cases hi : i < ds.length
    · rw [List.getElem?_append_left (by simpa using hi), List.getElem?_map] at e
      rw [List.getElem?_append_left (by rw [List.length_map, ← hl]; exact hi), List.getElem?_map]
      cases hd : ds[i]? with
      | none => rw [hd] at e; cases e
      | some d' =>
        rw [hd] at e
        cases e
        obtain ⟨v, h1, h2⟩ := r.get hd
        exact ⟨v, by rw [h1]; rfl, h2⟩
    · rw [List.getElem?_append_right (by simpa using Nat.le_of_not_lt hi)] at e
      unfold capS at e
      rw [List.length_map, List.getElem?_map] at e
      cases hj : caps[i - ds.length]? with
      | none => rw [hj] at e; cases e
      | some j =>
        rw [hj] at e
        have e : getS ρ j = some d := Option.some.inj e
        obtain ⟨v, h1, h2⟩ := cap_rel sl kp j d e
        refine ⟨v, ?_, h2⟩
        have el : (List.map some vs).length = ds.length := by rw [List.length_map, hl]
        rw [List.getElem?_append_right (by rw [el]; omega), el, List.getElem?_append_left (by
          rw [List.length_map]; exact (List.getElem?_eq_some_iff.mp hj).1), List.getElem?_map, hj]
        exact congrArg some h1
end
end Br


set_option Elab.async false
set_option linter.all false
set_option maxRecDepth 100000
set_option maxHeartbeats 1000000
set_option autoImplicit false
/-! Br: what the call of a lambda tells, where it was handed on. -/
namespace Br
open PySem PySem.Spec PyProof.Rows L2 LamX NdefX
variable [LamTab] [LamCl] [ExC]
/-- what the cells held they hold still -/
theorem cells_un {fs : List Addr} {cl : List (Str × Addr)} {fr : List Str} {ws : List (Option V)} {H H' : Hp} {h h' : Heap} (C : CellsAt cl fr ws h H) (u : Un fs [] H H' h h') : CellsAt cl fr ws h' H' := by
  have kp : ∀ y c, cl.lookup y = some c → ∀ v, h.IsCell c v → h'.IsCell c v := fun y c e v ⟨o, ho, hd⟩ => by
    obtain ⟨sl, q⟩ := u.any ho (C.all y c e).1 (by simp)
    exact ⟨_, q, hd⟩
  refine ⟨C.len, fun y c e => ?_, C.inj, fun i y e => ?_⟩
  · obtain ⟨n, v, z⟩ := C.all y c e
    refine ⟨?_, v, kp y c e v z⟩
    obtain ⟨o, ho, _⟩ := z
    exact u.free c o ho n (by simp)
  · obtain ⟨c, hc, hv⟩ := C.has i y e
    refine ⟨c, hc, fun v ev => ?_⟩
    obtain ⟨u, r, z⟩ := hv v ev
    exact ⟨u, r, kp y c hc _ z⟩
theorem code_un {fs : List Addr} {P : Program} {w : World} {K : PySem.W.Frag} {H H' : Hp} {h h' : Heap} {p c' : Addr} {pos : Pos} {q : Str} {a : Ad} {m : Mem} (t : TabHas H p pos c') (hT : (p, q) ∈ LamTab.T) (u : Un fs [] H H' h h') (st : MRel K a m H') (hok : HOk P w H' h') : h'.CodeRec (.ref c') q := by
  obtain ⟨ps, e1, e2, e3⟩ := t
  obtain ⟨more, e4⟩ := u.tbls p ps e1
  obtain ⟨ps2, a1, a2, a3⟩ := st.tabs _ hT
  have a1 : H' p = some (.tbl ps2) := a1
  rw [e4] at a1
  cases a1
  obtain ⟨c0, e5, e6⟩ := a3 pos (.ref c') (by rw [Array.toList_append]; exact among_more _ _ e2 e3)
  cases e5
  exact codeO_at hok e6
/-- a lambda that is made plain: its parameters, what it captures, its body -/
structure LamIs (N : List Str) (sc : Scope) (fs : FS) (nn : Nat) (caps : List Nat) (x : Ex) (params : Arguments) (body : Expr) (scope : Scope) (ps : List Str) : Prop where
  pa : lamPs params = some ps
  np : ps.length = nn
  two : nn ≤ 2
  cpn : caps.map (fun j => N[j]?) = (capN N caps).map some
  ns : NScope (ps ++ capN N caps) ps (capN N caps) scope
  free : ∀ y ∈ scope.names, y.2 = .free → sc.names.lookup y.1 = some .cell ∨ sc.names.lookup y.1 = some .free
  frm : ∀ y ∈ capN N caps, (y, NameKind.free) ∈ scope.names
  chk : chkE fs.lamb (ps ++ capN N caps) scope x body = true
theorem lam_args {params : Arguments} {ps : List Str} (h : lamPs params = some ps) : ∃ as : List Arg, params = ⟨[], as, none, [], [], none, []⟩ ∧ ps = as.map (·.arg) := by
  unfold lamPs at h
  split at h
  · exact ⟨_, rfl, (Option.some.inj h).symm⟩
  · cases h
theorem bind_lam0 (n q : Str) (body : Expr) (scope : Scope) (cl : List (Str × Addr)) (pm cdv ct : Value) : bindArgs (PySem.W.kla_fn n q ⟨[], [], none, [], [], none, []⟩ body scope cl pm cdv ct) ⟨[], []⟩ = pure [] := by
  unfold bindArgs
  simp [seqItems?, notAStandIn, List.lookup]
theorem bind_lam1 (n q : Str) (a : Arg) (body : Expr) (scope : Scope) (cl : List (Str × Addr)) (pm cdv ct u : Value) : bindArgs (PySem.W.kla_fn n q ⟨[], [a], none, [], [], none, []⟩ body scope cl pm cdv ct) ⟨[u], []⟩ = pure [(a.arg, u)] := by
  have h : (a.arg == a.arg) = true := beq_self_eq_true _
  unfold bindArgs
  simp [seqItems?, notAStandIn, List.lookup, h]
theorem bind_lam2 (n q : Str) (a b : Arg) (hab : a.arg ≠ b.arg) (body : Expr) (scope : Scope) (cl : List (Str × Addr)) (pm cdv ct u v : Value) : bindArgs (PySem.W.kla_fn n q ⟨[], [a, b], none, [], [], none, []⟩ body scope cl pm cdv ct) ⟨[u, v], []⟩ = pure [(a.arg, u), (b.arg, v)] := by
  have h : (a.arg == a.arg) = true := beq_self_eq_true _
  have h1 : (b.arg == b.arg) = true := beq_self_eq_true _
  have h2 : (b.arg == a.arg) = false := by simpa using Ne.symm hab
  unfold bindArgs
  simp [seqItems?, notAStandIn, List.lookup, h, h1, h2]
theorem bind_lam {params : Arguments} {ps : List Str} (h : lamPs params = some ps) (h2 : ps.length ≤ 2) (hn : ps.Nodup) (n q : Str) (body : Expr) (scope : Scope) (cl : List (Str × Addr)) (pm cdv ct : Value) (us : List Value) (hl : us.length = ps.length) : bindArgs (PySem.W.kla_fn n q params body scope cl pm cdv ct) ⟨us, []⟩ = pure (ps.zip us) := by
  obtain ⟨as, rfl, rfl⟩ := lam_args h
  match as, us, hl, h2, hn with
  | [], [], _, _, _ => exact bind_lam0 ..
  | [a], [u], _, _, _ => exact bind_lam1 ..
  | [a, b], [u, v], _, _, hn => exact bind_lam2 _ _ a b (by simpa using hn) ..
  | _ :: _ :: _ :: _, _, _, h2, _ => simp at h2
/-- what is so within a lambda -/
theorem good_lam {X : Cx} {F : Fe} {k j : Nat} {fs : FS} (g : Good X F k fs) {c2 : Str → List D → Mem → Res D} (hc : ∀ f ∈ fs.fs, FnFact X.prog X.w X.K X.mg X.base j f (c2 f)) {Z : Cx} (h1 : Z.prog = X.prog) (h2 : Z.w = X.w) (h3 : Z.K = X.K) (h4 : Z.mg = X.mg) (h5 : Z.base = X.base)
    (hcalm : Z.calm = true) (hnd : Z.N.Nodup) (hr : Room j Z.A) {E : XK} (tk : Takes Z (fun cls d _ H => E cls d H)) : @Good _ noCl ⟨E, Z.mg⟩ Z (F.lamb c2) j fs.lamb := by
  refine @Good.mk _ noCl ⟨E, Z.mg⟩ Z (F.lamb c2) j fs.lamb (fun _ => hcalm) hnd (fun _ => hr) hr.un (fun f hf => ?_) (fun x hx => by rw [h4]; exact g.blt x hx) (fun x d e => ?_) (fun q hq => by cases hq) (fun z => Bool.noConfusion z) (fun c e => by cases e) (fun f hf => by cases hf) (fun z => Bool.noConfusion z) (fun z => Bool.noConfusion z) tk rfl (fun z => Bool.noConfusion z) (fun z => Bool.noConfusion z)
  · rw [h1, h2, h3, h4, h5]; exact hc f hf
  · obtain ⟨v, u, a1, a2, a3⟩ := g.glo x d e
    exact ⟨v, u, by rw [h4]; exact a1, a2, by rw [h3]; exact a3⟩
section
variable {X : Cx} {pins : List (Addr × Obj)} {σ : L2.St} {H : Hp} {s : Shared} {F : Fe} {k : Nat} {fs : FS}
/-- the lambda at f0, called from Z, a frame that runs on top of s and H -/
theorem lam_callU {np : Nat} {caps : List Nat} {x : Ex} {params : Arguments} {body : Expr} {scope : Scope} {ps : List Str} (g : Good X F k fs) (L : LamIs X.N X.env.scope fs np caps x params body scope ps) (hx : ∀ (ec : ExC) (F : Fe) (fs : FS), @SndE _ noCl ec F fs x)
    {qn : Str} {P c' f0 : Addr} {pos : Pos} {pm ctv : Value} (ho : s.heap.get? f0 = some (PySem.W.kla_obj "<lambda>" qn params body scope (cloFrom X.env.cells scope.names []) pm c' ctv)) (hn : H f0 = none)
    (ht : TabHas H P pos c') (hT : (P, qn) ∈ LamTab.T) (C : CellsAt (cloFrom X.env.cells scope.names []) (capN X.N caps) (caps.map (slotAt σ)) s.heap H) {a0 : Ad} {ρ : Sl} (sl : SRel X.K a0 H ρ σ)
    {Z : Cx} {j : Nat} {c2 : Str → List D → Mem → Res D} (h1 : Z.prog = X.prog) (h2 : Z.w = X.w) (h3 : Z.K = X.K) (h4 : Z.mg = X.mg) (h5 : Z.base = X.base) (hr : Room (j + 1) Z.A) (hc : ∀ f ∈ fs.fs, FnFact X.prog X.w X.K X.mg X.base j f (c2 f)) {E : XK} (tk : Takes Z (fun cls d _ H => E cls d H))
    {pinsZ : List (Addr × Obj)} {σ' : L2.St} {H' : Hp} {s' : Shared} {us : List Value} {vs : List V} {ds : List D} {a : Ad} {m : Mem} {Q : VK} (I : Inv Z pinsZ σ' H' s') {fr : List Addr} (un : Un fr [] H H' s.heap s'.heap) (hfr : f0 ∉ fr) (r : Vals vs us) (kp : Kp a0 H a H') (st : MRel X.K a m H') (rv : RepVs X.K H' a ds vs)
    (q : TrE E X.mg X.K a H' (if ds.length = np then evE (F.lamb c2) x (ds.map some ++ capS ρ caps) m else .bad) Q) :
    wpAny (model X.prog X.w) Z.A (call (.ref f0) us) (fun u s2 => ∃ v H2, Inv Z pinsZ σ' H2 s2 ∧ Un (frs Z.stack) [] H' H2 s'.heap s2.heap ∧ RelV v u ∧ Q v H2) Z.xe s' := by
  split at q
  · rename_i hl
    have e0 := I.env0
    have hok := I.hok
    rw [h1, h2, h3, h4, h5] at e0
    rw [h1, h2] at hok
    have of1 := un.keep f0 _ ho hn hfr (by simp)
    have hvl : vs.length = ps.length := by rw [← rv.length, hl, L.np]
    have hcl : caps.length = (capN X.N caps).length := by
      have := congrArg List.length L.cpn
      simpa using this
    have run := lam_run (CX := L2.CX X.prog X.w) (P := X.prog) (w := X.w) (K := X.K) (mg := X.mg) (base := X.base) (F := ⟨"<lambda>", qn, params, [], scope, cloFrom X.env.cells scope.names [], c'⟩) (f := f0) (k := j) (body := body) (A := Z.A) (outer := Z.stack) (s := s') (H := H') (us := us) (vs := vs) (ws := caps.map (slotAt σ)) (Q := Q) (E := E) (pm := pm) (ctv := ctv)
      (tb := @tS _ noCl ⟨E, X.mg⟩ X.K (evE (F.lamb c2) x)) L.ns (fun pm ctv us hl => bind_lam L.pa (by rw [L.np]; exact L.two) (by have := L.ns.nd; rw [List.nodup_append] at this; exact this.1) _ _ _ _ _ _ _ _ us hl) hr e0 of1 (code_un ht hT un st hok) (cells_un C un) r hvl (fun hr2 => ?_)
      ⟨a, _, m, st, srel_lam sl kp rv caps (by rw [List.length_append, ← hvl, rv.length, hcl]), q⟩
    · show wpAny (model X.prog X.w) Z.A _ _ _ _
      refine wpAny_call (codeAny_mono run fun rr s2 hq => ?_)
      cases rr with
      | error e =>
        have hq : L2.CX X.prog X.w Z.stack H' s' E e s2 := hq
        rw [← h1, ← h2] at hq
        exact passAt tk σ' _ _ _ _ _ I hq
      | ok fl =>
        cases fl with
        | ret u =>
          have hq : CE Z.stack X.prog X.w H' s' Q u s2 := hq
          obtain ⟨v, H2, os, bare, un2, hok2, rv2, q2⟩ := hq
          rw [← h1, ← h2] at hok2
          obtain ⟨v', H3, I3, r3, e1, e2⟩ := I.after (Q := fun v' H3 => v' = v ∧ H3 = H2) ⟨v, H2, os, bare, un2, hok2, rv2, rfl, rfl⟩
          subst e1 e2
          exact ⟨v', H3, I3, un2, r3, q2⟩
        | next => exact False.elim hq
        | brk => exact False.elim hq
        | cont => exact False.elim hq
    · refine @SndE.val _ noCl ⟨E, X.mg⟩ _ _ _ (hx ⟨E, X.mg⟩ (F.lamb c2) fs.lamb) _ _ _ L.chk _ j ?_ rfl rfl
      refine good_lam g hc ?_ ?_ ?_ ?_ ?_ ?_ ?_ hr2 (takes_of (E₁ := fun e' s'' => L2.CX X.prog X.w Z.stack H' s' E e' s'') ?_ ?_ ?_ ?_)
      all_goals first | rfl | exact L.ns.nd
  · exact False.elim q
/-- the lambda at f0, called from Z, a frame that runs on top of s and H -/
theorem lam_call {np : Nat} {caps : List Nat} {x : Ex} {params : Arguments} {body : Expr} {scope : Scope} {ps : List Str} (g : Good X F k fs) (L : LamIs X.N X.env.scope fs np caps x params body scope ps) (hx : ∀ (ec : ExC) (F : Fe) (fs : FS), @SndE _ noCl ec F fs x)
    {qn : Str} {P c' f0 : Addr} {pos : Pos} {pm ctv : Value} (ho : s.heap.get? f0 = some (PySem.W.kla_obj "<lambda>" qn params body scope (cloFrom X.env.cells scope.names []) pm c' ctv)) (hn : H f0 = none)
    (ht : TabHas H P pos c') (hT : (P, qn) ∈ LamTab.T) (C : CellsAt (cloFrom X.env.cells scope.names []) (capN X.N caps) (caps.map (slotAt σ)) s.heap H) {a0 : Ad} {ρ : Sl} (sl : SRel X.K a0 H ρ σ)
    {Z : Cx} {j : Nat} {c2 : Str → List D → Mem → Res D} (h1 : Z.prog = X.prog) (h2 : Z.w = X.w) (h3 : Z.K = X.K) (h4 : Z.mg = X.mg) (h5 : Z.base = X.base) (hr : Room (j + 1) Z.A) (hc : ∀ f ∈ fs.fs, FnFact X.prog X.w X.K X.mg X.base j f (c2 f)) {E : XK} (tk : Takes Z (fun cls d _ H => E cls d H))
    {pinsZ : List (Addr × Obj)} {σ' : L2.St} {H' : Hp} {s' : Shared} {us : List Value} {vs : List V} {ds : List D} {a : Ad} {m : Mem} {Q : VK} (I : Inv Z pinsZ σ' H' s') {fr : List Addr} (un : Un fr [] H H' s.heap s'.heap) (hfr : f0 ∉ fr) (r : Vals vs us) (kp : Kp a0 H a H') (st : MRel X.K a m H') (rv : RepVs X.K H' a ds vs)
    (q : TrE E X.mg X.K a H' (if ds.length = np then evE (F.lamb c2) x (ds.map some ++ capS ρ caps) m else .bad) Q) :
    wpAny (model X.prog X.w) Z.A (call (.ref f0) us) (EP Z pinsZ σ' Q) Z.xe s' :=
  thn (lam_callU g L hx ho hn ht hT C sl h1 h2 h3 h4 h5 hr hc tk I un hfr r kp st rv q) fun u s2 ⟨v, H2, I2, _, r2, q2⟩ => ⟨v, H2, I2, r2, q2⟩
end
end Br


set_option Elab.async false
set_option linter.all false
set_option maxRecDepth 100000
set_option maxHeartbeats 1000000
set_option autoImplicit false
/-! Br: expressions, further: new lists, pop, dict displays, functions handed on and called. -/
namespace Br
open PySem PySem.Spec PyProof.Rows L2 LamX NdefX
variable [LamTab] [LamCl] [ExC]
/-- .. that tells a new list -/
structure SndF (F : Fe) (fs : FS) (x : Ex) : Prop where
  frs : newB x = true → ∀ (e : Expr) (N : List Str) (sc : Scope), chkE fs N sc x e = true → isPl e = true ∧ ∀ (X : Cx) (k : Nat), Good X F k fs → X.N = N → X.env.scope = sc → PE X e (tF X.K (evE F x))
section
variable {F : Fe} {fs : FS}
theorem newF {K : PySem.W.Frag} {a : Ad} {H : Hp} {r : Res D} {Q : VK} (q : Tr K a H (r.bind newD) Q) : TrF K a H r Q := by
  cases r with
  | ok d m =>
    cases d <;> first | exact False.elim q | skip
    exact fun a1 H1 vs p x st rv hl hp => Tr.new st (Tr.mono q x) (.lst hl rv) hp
  | ex c ds m => exact q
  | bad => exact q
theorem s_new {a : Ex} (ih : SndF F fs a) : SndE F fs (.new a) := SndE.pl fun e N sc h => by
  simp only [chkE, Bool.and_eq_true] at h
  obtain ⟨h1, h2⟩ := ih.frs h.1 e N sc h.2
  refine ⟨h1, fun X k g hN hS => weakE (h2 X k g hN hS) ?_⟩
  rintro σ H Q ⟨a1, ρ, m, st, sl, q⟩
  exact ⟨a1, ρ, m, st, sl, newF q⟩
theorem f_add {a b : Ex} (ha : SndE F fs a) (hb : SndE F fs b) : SndF F fs (.bin .add a b) := ⟨fun _ e N sc h => by
  simp only [chkE] at h
  split at h
  · simp only [Bool.and_eq_true, decide_eq_true_eq] at h
    obtain ⟨⟨rfl, h2⟩, h3⟩ := h
    refine ⟨rfl, fun X k g hN hS => weakE (pe_op opF_add (ha.val _ _ _ h2 X k g hN hS) (hb.val _ _ _ h3 X k g hN hS)) ?_⟩
    rintro σ H Q ⟨a', ρ, m, st, sl, q⟩
    refine tS_bindF (f := fun x m1 => (evE F b ρ m1).bind fun y m2 => optR (binD m2 .add x y) m2) st sl q fun d m1 a1 H1 v st1 sl1 rv x1 q1 => ?_
    refine tS_bindF (f := fun y m2 => optR (binD m2 .add d y) m2) st1 sl1 q1 fun e m2 a2 H2 w st2 sl2 rw x2 q2 => ?_
    exact ⟨a2, m2, d, e, st2, rv.mono x2, rw, q2⟩
  · cases h⟩
theorem f_rngL {es : Exs} (ih : SndEs F fs es) : SndF F fs (.fn .rngL es) := ⟨fun _ e N sc h => by
  obtain ⟨x, y, p, q, e', r, s, rfl, _⟩ := rngL_key h
  exact ⟨rfl, fun X k g hN hS => rngL_F ih h g hN hS⟩⟩
/-- list(xs) -/
theorem listF_call {X : Cx} : CallR X (.type "list") (fun xs H Q => ∃ a m ds, MRel X.K a m H ∧ RepVs X.K H a ds xs ∧ TrF X.K a H (fnD m .list ds) Q) := by
  intro pins s σ H xs us Q I r h
  obtain ⟨a, m, ds, st, rr, q⟩ := h
  by_cases h1 : ds.length = 1
  · obtain ⟨d, x, rfl, rfl, rd⟩ := one_of rr h1
    have q : TrF X.K a H (match itemsD m d with | some ds => .ok (.lst ds) m | none => .bad) Q := q
    cases hl : itemsD m d with
    | none => rw [hl] at q; exact False.elim q
    | some ds =>
      rw [hl] at q
      obtain ⟨p, xs, rfl, hs, r2, hz⟩ := items_rep st rd hl
      exact call_list_of pins s σ H _ us Q I r ⟨p, xs, rfl, hs, fun l hl => q a H _ l Ext.refl st r2 hz hl⟩
  · rw [fnD_one (by decide) (by decide) (by decide) (by decide) h1] at q
    exact False.elim q
theorem f_list {es : Exs} (ih : SndEs F fs es) : SndF F fs (.fn .list es) := ⟨fun _ e N sc h => by
  have key : ∃ x p es' pos, e = .Call (.Name x p) es' [] pos ∧ x = "list" ∧ glB sc x = true ∧ es' ≠ [] ∧ chkEs fs N sc es es' = true := by
    simp only [chkE] at h
    split at h <;> first | (cases h; done) | skip
    simp only [Bool.and_eq_true, decide_eq_true_eq] at h
    exact ⟨_, _, _, _, rfl, h.1.1.1.2, h.1.1.2, (by intro z; rw [z] at h; simp [arity] at h), h.2⟩
  obtain ⟨x, p, es', pos, rfl, rfl, hg, har, hc⟩ := key
  refine ⟨rfl, fun X k g hN hS => ?_⟩
  subst hN hS
  have pa := ih.args _ _ _ hc X k g rfl rfl
  match es', har with
  | e' :: r, _ =>
    have s1 := star_plain (plain_head hc) r X.env
    have s2 : (backTo pos (starEach r X.env)).any (·.1) = false := by
      cases es with
      | nil => simp [chkEs] at hc
      | cons x t =>
        simp only [chkEs, Bool.and_eq_true] at hc
        exact star_any hc.2 _ _
    refine weakE (pe_callTy listF_call (glB_of hg) (blt_of g _) PyProof.Rows.boot_list pa (by decide) (by decide) s1 s2) ?_
    rintro σ H Q ⟨a, ρ, m, st, sl, q⟩
    exact tA_bindF (f := fun ds m1 => fnD m1 .list ds) st sl q fun ds m1 a1 H1 vs st1 sl1 rv x1 q1 => ⟨a1, m1, ds, st1, rv, q1⟩⟩
/-! ### pop -/
theorem RepVs.erase {K : PySem.W.Frag} {H : Hp} {a : Ad} : ∀ {ds : List D} {xs : List V} (n : Nat), RepVs K H a ds xs → RepVs K H a (ds.eraseIdx n) (xs.eraseIdx n)
  | _, _, _, .nil => .nil
  | _, _, 0, .cons _ r => r
  | _, _, n + 1, .cons h r => .cons h (RepVs.erase n r)
theorem tA_bindE {K : PySem.W.Frag} {a : Ad} {H : Hp} {m : Mem} {ρ : Sl} {σ : L2.St} {ev : Sl → Mem → Res (List D)} {f : List D → Mem → Res D} {Q : VK} {Q' : List V → Hp → Prop} (st : MRel K a m H) (sl : SRel K a H ρ σ) (q : Tr K a H ((ev ρ m).bind f) Q)
    (k : ∀ ds m1 a1 H1 vs, ev ρ m = .ok ds m1 → MRel K a1 m1 H1 → SRel K a1 H1 ρ σ → RepVs K H1 a1 ds vs → Ext a H a1 H1 → Tr K a1 H1 (f ds m1) Q → Q' vs H1) : tA K ev σ H Q' := by
  refine ⟨a, ρ, m, st, sl, ?_⟩
  cases e : ev ρ m with
  | ok d m1 =>
    rw [e] at q
    exact fun a1 H1 v x r rv => k d m1 a1 H1 v e r (sl.mono x) rv x (Tr.mono (r := f d m1) q x)
  | ex c ds m' => rw [e] at q; exact q
  | bad => rw [e] at q; exact q
theorem s_lpop {o : Ex} {es : Exs} (iho : SndE F fs o) (ihe : SndEs F fs es) : SndE F fs (.lpop o es) := SndE.pl fun e N sc h => by
  simp only [chkE] at h
  split at h
  · rename_i o' x ap es' cp
    simp only [Bool.and_eq_true, decide_eq_true_eq] at h
    obtain ⟨⟨⟨⟨⟨rfl, h2⟩, h3⟩, h4⟩, h5⟩, h6⟩ := h
    refine ⟨rfl, fun X k g hN hS => ?_⟩
    subst hN hS
    have po := iho.val _ _ _ h5 X k g rfl rfl
    have base : attributeBase o' "pop" X.env (eval o' X.env) = eval o' X.env := by
      cases o' <;> first | rfl | skip
      rename_i f as ks p
      cases as with
      | nil =>
        cases ks with
        | nil => simp [noCallE] at h2
        | cons _ _ => cases f <;> rfl
      | cons _ _ => cases f <;> rfl
    have look : ∀ {a : Ad} {m : Mem} {H : Hp} {d : D} {v : V}, MRel X.K a m H → RepV X.K H a d v → refL m d = true → ∃ (n : Nat) (p : Addr) (ds : List D) (xs : List V), d = .ref n ∧ v = .ref p ∧ a.st[n]? = some p ∧ m[n]? = some (.lst ds) ∧ H p = some (.lst xs) ∧ ds.length ≤ sizeLine ∧ RepVs X.K H a ds xs := fun {a m H d v} st r h => by
      cases r <;> first | (simp [refL] at h; done) | skip
      rename_i n p hp
      simp only [refL] at h
      split at h
      · rename_i ds hm
        obtain ⟨ho, g1, g2⟩ := st.at_ n p _ hp hm
        cases g2 with
        | @lst _ xs hl r => exact ⟨n, p, ds, xs, rfl, rfl, hp, hm, g1, hl, r⟩
      · cases h
    match es', h4, h6 with
    | [], _, h6 =>
      cases es with
      | cons _ _ => simp [chkEs] at h6
      | nil =>
        refine weakE (pe_bm0 PySem.F.plainAttrs_list PySem.F.slot_list_pop PySem.F.type_list_pop mt_pop po base h3) ?_
        rintro σ H Q ⟨a, ρ, m, st, sl, q⟩
        refine tS_bind (f := _) st sl q fun d m1 a1 H1 v st1 sl1 rv x1 q1 => ?_
        split at q1
        · rename_i hL
          obtain ⟨n, p, ds, xs, rfl, rfl, hp, hm, hH, hl, rr⟩ := look st1 rv hL
          simp only [evEs, Res.bind, lpopD, hm] at q1
          refine ⟨Or.inl ⟨rfl, _, SqL.of hH⟩, ?_⟩
          split at q1
          · rename_i y hy
            obtain ⟨w, hw, rw⟩ := rr.get hy
            refine ⟨p, xs, w, rfl, rfl, hH, by rw [← rr.length]; exact hw, ?_⟩
            have ro : RepO X.K H1 a1 p (.lst ds.dropLast) (.lst xs.dropLast) := .lst (by rw [List.length_dropLast]; omega) (by
              rw [List.dropLast_eq_take, List.dropLast_eq_take, ← rr.length]
              exact rr.take _)
            exact q1 a1 _ _ (Ext.put hp) (st1.put hp hH rfl ro) (rw.mono (Ext.put hp))
          · exact False.elim q1
        · exact False.elim q1
    | [e'], _, h6 =>
      obtain ⟨z, rfl, hz, _⟩ := ihe.one e' _ _ h6 X k g rfl rfl
      have hpl := plain_head h6
      refine weakE (pe_bm (r := rPopAt) PySem.F.plainAttrs_list PySem.F.slot_list_pop PySem.F.type_list_pop mt_popAt po (ihe.args _ _ _ h6 X k g rfl rfl) base (by rw [star_plain hpl]; rfl) h3 (star_plain hpl _ _) rfl) ?_
      rintro σ H Q ⟨a, ρ, m, st, sl, q⟩
      refine tS_bind (f := _) st sl q fun d m1 a1 H1 v st1 sl1 rv x1 q1 => ?_
      split at q1
      · rename_i hL
        obtain ⟨n, p, ds, xs, rfl, rfl, hp, hm, hH, hl, rr⟩ := look st1 rv hL
        refine ⟨Or.inl ⟨rfl, _, SqL.of hH⟩, ?_⟩
        refine tA_bindE (f := fun ds m2 => lpopD m2 (.ref n) ds) st1 sl1 q1 fun es m2 a2 H2 vs e2 st2 sl2 rvs x2 q2 => ?_
        have hp2 := x2.old hp
        simp only [lpopD] at q2
        split at q2
        · rename_i ds2 hm2
          obtain ⟨ho, g1, g2⟩ := st2.at_ n p _ hp2 hm2
          cases g2 with
          | @lst _ xs2 hl2 rr2 =>
            split at q2
            · obtain ⟨_, e3, _⟩ := evEs_one e2
              cases e3
            · rename_i i
              cases rvs with
              | cons ri t =>
                cases t
                cases ri
                split at q2
                · rename_i hi
                  split at q2
                  · rename_i kk hk
                    split at q2
                    · rename_i y hy
                      obtain ⟨w, hw, rw⟩ := rr2.get hy
                      refine ⟨p, xs2, i, kk, w, rfl, rfl, g1, by omega, by omega, ?_, hw, ?_⟩
                      · rw [← rr2.length]
                        exact (ixN_seq hk).1
                      · have ro : RepO X.K H2 a2 p (.lst (ds2.eraseIdx kk)) (.lst (xs2.eraseIdx kk)) := .lst (Nat.le_trans (List.length_eraseIdx_le ..) hl2) (rr2.erase kk)
                        exact q2 a2 _ _ (Ext.put hp2) (st2.put hp2 g1 rfl ro) (rw.mono (Ext.put hp2))
                    · exact False.elim q2
                  · exact False.elim q2
                · exact False.elim q2
            · exact False.elim q2
        · exact False.elim q2
      · exact False.elim q1
  · cases h
/-! ### dict displays, looked at once -/
def trsOf (K : PySem.W.Frag) (F : Fe) : List Str → Exs → List (TE × TE)
  | k :: ks, .cons x r => ((fun _ H Q => Q (.str k) H), tS K (evE F x)) :: trsOf K F ks r
  | _, _ => []
theorem pairs_ok {X : Cx} {pos : Pos} : ∀ {ks : List Str} {keys : List (Option Expr)} {es : Exs} {vals : List Expr}, strKeys ks keys = true → EachE X F es vals → keys.length = vals.length → PPs X pos keys vals (trsOf X.K F ks es) ∧ keys.all (·.isSome) = true ∧ ks.length = keys.length
  | [], [], _, [], _, .nil, _ => ⟨pps_nil, rfl, rfl⟩
  | [], [], _, _ :: _, _, _, h => by simp at h
  | [], _ :: _, _, _, h, _, _ => by simp [strKeys] at h
  | k :: ks, [], _, _, h, _, _ => by simp [strKeys] at h
  | k :: ks, o :: keys, _, [], _, _, h => by simp at h
  | k :: ks, o :: keys, _, v :: vals, h, .cons hv t, hl => by
    unfold strKeys at h
    split at h
    · rename_i h1 h2
      cases h1
    · rename_i k' r' s p q es' e1 e2
      cases e1
      cases e2
      simp only [Bool.and_eq_true, decide_eq_true_eq] at h
      obtain ⟨⟨rfl, h2⟩, h3⟩ := h
      obtain ⟨i1, i2, i3⟩ := pairs_ok h3 t (by simpa using hl)
      exact ⟨pps_cons pe_str hv i1, by simpa using i2, by simp [i3]⟩
    · cases h
theorem pairs_read {K : PySem.W.Frag} {σ : L2.St} {ρ : Sl} : ∀ {ks : List Str} {es : Exs} {a : Ad} {H : Hp} {m m1 : Mem} {ds : List D} {Q : List (V × V) → Hp → Prop}, MRel K a m H → SRel K a H ρ σ → evEs F es ρ m = .ok ds m1 → ks.length = ds.length →
    (∀ a1 H1 vs, Ext a H a1 H1 → MRel K a1 m1 H1 → RepVs K H1 a1 ds vs → Q ((ks.map V.str).zip vs) H1) → tPairs (trsOf K F ks es) σ H Q
  | ks, .nil, a, H, m, m1, ds, Q, st, sl, e, hl, q => by
    simp only [evEs, Res.ok.injEq] at e
    obtain ⟨rfl, rfl⟩ := e
    cases ks with
    | nil => exact q a H [] Ext.refl st .nil
    | cons _ _ => simp at hl
  | [], .cons x r, a, H, m, m1, ds, Q, st, sl, e, hl, q => by
    exfalso
    simp only [evEs] at e
    cases e1 : evE F x ρ m with
    | ok d m2 =>
      rw [e1] at e
      simp only [Res.bind] at e
      cases e2 : evEs F r ρ m2 with
      | ok ds2 m3 =>
        rw [e2] at e
        simp only [Res.ok.injEq] at e
        rw [← e.1] at hl
        simp at hl
      | ex _ _ _ => rw [e2] at e; cases e
      | bad => rw [e2] at e; cases e
    | ex _ _ _ => rw [e1] at e; cases e
    | bad => rw [e1] at e; cases e
  | k :: ks, .cons x r, a, H, m, m1, ds, Q, st, sl, e, hl, q => by
    simp only [evEs] at e
    cases e1 : evE F x ρ m with
    | ok d m2 =>
      rw [e1] at e
      simp only [Res.bind] at e
      cases e2 : evEs F r ρ m2 with
      | ok ds2 m3 =>
        rw [e2] at e
        simp only [Res.ok.injEq] at e
        obtain ⟨rfl, rfl⟩ := e
        refine ⟨a, ρ, m, st, sl, ?_⟩
        rw [e1]
        intro a1 H1 v x1 st1 rv
        refine pairs_read st1 (sl.mono x1) e2 (by simpa using hl) fun a2 H2 vs x2 st2 rvs => ?_
        exact q a2 H2 (v :: vs) (x1.trans x2) st2 (.cons (rv.mono x2) rvs)
      | ex _ _ _ => rw [e2] at e; cases e
      | bad => rw [e2] at e; cases e
    | ex _ _ _ => rw [e1] at e; cases e
    | bad => rw [e1] at e; cases e
theorem merge_nd : ∀ (more acc : List (Key × V)), ((acc ++ more).map (·.1)).Nodup → mergeK acc more = acc ++ more
  | [], acc, _ => by simp [mergeK]
  | p :: r, acc, h => by
    have e : L2.putK acc p.1 p.2 = acc ++ [p] := by
      unfold L2.putK
      rw [if_neg]
      intro z
      rw [List.any_eq_true] at z
      obtain ⟨y, hy, hz⟩ := z
      simp only [decide_eq_true_eq] at hz
      rw [List.map_append, List.nodup_append] at h
      exact h.2.2 y.1 (List.mem_map_of_mem hy) p.1 (by simp) hz
    show mergeK (L2.putK acc p.1 p.2) r = _
    rw [e, merge_nd r (acc ++ [p]) (by simpa using h)]
    simp
theorem zip_repK {K : PySem.W.Frag} {H : Hp} {a : Ad} : ∀ {ks : List Key} {ds : List D} {vs : List V}, RepVs K H a ds vs → RepK K H a (ks.zip ds) (ks.zip vs)
  | [], _, _, _ => .nil
  | _ :: _, _, _, .nil => .nil
  | _ :: _, _, _, .cons h r => .cons h (zip_repK r)
mutual
/-- a dict that stands apart may change -/
theorem RepV.dk {K : PySem.W.Frag} {H : Hp} {a : Ad} {q : Addr} {k0 : List (Key × V)} (hq : H q = some (.dK k0)) (o : HO) : ∀ {d : D} {v : V}, RepV K H a d v → RepV K (upd H q o) a d v
  | _, _, .non => .non
  | _, _, .bl b => .bl b
  | _, _, .int b => .int b
  | _, _, .str b h => .str b h
  | _, _, .tup h hl r => .tup (by
      rcases h with ⟨h | ⟨u, h⟩, hp⟩ | h
      · exact .inl ⟨.inl (by rw [upd_ne (ne_of h hq (by intro z; cases z))]; exact h), hp⟩
      · exact .inl ⟨.inr ⟨u, by rw [upd_ne (ne_of h hq (by intro z; cases z))]; exact h⟩, hp⟩
      · exact .inr h) hl (RepVs.dk hq o r)
  | _, _, .lst h hn hl r => .lst (by rw [upd_ne (ne_of h hq (by intro z; cases z))]; exact h) hn hl (RepVs.dk hq o r)
  | _, _, .scr h hl => .scr (by
      rcases h with ⟨h | ⟨u, h⟩, hp⟩ | h
      · exact .inl ⟨.inl (by rw [upd_ne (ne_of h hq (by intro z; cases z))]; exact h), hp⟩
      · exact .inl ⟨.inr ⟨u, by rw [upd_ne (ne_of h hq (by intro z; cases z))]; exact h⟩, hp⟩
      · exact .inr h) hl
  | _, _, .ref h => .ref h
theorem RepVs.dk {K : PySem.W.Frag} {H : Hp} {a : Ad} {q : Addr} {k0 : List (Key × V)} (hq : H q = some (.dK k0)) (o : HO) : ∀ {ds : List D} {xs : List V}, RepVs K H a ds xs → RepVs K (upd H q o) a ds xs
  | _, _, .nil => .nil
  | _, _, .cons h r => .cons (RepV.dk hq o h) (RepVs.dk hq o r)
end
theorem RepK.dk {κ : Type} {K : PySem.W.Frag} {H : Hp} {a : Ad} {q : Addr} {k0 : List (Key × V)} (hq : H q = some (.dK k0)) (o : HO) : ∀ {kvs : List (κ × D)} {ks : List (κ × V)}, RepK K H a kvs ks → RepK K (upd H q o) a kvs ks
  | _, _, .nil => .nil
  | _, _, .cons h r => .cons (RepV.dk hq o h) (RepK.dk hq o r)
theorem RepT.dk {K : PySem.W.Frag} {H : Hp} {a : Ad} {q : Addr} {k0 : List (Key × V)} (hq : H q = some (.dK k0)) (o : HO) : ∀ {kvs : List (List Int × D)} {xs : List (List Int × Addr × V)}, RepT K H a kvs xs → RepT K (upd H q o) a kvs xs
  | _, _, .nil => .nil
  | _, _, .cons hk hl h t => .cons (by
      rcases hk with ⟨h | ⟨u, h⟩, hp⟩ | h
      · exact .inl ⟨.inl (by rw [upd_ne (ne_of h hq (by intro z; cases z))]; exact h), hp⟩
      · exact .inl ⟨.inr ⟨u, by rw [upd_ne (ne_of h hq (by intro z; cases z))]; exact h⟩, hp⟩
      · exact .inr h) hl (RepV.dk hq o h) (RepT.dk hq o t)
theorem MRel.dk {K : PySem.W.Frag} {H : Hp} {a : Ad} {m : Mem} {q : Addr} {k0 : List (Key × V)} (r : MRel K a m H) (hq : H q = some (.dK k0)) (hn : a.no q) (o : HO) : MRel K a m (upd H q o) := by
  refine ⟨r.nd, r.len, r.sep, fun n p u h1 h2 => ?_, fun p hp => ?_, tabs_put r.tabs hq rfl⟩
  · obtain ⟨ho, e1, e2⟩ := r.at_ n p u h1 h2
    refine ⟨ho, by rw [upd_ne (fun z => hn.1 (by rw [← z]; exact List.mem_of_getElem? h1))]; exact e1, ?_⟩
    cases e2 with
    | lst hl t => exact .lst hl (t.dk hq o)
    | dct hl t => exact .dct hl (t.dk hq o)
    | dtt t => exact .dtt (t.dk hq o)
  · obtain ⟨xs, e⟩ := r.hid p hp
    exact ⟨xs, by rw [upd_ne (fun z => hn.2 (by rw [← z]; exact hp))]; exact e⟩
/-- the display, read -/
theorem pick_disp {X : Cx} {ks : List Str} {keys : List (Option Expr)} {vals : List Expr} {es : Exs} {pos : Pos} (hk : strKeys ks keys = true) (hn : ks.Nodup) (hE : EachE X F es vals) (hl : keys.length = vals.length) (h0 : keys ≠ []) (h15 : keys.length ≤ 15) :
    PE X (.Dict keys vals pos) (fun σ H Q => ∃ a ρ m ds m1, MRel X.K a m H ∧ SRel X.K a H ρ σ ∧ evEs F es ρ m = .ok ds m1 ∧ ks.length = ds.length ∧
      ∀ a1 H1 vs p, Ext a H a1 H1 → MRel X.K a1 m1 H1 → RepVs X.K H1 a1 ds vs → H1 p = some (.dK ((ks.map fun k => (Sum.inr k : Key)).zip vs)) → a1.no p → Q (.ref p) H1) := by
  obtain ⟨i1, i2, i3⟩ := pairs_ok (pos := pos) hk hE hl
  refine weakE (pe_disp i1 i2 hl h0 h15) ?_
  rintro σ H Q ⟨a, ρ, m, ds, m1, st, sl, e1, hds, q⟩ p hp
  have x0 : Ext a H a (upd H p (.dK [])) := Ext.new hp
  have st0 := st.fresh (o := .dK []) hp
  refine pairs_read st0 (sl.mono x0) e1 hds fun a1 H1 vs x1 st1 rvs => ?_
  have hp1 : H1 p = some (.dK []) := x1.keep p _ upd_same (st.out hp).1 (by intro _ z; cases z)
  have no1 : a1.no p := x1.out upd_same (st.out hp)
  have lv := rvs.length
  have hnd : ((([] : List (Key × V)) ++ (ks.map fun k => (Sum.inr k : Key)).zip vs).map (·.1)).Nodup := by
    rw [List.nil_append, List.map_fst_zip (by rw [List.length_map]; omega)]
    rw [List.Nodup, List.pairwise_map]
    exact hn.imp fun h z => h (by cases z; rfl)
  refine ⟨hp1, (ks.map fun k => (Sum.inr k : Key)).zip vs, ?_, ?_, ?_⟩
  · rw [List.zip_map_left, List.zip_map_left, List.map_map]
    exact List.map_congr_left fun q _ => rfl
  · rw [List.length_zip, List.length_map]
    omega
  · rw [merge_nd _ _ hnd, List.nil_append]
    have x01 := x0.trans x1
    refine q a1 _ vs p ⟨x01.hd, x01.pre, fun r o e hr ht => ?_, fun r e => x01.dom r (upd_no e)⟩ (st1.dk hp1 no1 _) (rvs.dk hp1 _) upd_same no1
    rw [upd_ne (ne_of_none e hp)]
    exact x01.keep r o e hr ht
theorem pick_some {K : PySem.W.Frag} {H : Hp} {a : Ad} {get : Bool} {ks : List Str} {ds : List D} {vs : List V} {s : Str} {d : D} (r : RepVs K H a ds vs) (h : pickD get ks ds (.str s) = some d) :
    (∃ v, valV ((ks.map fun k => (Sum.inr k : Key)).zip vs) (.inr s) = some v ∧ RepV K H a d v) ∨ (get = true ∧ valV ((ks.map fun k => (Sum.inr k : Key)).zip vs) (.inr s) = none ∧ d = .non) := by
  simp only [pickD] at h
  split at h
  · rcases look_rep (.inr s) (zip_repK (ks := ks.map fun k => (Sum.inr k : Key)) r) with ⟨h1, h2⟩ | ⟨d', v, h1, h2, h3⟩
    · rw [h1] at h
      simp only at h
      split at h
      · rename_i hg
        cases h
        exact .inr ⟨hg, h2, rfl⟩
      · cases h
    · rw [h1] at h
      cases h
      exact .inl ⟨v, h2, h3⟩
  · cases h
theorem pick_str {get : Bool} {ks : List Str} {ds : List D} {y d : D} (h : pickD get ks ds y = some d) : (∃ s, y = .str s) ∧ ks.length = ds.length := by
  cases y <;> simp only [pickD] at h <;> first | (cases h; done) | skip
  split at h
  · rename_i hl
    exact ⟨⟨_, rfl⟩, hl⟩
  · cases h
theorem s_pick (get : Bool) (ks : List Str) {es : Exs} {k : Ex} (ihe : SndEs F fs es) (ihk : SndE F fs k) : SndE F fs (.pick get ks es k) := SndE.pl fun e N sc h => by
  cases get with
  | false =>
    simp only [chkE] at h
    split at h
    · rename_i keys vals dp k' p
      simp only [Bool.and_eq_true, decide_eq_true_eq] at h
      obtain ⟨⟨⟨⟨⟨⟨h1, h2⟩, h3⟩, h4⟩, h5⟩, h6⟩, h7⟩ := h
      refine ⟨rfl, fun X n g hN hS => ?_⟩
      subst hN hS
      have hd := pick_disp (pos := dp) h2 h3 (ihe.each _ _ _ h6 X n g rfl rfl) h4.1 (by intro z; rw [z] at h4; simp at h4) h5
      refine weakE (pe_dget g.hu hd (ihk.val _ _ _ h7 X n g rfl rfl) (plain_ix h1)) ?_
      rintro σ H Q ⟨a, ρ, m, st, sl, q⟩
      simp only [evE] at q
      cases e1 : evEs F es ρ m with
      | ok ds m1 =>
        have q : Tr X.K a H ((evE F k ρ m1).nox.bind fun y m2 => optR (pickD false ks ds y) m2) Q := by
          rw [e1] at q
          exact q
        have key : ks.length = ds.length := by
          cases e2 : evE F k ρ m1 with
          | ok y m2 =>
            rw [e2] at q
            cases hp : pickD false ks ds y with
            | none => simp only [Res.nox, Res.bind, hp, optR] at q; exact False.elim q
            | some d => exact (pick_str hp).2
          | ex _ _ _ => rw [e2] at q; exact False.elim q
          | bad => rw [e2] at q; exact False.elim q
        refine ⟨a, ρ, m, ds, m1, st, sl, e1, key, fun a1 H1 vs p x1 st1 rvs hp1 no1 => ?_⟩
        refine tS_bind (f := fun y m2 => optR (pickD false ks ds y) m2) st1 (sl.mono x1) (Tr.mono (Tr.of_nox q) x1) fun y m2 a2 H2 w st2 sl2 rw x2 q2 => ?_
        cases hd : pickD false ks ds y with
        | none => rw [hd] at q2; exact False.elim q2
        | some d =>
          rw [hd] at q2
          obtain ⟨⟨s, rfl⟩, _⟩ := pick_str hd
          cases rw
          have hp2 : H2 p = _ := x2.keep p _ hp1 no1.1 (by intro _ z; cases z)
          rcases pick_some (rvs.mono x2) hd with ⟨v, h8, h9⟩ | ⟨h8, _⟩
          · exact ⟨p, v, rfl, by rw [← h8]; exact DGet.k (k := .inr s) hp2, q2.val st2 h9⟩
          · cases h8
      | ex _ _ _ => rw [e1] at q; exact False.elim q
      | bad => rw [e1] at q; exact False.elim q
    · cases h
  | true =>
    simp only [chkE] at h
    split at h
    · rename_i keys vals dp x ap k' cp
      simp only [Bool.and_eq_true, decide_eq_true_eq] at h
      obtain ⟨⟨⟨⟨⟨⟨⟨⟨rfl, h0⟩, h1⟩, h2⟩, h3⟩, h4⟩, h5⟩, h6⟩, h7⟩ := h
      refine ⟨rfl, fun X n g hN hS => ?_⟩
      subst hN hS
      have hd := pick_disp (pos := dp) h2 h3 (ihe.each _ _ _ h6 X n g rfl rfl) h4.1 (by intro z; rw [z] at h4; simp at h4) h5
      refine weakE (pe_dget1 g.hu hd (ihk.val _ _ _ h7 X n g rfl rfl) ⟨rfl, by rw [star_plain h1]; rfl, h0, by rw [star_plain h1]; rfl⟩) ?_
      rintro σ H Q ⟨a, ρ, m, st, sl, q⟩
      simp only [evE] at q
      cases e1 : evEs F es ρ m with
      | ok ds m1 =>
        have q : Tr X.K a H ((evE F k ρ m1).nox.bind fun y m2 => optR (pickD true ks ds y) m2) Q := by
          rw [e1] at q
          exact q
        have key : ks.length = ds.length := by
          cases e2 : evE F k ρ m1 with
          | ok y m2 =>
            rw [e2] at q
            cases hp : pickD true ks ds y with
            | none => simp only [Res.nox, Res.bind, hp, optR] at q; exact False.elim q
            | some d => exact (pick_str hp).2
          | ex _ _ _ => rw [e2] at q; exact False.elim q
          | bad => rw [e2] at q; exact False.elim q
        refine ⟨a, ρ, m, ds, m1, st, sl, e1, key, fun a1 H1 vs p x1 st1 rvs hp1 no1 => ⟨p, rfl, .inl ⟨_, .inl hp1⟩, ?_⟩⟩
        refine tS_bind (f := fun y m2 => optR (pickD true ks ds y) m2) st1 (sl.mono x1) (Tr.mono (Tr.of_nox q) x1) fun y m2 a2 H2 w st2 sl2 rw x2 q2 => ?_
        cases hd : pickD true ks ds y with
        | none => rw [hd] at q2; exact False.elim q2
        | some d =>
          rw [hd] at q2
          obtain ⟨⟨s, rfl⟩, _⟩ := pick_str hd
          cases rw
          have hp2 : H2 p = _ := x2.keep p _ hp1 no1.1 (by intro _ z; cases z)
          rcases pick_some (rvs.mono x2) hd with ⟨v, h8, h9⟩ | ⟨_, h8, rfl⟩
          · exact ⟨some v, by rw [← h8]; exact DGet.k (k := .inr s) hp2, q2.val st2 h9⟩
          · exact ⟨none, by rw [← h8]; exact DGet.k (k := .inr s) hp2, q2.val st2 .non⟩
      | ex _ _ _ => rw [e1] at q; exact False.elim q
      | bad => rw [e1] at q; exact False.elim q
    · cases h
end
end Br


set_option Elab.async false
set_option linter.all false
set_option maxRecDepth 100000
set_option maxHeartbeats 1000000
set_option autoImplicit false
/-! Br: functions handed on, and called. -/
namespace Br
open PySem PySem.Spec PyProof.Rows L2 LamX NdefX
variable [LamTab] [LamCl] [ExC]
section
variable {F : Fe} {fs : FS}
theorem s_callv {es : Exs} (ih : SndEs F fs es) : SndE F fs (.callv es) := SndE.pl fun e N sc h => by
  simp only [chkE] at h
  split at h
  · rename_i x p es' pos
    simp only [Bool.and_eq_true] at h
    obtain ⟨⟨⟨⟨⟨hcm, h1⟩, h2⟩, h3⟩, h4⟩, h5⟩ := h
    refine ⟨rfl, fun X k g hN hS => ?_⟩
    subst hN hS
    obtain ⟨d1, d2, _⟩ := okN_d h4
    split at h2
    · rename_i i hcl
      simp only [decide_eq_true_eq] at h2
      have hm := g.clv h1
      rw [hcl] at hm
      obtain ⟨⟨i', f0⟩, hf, e1⟩ : ∃ q : Nat × Addr, LamCl.cl = [q] ∧ q.1 = i := by
        rcases hq : LamCl.cl with _ | ⟨q, _ | ⟨q2, r⟩⟩
        · rw [hq] at hm; simp at hm
        · rw [hq] at hm; exact ⟨q, rfl, by simpa using hm⟩
        · rw [hq] at hm; simp at hm
      have e1 : i' = i := e1
      subst e1
      have hmem : (i', f0) ∈ LamCl.cl := by rw [hf]; simp
      obtain ⟨g1, g2⟩ := g.lam h1 _ hmem
      refine ⟨fun pins s σ H Q I ⟨a, ρ, m, st, sl, q⟩ => ?_⟩
      have hs : σ[i']? = some (some (V.ref f0)) := sl.clo _ hmem
      refine wpAny_Call_Name_kw (thn ((pe_var (pos := p) (i := i') h2 (visB_of h3) d1 d2).run pins s σ H (fun v H1 => v = .ref f0 ∧ H1 = H) I ⟨.ref f0, hs, rfl, rfl⟩) fun u s1 ⟨v, H1, I1, r1, q1⟩ => ?_)
      obtain ⟨ev, eH⟩ := q1
      subst ev
      rw [eH] at I1
      obtain rfl : u = Value.ref f0 := r1
      have done : ∀ (us : List Value) (s2 : Shared) (vs : List V) (H2 : Hp) (ds : List D) (a2 : Ad) (m2 : Mem), Inv X pins σ H2 s2 → Vals vs us → MRel X.K a2 m2 H2 → SRel X.K a2 H2 ρ σ → RepVs X.K H2 a2 ds vs → Tr X.K a2 H2 (F.lam ds m2) Q → wpAny (model X.prog X.w) X.A (call (.ref f0) us) (EP X pins σ Q) X.xe s2 :=
        fun us s2 vs H2 ds a2 m2 I2 r st2 sl2 rv q2 => g2 X.pn X.xe ExC.E g.tk pins σ H2 s2 us vs ds a2 m2 Q I2 r (sl2.kp0 (by rw [hf]; simp)) st2 rv (g.trE q2)
      match es', h5 with
      | [], h5 =>
        cases es with
        | cons _ _ => simp [chkEs] at h5
        | nil =>
          refine PySem.W.callWith_F0 (first := []) (g1 X.pn X.xe pins σ H s1 I1) ?_
          exact done [] s1 [] H [] a m I1 .nil st sl .nil q
      | e' :: r, h5 =>
        have s1' := star_plain (plain_head h5) r X.env
        have s2' : (backTo pos (starEach r X.env)).any (·.1) = false := by
          cases es with
          | nil => simp [chkEs] at h5
          | cons x t =>
            simp only [chkEs, Bool.and_eq_true] at h5
            exact star_any h5.2 _ _
        refine PySem.W.callWith_F (first := []) (g1 X.pn X.xe pins σ H s1 I1) (thn ((ih.args _ _ _ h5 X k g rfl rfl).run pos pins s1 σ H (fun vs H2 => ∃ a2 ds m2, MRel X.K a2 m2 H2 ∧ SRel X.K a2 H2 ρ σ ∧ RepVs X.K H2 a2 ds vs ∧ Tr X.K a2 H2 (F.lam ds m2) Q) I1 ?_) fun us s2 ⟨vs, H2, I2, r2, a2, ds, m2, st2, sl2, rv, q2⟩ => ⟨g1 X.pn X.xe pins σ H2 s2 I2, ?_⟩) s1' s2'
        · refine tA_bind (f := fun ds m1 => F.lam ds m1) st sl q fun ds m1 a1 H1 vs st1 sl1 rv x1 q1 => ⟨a1, ds, m1, st1, sl1, rv, q1⟩
        · exact done us s2 vs H2 ds a2 m2 I2 r2 st2 sl2 rv q2
    · cases h2
  · cases h
theorem splitLast_eq : ∀ {es es2 : List Expr} {l : Expr}, splitLast es = some (es2, l) → es = es2 ++ [l]
  | [], _, _, h => by cases h
  | [e], _, _, h => by
    simp only [splitLast, Option.some.injEq, Prod.mk.injEq] at h
    obtain ⟨rfl, rfl⟩ := h
    rfl
  | e :: e2 :: r, es2, l, h => by
    simp only [splitLast, Option.map_eq_some_iff] at h
    obtain ⟨q, h1, h2⟩ := h
    have := splitLast_eq h1
    cases h2
    rw [this]
    rfl
theorem star_last {es : List Expr} {xs : Exs} {N : List Str} {sc : Scope} (h : chkEs fs N sc xs es = true) {c : Expr} (hc : plainE c = true) (pos : Pos) (env : Env) : ∃ e r, es ++ [c] = e :: r ∧ starEach (e :: r) env = (false, eval e env) :: starEach r env ∧ (backTo pos (starEach r env)).any (·.1) = false := by
  have key : ∀ {es : List Expr} {xs : Exs}, chkEs fs N sc xs es = true → (backTo pos (starEach (es ++ [c]) env)).any (·.1) = false := by
    intro es
    induction es with
    | nil =>
      intro xs _
      show (backTo pos (starEach [c] env)).any (·.1) = false
      rw [star_plain hc]
      rfl
    | cons e r ih =>
      intro xs h
      cases xs with
      | nil => simp [chkEs] at h
      | cons x t =>
        simp only [chkEs, Bool.and_eq_true] at h
        rw [List.cons_append, star_plain h.1.1]
        show (false || (backTo pos (starEach (r ++ [c]) env)).any (·.1)) = false
        rw [ih h.2]
        rfl
  cases es with
  | nil => exact ⟨c, [], rfl, star_plain hc _ _, rfl⟩
  | cons e r =>
    cases xs with
    | nil => simp [chkEs] at h
    | cons x t =>
      simp only [chkEs, Bool.and_eq_true] at h
      exact ⟨e, r ++ [c], rfl, star_plain h.1.1 _ _, key h.2⟩
theorem lamIs_of {N : List Str} {sc : Scope} {fs : FS} {np : Nat} {caps : List Nat} {x : Ex} {params : Arguments} {body : Expr} {scope : Scope}
    (h : (match lamPs params with
      | some ps => decide (ps.length = np) && decide (np ≤ 2) && decide (caps.map (fun j => N[j]?) = (capN N caps).map some) && NdefX.nscB (ps ++ capN N caps) ps (capN N caps) scope && NdefX.ndefB sc scope (capN N caps) && plainE body && chkE fs.lamb (ps ++ capN N caps) scope x body
      | none => false) = true) : ∃ ps, LamIs N sc fs np caps x params body scope ps := by
  split at h
  · rename_i ps e
    simp only [Bool.and_eq_true, decide_eq_true_eq] at h
    obtain ⟨⟨⟨⟨⟨⟨h1, h2⟩, h3⟩, h4⟩, h5⟩, h6⟩, h7⟩ := h
    exact ⟨ps, e, h1, h2, h3, nscope_by h4, ndef_free h5, ndef_fr h5, h7⟩
  · cases h
theorem s_hof (f : Str) {es : Exs} (np : Nat) (caps : List Nat) {x : Ex} (ih : SndEs F fs es) (hx : ∀ (ec : ExC) (F : Fe) (fs : FS), @SndE _ noCl ec F fs x) : SndE F fs (.hof f es np caps x) := SndE.pl fun e N sc h => by
  simp only [chkE] at h
  split at h
  · rename_i gname p es' pos
    split at h
    · rename_i es2 params body scope lpos hsp
      simp only [Bool.and_eq_true, decide_eq_true_eq] at h
      obtain ⟨⟨⟨⟨⟨⟨⟨hcm, rfl⟩, h2⟩, h3⟩, h4⟩, h5⟩, h6⟩, h7⟩ := h
      have hsp := splitLast_eq hsp
      subst hsp
      refine ⟨rfl, fun X k g hN hS => ?_⟩
      subst hN hS
      obtain ⟨ps, L⟩ := lamIs_of (fs := fs) h7
      obtain ⟨c0, P, TB, hcode, hmT, hu⟩ := g.mkl h3
      obtain ⟨p0, fd, ps0, g1, g2, g3, g4, g5⟩ := g.hof f (by simpa using h2)
      have hlp : plainE (.Lambda params body scope lpos) = true := rfl
      obtain ⟨e1, r1, ee, s1, s2⟩ := star_last h6 hlp pos X.env
      have hfree : ∀ (ok : X.Ok), ∀ y ∈ scope.names, y.2 = .free → ∃ c, X.env.cells.lookup y.1 = some c := fun ok y hy e => (L.free y hy e).elim (fun z => ok.has _ (.inl z)) fun z => ok.has _ (.inr z)
      have hdef : defaultsOf params X.env = ([], []) := by
        obtain ⟨as, rfl, _⟩ := lam_args L.pa
        rfl
      rw [ee]
      refine ⟨fun pins s σ H Q I ⟨a, ρ, m, st, sl, q⟩ => ?_⟩
      refine wpAny_Call_Name_kw (ld_glob I (glB_of h4) g1 ?_ (okN_d h5).1)
      refine PySem.W.callWith_K (h₀ := X.base) I.ok.mod.kin g2 ?_ s1 s2
      rw [← ee]
      simp only [evE] at q
      cases ev : evEs F es ρ m with
      | bad => rw [ev] at q; exact False.elim q
      | ex _ _ _ => rw [ev] at q; exact False.elim q
      | ok ds m1 =>
        rw [ev] at q
        simp only [Res.nox, Res.bind] at q
        have hl : ds.length + 1 = ps0.length := Decidable.byContradiction fun z => by rw [g4 _ ds m1 z] at q; exact q
        refine ih.snocW es2 _ _ h6 X k g rfl rfl _ hlp pos pins s σ H _ a ρ m ds m1 I st sl ev fun us vs a1 H1 s1 I1 x1 st1 rv r => ?_
        refine lam_make3 I1 TB hcode rfl hmT hu st1.tabs hdef (hfree I1.ok) fun f0 c' pm ctv H2 s' I2 md tb hn hfr ht ho _ => ⟨I2.kIn, ?_⟩
        have x2 : Ext a1 H1 a1 H2 := md.ext
        have st2 := Made.mrel st1 md tb
        have sl2 := (sl.mono x1).mono x2
        have C := cells_of I2 (Caps.made (fr := capN X.N caps) (js := caps) I2.ok L.free L.frm L.cpn)
        show wpAny (model X.prog X.w) X.A (call (.ref p0) (us ++ [.ref f0])) _ _ _
        refine wpAny_call (codeAny_mono (g5 X.A X.stack s' H2 _ us vs ds a1 m1 Q ExC.E f0 (g.room hcm) I2.env0 ⟨fun Z z1 z2 z3 z4 pinsZ σZ HZ sZ IZ => ?_, fun Z j c2 w1 w2 w3 w4 w5 z1 z2 z3 z4 hcalm hk hr hc EZ tkZ pinsZ σZ HZ sZ us' vs' ds' a' m' Q' IZ r' kp' st' rv' q' => ?_⟩ st2 (rv.mono x2) r hl (g.trE (Tr.mono (Tr.mono q x1) x2))) fun rr s2 hq => ?_)
        · have un := IZ.base
          rw [z1, z2, z4] at un
          have hfr2 : f0 ∉ Z.fs := by show f0 ∉ frs Z.outer; rw [z3]; exact hfr
          exact ⟨_, _, _, _, un.keep f0 _ ho hn hfr2 (by simp)⟩
        · have un := IZ.base
          rw [z1, z2, z4] at un
          have hfr2 : f0 ∉ Z.fs := by show f0 ∉ frs Z.outer; rw [z3]; exact hfr
          exact lam_call (σ := σ) g L hx ho hn ht hmT C sl2 w1 w2 w3 w4 w5 hr hc tkZ IZ un hfr2 r' kp' st' rv' q'
        · cases rr with
          | error e =>
            have hq : L2.CX X.prog X.w X.stack H2 s' ExC.E e s2 := hq
            exact passAt g.tk σ _ _ _ _ _ I2 hq
          | ok fl =>
            cases fl with
            | ret u => exact I2.after hq
            | next => exact False.elim hq
            | brk => exact False.elim hq
            | cont => exact False.elim hq
    · cases h
  · cases h
end
end Br


set_option Elab.async false
set_option linter.all false
set_option maxRecDepth 100000
set_option maxHeartbeats 2000000
set_option autoImplicit false
/-! Br: sorted(xs, key=f), step by step. -/
namespace Br
open PySem PySem.Spec PyProof.Rows L2 SrtO PySem.W PySem.Calls
section
variable {prog : Program} {w : World} {A : Around} {E : Value → Shared → Prop} {s : Shared}
theorem sk_tail {P : PySem.Fin → Shared → Prop} {kS a' : Addr} {keys : Array Value} {e e1 : Nat} {st : SortSt} (nk : s.heap.get? kS = some (seqObj "list" keys e)) (na : s.heap.get? a' = some (seqObj "list" #[] e1)) (hka : kS ≠ a') (hks : keys.size ≤ sizeLine) (hout : (arrOf st).size ≤ sizeLine) (hfl : failedOf st = none)
    (h : ∀ h' tk c, (∀ b o, b ≠ kS → b ≠ a' → s.heap.get? b = some o → h'.get? b = some o) → (∃ o, h'.get? kS = some o) → h'.get? a' = some (seqObj "list" ((arrOf st).map (·.2)) c) → P (.done (.ret .none)) { s with heap := h', toks := tk }) :
    wpAny (model prog w) A (ksk_tail a' false e1 (.ref kS) st) P E s := by
  have s1 := Heap.SameBut.update s.heap kS (Obj.mapSeq fun _ => (#[] : Array Value))
  have na1 : (s.heap.update kS (Obj.mapSeq fun _ => (#[] : Array Value))).get? a' = some (seqObj "list" #[] e1) := (s1.2 a' hka.symm).trans na
  have s2 := Heap.SameBut.update (s.heap.update kS (Obj.mapSeq fun _ => (#[] : Array Value))) a' (Obj.mapSeq fun _ => (arrOf st).map (·.2))
  obtain ⟨c2, hc2⟩ : ∃ c2, ((s.heap.update kS (Obj.mapSeq fun _ => (#[] : Array Value))).update a' (Obj.mapSeq fun _ => (arrOf st).map (·.2))).get? a' = some (seqObj "list" ((arrOf st).map (·.2)) c2) :=
    ⟨_, get?_update_seq na1 fun _ => (arrOf st).map (·.2)⟩
  have hk1 : ∃ o, (s.heap.update kS (Obj.mapSeq fun _ => (#[] : Array Value))).get? kS = some o := ⟨_, get?_update_seq nk fun _ => #[]⟩
  unfold ksk_tail
  try dsimp only
  refine wpAny_bind (listUpdate_at nk rfl ?_ hks (Nat.zero_le _))
  refine wpAny_bind (wpAny_letGo ?_)
  refine wpAny_bind (seqEpoch_at na1 rfl ?_)
  simp only [Bool.false_eq_true, if_false]
  refine wpAny_bind (listUpdate_at na1 rfl ?_ (Nat.zero_le _) (by rw [Array.size_map]; omega))
  rw [hfl]
  simp only [bne_self_eq_false, Bool.false_eq_true, if_false]
  refine wpAny_pure (h _ _ c2 (fun b o h1 h2 q => (s2.2 b h2).trans ((s1.2 b h1).trans q)) ?_ hc2)
  obtain ⟨o, ho⟩ := hk1
  exact ⟨o, (s2.2 kS hka).trans ho⟩
theorem sk_end {P : PySem.Fin → Shared → Prop} {kS a' : Addr} {keys : Array Value} {e e1 : Nat} {vs : List Value} {lt : Keyed → Keyed → Bool} (O : Swo lt) (nk : s.heap.get? kS = some (seqObj "list" keys e)) (na : s.heap.get? a' = some (seqObj "list" #[] e1)) (hka : kS ≠ a') (hz : vs.length ≤ sizeLine) (hsz : keys.size = vs.length)
    (hS : 2 ≤ vs.length → ∃ κ, (∀ (Q : SortKind → Shared → Prop) (E : Value → Shared → Prop), Q κ s → wpAny (model prog w) A (keyKind' keys) Q E s) ∧ Cmp prog w A s κ (fun p => p.1 ∈ keys.toList) lt)
    (h : ∀ arr : Array Keyed, Srtd lt arr.toList → Stb lt arr.toList (keys.toList.zip vs) → ∀ h' tk c, (∀ b o, b ≠ kS → b ≠ a' → s.heap.get? b = some o → h'.get? b = some o) → (∃ o, h'.get? kS = some o) → h'.get? a' = some (seqObj "list" (arr.map (·.2)) c) → P (.done (.ret .none)) { s with heap := h', toks := tk }) :
    wpAny (model prog w) A (ksk_end a' false vs.toArray e1 (.ref kS) keys) P E s := by
  have ez : (keys.zip vs.toArray).toList = keys.toList.zip vs := ksk_zip keys vs
  have hzs : (keys.zip vs.toArray).size = vs.length := by rw [Array.size_zip, hsz, List.size_toArray, Nat.min_self]
  unfold ksk_end
  try dsimp only
  simp only [Bool.false_eq_true, if_false]
  by_cases h2 : vs.toArray.size < 2
  · rw [if_pos h2, if_pos h2]
    refine wpAny_bind (wpAny_pure ?_)
    rw [StateT.run_pure]
    refine wpAny_bind (wpAny_pure ?_)
    try dsimp only
    refine sk_tail (st := SortSt.mk' general' (keys.zip vs.toArray) #[] 7 none) nk na hka (by rw [hsz]; exact hz) (by show (keys.zip vs.toArray).size ≤ _; rw [hzs]; exact hz) rfl fun h' tk c k1 k2 k3 => h (keys.zip vs.toArray) ?_ (Stb.of_eq ez) h' tk c k1 k2 k3
    rw [List.size_toArray] at h2
    rw [ez]
    match hq : keys.toList.zip vs with
    | [] => exact List.Pairwise.nil
    | [x] => exact srtd_one x
    | x :: y :: r =>
      exfalso
      have := congrArg List.length hq
      rw [List.length_zip, Array.length_toList, hsz] at this
      simp at this
      omega
  · rw [if_neg h2, if_neg h2]
    rw [List.size_toArray] at h2
    obtain ⟨κ, hkind, hT⟩ := hS (by omega)
    refine wpAny_bind (hkind _ _ ?_)
    have hall : AllL (fun p : Keyed => p.1 ∈ keys.toList) (keys.zip vs.toArray).toList := fun p hm => by
      rw [ez] at hm
      exact (List.of_mem_zip hm).1
    refine wpAny_bind (wpAny_mono (wpS_sortO (st0 := SortSt.mk' κ (keys.zip vs.toArray) #[] 7 none)
      (Q := fun _ st' => Srtd lt (arrOf st').toList ∧ Stb lt (arrOf st').toList (keys.zip vs.toArray).toList ∧ failedOf st' = none) O hT rfl hall rfl rfl fun st' a1 a2 a3 => ⟨a1, a2, a3⟩) ?_ fun _ _ e => e)
    rintro ⟨⟨⟩, st'⟩ s' ⟨rfl, hp1, hp2, hf⟩
    try dsimp only
    rw [ez] at hp2
    have hlen : (arrOf st').size ≤ sizeLine := by
      have := hp2.len
      rw [Array.length_toList, List.length_zip, Array.length_toList, hsz, Nat.min_self] at this
      exact Nat.le_trans (Nat.le_of_eq this) hz
    exact sk_tail nk na hka (by rw [hsz]; exact hz) hlen hf fun h' tk c k1 k2 k3 => h (arrOf st') hp1 hp2 h' tk c k1 k2 k3
theorem sk_rest {P : PySem.Fin → Shared → Prop} {kS a' : Addr} {e1 : Nat} {vs : List Value} {f : Value} (J : Nat → Array Value → Shared → Prop) (J0 : J 0 #[] s)
    (at_ : ∀ i kA s', J i kA s' → ∃ e, s'.heap.get? kS = some (seqObj "list" kA e))
    (turn : ∀ i u kA s', vs[i]? = some u → J i kA s' → wpAny (model prog w) A (call f [u]) (fun k s'' => (∃ e, s''.heap.get? kS = some (seqObj "list" kA e)) ∧ kA.size < sizeLine ∧
      ∀ h', Heap.SameBut kS s''.heap h' → (∃ e', h'.get? kS = some (seqObj "list" (kA.push k) e')) → J (i + 1) (kA.push k) { s'' with heap := h' }) (fun _ _ => False) s')
    (fin : ∀ kA s', J vs.length kA s' → wpAny (model prog w) A (ksk_end a' false vs.toArray e1 (.ref kS) kA) P E s') : wpAny (model prog w) A (ksk_rest a' f false vs.toArray e1 (.ref kS)) P E s := by
  unfold ksk_rest
  refine wpAny_bind (wpAny_rule ?_)
  first
    | rw [List.forIn_toArray]
    | (rw [← Array.forIn_toList]; simp only [List.toList_toArray])
    | rw [← Array.forIn_toList]
  refine wpAny_bind (ksk_fold (fun i s' => ∃ kA, J i kA s') vs 0 s ⟨#[], J0⟩ ?step ?done)
  case step =>
    rintro j x s' hx ⟨kA, hJ⟩
    simp only [Nat.zero_add] at hJ ⊢
    refine wpAny_bind (wpAny_attempt (wpAny_mono (turn j x kA s' hx hJ) (fun v s'' he => ?_) fun _ _ hF => hF.elim))
    obtain ⟨⟨e, nk⟩, hz, kj⟩ := he
    try dsimp only
    refine wpAny_bind (listUpdate_at nk rfl ?_ (Nat.le_of_lt hz) (Nat.le_trans (Nat.le_of_eq (Array.size_push ..)) (by omega)))
    have s1 := Heap.SameBut.update s''.heap kS (Obj.mapSeq (·.push v))
    obtain ⟨c2, hc2⟩ : ∃ c2, (s''.heap.update kS (Obj.mapSeq (·.push v))).get? kS = some (seqObj "list" (kA.push v) c2) := ⟨_, get?_update_seq nk (·.push v)⟩
    exact wpAny_pure ⟨rfl, _, kj _ s1 ⟨_, hc2⟩⟩
  case done =>
    rintro s' ⟨kA, hJ⟩
    simp only [Nat.zero_add] at hJ
    obtain ⟨e, nk⟩ := at_ _ _ _ hJ
    try dsimp only
    refine wpAny_bind (listItems_at nk rfl ?_)
    exact fin kA s' hJ
theorem sk_sorted {l f : Addr} {vs : List Value} {Q : Value → Shared → Prop} (hl : s.heap.IsList l vs.toArray) (hz : vs.length ≤ sizeLine)
    (h : ∀ h4 a' kS e1, (∀ b o, s.heap.get? b = some o → h4.get? b = some o) → s.heap.objs.size ≤ a' → s.heap.objs.size ≤ kS → kS ≠ a' → h4.get? a' = some (seqObj "list" #[] e1) → h4.get? kS = some (seqObj "list" #[] 0) →
      wpAny (model prog w) A.in1.in1 (ksk_rest a' (.ref f) false vs.toArray e1 (.ref kS)) (fun fin s' => fin = .done (.ret .none) ∧ Q (.ref a') s') E { s with heap := h4 }) :
    wpAny (model prog w) A (call (.builtin "sorted") [.ref l] [(Str.ofString "key", .ref f)]) Q E s := by
  refine call_function_entry_kw kind_sorted plain_sorted entry_sorted (ksk_s1 _ _) ?_
  unfold Builtin.«sorted»
  refine wpAny_bind (m := checkCount "sorted" 1 1 _) (wpAny_pure ?_)
  refine wpAny_bind (collect_list hl ?_ hz)
  refine wpAny_bind (wpAny_newList ?_ hz)
  have hsz : ((s.heap.push (seqObj "list" #[] 0)).update s.heap.objs.size (Obj.mapSeq (· ++ vs.toArray))).objs.size = s.heap.objs.size + 1 := by
    rw [Heap.size_update, size_push']
  have hoL : (((s.heap.push (seqObj "list" #[] 0)).update s.heap.objs.size (Obj.mapSeq (· ++ vs.toArray))).push (seqObj "list" vs.toArray 0)).get? (s.heap.objs.size + 1) = some (seqObj "list" vs.toArray 0) := by
    rw [← hsz]; exact Heap.get?_push_size _ rfl
  have keep : ∀ b o, s.heap.get? b = some o → (((s.heap.push (seqObj "list" #[] 0)).update s.heap.objs.size (Obj.mapSeq (· ++ vs.toArray))).push (seqObj "list" vs.toArray 0)).get? b = some o := fun b o q => by
    have hlt : b < s.heap.objs.size := Heap.lt_size q
    rw [Heap.get?_push_ne _ _ _ (by rw [hsz]; exact Nat.ne_of_lt (Nat.lt_succ_of_lt hlt)), Heap.get?_update_ne _ _ _ _ (Nat.ne_of_lt hlt), Heap.get?_push_ne _ _ _ (Nat.ne_of_lt hlt)]
    exact q
  show wpAny _ _ _ _ _ { s with heap := ((s.heap.push (seqObj "list" #[] 0)).update s.heap.objs.size (Obj.mapSeq (· ++ vs.toArray))).push (seqObj "list" vs.toArray 0) }
  rw [hsz]
  refine wpAny_bind (wpAny_holding (wpAny_call_entry_kw slot_list_sort ⟨_, hoL, rfl⟩ entry_list_sort ?body (ksk_l1 _ _)))
  case body =>
    show wpAny (model prog w) A.in1.in1 (Builtin.«list.sort» ⟨[.ref (s.heap.objs.size + 1)], [(Str.ofString "key", .ref f)]⟩) _ _ _
    rw [ksk_t1]
    generalize hh : ((s.heap.push (seqObj "list" #[] 0)).update s.heap.objs.size (Obj.mapSeq (· ++ vs.toArray))).push (seqObj "list" vs.toArray 0) = h3 at hoL keep
    have hs3 : h3.objs.size = s.heap.objs.size + 2 := by rw [← hh, size_push', hsz]
    have s1 := Heap.SameBut.update h3 (s.heap.objs.size + 1) (Obj.mapSeq fun _ => (#[] : Array Value))
    obtain ⟨e1, ho1⟩ : ∃ e1, (h3.update (s.heap.objs.size + 1) (Obj.mapSeq fun _ => (#[] : Array Value))).get? (s.heap.objs.size + 1) = some (seqObj "list" #[] e1) := ⟨_, get?_update_seq hoL fun _ => #[]⟩
    have hkS : ((h3.update (s.heap.objs.size + 1) (Obj.mapSeq fun _ => (#[] : Array Value))).push (seqObj "tuple" vs.toArray 0)).objs.size = s.heap.objs.size + 3 := by rw [size_push', Heap.size_update, hs3]
    unfold ksk_tree
    refine wpAny_bind (listItems_at hoL rfl ?_)
    refine wpAny_bind (listUpdate_at hoL rfl ?_ (by rw [List.size_toArray]; exact hz) (Nat.zero_le _))
    refine wpAny_bind (seqEpoch_at ho1 rfl ?_)
    refine wpAny_bind (wpAny_newTuple ?_ (by show vs.length ≤ _; exact hz))
    refine wpAny_bind (wpAny_newList ?_ (Nat.zero_le _))
    refine wpAny_holding ?_
    show wpAny (model prog w) A.in1.in1 (ksk_rest (s.heap.objs.size + 1) (.ref f) false vs.toArray e1 (.ref ((h3.update (s.heap.objs.size + 1) (Obj.mapSeq fun _ => (#[] : Array Value))).push (seqObj "tuple" vs.toArray 0)).objs.size)) _ _ { s with heap := ((h3.update (s.heap.objs.size + 1) (Obj.mapSeq fun _ => (#[] : Array Value))).push (seqObj "tuple" vs.toArray 0)).push (seqObj "list" #[] 0) }
    refine wpAny_mono (h _ (s.heap.objs.size + 1) ((h3.update (s.heap.objs.size + 1) (Obj.mapSeq fun _ => (#[] : Array Value))).push (seqObj "tuple" vs.toArray 0)).objs.size e1 (fun b o q => ?_) (Nat.le_succ _) (by rw [hkS]; omega) (by rw [hkS]; omega) (Heap.get?_push_of_some _ (Heap.get?_push_of_some _ ho1)) (Heap.get?_push_size _ rfl)) (fun fin s' hf => ?_) fun _ _ e => e
    · have hlt : b < s.heap.objs.size := Heap.lt_size q
      exact Heap.get?_push_of_some _ (Heap.get?_push_of_some _ ((s1.2 b (Nat.ne_of_lt (Nat.lt_succ_of_lt hlt))).trans (keep b o q)))
    · obtain ⟨rfl, hq⟩ := hf
      exact ⟨_, rfl, wpAny_pure ⟨_, rfl, hq⟩⟩
end
end Br


set_option Elab.async false
set_option linter.all false
set_option maxRecDepth 100000
set_option maxHeartbeats 2000000
set_option autoImplicit false
/-! Br: sorted(xs, key=lambda ..). -/
namespace Br
open PySem PySem.Spec PyProof.Rows L2 LamX NdefX SrtO
variable [LamTab] [LamCl] [ExC]
/-- within a built-in's built-in; nothing is let out -/
def qt (X : Cx) : Cx := { X with A := X.A.in1.in1, xe := fun _ _ => False }
section
variable {X : Cx} {pins : List (Addr × Obj)} {σ : L2.St} {H : Hp} {s : Shared}
theorem inv_qt (I : Inv X pins σ H s) : Inv (qt X) pins σ H s :=
  ⟨⟨I.ok.mod, I.ok.kind, I.ok.glob, I.ok.blt, I.ok.above, I.ok.inj, I.ok.has, I.ok.cab, I.ok.hd, I.ok.frames, I.ok.stk, I.ok.exf, I.ok.bs, I.ok.bsz, I.ok.noex, I.ok.exfs, I.ok.funs, I.ok.frf⟩, I.os, I.bare, I.base, I.loc, I.cell, I.free, I.freeC, I.pin, I.hok, I.len⟩
theorem inv_unqt (I : Inv (qt X) pins σ H s) : Inv X pins σ H s :=
  ⟨⟨I.ok.mod, I.ok.kind, I.ok.glob, I.ok.blt, I.ok.above, I.ok.inj, I.ok.has, I.ok.cab, I.ok.hd, I.ok.frames, I.ok.stk, I.ok.exf, I.ok.bs, I.ok.bsz, I.ok.noex, I.ok.exfs, I.ok.funs, I.ok.frf⟩, I.os, I.bare, I.base, I.loc, I.cell, I.free, I.freeC, I.pin, I.hok, I.len⟩
/-- a thing of ours is told from now on; another one has changed -/
theorem inv_adopt {kS q : Addr} {o : HO} {h' : Heap} {t' : Nat} (I : Inv X pins σ H s) (hf : ∀ b ∈ [kS, q], FpOk X pins H b) (k : ∀ b o, b ≠ kS → b ≠ q → s.heap.get? b = some o → h'.get? b = some o) (new : ObjOk X.prog X.w (upd H q o) h' q o) :
    Inv X pins σ (upd H q o) { s with heap := h', toks := t' } := by
  have hq : H q = none := (hf q (by simp)).1
  have hkS : H kS = none := (hf kS (by simp)).1
  have nit : ∀ b u, H b = some u → b ≠ kS ∧ b ≠ q := fun b u e => ⟨ne_of_none e hkS, ne_of_none e hq⟩
  refine I.step (g' := s.gens) (d' := s.drawn) (ch := [kS, q]) (fun b hb => ⟨(hf b hb).2.2.2.1, (hf b hb).2.1, (hf b hb).2.2.2.2.1, (hf b hb).2.2.2.2.2⟩) (fun b o _ _ hc e _ => k b o (fun z => hc (by simp [z])) (fun z => hc (by simp [z])) e) (fun b o _ _ hc e _ => ⟨o.slots, k b o (fun z => hc (by simp [z])) (fun z => hc (by simp [z])) e⟩)
    (fun b o hc e n => by rw [upd_ne (fun z => hc (by simp [z]))]; exact n) (fun b o hc e => ⟨o, k b o (fun z => hc (by simp [z])) (fun z => hc (by simp [z])) e⟩) (fun b xs e => by rw [upd_ne (nit b _ e).2]; exact e) (fun b o u e => by rw [upd_ne (nit b _ e).2]; exact e) (fun b ps e => ⟨#[], by rw [upd_ne (nit b _ e).2, e]; simp⟩) (fun m hm => ?_) (fun b u e => ?_) I.bare
  · obtain ⟨o, es, ep, ho, r⟩ := hm
    exact ⟨o, es, ep, k _ o (Ne.symm (hf kS (by simp)).2.1) (Ne.symm (hf q (by simp)).2.1) ho, r⟩
  · by_cases hb : b = q
    · subst hb
      rw [upd_same] at e
      cases e
      exact new
    · rw [upd_ne hb] at e
      refine (I.hok b u e).stay (fun c v hc z => k c v ?_ ?_ z) (fun c z => by rw [upd_ne (nit c _ z).2]; exact z) fun c xs z => by rw [upd_ne (nit c _ z).2]; exact z
      · rcases hc with z | z
        · rw [z]; exact (nit b u e).1
        · exact (nit c _ z).1
      · rcases hc with z | z
        · rw [z]; exact hb
        · exact (nit c _ z).2
end
theorem un_but {fs : List Addr} {H H1 : Hp} {h h1 h2 : Heap} {kS : Addr} (u : Un fs [] H H1 h h1) (hk : h.objs.size ≤ kS) (k : ∀ b o, b ≠ kS → h1.get? b = some o → h2.get? b = some o) : Un fs [] H H1 h h2 := by
  have ne : ∀ b o, h.get? b = some o → b ≠ kS := fun b o e => Nat.ne_of_lt (Nat.lt_of_lt_of_le (Heap.lt_size e) hk)
  refine ⟨fun b o e n hb hx => k b o (ne b o e) (u.keep b o e n hb hx), fun b o e n hb hx => ?_, u.free, fun b o e hx => ?_, u.tups, u.frzs, u.tbls⟩
  · obtain ⟨sl, z⟩ := u.slot b o e n hb hx
    exact ⟨sl, k b _ (ne b o e) z⟩
  · obtain ⟨o', z⟩ := u.there b o e hx
    exact ⟨o', k b _ (ne b o e) z⟩
theorem un_start {fs : List Addr} {H : Hp} {h h' : Heap} (k : ∀ b o, h.get? b = some o → h'.get? b = some o) : Un fs [] H H h h' := Un.kept k
theorem vals_map {α : Type} {f : α → V} {g : α → Value} : ∀ {l : List α}, (∀ z ∈ l, RelV (f z) (g z)) → Vals (l.map f) (l.map g)
  | [], _ => .nil
  | z :: r, h => .cons (h z List.mem_cons_self) (vals_map fun y hy => h y (List.mem_cons_of_mem _ hy))
theorem reps_map {α : Type} {K : PySem.W.Frag} {H : Hp} {a : Ad} {f : α → D} {g : α → V} : ∀ {l : List α}, (∀ z ∈ l, RepV K H a (f z) (g z)) → RepVs K H a (l.map f) (l.map g)
  | [], _ => .nil
  | z :: r, h => .cons (h z List.mem_cons_self) (reps_map fun y hy => h y (List.mem_cons_of_mem _ hy))
theorem keysL_get {m : Mem} {f : D → Res D} : ∀ {ds : List D} {l : List (List Int × D)}, keysL m f ds = some l → l.map (·.2) = ds ∧ ∀ p ∈ l, ∃ ks, f p.2 = .ok (.tup ks) m ∧ intsD ks = some p.1
  | [], l, h => by
    simp only [keysL, Option.some.injEq] at h
    subst h
    simp
  | d :: r, l, h => by
    simp only [keysL] at h
    split at h
    · rename_i ks m' e
      split at h
      · rename_i em
        subst em
        split at h
        · rename_i ns q e1 e2
          cases h
          obtain ⟨h1, h2⟩ := keysL_get e2
          refine ⟨by simp [h1], fun p hp => ?_⟩
          rcases List.mem_cons.mp hp with rfl | hp
          · exact ⟨ks, e, e1⟩
          · exact h2 p hp
        · cases h
      · cases h
    · cases h
/-- what the lists of a sort have at one place -/
structure At (K : PySem.W.Frag) (H : Hp) (a : Ad) (kf : Value → List Int) (z : Keyed × ((List Int × D) × V)) : Prop where
  key : kf z.1.1 = z.2.1.1
  rel : RelV z.2.2 z.1.2
  rep : RepV K H a z.2.1.2 z.2.2
theorem sort_out {K : PySem.W.Frag} {H : Hp} {a : Ad} {kf : Value → List Int} {Z : List (Keyed × ((List Int × D) × V))} (h : ∀ z ∈ Z, At K H a kf z) {arr : List Keyed} (hs : Srtd (fun p q => HT.lexLt (kf p.1) (kf q.1)) arr) (hb : Stb (fun p q => HT.lexLt (kf p.1) (kf q.1)) arr (Z.map (·.1))) :
    ∃ out : List V, Vals out (arr.map (·.2)) ∧ RepVs K H a (sortKL (Z.map fun z => z.2.1)) out := by
  have e1 := stb_merge (fun p : Keyed => kf p.1) hs hb
  have e2 : (Z.map (·.1)).mergeSort (fun p q => !HT.lexLt (kf q.1) (kf p.1)) = (Z.mergeSort fun y z => !HT.lexLt z.2.1.1 y.2.1.1).map (·.1) := by
    refine (List.map_mergeSort fun y hy z hz => ?_).symm
    rw [(h y hy).key, (h z hz).key]
  have e3 : (Z.map fun z => z.2.1).mergeSort (fun p q => !HT.lexLt q.1 p.1) = (Z.mergeSort fun y z => !HT.lexLt z.2.1.1 y.2.1.1).map (fun z => z.2.1) := (List.map_mergeSort (f := fun z : Keyed × ((List Int × D) × V) => z.2.1) fun y _ z _ => rfl).symm
  have hm : ∀ z ∈ Z.mergeSort fun y z => !HT.lexLt z.2.1.1 y.2.1.1, At K H a kf z := fun z hz => h z (List.mem_mergeSort.mp hz)
  refine ⟨(Z.mergeSort fun y z => !HT.lexLt z.2.1.1 y.2.1.1).map fun z => z.2.2, ?_, ?_⟩
  · rw [e1, e2, List.map_map]
    exact vals_map fun z hz => (hm z hz).rel
  · unfold sortKL
    rw [e3, List.map_map]
    exact reps_map fun z hz => (hm z hz).rep
theorem isInts_of {X : Cx} {pins : List (Addr × Obj)} {σ : L2.St} {H : Hp} {s : Shared} (I : Inv X pins σ H s) {a : Ad} {ns : List Int} {v : V} {u : Value} (r : RepV X.K H a (.tup (ns.map .int)) v) (ru : RelV v u) : IsInts s.heap u ns := by
  cases r with
  | @tup _ p xs h hl rs =>
    have e := rs.ints
    subst e
    have ru : u = Value.ref p := ru
    subst ru
    obtain ⟨its, r1, ⟨o, ho, hc, n, hd⟩, _⟩ := I.tuple h.sq
    exact ⟨p, o, its.toArray, n, rfl, ho, hc, hd, intsAre_of r1⟩
open Classical in
/-- the ints of a key -/
noncomputable def keyOf (h : Heap) (v : Value) : List Int := if e : ∃ ns, IsInts h v ns then Classical.choose e else []
theorem keyOf_eq {h : Heap} {v : Value} {ns : List Int} (i : IsInts h v ns) : keyOf h v = ns := by
  unfold keyOf
  rw [dif_pos ⟨ns, i⟩]
  exact IsInts.inj (Classical.choose_spec (⟨ns, i⟩ : ∃ ns, IsInts h v ns)) i
section
variable {F : Fe} {fs : FS}
theorem sort_call {X : Cx} {k : Nat} (g : Good X F k fs) (hcm : fs.cm = true) {caps : List Nat} {x : Ex} {params : Arguments} {body : Expr} {scope : Scope} {ps : List Str} (L : LamIs X.N X.env.scope fs 1 caps x params body scope ps) (hx : ∀ (ec : ExC) (F : Fe) (fs : FS), @SndE _ noCl ec F fs x)
    {pins : List (Addr × Obj)} {σ : L2.St} {H : Hp} {s : Shared} (I : Inv X pins σ H s) {qn : Str} {P c' f0 : Addr} {pos : Pos} {pm ctv : Value} (ho : s.heap.get? f0 = some (PySem.W.kla_obj "<lambda>" qn params body scope (cloFrom X.env.cells scope.names []) pm c' ctv)) (hn : H f0 = none) (hfr : f0 ∉ frs X.stack)
    (ht : TabHas H P pos c') (hT : (P, qn) ∈ LamTab.T) {a0 : Ad} {ρ : Sl} {m : Mem} (sl : SRel X.K a0 H ρ σ) (st : MRel X.K a0 m H) {l : Addr} {ds : List D} {xs : List V} (hl : SqL X.K H l xs) (rv : RepVs X.K H a0 ds xs) (hz : ds.length ≤ sizeLine)
    {c : Str → List D → Mem → Res D} (hc : F.low = some c) {keys : List (List Int × D)} (hk : keysL m (fun v => evE (F.lamb c) x (some v :: capS ρ caps) m) ds = some keys) (hone : oneKd keys = true) {Q : VK} (q : TrF X.K a0 H (.ok (.lst (sortKL keys)) m) Q) :
    wpAny (model X.prog X.w) X.A (call (.builtin "sorted") [.ref l] [(Str.ofString "key", .ref f0)]) (EP X pins σ Q) X.xe s := by
  obtain ⟨j, hj, hfn⟩ := g.lo c hc
  obtain ⟨hk1, hk2⟩ := keysL_get hk
  have hklen : keys.length = ds.length := by rw [← hk1, List.length_map]
  obtain ⟨its, rl, pl, _⟩ := I.list hl
  have hxl := rv.length
  have hil := rl.length
  have C := cells_of I (Caps.made (fr := capN X.N caps) (js := caps) I.ok L.free L.frm L.cpn)
  have room : Room (j + 1) (qt X).A := by
    have hr := g.room hcm
    rw [hj] at hr
    refine ⟨hr.hd, ?_, ?_⟩
    · have := hr.dp
      show X.A.depth + 3 * (j + 1) + 5 < _
      omega
    · have := hr.un
      show X.A.units + 1 + 1 + 16 * (j + 1) + 200 < _
      omega
  refine sk_sorted (vs := its) pl.isList (by omega) fun h4 a' kS e1 old ha hkS hne oa okS => ?_
  have fpA : FpOk X pins H a' := I.fpOk ha (I.hok.fresh ha)
  have fpK : FpOk X pins H kS := I.fpOk hkS (I.hok.fresh hkS)
  have nfr : ∀ b, s.heap.objs.size ≤ b → b ∉ frs X.stack := fun b hb z => by
    rcases List.mem_cons.mp (I.stkSub _ z) with e | e
    · have h1 := I.lt
      rw [← e] at h1
      exact absurd (Nat.lt_of_lt_of_le h1 hb) (Nat.lt_irrefl _)
    · exact I.nofs hb e
  have I4 : Inv (qt X) pins σ H { s with heap := h4 } := (inv_qt I).kept (t' := s.toks) old
  refine sk_rest (fun i kA s' => ∃ H' a, Inv (qt X) pins σ H' s' ∧ Un (frs X.stack) [] H H' s.heap s'.heap ∧ Ext a0 H a H' ∧ MRel X.K a m H' ∧ (∃ e, s'.heap.get? kS = some (seqObj "list" kA e)) ∧ s'.heap.get? a' = some (seqObj "list" #[] e1) ∧ H' kS = none ∧ H' a' = none ∧
      ∃ kvs, Vals kvs kA.toList ∧ RepVs X.K H' a ((keys.take i).map fun p => D.tup (p.1.map .int)) kvs) ?_ ?_ ?_ ?_
  · exact ⟨H, a0, I4, un_start old, Ext.refl, st, ⟨0, okS⟩, oa, fpK.1, fpA.1, [], .nil, .nil⟩
  · rintro i kA s' ⟨H', a, _, _, _, _, h5, _⟩
    exact h5
  · rintro i u kA s' hu ⟨H', a, I', un, x', st', ⟨e, hkA⟩, hoa, nk, na, kvs, rk, rkv⟩
    have hi : i < its.length := (List.getElem?_eq_some_iff.mp hu).1
    have hik : i < keys.length := by omega
    rcases hkd : keys[i] with ⟨ns, d⟩
    have hkd' : keys[i]? = some (ns, d) := by rw [List.getElem?_eq_getElem hik, hkd]
    have hd : ds[i]? = some d := by rw [← hk1, List.getElem?_map, hkd']; rfl
    obtain ⟨v, hv, rd⟩ := rv.get hd
    obtain ⟨u', hu', ru⟩ := rl.get hv
    rw [hu] at hu'
    cases hu'
    obtain ⟨ks, ev, ei⟩ := hk2 (ns, d) (List.mem_of_getElem? hkd')
    have ek := intsD_map ei
    subst ek
    have hklen2 : kA.size = i := by
      have h1 : kvs.length = kA.size := by rw [← Array.length_toList]; exact rk.length
      have h2 := rkv.length
      rw [List.length_map, List.length_take] at h2
      omega
    refine wpAny_mono (lam_callU (σ := σ) (Z := qt X) (j := j) (c2 := c) (Q := fun w H2 => ∃ a2, Ext a H' a2 H2 ∧ MRel X.K a2 m H2 ∧ RepV X.K H2 a2 (.tup (ns.map .int)) w) g L hx ho hn ht hT C sl rfl rfl rfl rfl rfl room hfn (E := fun _ _ _ => False) (takes_no fun _ _ _ _ h => h) I' un hfr (.cons ru .nil) x'.kp st' (.cons (rd.mono x') .nil) ?_) (fun kv s2 hq => ?_) (fun e' s2 hq => hq)
    · show TrE _ X.mg X.K a H' (evE (F.lamb c) x (some d :: capS ρ caps) m) _
      rw [ev]
      exact fun a2 H2 w x2 st2 rw => ⟨a2, x2, st2, rw⟩
    · obtain ⟨w, H2, I2, un2, rw2, a2, x2, st2, rr2⟩ := hq
      have hk3 := un2.keep kS _ hkA nk (nfr kS hkS) (by simp)
      have ha3 := un2.keep a' _ hoa na (nfr a' ha) (by simp)
      have nk2 := un2.free kS _ hkA nk (by simp)
      have na2 := un2.free a' _ hoa na (by simp)
      refine ⟨⟨e, hk3⟩, by omega, fun h' sb ⟨e', he'⟩ => ?_⟩
      refine ⟨H2, a2, I2.turned (t' := s2.toks) (it := kS) (fun b o hb z => (sb.2 b hb).trans z) nk2 fpK.2.1 fpK.2.2.2.1 fpK.2.2.2.2.1 fpK.2.2.2.2.2, un_but (un.trans un2) hkS (fun b o hb z => (sb.2 b hb).trans z), x'.trans x2, st2, ⟨e', he'⟩, (sb.2 a' (Ne.symm hne)).trans ha3, nk2, na2, kvs ++ [w], ?_, ?_⟩
      · rw [Array.toList_push]
        exact rk.append (.cons rw2 .nil)
      · rw [List.take_add_one, hkd', List.map_append]
        exact (rkv.mono x2).append (.cons rr2 .nil)
  · rintro kA s' ⟨H', a, I', un, x', st', ⟨e, hkA⟩, hoa, nk, na, kvs, rk, rkv⟩
    rw [List.take_of_length_le (by omega)] at rkv
    have hkz : kA.size = its.length := by
      have h1 : kvs.length = kA.size := by rw [← Array.length_toList]; exact rk.length
      have h2 := rkv.length
      rw [List.length_map] at h2
      omega
    have kfact : ∀ (i : Nat) (p : List Int × D) (kv : Value), keys[i]? = some p → kA.toList[i]? = some kv → IsInts s'.heap kv p.1 := fun i p kv h1 h2 => by
      have h3 : (keys.map fun p => D.tup (p.1.map .int))[i]? = some (.tup (p.1.map .int)) := by rw [List.getElem?_map, h1]; rfl
      obtain ⟨w, h4, h5⟩ := rkv.get h3
      obtain ⟨u, h6, h7⟩ := rk.get h4
      rw [h2] at h6
      cases h6
      exact isInts_of I' h5 h7
    have kall : ∀ kv ∈ kA.toList, ∃ p ∈ keys, IsInts s'.heap kv p.1 := fun kv hkv => by
      obtain ⟨i, hi⟩ := List.getElem?_of_mem hkv
      have h1 := (List.getElem?_eq_some_iff.mp hi).1
      rw [Array.length_toList] at h1
      have h2 : i < keys.length := by omega
      exact ⟨keys[i], List.getElem_mem h2, kfact i _ kv (List.getElem?_eq_getElem h2) hi⟩
    have kok : ∀ kv ∈ kA.toList, IsInts s'.heap kv (keyOf s'.heap kv) := fun kv hkv => by
      obtain ⟨p, _, hp⟩ := kall kv hkv
      rw [keyOf_eq hp]
      exact hp
    have kone : OneKind (keyOf s'.heap) kA.toList := by
      unfold oneKd at hone
      rw [Bool.or_eq_true, List.all_eq_true, List.all_eq_true] at hone
      rcases hone with h1 | h1
      · refine .inl fun kv hkv z => ?_
        obtain ⟨p, hp, hi⟩ := kall kv hkv
        rw [keyOf_eq hi] at z
        have := h1 p hp
        rw [z] at this
        simp at this
      · refine .inr fun kv hkv => ?_
        obtain ⟨p, hp, hi⟩ := kall kv hkv
        rw [keyOf_eq hi]
        have := h1 p hp
        simpa using this
    refine sk_end (lt := fun p q => HT.lexLt (keyOf s'.heap p.1) (keyOf s'.heap q.1)) (swo_lexK fun p : Keyed => keyOf s'.heap p.1) hkA hoa hne (by omega) hkz (fun h2 => ?_) fun arr hs hb h' tk c1 kold kk ka => ?_
    · have hun := room.un
      have hun : (qt X).A.units + 16 * (j + 1) + 200 < cLine := hun
      obtain ⟨κ, r1, r2⟩ := keys_sortable (prog := X.prog) (w := X.w) (A := X.A.in1.in1) (s := s') (vs := kA.toList) (kf := keyOf s'.heap) (by show (qt X).A.units < cLine; omega) (by rw [Array.length_toList]; omega) kok kone
      refine ⟨κ, fun Q E hq => ?_, r2⟩
      have := r1 Q E hq
      rwa [Array.toArray_toList] at this
    · -- the end
      let Z : List (Keyed × ((List Int × D) × V)) := (kA.toList.zip its).zip (keys.zip xs)
      have z1 : Z.map (·.1) = kA.toList.zip its := List.map_fst_zip (by rw [List.length_zip, List.length_zip, Array.length_toList]; omega)
      have z2 : Z.map (fun z => z.2.1) = keys := by
        have e : Z.map (·.2) = keys.zip xs := List.map_snd_zip (by
          have h1 : (kA.toList.zip its).length = its.length := by rw [List.length_zip, Array.length_toList, hkz, Nat.min_self]
          have h2 : (keys.zip xs).length = xs.length := by rw [List.length_zip, hklen, hxl, Nat.min_self]
          rw [h1, h2, hil]
          exact Nat.le_refl _)
        have e2 : (Z.map (·.2)).map (·.1) = keys := by rw [e]; exact List.map_fst_zip (by rw [hklen, hxl]; exact Nat.le_refl _)
        rw [List.map_map] at e2
        exact e2
      have zat : ∀ z ∈ Z, At X.K H' a (keyOf s'.heap) z := fun z hz => by
        obtain ⟨i, hi⟩ := List.getElem?_of_mem hz
        obtain ⟨⟨kv, u⟩, ⟨p, v⟩⟩ := z
        have hi : ((kA.toList.zip its).zip (keys.zip xs))[i]? = some ((kv, u), (p, v)) := hi
        rw [List.getElem?_zip_eq_some] at hi
        obtain ⟨hi1, hi2⟩ := hi
        rw [List.getElem?_zip_eq_some] at hi1 hi2
        refine ⟨keyOf_eq (kfact i p kv hi2.1 hi1.1), ?_, ?_⟩
        · obtain ⟨u', h1, h2⟩ := rl.get hi2.2
          rw [hi1.2] at h1
          cases h1
          exact h2
        · have hd : ds[i]? = some p.2 := by rw [← hk1, List.getElem?_map, hi2.1]; rfl
          obtain ⟨v', h1, h2⟩ := rv.get hd
          rw [hi2.2] at h1
          cases h1
          exact h2.mono x'
      obtain ⟨out, o1, o2⟩ := sort_out zat hs (by rw [z1]; exact hb)
      rw [z2] at o2
      have olen : out.length ≤ sizeLine := by
        have h1 : out.length = arr.toList.length := by have := o1.length; simpa using this
        have h2 := hb.perm.length_eq
        rw [List.length_zip, Array.length_toList, Array.length_toList, hkz, Nat.min_self] at h2
        rw [h1, Array.length_toList, h2, ← hil, ← hxl]
        exact hz
      have slen : (sortKL keys).length ≤ sizeLine := by rw [o2.length]; exact olen
      have fK : FpOk X pins H' kS := ⟨nk, fpK.2⟩
      have fA : FpOk X pins H' a' := ⟨na, fpA.2⟩
      have I5 : Inv (qt X) pins σ (upd H' a' (.lst out)) { s' with heap := h', toks := tk } := inv_adopt (kS := kS) I' (fun b hb => by
        rcases List.mem_cons.mp hb with z | z
        · rw [z]; exact fK
        · rw [List.mem_singleton.mp z]; exact fA) kold ⟨olen, (arr.map (·.2)).toList, c1, by rw [Array.toList_map]; exact o1, by rw [Array.toArray_toList]; exact ka⟩
      exact ⟨rfl, .ref a', _, inv_unqt I5, rfl, q a H' out a' x' st' o2 slen na⟩
theorem lst_rep {K : PySem.W.Frag} {H : Hp} {a : Ad} {m : Mem} {d : D} {v : V} {ds : List D} (st : MRel K a m H) (r : RepV K H a d v) (h : lstD m d = some ds) : ∃ l xs, v = .ref l ∧ SqL K H l xs ∧ RepVs K H a ds xs ∧ ds.length ≤ sizeLine := by
  cases r <;> simp only [lstD] at h <;> first | (cases h; done) | skip
  · rename_i p xs hp hn hl r
    cases h
    exact ⟨_, _, rfl, SqL.of hp, r, hl⟩
  · rename_i ns p h1 hl
    cases h
    exact ⟨p, _, rfl, h1.sq, RepVs.of_ints _, by simpa using hl⟩
  · rename_i n p hp
    split at h
    · rename_i es hm
      cases h
      obtain ⟨ho, g1, g2⟩ := st.at_ n p _ hp hm
      cases g2 with
      | lst hl r => exact ⟨_, _, rfl, SqL.of g1, r, hl⟩
    · cases h
theorem f_sortK {es : Exs} (caps : List Nat) {x : Ex} (ih : SndEs F fs es) (hx : ∀ (ec : ExC) (F : Fe) (fs : FS), @SndE _ noCl ec F fs x) : SndF F fs (.sortK es caps x) := ⟨fun _ e N sc h => by
  simp only [chkE] at h
  split at h
  · rename_i gname p e' key params body scope lpos kp pos
    simp only [Bool.and_eq_true, decide_eq_true_eq] at h
    obtain ⟨⟨⟨⟨⟨⟨⟨hcm, rfl⟩, rfl⟩, h3⟩, h4⟩, h5⟩, h6⟩, h7⟩ := h
    refine ⟨rfl, fun X k g hN hS => ?_⟩
    subst hN hS
    obtain ⟨ps, L⟩ : ∃ ps, LamIs X.N X.env.scope fs 1 caps x params body scope ps := by
      split at h7
      · rename_i ps e
        simp only [Bool.and_eq_true, decide_eq_true_eq] at h7
        obtain ⟨⟨⟨⟨⟨h1, h3⟩, h4⟩, h5⟩, h6⟩, h7⟩ := h7
        exact ⟨ps, e, h1, by omega, h3, nscope_by h4, ndef_free h5, ndef_fr h5, h7⟩
      · cases h7
    obtain ⟨c0, P, TB, hcode, hmT, hu⟩ := g.mkl h4
    obtain ⟨z, rfl, hz, _⟩ := ih.one e' _ _ h6 X k g rfl rfl
    have hfree : ∀ (ok : X.Ok), ∀ y ∈ scope.names, y.2 = .free → ∃ c, X.env.cells.lookup y.1 = some c := fun ok y hy e => (L.free y hy e).elim (fun z => ok.has _ (.inl z)) fun z => ok.has _ (.inr z)
    have hdef : defaultsOf params X.env = ([], []) := by
      obtain ⟨as, rfl, _⟩ := lam_args L.pa
      rfl
    have s1 := star_plain h5 [] X.env
    refine ⟨fun pins s σ H Q I ⟨a, ρ, m, st, sl, q⟩ => ?_⟩
    refine wpAny_Call_Name_kw (ld_blt I (glB_of h3) (blt_of g _) PyProof.Rows.boot_sorted (PyProof.Rows.callWith_kw (thn ((ih.args _ _ _ h6 X k g rfl rfl).run pos pins s σ H (fun vs H2 => ∃ a2 ds m2, MRel X.K a2 m2 H2 ∧ SRel X.K a2 H2 ρ σ ∧ RepVs X.K H2 a2 ds vs ∧ TrF X.K a2 H2 (match ds with
    | [d] => match F.low, lstD m2 d with
      | some c, some xs => match keysL m2 (fun v => evE (F.lamb c) x (some v :: capS ρ caps) m2) xs with
        | some l => if oneKd l then .ok (.lst (sortKL l)) m2 else .bad
        | none => .bad
      | _, _ => .bad
    | _ => .bad) Q) I ?_) fun us s2 ⟨vs, H2, I2, r2, a2, ds, m2, st2, sl2, rv, q2⟩ => ?_) (by rw [s1]; rfl) (by rw [s1]; rfl) rfl rfl))
    · exact tA_bindF st sl q fun ds m1 a1 H1 vs st1 sl1 rv x1 q1 => ⟨a1, ds, m1, st1, sl1, rv, q1⟩
    · have q2 := q2
      split at q2 <;> first | exact False.elim q2 | skip
      rename_i d
      cases rv with
      | cons rd t =>
        cases t
        cases r2 with
        | cons ru t =>
          cases t
          split at q2 <;> first | exact False.elim q2 | skip
          rename_i c ls hc hls
          split at q2 <;> first | exact False.elim q2 | skip
          rename_i keys hk
          split at q2 <;> first | exact False.elim q2 | skip
          rename_i hone
          refine wpAny_evalAll_cons (wpAny_bind (lam_make3 I2 TB hcode rfl hmT hu st2.tabs hdef (hfree I2.ok) fun f0 c' pm ctv H3 s' I3 md tb hn hfr ht ho _ => wpAny_bind (wpAny_standAt (wpAny_pure (wpAny_evalAll_nil ?_)))))
          have x3 : Ext a2 H2 a2 H3 := md.ext
          have st3 := Made.mrel st2 md tb
          have sl3 := sl2.mono x3
          obtain ⟨l, xs, rfl, hl, rvs, hz⟩ := lst_rep st3 (rd.mono x3) hls
          have ru : _ = Value.ref l := ru
          subst ru
          exact sort_call g hcm L hx I3 ho hn hfr ht hmT sl3 st3 hl rvs hz hc hk hone (TrF.mono q2 x3)
  · cases h⟩
theorem sortK_lst {es : Exs} {caps : List Nat} {x : Ex} {ρ : Sl} {m m' : Mem} {d : D} (h : evE F (.sortK es caps x) ρ m = .ok d m') : ∃ ds, d = .lst ds := by
  simp only [evE] at h
  cases e1 : evEs F es ρ m with
  | ok ds m1 =>
    rw [e1] at h
    simp only [Res.bind] at h
    repeat' split at h
    all_goals first | (cases h; exact ⟨_, rfl⟩) | cases h
  | ex _ _ _ => rw [e1] at h; cases h
  | bad => rw [e1] at h; cases h
theorem s_sortK {es : Exs} (caps : List Nat) {x : Ex} (ih : SndEs F fs es) (hx : ∀ (ec : ExC) (F : Fe) (fs : FS), @SndE _ noCl ec F fs x) : SndE F fs (.sortK es caps x) := SndE.pl fun e N sc h => by
  obtain ⟨h1, h2⟩ := (f_sortK caps ih hx).frs rfl e N sc h
  exact ⟨h1, fun X k g hN hS => ofF (h2 X k g hN hS) fun ρ m d m' e => sortK_lst e⟩
end
end Br


set_option Elab.async false
set_option linter.all false
set_option maxRecDepth 100000
set_option maxHeartbeats 1000000
set_option autoImplicit false
/-! Br: dicts with tuple keys: setdefault, [k]. -/
namespace Br
open PySem PySem.Spec PyProof.Rows L2
variable [LamTab] [LamCl] [ExC]
section
variable {F : Fe} {fs : FS}
theorem refT_of {K : PySem.W.Frag} {H : Hp} {a : Ad} {m : Mem} (st : MRel K a m H) {d : D} {x : V} (r : RepV K H a d x) (h : refT m d = true) : ∃ (n : Nat) (p : Addr) (kvs : List (List Int × D)) (xs : List (List Int × Addr × V)), d = .ref n ∧ x = .ref p ∧ a.st[n]? = some p ∧ m[n]? = some (.dtt kvs) ∧ H p = some (DTO p xs) ∧ RepT K H a kvs xs := by
  cases r <;> first | (simp [refT] at h; done) | skip
  rename_i n p hp
  simp only [refT] at h
  split at h
  · rename_i kvs hm
    obtain ⟨ho, g1, g2⟩ := st.at_ n p _ hp hm
    cases g2 with
    | @dtt _ xs rr => exact ⟨n, p, kvs, xs, rfl, rfl, hp, hm, g1, rr⟩
  · cases h
theorem keyT_of {K : PySem.W.Frag} {H : Hp} {a : Ad} {d : D} {x : V} {k : List Int} (r : RepV K H a d x) (h : keyT d = some k) : ∃ b, x = .ref b ∧ TT K H a b (k.map V.int) ∧ k.length ≤ sizeLine := by
  cases r <;> simp only [keyT] at h <;> first | (cases h; done) | skip
  rename_i ds p xs h1 hl r
  have e := intsD_map h
  subst e
  have e2 := r.ints
  subst e2
  exact ⟨p, rfl, h1, by simpa using hl⟩
theorem sdef_rep {K : PySem.W.Frag} {H : Hp} {a : Ad} {m : Mem} {n : Nat} {p : Addr} {kvs : List (List Int × D)} {xs : List (List Int × Addr × V)} {k : List Int} {b : Addr} {z : D} {v : V} (st : MRel K a m H) (hp : a.st[n]? = some p) (hH : H p = some (DTO p xs)) (hc : ∀ q, DTO p xs ≠ LamX.CodeO p q)
    (rr : RepT K H a kvs xs) (hk : TT K H a b (k.map V.int)) (hl : k.length ≤ sizeLine) (rv : RepV K H a z v) : MRel K a (m.set n (.dtt (kvs ++ [(k, z)]))) (upd H p (DTO p (xs ++ [(k, b, v)]))) :=
  st.putT hp (tabs_putC st.tabs hH (fun ps y => by unfold DTO at y; cases y) hc) (.dtt (RepT.snoc hk hl rv rr))
theorem s_sdef {o k e : Ex} (iho : SndE F fs o) (ihk : SndE F fs k) (ihe : SndE F fs e) : SndE F fs (.sdef o k e) := SndE.pl fun e' N sc h => by
  simp only [chkE] at h
  split at h
  · rename_i o' x ap k' z' cp
    simp only [Bool.and_eq_true, decide_eq_true_eq] at h
    obtain ⟨⟨⟨⟨⟨⟨⟨rfl, h2⟩, h3⟩, h4⟩, h5⟩, h6⟩, h7⟩, h8⟩ := h
    refine ⟨rfl, fun X n g hN hS => ?_⟩
    subst hN hS
    have base : attributeBase o' "setdefault" X.env (eval o' X.env) = eval o' X.env := by
      cases o' <;> first | rfl | skip
      rename_i f as ks p
      cases as with
      | nil =>
        cases ks with
        | nil => simp [noCallE] at h2
        | cons _ _ => cases f <;> rfl
      | cons _ _ => cases f <;> rfl
    have s1 : starEach [k', z'] X.env = (false, eval k' X.env) :: starEach [z'] X.env := star_plain h4 _ _
    have s2 : starEach [z'] X.env = [(false, eval z' X.env)] := star_plain h5 _ _
    refine weakE (pe_dsetT g.hu (iho.val _ _ _ h6 X n g rfl rfl) (ihk.val _ _ _ h7 X n g rfl rfl) (ihe.val _ _ _ h8 X n g rfl rfl) ⟨base, ?_, h3, ?_⟩) ?_
    · rw [s1, s2]
      rfl
    · rw [s1, s2]
      rfl
    · rintro σ H Q ⟨a, ρ, m, st, sl, q⟩
      refine tS_bind (f := _) st sl q fun d m1 a1 H1 v st1 sl1 rv x1 q1 => ?_
      split at q1
      · rename_i hT
        obtain ⟨i, p, kvs0, xs0, rfl, rfl, hp, hm, hH, rr⟩ := refT_of st1 rv hT
        refine ⟨p, xs0, rfl, hH, ?_⟩
        refine tS_bind (f := _) st1 sl1 q1 fun y m2 a2 H2 w st2 sl2 rw2 x2 q2 => ?_
        refine tS_bind (f := _) st2 sl2 q2 fun z m3 a3 H3 u st3 sl3 ru x3 q3 => ?_
        have hp3 := x3.old (x2.old hp)
        simp only [sdefD] at q3
        split at q3
        · rename_i kvs k hm3 hk
          obtain ⟨ho, g1, g2⟩ := st3.at_ i p _ hp3 hm3
          cases g2 with
          | @dtt _ xs rr3 =>
            obtain ⟨b, rfl, htt, hkl⟩ := keyT_of (rw2.mono x3) hk
            obtain ⟨l1, l2, l3⟩ := rr3.look (k := k)
            cases hlk : lookT kvs k with
            | some d =>
              rw [hlk] at q3
              obtain ⟨v, hv, rd⟩ := l3 d hlk
              refine ⟨xs, k, b, g1, rfl, rr3.sq, htt.sq, fun hn => ?_, fun v' hv' => ?_, fun hn => ?_⟩
              · rw [hv] at hn
                cases hn
              · rw [hv] at hv'
                cases hv'
                exact q3.val st3 rd
              · rw [hv] at hn
                cases hn
            | none =>
              rw [hlk] at q3
              simp only at q3
              split at q3
              · rename_i hlt
                refine ⟨xs, k, b, g1, rfl, rr3.sq, htt.sq, fun _ => ?_, fun v' hv' => ?_, fun hn hc => ?_⟩
                · have := rr3.length
                  have := big_line (n := kvs.length + 1) (by omega)
                  omega
                · obtain ⟨d, hd, _⟩ := l1 v' hv'
                  rw [hlk] at hd
                  cases hd
                · have e1 : Ext a3 H3 a3 (upd H3 p (DTO p (xs ++ [(k, b, u)]))) := Ext.put hp3
                  exact q3 a3 _ u e1 (sdef_rep st3 hp3 g1 hc rr3 htt hkl ru) (ru.mono e1)
              · exact False.elim q3
        · exact False.elim q3
      · exact False.elim q1
  · cases h
theorem s_dgetT {o k : Ex} (iho : SndE F fs o) (ihk : SndE F fs k) : SndE F fs (.dgetT o k) := SndE.pl fun e' N sc h => by
  simp only [chkE] at h
  split at h
  · rename_i o' k' p'
    simp only [Bool.and_eq_true] at h
    obtain ⟨⟨h1, h2⟩, h3⟩ := h
    refine ⟨rfl, fun X n g hN hS => ?_⟩
    subst hN hS
    refine weakE (pe_dgetT g.hu (iho.val _ _ _ h2 X n g rfl rfl) (ihk.val _ _ _ h3 X n g rfl rfl) (plain_ix h1)) ?_
    rintro σ H Q ⟨a, ρ, m, st, sl, q⟩
    refine tS_bind (f := _) st sl q fun d m1 a1 H1 v st1 sl1 rv x1 q1 => ?_
    refine tS_bind (f := _) st1 sl1 q1 fun y m2 a2 H2 w st2 sl2 rw2 x2 q2 => ?_
    cases hd : getTD m2 d y with
    | none => rw [hd] at q2; exact False.elim q2
    | some z =>
      rw [hd] at q2
      have rv2 := rv.mono x2
      cases d <;> simp only [getTD] at hd <;> first | (cases hd; done) | skip
      rename_i i
      cases rv2 with
      | @ref _ p hp =>
        split at hd
        · rename_i kvs k hm hk
          obtain ⟨ho, g1, g2⟩ := st2.at_ i p _ hp hm
          cases g2 with
          | @dtt _ xs rr =>
            obtain ⟨b, rfl, htt, hkl⟩ := keyT_of rw2 hk
            obtain ⟨v', hv, rd⟩ := (rr.look (k := k)).2.2 z hd
            exact ⟨p, xs, k, b, v', rfl, g1, rfl, rr.sq, htt.sq, hv, q2.val st2 rd⟩
        · cases hd
  · cases h
end
end Br


set_option Elab.async false
set_option linter.all false
set_option maxRecDepth 100000
set_option maxHeartbeats 1000000
set_option autoImplicit false
/-! Br: the exception that is caught: isinstance, what it has. -/
namespace Br
open PySem PySem.Spec PyProof.Rows L2
variable [LamTab] [LamCl] [ExC]
section
variable {F : Fe} {fs : FS}
theorem Good.one {X : Cx} {k : Nat} (g : Good X F k fs) (hx : fs.xc = true) {i : Nat} (hcl : fs.cl = [i]) : ∃ p, LamCl.cl = [(i, p)] ∧ XcFact X F (i, p) := by
  obtain ⟨g1, g2⟩ := g.xc hx
  rw [hcl] at g1
  rcases hq : LamCl.cl with _ | ⟨⟨j, p⟩, _ | ⟨q2, r⟩⟩
  · rw [hq] at g1; simp at g1
  · rw [hq] at g1
    have : j = i := by simpa using g1
    subst this
    exact ⟨p, rfl, g2 _ (by rw [hq]; simp)⟩
  · rw [hq] at g1; simp at g1
theorem s_isx (i : Nat) (c : Str) : SndE F fs (.isx i c) := SndE.pl fun e N sc h => by
  simp only [chkE] at h
  split at h
  · rename_i x p y q z r pos
    simp only [Bool.and_eq_true, decide_eq_true_eq, Bool.or_eq_true] at h
    obtain ⟨⟨⟨⟨⟨⟨⟨⟨⟨⟨hx, hcl⟩, rfl⟩, h2⟩, h3⟩, h4⟩, h5⟩, rfl⟩, h6⟩, h7⟩, h8⟩ := h
    refine ⟨rfl, fun X k g hN hS => ?_⟩
    subst hN hS
    obtain ⟨f0, hf, fact⟩ := g.one hx hcl
    obtain ⟨d1, d2, _⟩ := okN_d h5
    obtain ⟨c1, _, c3⟩ := okN_d h7
    cases hb : isxD F z with
    | none =>
      refine ⟨fun pins s σ H Q I ⟨a, ρ, m, st, sl, q⟩ => ?_⟩
      simp only [evE, hb] at q
      exact False.elim q
    | some b =>
      have pz : PE X (.Name z r) (fun σ H Q => ∀ v, ClsIs X.mg z v → Q v H) := by
        rcases h8 with h8 | rfl
        · obtain ⟨C, hC⟩ := fact.nms z b hb h8
          exact weakE (pe_glob (glB_of h6) hC (show RelV (V.ref C) (.ref C) from rfl) c1) fun σ H Q q => q (.ref C) (.inl ⟨C, hC, rfl⟩)
        · exact weakE (pe_bltn (glB_of h6) (blt_of g "ValueError" (by decide)) PyProof.Rows.Boot.«ValueError» (show RelV (V.ty "ValueError") (.type "ValueError") from rfl) c3 c1) fun σ H Q q => q (.ty "ValueError") (.inr ⟨rfl, rfl⟩)
      have s1 : starEach [.Name y q, .Name z r] X.env = (false, eval (.Name y q) X.env) :: starEach [.Name z r] X.env := star_plain rfl _ _
      refine weakE (pe_callB (fact.isx z b hb (by simpa using h8)) (glB_of h2) (blt_of g _ (by decide)) PyProof.Rows.boot_isinstance (pa_cons (pe_var h3 (visB_of h4) d1 d2) (pa_cons pz pa_nil (star_plain rfl _ _)) s1) (by decide) (by decide) s1 rfl) ?_
      rintro σ H Q ⟨a, ρ, m, st, sl, q⟩
      simp only [evE, hb, optB] at q
      exact ⟨.ref f0, sl.clo (i, f0) (by rw [hf]; simp), fun w hw => ⟨w, rfl, hw, ⟨a, sl.kp0 (by rw [hf]; simp)⟩, q.val st (.bl b)⟩⟩
  · cases h
theorem s_xat (i : Nat) (f : Str) : SndE F fs (.xat i f) := SndE.pl fun e N sc h => by
  simp only [chkE] at h
  split at h
  · rename_i y q f' pos
    simp only [Bool.and_eq_true, decide_eq_true_eq] at h
    obtain ⟨⟨⟨⟨⟨hx, hcl⟩, h3⟩, h4⟩, h5⟩, rfl⟩ := h
    refine ⟨rfl, fun X k g hN hS => ?_⟩
    subst hN hS
    obtain ⟨f0, hf, fact⟩ := g.one hx hcl
    obtain ⟨d1, d2, _⟩ := okN_d h5
    cases hd : xatD F f' with
    | none =>
      refine ⟨fun pins s σ H Q I ⟨a, ρ, m, st, sl, q⟩ => ?_⟩
      simp only [evE, hd] at q
      exact False.elim q
    | some d =>
      refine weakE (fact.xat f' d hd y q pos h3 (visB_of h4) h5) ?_
      rintro σ H Q ⟨a, ρ, m, st, sl, q⟩
      simp only [evE, hd, optR] at q
      exact ⟨sl.clo (i, f0) (by rw [hf]; simp), a, sl.kp0 (by rw [hf]; simp), fun v rv => q.val st rv⟩
  · cases h
end
end Br


set_option Elab.async false
set_option linter.all false
set_option maxRecDepth 100000
set_option maxHeartbeats 1000000
set_option autoImplicit false
/-! Br: the theorem about expressions. -/
namespace Br
open PySem PySem.Spec PyProof.Rows L2
variable [LamTab] [LamCl] [ExC]
section
variable {F : Fe} {fs : FS}
/-- a comprehension's parts, as written -/
theorem comp_key {own : List (Str × Nat)} {tg : Tg} {k : Wk} {it c : Exs} {el : Ex} {e : Expr} {N : List Str} {sc : Scope} (h : chkE fs N sc (.comp own tg k it c el) e = true) :
    ∃ elt tg' iter ifs scope p, e = .ListComp elt [⟨tg', iter, ifs, 0⟩] scope p ∧ blkC N sc scope own = true ∧ tgB (locB scope) N tg tg' = true ∧ (∀ i ∈ tg.slots, i ∈ own.map (·.2)) ∧ plainE iter = true ∧ wkTg k tg' = true ∧
      wkB sc k iter = true ∧ chkEs fs N sc it (wkArgs k iter) = true ∧ ifs.length ≤ 1 ∧ chkEs fs.inner N (inSc scope sc) c ifs = true ∧ chkE fs.inner N (inSc scope sc) el elt = true ∧ fs.av (own.map (·.2)) = true ∧ fs.cm = true := by
  simp only [chkE] at h
  split at h
  · simp only [Bool.and_eq_true, decide_eq_true_eq, List.all_eq_true] at h
    obtain ⟨⟨⟨⟨⟨⟨⟨⟨⟨⟨⟨h0, h1⟩, h2⟩, h3⟩, h4⟩, h5⟩, h6⟩, h7⟩, h8⟩, h9⟩, h10⟩, h11⟩ := h
    exact ⟨_, _, _, _, _, _, rfl, h1, h2, h3, h4, h5, h6, h7, h8, h9, h10, h11, h0⟩
  · cases h
theorem loc_in {X : Cx} {scope : Scope} (s : Shared) (H : Hp) (C : Addr) (cl : List (Str × Addr)) (fp : List Addr) : ∀ x, locB scope x = true →
    Loc (X.blk s H scope (compEnvC scope cl C X.env) fp).env.scope x ∧ ((X.blk s H scope (compEnvC scope cl C X.env) fp).fn x = true ∨ (X.blk s H scope (compEnvC scope cl C X.env) fp).env.scope.names.lookup x = some .local) := by
  intro x h
  unfold locB at h
  split at h
  · rename_i e
    have h2 := lookup_relS_keep (sc := X.env.scope) (k := .local) (by decide) e
    exact ⟨.inl h2, .inr h2⟩
  · rename_i e
    have h2 := lookup_relS_keep (sc := X.env.scope) (k := .cell) (by decide) e
    exact ⟨.inr h2, .inl (by show (scope.names.lookup x == some .cell) = true; rw [e]; rfl)⟩
  · cases h
/-- the parts of pe_lc and ps_setLc -/
structure LcParts (X : Cx) (F : Fe) (own : List (Str × Nat)) (tg : Tg) (k : Wk) (it c : Exs) (el : Ex) (elt tg' iter : Expr) (ifs : List Expr) (scope : Scope) : Prop where
  hi : PI X tg' iter (tW X.K k (evEs F it))
  ok : BlkOk X.N X.env.scope scope own
  hg : ∀ (s : Shared) (H : Hp) (C : Addr) (cl : List (Str × Addr)) (fp : List Addr), PG (X.blk s H scope (compEnvC scope cl C X.env) fp) tg' (gD X.K tg)
  ht : ∀ (s : Shared) (H : Hp) (C : Addr) (cl : List (Str × Addr)) (fp : List Addr), PTs (X.blk s H scope (compEnvC scope cl C X.env) fp) ifs (letI : ExC := ExC.none X.mg; tT X.K fun ρ m => evC F c ρ m)
  he : ∀ (s : Shared) (H : Hp) (C : Addr) (cl : List (Str × Addr)) (fp : List Addr), PE (X.blk s H scope (compEnvC scope cl C X.env) fp) elt (letI : ExC := ExC.none X.mg; tS X.K fun ρ m => evE F el ρ m)
  hs : ∀ x, foldedSetIterable iter X.env x = pure x
  av : Av (own.map (·.2))
  sub : ∀ i ∈ tg.slots, i ∈ own.map (·.2)
theorem lc_parts {own : List (Str × Nat)} {tg : Tg} {k : Wk} {it c : Exs} {el : Ex} (ih1 : SndEs F fs it) (ih2 : ∀ ec : ExC, SndEs F fs.inner c) (ih3 : ∀ ec : ExC, SndE F fs.inner el) {X : Cx} {n : Nat} (g : Good X F n fs) {elt tg' iter : Expr} {ifs : List Expr} {scope : Scope} {p : Pos}
    (h : chkE fs X.N X.env.scope (.comp own tg k it c el) (.ListComp elt [⟨tg', iter, ifs, 0⟩] scope p) = true) : LcParts X F own tg k it c el elt tg' iter ifs scope := by
  obtain ⟨_, _, _, _, _, _, e, h1, h2, h3, h4, h5, h6, h7, h8, h9, h10, h11, h12⟩ := comp_key h
  cases e
  have av := g.avs h11
  refine ⟨walk_ok g ih1 h4 h5 h6 h7, blkOk_by h1, fun s H C cl fp => ?_, fun s H C cl fp => ?_, fun s H C cl fp => ?_, plain_set h4 _, av, h3⟩
  · exact sound_tg (X := X.blk s H scope (compEnvC scope cl C X.env) fp) (loc_in s H C cl fp) g.nd (fun _ => g.calm h12) (fun q hq z => av q hq (h3 _ z)) h2
  · have gb := g.blk s H scope (compEnvC scope cl C X.env) fp
    have i2 := ih2 (ExC.none X.mg)
    letI : ExC := ExC.none X.mg
    exact tests_ok (X := X.blk s H scope (compEnvC scope cl C X.env) fp) gb i2 h8 h9
  · have gb := g.blk s H scope (compEnvC scope cl C X.env) fp
    have i3 := ih3 (ExC.none X.mg)
    letI : ExC := ExC.none X.mg
    exact i3.val _ _ _ h10 (X.blk s H scope (compEnvC scope cl C X.env) fp) n gb rfl rfl
/-- the list that was hidden is a new one -/
theorem MRel.drop {K : PySem.W.Frag} {H : Hp} {m : Mem} {st hd : List Addr} {q : Addr} {xs : List V} (r : MRel K ⟨st, q :: hd⟩ m H) (hn : q ∉ hd) (h : H q = some (.lst xs)) : MRel K ⟨st, hd⟩ m (fun p => if p = q then none else H p) ∧ Kp ⟨st, q :: hd⟩ H ⟨st, hd⟩ (fun p => if p = q then none else H p) := by
  have hq : q ∉ st := fun z => r.sep q z List.mem_cons_self
  have kp : Kp ⟨st, q :: hd⟩ H ⟨st, hd⟩ (fun p => if p = q then none else H p) := ⟨⟨[], by simp⟩, fun p o e n _ => ⟨by
    have : p ≠ q := fun z => n.2 (by rw [z]; exact List.mem_cons_self)
    simp only [this, if_false]
    exact e, Ad.no_out n⟩⟩
  refine ⟨⟨r.nd, r.len, fun p hp z => r.sep p hp (List.mem_cons_of_mem _ z), fun n p o h1 h2 => ?_, fun p hp => ?_, fun t ht => ?_⟩, kp⟩
  · obtain ⟨ho, h3, h4⟩ := r.at_ n p o h1 h2
    have : p ≠ q := fun z => hq (by rw [← z]; exact List.mem_of_getElem? h1)
    exact ⟨ho, by simp only [this, if_false]; exact h3, h4.kp kp⟩
  · obtain ⟨ys, e⟩ := r.hid p (List.mem_cons_of_mem _ hp)
    have : p ≠ q := fun z => hn (by rw [← z]; exact hp)
    exact ⟨ys, by simp only [this, if_false]; exact e⟩
  · obtain ⟨ps, h1, h2, h3⟩ := r.tabs t ht
    have nq : ∀ b o, H b = some o → (∀ ys, o ≠ .lst ys) → b ≠ q := fun b o e n z => by
      rw [z, h] at e
      cases e
      exact n _ rfl
    refine ⟨ps, (if_neg (nq _ _ h1 (by intro _ z; cases z))).trans h1, h2, fun pos cv hc => ?_⟩
    obtain ⟨c, e1, e2⟩ := h3 pos cv hc
    exact ⟨c, e1, (if_neg (nq _ _ e2 (by intro _ z; cases z))).trans e2⟩
theorem comp_readF (E0 : XK) (mg0 : Str → Option Value) {K : PySem.W.Frag} {k : Wk} {evs : Sl → Mem → Res (List D)} {tg : Tg} {c e : Sl → Mem → Res D} {vs : List Nat} (hsub : ∀ i ∈ tg.slots, i ∈ vs) (hav : Av vs) {σ : L2.St} {H : Hp} {Q : VK} {a : Ad} {ρ : Sl} {m m1 m2 : Mem} {ds xs out : List D}
    (st : MRel K a m H) (sl : SRel K a H ρ σ) (e1 : evs ρ m = .ok ds m1) (e2 : walkD m1 k ds = some xs) (e3 : compL tg (wipeS ρ vs) (walkG m1 k ds) c e xs m1 = .ok out m2) (q : TrF K a H (.ok (.lst out) m2) Q) :
    tLc (tW K k evs) (gD K tg) (letI : ExC := ⟨E0, mg0⟩; tT K c) (letI : ExC := ⟨E0, mg0⟩; tS K e) vs σ H Q :=
  comp_readG E0 mg0 hsub hav st sl e1 e2 e3 fun s' H' p accV x stm hn hp hDl hacc hz => by
    obtain ⟨st2, kp⟩ := stm.drop hn hDl
    have hb : upd (fun b => if b = p then none else H' b) p (.lst accV) = H' := by
      funext b
      by_cases z : b = p
      · rw [z, upd_same, hDl]
      · rw [upd_ne z, if_neg z]
    have := q ⟨s', a.hd⟩ (fun b => if b = p then none else H' b) accV p ⟨rfl, x.pre, fun b o e h1 h2 => ?_, fun b e => ?_⟩ st2 (hacc.kp kp) hz (by simp)
    · rw [hb] at this
      exact this
    · have z : b ≠ p := ne_of_none e hp
      simp only [z, if_false]
      exact x.keep b o e h1 h2
    · by_cases z : b = p
      · rw [z]; exact hp
      · simp only [z, if_false] at e
        exact x.dom b e
theorem comp_go (E0 : XK) (mg0 : Str → Option Value) {own : List (Str × Nat)} {tg : Tg} {k : Wk} {it c : Exs} {el : Ex} (hsub : ∀ i ∈ tg.slots, i ∈ own.map (·.2)) (hav : Av (own.map (·.2))) {K : PySem.W.Frag} {σ : L2.St} {H : Hp} {Q : VK} (h : tF K (evE F (.comp own tg k it c el)) σ H Q) :
    tLc (tW K k (evEs F it)) (gD K tg) (letI : ExC := ⟨E0, mg0⟩; tT K fun ρ m => evC F c ρ m) (letI : ExC := ⟨E0, mg0⟩; tS K fun ρ m => evE F el ρ m) (own.map (·.2)) σ H Q := by
  obtain ⟨a, ρ, m, st, sl, q⟩ := h
  simp only [evE] at q
  cases e1 : evEs F it ρ m with
  | bad => rw [e1] at q; exact False.elim q
  | ex _ _ _ => rw [e1] at q; exact False.elim q
  | ok ds m1 =>
    rw [e1] at q
    simp only [Res.nox, Res.bind] at q
    split at q
    · exact False.elim q
    · rename_i xs e2
      split at q
      · rename_i vs m2 e3
        exact comp_readF E0 mg0 hsub hav st sl e1 e2 e3 q
      · exact False.elim q
theorem f_comp {own : List (Str × Nat)} {tg : Tg} {k : Wk} {it c : Exs} {el : Ex} (ih1 : SndEs F fs it) (ih2 : ∀ ec : ExC, SndEs F fs.inner c) (ih3 : ∀ ec : ExC, SndE F fs.inner el) : SndF F fs (.comp own tg k it c el) := ⟨fun _ e N sc h => by
  obtain ⟨elt, tg', iter, ifs, scope, p, rfl, _⟩ := id (comp_key h)
  refine ⟨rfl, fun X n g hN hS => ?_⟩
  subst hN hS
  have L := lc_parts ih1 ih2 ih3 g h
  obtain ⟨_, _, _, _, _, _, _, _, _, _, _, _, _, _, _, _, _, _, hcm⟩ := comp_key h
  exact weakE (pe_lc (g.calm hcm) g.nd L.hi L.ok L.hg L.ht L.he L.hs) fun σ H Q => comp_go (fun _ _ _ => False) X.mg L.sub L.av⟩
theorem comp_lst {own : List (Str × Nat)} {tg : Tg} {k : Wk} {it c : Exs} {el : Ex} {ρ : Sl} {m m' : Mem} {d : D} (h : evE F (.comp own tg k it c el) ρ m = .ok d m') : ∃ ds, d = .lst ds := by
  simp only [evE] at h
  cases e1 : evEs F it ρ m with
  | ok ds m1 =>
    rw [e1] at h
    simp only [Res.nox, Res.bind] at h
    repeat' split at h
    all_goals first | (cases h; exact ⟨_, rfl⟩) | cases h
  | ex _ _ _ => rw [e1] at h; cases h
  | bad => rw [e1] at h; cases h
theorem s_comp {own : List (Str × Nat)} {tg : Tg} {k : Wk} {it c : Exs} {el : Ex} (ih1 : SndEs F fs it) (ih2 : ∀ ec : ExC, SndEs F fs.inner c) (ih3 : ∀ ec : ExC, SndE F fs.inner el) : SndE F fs (.comp own tg k it c el) := SndE.pl fun e N sc h => by
  obtain ⟨h1, h2⟩ := (f_comp ih1 ih2 ih3).frs rfl e N sc h
  exact ⟨h1, fun X k g hN hS => ofF (h2 X k g hN hS) fun ρ m d m' e => comp_lst e⟩
theorem ss_nil : SndEs F fs .nil := ⟨fun es N sc h X k g hN hS => by
    cases es with
    | nil => exact .nil
    | cons _ _ => simp [chkEs] at h, fun es N sc h X k g hN hS c hp pos pins s σ H R a ρ m ds m1 I st sl e q => by
    cases es with
    | nil =>
      simp only [evEs, Res.ok.injEq] at e
      obtain ⟨rfl, rfl⟩ := e
      show wpAny (model X.prog X.w) X.A (spliced (backTo pos (starEach [c] X.env))) R X.xe s
      rw [star_plain hp]
      exact Calls.spliced_cons (thn (q [] [] a H s I Ext.refl st .nil .nil) fun u s1 h => Calls.spliced_nil h)
    | cons _ _ => simp [chkEs] at h, fun es N sc h X k g hN hS => by
    cases es with
    | nil => exact PA.nil'
    | cons _ _ => simp [chkEs] at h, fun e N sc h => by simp [chkEs] at h⟩
theorem ss_cons {x : Ex} {r : Exs} (ih : SndE F fs x) (ihr : SndEs F fs r) : SndEs F fs (.cons x r) := ⟨fun es N sc h X k g hN hS => by
    cases es with
    | nil => simp [chkEs] at h
    | cons e es =>
      simp only [chkEs, Bool.and_eq_true] at h
      exact .cons (ih.val _ _ _ h.1.2 X k g hN hS) (ihr.each _ _ _ h.2 X k g hN hS), fun es N sc h X k g hN hS c hp pos pins s σ H R a ρ m ds m1 I st sl ev q => by
    cases es with
    | nil => simp [chkEs] at h
    | cons e es =>
      simp only [chkEs, Bool.and_eq_true] at h
      simp only [evEs] at ev
      cases e1 : evE F x ρ m with
      | bad => rw [e1] at ev; cases ev
      | ex _ _ _ => rw [e1] at ev; cases ev
      | ok d m2 =>
        rw [e1] at ev
        simp only [Res.bind] at ev
        cases e2 : evEs F r ρ m2 with
        | bad => rw [e2] at ev; cases ev
        | ex _ _ _ => rw [e2] at ev; cases ev
        | ok ds2 m3 =>
          rw [e2] at ev
          simp only [Res.ok.injEq] at ev
          obtain ⟨rfl, rfl⟩ := ev
          rw [List.cons_append, star_plain h.1.1]
          show wpAny _ _ (spliced ((false, eval e X.env) :: backTo pos (starEach (es ++ [c]) X.env))) _ _ s
          refine Calls.spliced_cons (thn ((ih.val _ _ _ h.1.2 X k g hN hS).run pins s σ H (fun v H1 => ∃ a1, Ext a H a1 H1 ∧ MRel X.K a1 m2 H1 ∧ RepV X.K H1 a1 d v) I ⟨a, ρ, m, st, sl, ?_⟩) fun u s1 ⟨v, H1, I1, r1, a1, x1, st1, rv⟩ => ?_)
          · rw [e1]
            exact fun a1 H1 v x1 st1 rv => ⟨a1, x1, st1, rv⟩
          · refine ihr.snocW _ _ _ h.2 X k g hN hS c hp pos pins s1 σ H1 _ a1 ρ m2 ds2 m3 I1 st1 (sl.mono x1) e2 fun us vs a2 H2 s2 I2 x2 st2 rvs rr => ?_
            exact thn (q (u :: us) (v :: vs) a2 H2 s2 I2 (x1.trans x2) st2 (.cons (rv.mono x2) rvs) (.cons r1 rr)) fun w s3 h => h, fun es N sc h X k g hN hS => by
    cases es with
    | nil => simp [chkEs] at h
    | cons e es =>
      simp only [chkEs, Bool.and_eq_true] at h
      exact PA.cons' h.1.1 (ih.val _ _ _ h.1.2 X k g hN hS) (ihr.args _ _ _ h.2 X k g hN hS), fun e N sc h X k g hN hS => by
    simp only [chkEs, Bool.and_eq_true] at h
    cases r with
    | nil => exact ⟨x, rfl, ih.val _ _ _ h.1.2 X k g hN hS, ih.tst _ _ _ h.1.2 X k g hN hS⟩
    | cons y r => simp [chkEs] at h⟩
theorem f_no {x : Ex} (h : newB x = false) : SndF F fs x := ⟨fun z => by rw [h] at z; cases z⟩
end
mutual
theorem soundE : ∀ (x : Ex) (lc : LamCl) (ec : ExC) (F : Fe) (fs : FS), @SndE _ lc ec F fs x
  | .var i, lc, ec, F, fs => s_var i
  | .glo x, lc, ec, F, fs => s_glo x
  | .cst d, lc, ec, F, fs => s_cst d
  | .bin o a b, lc, ec, F, fs => s_bin o (soundE a lc ec F fs) (soundE b lc ec F fs)
  | .cmp o a b, lc, ec, F, fs => s_cmp o (soundE a lc ec F fs) (soundE b lc ec F fs)
  | .chain o o2 a b c, lc, ec, F, fs => s_chain o o2 (soundE a lc ec F fs) (soundE b lc ec F fs) (soundE c lc ec F fs)
  | .and a b, lc, ec, F, fs => s_and (soundE a lc ec F fs) (soundE b lc ec F fs)
  | .or a b, lc, ec, F, fs => s_or (soundE a lc ec F fs) (soundE b lc ec F fs)
  | .not a, lc, ec, F, fs => s_not (soundE a lc ec F fs)
  | .ite c a b, lc, ec, F, fs => s_ite (soundE c lc ec F fs) (soundE a lc ec F fs) (soundE b lc ec F fs)
  | .fn f es, lc, ec, F, fs => s_fn f (soundEs es lc ec F fs)
  | .isin a ts, lc, ec, F, fs => s_isin ts (soundE a lc ec F fs)
  | .call f es, lc, ec, F, fs => s_call f (soundEs es lc ec F fs)
  | .idx a b, lc, ec, F, fs => s_idx (soundE a lc ec F fs) (soundE b lc ec F fs)
  | .sli a lo hi, lc, ec, F, fs => s_sli (soundE a lc ec F fs) (soundEs lo lc ec F fs) (soundEs hi lc ec F fs)
  | .tup es, lc, ec, F, fs => s_tup (soundEs es lc ec F fs)
  | .lst fr es, lc, ec, F, fs => s_lst fr (soundEs es lc ec F fs)
  | .comp _ _ _ it c el, lc, ec, F, fs => s_comp (soundEs it lc ec F fs) (fun ec => soundEs c lc ec F fs.inner) (fun ec => soundE el lc ec F fs.inner)
  | .scope a, lc, ec, F, fs => s_scope (soundE a lc ec F fs)
  | .new a, lc, ec, F, fs => s_new (soundF a lc ec F fs)
  | .hof f es np caps x, lc, ec, F, fs => s_hof f np caps (soundEs es lc ec F fs) (soundE x noCl)
  | .callv es, lc, ec, F, fs => s_callv (soundEs es lc ec F fs)
  | .sortK es caps x, lc, ec, F, fs => s_sortK caps (soundEs es lc ec F fs) (soundE x noCl)
  | .lpop o es, lc, ec, F, fs => s_lpop (soundE o lc ec F fs) (soundEs es lc ec F fs)
  | .sdef o k e, lc, ec, F, fs => s_sdef (soundE o lc ec F fs) (soundE k lc ec F fs) (soundE e lc ec F fs)
  | .dgetT o k, lc, ec, F, fs => s_dgetT (soundE o lc ec F fs) (soundE k lc ec F fs)
  | .isx i c, lc, ec, F, fs => s_isx i c
  | .xat i f, lc, ec, F, fs => s_xat i f
  | .pick get ks es k, lc, ec, F, fs => s_pick get ks (soundEs es lc ec F fs) (soundE k lc ec F fs)
theorem soundF : ∀ (x : Ex) (lc : LamCl) (ec : ExC) (F : Fe) (fs : FS), @SndF _ lc ec F fs x
  | .bin .add a b, lc, ec, F, fs => f_add (soundE a lc ec F fs) (soundE b lc ec F fs)
  | .fn .list es, lc, ec, F, fs => f_list (soundEs es lc ec F fs)
  | .fn .rngL es, lc, ec, F, fs => f_rngL (soundEs es lc ec F fs)
  | .comp _ _ _ it c el, lc, ec, F, fs => f_comp (soundEs it lc ec F fs) (fun ec => soundEs c lc ec F fs.inner) (fun ec => soundE el lc ec F fs.inner)
  | .sortK es caps x, lc, ec, F, fs => f_sortK caps (soundEs es lc ec F fs) (soundE x noCl)
  | .var i, lc, ec, F, fs => f_no rfl
  | .glo x, lc, ec, F, fs => f_no rfl
  | .cst d, lc, ec, F, fs => f_no rfl
  | .bin .sub a b, lc, ec, F, fs => f_no rfl
  | .bin .mul a b, lc, ec, F, fs => f_no rfl
  | .bin .fdiv a b, lc, ec, F, fs => f_no rfl
  | .bin .mod a b, lc, ec, F, fs => f_no rfl
  | .bin .pow a b, lc, ec, F, fs => f_no rfl
  | .cmp o a b, lc, ec, F, fs => f_no rfl
  | .chain o o2 a b c, lc, ec, F, fs => f_no rfl
  | .and a b, lc, ec, F, fs => f_no rfl
  | .or a b, lc, ec, F, fs => f_no rfl
  | .not a, lc, ec, F, fs => f_no rfl
  | .ite c a b, lc, ec, F, fs => f_no rfl
  | .fn .len es, lc, ec, F, fs => f_no rfl
  | .fn .tuple es, lc, ec, F, fs => f_no rfl
  | .fn .sorted es, lc, ec, F, fs => f_no rfl
  | .fn .sortedSet es, lc, ec, F, fs => f_no rfl
  | .fn .min es, lc, ec, F, fs => f_no rfl
  | .fn .max es, lc, ec, F, fs => f_no rfl
  | .fn .sum es, lc, ec, F, fs => f_no rfl
  | .fn .str es, lc, ec, F, fs => f_no rfl
  | .fn .int es, lc, ec, F, fs => f_no rfl
  | .fn .dict es, lc, ec, F, fs => f_no rfl
  | .fn .min2 es, lc, ec, F, fs => f_no rfl
  | .fn .max2 es, lc, ec, F, fs => f_no rfl
  | .fn .rngT es, lc, ec, F, fs => f_no rfl
  | .fn .dct0 es, lc, ec, F, fs => f_no rfl
  | .fn .sortedSetT es, lc, ec, F, fs => f_no rfl
  | .fn .index es, lc, ec, F, fs => f_no rfl
  | .fn .dctT0 es, lc, ec, F, fs => f_no rfl
  | .fn .sortedDT es, lc, ec, F, fs => f_no rfl
  | .fn .minT es, lc, ec, F, fs => f_no rfl
  | .fn .count es, lc, ec, F, fs => f_no rfl
  | .isx i c, lc, ec, F, fs => f_no rfl
  | .xat i f, lc, ec, F, fs => f_no rfl
  | .isin a ts, lc, ec, F, fs => f_no rfl
  | .call f es, lc, ec, F, fs => f_no rfl
  | .idx a b, lc, ec, F, fs => f_no rfl
  | .sli a lo hi, lc, ec, F, fs => f_no rfl
  | .tup es, lc, ec, F, fs => f_no rfl
  | .lst fr es, lc, ec, F, fs => f_no rfl
  | .scope a, lc, ec, F, fs => f_no rfl
  | .new a, lc, ec, F, fs => f_no rfl
  | .hof f es np caps x, lc, ec, F, fs => f_no rfl
  | .callv es, lc, ec, F, fs => f_no rfl
  | .lpop o es, lc, ec, F, fs => f_no rfl
  | .sdef o k e, lc, ec, F, fs => f_no rfl
  | .dgetT o k, lc, ec, F, fs => f_no rfl
  | .pick get ks es k, lc, ec, F, fs => f_no rfl
theorem soundEs : ∀ (xs : Exs) (lc : LamCl) (ec : ExC) (F : Fe) (fs : FS), @SndEs _ lc ec F fs xs
  | .nil, lc, ec, F, fs => ss_nil
  | .cons x r, lc, ec, F, fs => ss_cons (soundE x lc ec F fs) (soundEs r lc ec F fs)
end
end Br


set_option Elab.async false
set_option linter.all false
set_option maxRecDepth 100000
set_option maxHeartbeats 1000000
set_option autoImplicit false
/-! Br: statements. -/
namespace Br
open PySem PySem.Spec PyProof.Rows L2
variable [LamTab] [LamCl] [ExC]
def TrS (K : PySem.W.Frag) (a : Ad) (H : Hp) (r : Rs) (D : Ends) : Prop := match r with
  | .nx ρ' m' => ∀ a' H' σ', Ext a H a' H' → MRel K a' m' H' → SRel K a' H' ρ' σ' → D.nx σ' H'
  | .rt d m' => ∀ a' H' v, Ext a H a' H' → MRel K a' m' H' → RepV K H' a' d v → D.rt v H'
  | .ex c ds m' => XOk K a H c ds m'
  | .bad => False
def tSt (K : PySem.W.Frag) (ev : Sl → Mem → Rs) : TS := fun D σ H => ∃ a ρ m, MRel K a m H ∧ SRel K a H ρ σ ∧ TrS K a H (ev ρ m) D
section
variable {K : PySem.W.Frag} {H H' : Hp} {a a' : Ad} {m : Mem} {ρ : Sl} {σ : L2.St} {Z : Ends}
theorem TrS.mono {r : Rs} (h : TrS K a H r Z) (e : Ext a H a' H') : TrS K a' H' r Z := by
  cases r with
  | nx ρ' m' => exact fun a2 H2 v x => h a2 H2 v (e.trans x)
  | rt d m' => exact fun a2 H2 v x => h a2 H2 v (e.trans x)
  | ex c ds m' => exact XOk.mono h e
  | bad => exact h
theorem TrS.thn {r : Rs} {f : Sl → Mem → Rs} (h : TrS K a H (r.thn f) Z) {N C B : L2.St → Hp → Prop} (k : ∀ ρ' m' a' H' σ', Ext a H a' H' → MRel K a' m' H' → SRel K a' H' ρ' σ' → TrS K a' H' (f ρ' m') Z → N σ' H') :
    TrS K a H r { Z with nx := N, ct := C, bk := B } := by
  cases r with
  | nx ρ' m' => exact fun a2 H2 v x st sl => k ρ' m' a2 H2 v x st sl (TrS.mono (r := f ρ' m') h x)
  | rt d m' => exact h
  | ex c ds m' => exact h
  | bad => exact h
/-- an expression, then a statement's rest -/
theorem tS_go {ev : Sl → Mem → Res D} {f : D → Mem → Rs} {Q' : VK} (st : MRel K a m H) (sl : SRel K a H ρ σ) (q : TrS K a H ((ev ρ m).go f) Z)
    (k : ∀ d m1 a1 H1 v, ev ρ m = .ok d m1 → MRel K a1 m1 H1 → SRel K a1 H1 ρ σ → RepV K H1 a1 d v → Ext a H a1 H1 → TrS K a1 H1 (f d m1) Z → Q' v H1) : tS K ev σ H Q' := by
  refine ⟨a, ρ, m, st, sl, ?_⟩
  cases e : ev ρ m with
  | ok d m1 =>
    rw [e] at q
    exact fun a1 H1 v x r rv => k d m1 a1 H1 v e r (sl.mono x) rv x (TrS.mono (r := f d m1) q x)
  | ex c ds m' => rw [e] at q; exact q
  | bad => rw [e] at q; exact q
theorem tA_go {ev : Sl → Mem → Res (List D)} {f : List D → Mem → Rs} {Q' : List V → Hp → Prop} (st : MRel K a m H) (sl : SRel K a H ρ σ) (q : TrS K a H ((ev ρ m).go f) Z)
    (k : ∀ ds m1 a1 H1 vs, ev ρ m = .ok ds m1 → MRel K a1 m1 H1 → SRel K a1 H1 ρ σ → RepVs K H1 a1 ds vs → Ext a H a1 H1 → TrS K a1 H1 (f ds m1) Z → Q' vs H1) : tA K ev σ H Q' := by
  refine ⟨a, ρ, m, st, sl, ?_⟩
  cases e : ev ρ m with
  | ok d m1 =>
    rw [e] at q
    exact fun a1 H1 v x r rv => k d m1 a1 H1 v e r (sl.mono x) rv x (TrS.mono (r := f d m1) q x)
  | ex c ds m' => rw [e] at q; exact q
  | bad => rw [e] at q; exact q
/-- a test, then what its answer leads to -/
theorem tT_go {ev : Sl → Mem → Res D} {f : Bool → Mem → Rs} {Q' : Bool → Hp → Prop} (st : MRel K a m H) (sl : SRel K a H ρ σ) (q : TrS K a H ((ev ρ m).go fun d m1 => match d with | .bl true => f true m1 | .bl false => f false m1 | _ => .bad) Z)
    (k : ∀ b m1 a1 H1, MRel K a1 m1 H1 → SRel K a1 H1 ρ σ → Ext a H a1 H1 → TrS K a1 H1 (f b m1) Z → Q' b H1) : tT K ev σ H Q' := by
  refine ⟨a, ρ, m, st, sl, ?_⟩
  cases e : ev ρ m with
  | ok d m1 =>
    rw [e] at q
    cases d <;> first | exact False.elim q | skip
    rename_i b
    refine fun a1 H1 x r => k b m1 a1 H1 r (sl.mono x) x (TrS.mono ?_ x)
    cases b <;> exact q
  | ex c ds m' => rw [e] at q; exact q
  | bad => rw [e] at q; exact q
end
/-- what is so of the class c, which stands at C -/
structure ClsFact (K : PySem.W.Frag) (mg : Str → Option Value) (C : Addr) (c : Str) : Prop where
  sub : ∀ c2 C2, (xcls.lookup c2).isSome = true → mg c2 = some (.ref C2) → PySem.W.exmOne K (.ref C) (.ref C2) = some (xsub c c2) ∧ PySem.W.kitOne K (.ref C) (.ref C2) = some (xsub c c2)
  subV : PySem.W.kitOne K (.ref C) (.type "ValueError") = some true
  xc : ExcC K C
  xf : XfC K C
  noF : ∀ f ∈ flds c, PySem.W.findIn K (.ref C) f = some none
structure GoodS (X : Cx) (F : Fe) (k : Nat) (fs : FS) : Prop where
  g : Good X F k fs
  fn : ∀ x, X.fn x = true
  po : fs.cm = true → PassesOwn (model X.prog X.w) X.A X.env X.xe
  kind : X.env.scope.kind = .function
  hs : fs.cm = true → X.stack = X.env :: X.outer
  hf : X.env.frame = some X.env.locals
  xf : fs.xk = true → ∀ c, (xcls.lookup c).isSome = true → ∃ C, X.mg c = some (.ref C) ∧ ClsFact X.K X.mg C c
/-! ### the look at statements -/
def isComp : Expr → Bool
  | .ListComp .. => true
  | .SetComp .. => true
  | .DictComp .. => true
  | _ => false
def noCall : Expr → Bool
  | .Call _ [] [] _ => false
  | _ => true
/-- is the store swapped with the comprehension's end -/
def swapB (sc : Scope) (t : Str) (pos : Pos) : Expr → Bool
  | .ListComp _ _ s p => (sc.names.lookup t == some .local) && pos.line == p.line && !(s.names.any fun (n, k) => n == t && (k == .local || k == .cell))
  | _ => false
def tupB : Expr → Expr → Bool
  | .Tuple _ _ _, .Tuple vs _ _ => vs.all (foldedForSure 8)
  | _, _ => true
def lmName : Lm → Str
  | .append => "append"
  | .extend => "extend"
  | .reverse => "reverse"
  | .clear => "clear"
def lmAr : Lm → Nat
  | .append => 1
  | .extend => 1
  | .reverse => 0
  | .clear => 0
mutual
def chkS (fs : FS) (N : List Str) (sc : Scope) : Sm → Stmt → Bool
  | .asg tg e, s => match s with
    | .Assign [t] e' pos => (fs.cm || !tg.isT) && fs.av tg.slots && tgB (locB sc) N tg t && plainE e' && chkE fs N sc e e' && tupB t e' && (!isComp e' || (match t, e' with
      | .Name x px, .ListComp el gs s p => (match sc.names.lookup x with
          | some .local => px.line == p.line && p.line == pos.line && !(s.names.any fun (n, k) => n == x && (k == .local || k == .cell))
          | _ => true) && (match e with | .comp .. => true | .new (.comp ..) => true | _ => false)
      | .Tuple .., .ListComp .. => true
      | _, _ => false))
    | _ => false
  | .par i j a b, s => match s with
    | .Assign [.Tuple [.Name x px, .Name y py] _ _] (.Tuple [a', b'] _ _) pos => fs.cm && fs.av [i, j] && decide (N[i]? = some x) && decide (N[j]? = some y) && decide (i ≠ j) && decide (sc.names.lookup x = some .local) && decide (sc.names.lookup y = some .local) &&
        decide (px.line = py.line) && !(foldedForSure 8 a' && foldedForSure 8 b') && !(constantsAlone 8 a' && constantsAlone 8 b') && plainE a' && plainE b' && chkE fs N sc a a' && chkE fs N sc b b'
    | _ => false
  | .put o i e, s => match s with
    | .Assign [.Subscript o' i' _] e' _ => plainE i' && plainE e' && chkE fs N sc o o' && chkE fs N sc i i' && chkE fs N sc e e'
    | _ => false
  | .expr e, s => match s with
    | .Expr e' _ => plainE e' && !isComp e' && chkE fs N sc e e'
    | _ => false
  | .lm f o es, s => match s with
    | .Expr (.Call (.Attribute o' x ap) es' [] cp) _ => decide (x = lmName f) && noCall o' && (ap.endLine == cp.line) && decide (es'.length = lmAr f) && chkE fs N sc o o' && chkEs fs N sc es es'
    | _ => false
  | .dpop o k, s => match s with
    | .Expr (.Call (.Attribute o' x ap) [e'] [] cp) _ => decide (x = "pop") && noCall o' && (ap.endLine == cp.line) && plainE e' && chkE fs N sc o o' && chkE fs N sc k e'
    | _ => false
  | .ret e, s => match s with
    | .Return (some e') _ => chkE fs N sc e e'
    | _ => false
  | .iff c a b, s => match s with
    | .If c' a' b' _ => chkE fs N sc c c' && chkSs fs N sc a a' && chkSs fs N sc b b'
    | _ => false
  | .whil c b, s => match s with
    | .While c' b' [] _ => fs.cm && chkE fs N sc c c' && chkSs fs N sc b b'
    | _ => false
  | .for tg k it b, s => match s with
    | .For t iter b' [] _ => fs.cm && fs.av tg.slots && tgB (locB sc) N tg t && plainE iter && wkTg k t && wkB sc k iter && chkEs fs N sc it (wkArgs k iter) && chkSs fs N sc b b'
    | _ => false
  | .pass, s => match s with
    | .Pass _ => true
    | _ => false
  | .never, _ => true
  | .rais c es, s => match s with
    | .Raise (some (.Call (.Name x _) es' [] _)) none _ => fs.cm && fs.xk && decide (x = c) && glB sc x && (xcls.lookup c).isSome && (match es' with
      | [.Constant (.str _) _ _] => (match es with | .nil => (flds c).isEmpty | _ => !(flds c).isEmpty && chkEs fs N sc es es')
      | [] => false
      | es' => !(flds c).isEmpty && chkEs fs N sc es es')
    | _ => false
  | .tri b c i h, s => match s with
    | .Try b' [.ExceptHandler (some (.Name x _)) (some n) (b0 :: h') _] [] [] _ => fs.cm && fs.xk && decide (x = c) && glB sc x && okN x && (xcls.lookup c).isSome && decide (N[i]? = some n) && decide (sc.names.lookup n = some .local) && chkSs fs.tryb N sc b b' && chkSs (FS.suite i) N sc h (b0 :: h')
    | _ => false
def chkSs (fs : FS) (N : List Str) (sc : Scope) : Sms → List Stmt → Bool
  | .nil, [] => true
  | .cons s r, s' :: r' => chkS fs N sc s s' && chkSs fs N sc r r'
  | .blk _ k b r, l => chkSs fs N sc b (l.take k) && chkSs fs N sc r (l.drop k)
  | _, _ => false
end
end Br


set_option Elab.async false
set_option linter.all false
set_option maxRecDepth 100000
set_option maxHeartbeats 1000000
set_option autoImplicit false
/-! Br: statements do what the evaluator tells. -/
namespace Br
open PySem PySem.Spec PyProof.Rows L2
variable [LamTab] [LamCl] [ExC]
section
variable {F : Fe} {fs : FS}
theorem loc_def {X : Cx} {k : Nat} (g : GoodS X F k fs) : ∀ x, locB X.env.scope x = true → Loc X.env.scope x ∧ (X.fn x = true ∨ X.env.scope.names.lookup x = some .local) := by
  intro x h
  unfold locB at h
  split at h
  · rename_i e; exact ⟨.inl e, .inl (g.fn x)⟩
  · rename_i e; exact ⟨.inr e, .inl (g.fn x)⟩
  · cases h
theorem sole_eq (t e : Expr) (l : Nat) (env : Env) : swapsWithSole [t] e l env = swapsWith e (some t) l env := by
  unfold swapsWithSole
  rfl
structure SndS (F : Fe) (fs : FS) (x : Sm) : Prop where
  st : ∀ (s : Stmt) (N : List Str) (sc : Scope), chkS fs N sc x s = true → ∀ (X : Cx) (k : Nat), GoodS X F k fs → X.N = N → X.env.scope = sc → PS X s (tSt X.K (evS F x))
structure SndSs (F : Fe) (fs : FS) (x : Sms) : Prop where
  sts : ∀ (s : List Stmt) (N : List Str) (sc : Scope), chkSs fs N sc x s = true → ∀ (X : Cx) (k : Nat), GoodS X F k fs → X.N = N → X.env.scope = sc → PSs X s (tSt X.K (evSs F x))
theorem not_comp {e : Expr} (h : isComp e = false) (t : Option Expr) (l : Nat) (env : Env) : swapsWith e t l env = pure false := by
  cases e <;> first | rfl | (simp [isComp] at h)
theorem tup_noswap (e : Expr) (ts : List Expr) (k : Nat) (p : Pos) (l : Nat) (env : Env) : swapsWith e (some (.Tuple ts k p)) l env = pure false := by
  cases e <;> rfl
theorem stores_none {t e : Expr} {loc : Str → Bool} {N : List Str} {tg : Tg} (ht : tgB loc N tg t = true) (h : tupB t e = true) (env : Env) : swappedStores [t] e env = pure none := by
  cases tg with
  | one i =>
    cases t <;> first | (simp [tgB] at ht; done) | skip
    cases e <;> rfl
  | tup is =>
    cases t <;> first | (simp [tgB] at ht; done) | skip
    cases e <;> first | rfl | skip
    rename_i ts k p vs k2 p2
    simp only [tupB] at h
    unfold swappedStores
    simp only [h, if_true]
    split
    · rfl
    · split
      · rfl
      · split <;> rfl
theorem asg_each {t : Expr} {loc : Str → Bool} {N : List Str} {tg : Tg} (ht : tgB loc N tg t = true) (env : Env) : (assignEach [t] env).map (·.2) = [assign t env] := by
  cases tg with
  | one i => cases t <;> first | (simp [tgB] at ht; done) | rfl
  | tup is => cases t <;> first | (simp [tgB] at ht; done) | rfl
theorem asg_read {K : PySem.W.Frag} {tg : Tg} (hav : Av tg.slots) {e : Ex} {Z : Ends} {σ : L2.St} {H : Hp} (h : tSt K (evS F (.asg tg e)) Z σ H) : tS K (evE F e) σ H fun x H1 => gD K tg x σ H1 Z.nx := by
  obtain ⟨a, ρ, m, st, sl, q⟩ := h
  refine tS_go (f := fun d m1 => match bindT m1 tg d ρ with | some ρ' => .nx ρ' m1 | none => .bad) st sl q fun d m1 a1 H1 v e1 st1 sl1 rv x1 q1 => ?_
  cases hb : bindT m1 tg d ρ with
  | none => rw [hb] at q1; exact False.elim q1
  | some ρ' =>
    rw [hb] at q1
    exact ⟨a1, m1, d, ρ, ρ', st1, rv, sl1, hb, fun σ' sl' _ => q1 a1 H1 σ' Ext.refl st1 sl'⟩
theorem s_asg (tg : Tg) (e : Ex) : SndS F fs (.asg tg e) := ⟨fun s N sc h X k g hN hS => by
  subst hN hS
  simp only [chkS] at h
  split at h
  · rename_i t e' pos
    simp only [Bool.and_eq_true] at h
    obtain ⟨⟨⟨⟨⟨⟨hct, h0⟩, h1⟩, h2⟩, h3⟩, h4⟩, h5⟩ := h
    have av := g.g.avs h0
    have pg := sound_tg (loc_def g) g.g.nd (fun ht => g.g.calm (by rw [ht] at hct; simpa using hct)) av h1
    have pe := (soundE e _ _ F fs).val _ _ _ h3 X k g.g rfl rfl
    by_cases hsw : swapsWithSole [t] e' pos.line X.env = pure false
    · exact weakS (ps_asg pe pg hsw (stores_none h1 h4 _) (asg_each h1 _)) fun D σ H => asg_read av
    · cases hc : isComp e' with
      | false => exact absurd ((sole_eq _ _ _ _).trans (not_comp hc _ _ _)) hsw
      | true =>
        rw [hc] at h5
        simp only [Bool.not_true, Bool.false_or] at h5
        split at h5
        · rename_i x px el gs s p
          simp only [Bool.and_eq_true] at h5
          obtain ⟨h5, h6⟩ := h5
          cases hk : X.env.scope.names.lookup x with
          | none =>
            exfalso
            apply hsw
            rw [sole_eq]
            unfold swapsWith
            have : X.env.kindOf x = none := hk
            simp [this]
          | some kd =>
            by_cases hl : kd = .local
            · subst hl
              rw [hk] at h5
              simp only [Bool.and_eq_true, Bool.not_eq_true'] at h5
              obtain ⟨⟨h7, h8⟩, h9⟩ := h5
              have main : ∀ (own : List (Str × Nat)) (tg2 : Tg) (w : Wk) (it c : Exs) (el2 : Ex), chkE fs X.N X.env.scope (.comp own tg2 w it c el2) (.ListComp el gs s p) = true → (∀ (σ : L2.St) (H : Hp) (Q : VK), tS X.K (evE F e) σ H Q → tF X.K (evE F (.comp own tg2 w it c el2)) σ H Q) → PS X (.Assign [.Name x px] (.ListComp el gs s p) pos) (tSt X.K (evS F (.asg tg e))) := fun own tg2 w it c el2 h3 hF => by
                obtain ⟨elt, tg', iter, ifs, scope, p', he, _, _, _, _, _, _, _, _, _, _, _, hcm⟩ := comp_key h3
                cases he
                have L := lc_parts (soundEs it _ _ F fs) (fun ec => soundEs c _ ec F fs.inner) (fun ec => soundE el2 _ ec F fs.inner) g.g h3
                cases tg with
                | tup is => simp [tgB] at h1
                | one i =>
                  simp only [tgB, Bool.and_eq_true, decide_eq_true_eq] at h1
                  refine weakS (ps_setLc (g.g.calm hcm) g.g.nd h1.1 hk (sw_true g.kind hk h7 h9) L.hi L.ok L.hg L.ht L.he L.hs) ?_
                  intro D σ H hh
                  have := asg_read av hh
                  refine comp_go (fun _ _ _ => False) X.mg L.sub L.av (hF _ _ _ ?_)
                  obtain ⟨a, ρ, m, st, sl, q⟩ := this
                  refine ⟨a, ρ, m, st, sl, ?_⟩
                  revert q
                  cases evE F e ρ m with
                  | bad => exact id
                  | ex _ _ _ => exact id
                  | ok d m1 =>
                    intro q a1 H1 v x1 st1 rv
                    obtain ⟨a2, m2, d2, ρ2, ρ', st2, rv2, sl2, hb, q2⟩ := q a1 H1 v x1 st1 rv
                    simp only [bindT, Option.some.injEq] at hb
                    subst hb
                    exact q2 _ (sl2.set i av rv2) (But.refl.set (by simp [Tg.slots]) _)
              cases e <;> first | (cases h6; done) | skip
              · rename_i own tg2 w it c el2
                refine main own tg2 w it c el2 h3 ?_
                rintro σ H Q ⟨a, ρ, m, st, sl, q⟩
                refine ⟨a, ρ, m, st, sl, ?_⟩
                cases e1 : evE F (.comp own tg2 w it c el2) ρ m with
                | ok d m1 =>
                  rw [e1] at q
                  obtain ⟨ds, rfl⟩ := comp_lst e1
                  exact TrF.of q
                | ex c ds m' => rw [e1] at q; exact q
                | bad => rw [e1] at q; exact q
              · rename_i e2
                cases e2 <;> first | (cases h6; done) | skip
                rename_i own tg2 w it c el2
                simp only [chkE, Bool.and_eq_true] at h3
                refine main own tg2 w it c el2 (by simp only [chkE]; exact h3.2) ?_
                rintro σ H Q ⟨a, ρ, m, st, sl, q⟩
                exact ⟨a, ρ, m, st, sl, newF q⟩
            · exfalso
              apply hsw
              rw [sole_eq]
              unfold swapsWith
              have : X.env.kindOf x = some kd := hk
              have h2 : (some kd == some NameKind.local) = false := by simpa using hl
              simp [this, h2]
        · exact absurd ((sole_eq _ _ _ _).trans (tup_noswap _ _ _ _ _ _)) hsw
        · cases h5
  · cases h⟩
theorem s_par (i j : Nat) (a b : Ex) : SndS F fs (.par i j a b) := ⟨fun s N sc h X k g hN hS => by
  subst hN hS
  simp only [chkS] at h
  split at h
  · rename_i x px y py k1 p1 a' b' k2 p2 pos
    simp only [Bool.and_eq_true, decide_eq_true_eq, Bool.not_eq_true'] at h
    obtain ⟨⟨⟨⟨⟨⟨⟨⟨⟨⟨⟨⟨⟨hcm, h0⟩, h1⟩, h2⟩, h3⟩, h4⟩, h5⟩, h6⟩, h7⟩, h8⟩, h9⟩, h10⟩, h11⟩, h12⟩ := h
    have av := g.g.avs h0
    have pa : PA X [a', b'] (tA X.K (evEs F (.cons a (.cons b .nil)))) := PA.cons' h9 ((soundE a _ _ F fs).val _ _ _ h11 X k g.g rfl rfl) (PA.cons' h10 ((soundE b _ _ F fs).val _ _ _ h12 X k g.g rfl rfl) PA.nil')
    have hw : swappedStores [.Tuple [.Name x px, .Name y py] k1 p1] (.Tuple [a', b'] k2 p2) X.env = pure (some [x, y]) := by
      have kx : X.env.kindOf x = some .local := h4
      have ky : X.env.kindOf y = some .local := h5
      have hb : X.env.blockKind = .function := by unfold Env.blockKind; rw [g.kind]; rfl
      have hxy : x ≠ y := fun z => h3 ((List.getElem?_inj (List.getElem?_eq_some_iff.mp h1).1 g.g.nd).mp (by rw [h1, h2, z]))
      have hyx : (y == x) = false := by simpa using Ne.symm hxy
      have hxy' : (x == y) = false := by simpa using hxy
      unfold swappedStores
      simp only [List.length_cons, List.length_nil, hb, List.any_cons, List.any_nil, List.all_cons, List.all_nil, Bool.and_true, h7, h8, List.filterMap_cons, List.filterMap_nil, List.head?_cons, Option.map_some, Option.getD_some, Expr.pos, kx, ky, h6, beq_self_eq_true]
      simp [List.eraseDups_cons, hyx, hxy']
      intro z
      exfalso
      rcases z with z | z
      · cases a' <;> first | (cases z; done) | (simp [plainE] at h9)
      · cases b' <;> first | (cases z; done) | (simp [plainE] at h10)
    refine weakS (ps_par (g.g.calm hcm) g.g.nd h1 h2 h3 h4 h5 pa hw) ?_
    rintro D σ H ⟨a1, ρ, m, st, sl, q⟩
    have q' : TrS X.K a1 H ((evEs F (.cons a (.cons b .nil)) ρ m).go fun ds m2 => match ds with | [v, w] => .nx ((ρ.set i (some v)).set j (some w)) m2 | _ => .bad) D := by
      simp only [evS] at q
      revert q
      simp only [evEs]
      cases evE F a ρ m with
      | bad => exact id
      | ex _ _ _ => exact id
      | ok v m1 =>
        simp only [Res.bind, Res.go]
        cases evE F b ρ m1 with
        | bad => exact id
        | ex _ _ _ => exact id
        | ok w m2 => exact id
    refine tA_go st sl q' fun ds m1 a2 H2 vs e1 st1 sl1 rv x1 q1 => ?_
    match ds, q1, rv with
    | [d, e], q1, rv =>
      obtain ⟨v, w, rfl, r1, r2⟩ := two_of rv
      exact ⟨v, w, rfl, q1 a2 H2 _ Ext.refl st1 ((sl1.set i (av.sub (by simp)) r1).set j (av.sub (by simp)) r2)⟩
  · cases h⟩
theorem s_put (o i e : Ex) : SndS F fs (.put o i e) := ⟨fun s N sc h X k g hN hS => by
  subst hN hS
  simp only [chkS] at h
  split at h
  · rename_i o' i' p e' pos
    simp only [Bool.and_eq_true] at h
    obtain ⟨⟨⟨⟨h1, h2⟩, h3⟩, h4⟩, h5⟩ := h
    have po := (soundE o _ _ F fs).val _ _ _ h3 X k g.g rfl rfl
    have pi := (soundE i _ _ F fs).val _ _ _ h4 X k g.g rfl rfl
    have pe := (soundE e _ _ F fs).val _ _ _ h5 X k g.g rfl rfl
    have hs : swapsWith e' (some (.Subscript o' i' p)) pos.line X.env = pure false := by
      cases e' <;> rfl
    refine eitherS (ps_asg pe (pg_sub po pi set_list (fun v => by cases i' <;> first | rfl | (simp [plainE] at h1))) ((sole_eq _ _ _ _).trans hs) (by cases e' <;> rfl) (by rfl)) (ps_dput g.g.hu po pi pe hs) ?_
    rintro D σ H ⟨a1, ρ, m, st, sl, q⟩
    by_cases hd : ∃ v m1 x m2 y m3, evE F e ρ m = .ok v m1 ∧ evE F o ρ m1 = .ok x m2 ∧ evE F i ρ m2 = .ok y m3 ∧ refK m3 x = true
    · refine .inr ?_
      obtain ⟨d1, m1, d2, m2, d3, m3, e1, e2, e3, e4⟩ := hd
      simp only [evS] at q
      refine tS_go (f := _) st sl q fun v m1' a2 H2 v' e1' st1 sl1 rv x1 q1 => ?_
      rw [e1] at e1'
      cases e1'
      refine tS_go (f := _) st1 sl1 q1 fun x m2' a3 H3 x' e2' st2 sl2 rx x2 q2 => ?_
      rw [e2] at e2'
      cases e2'
      refine tS_go (f := _) st2 sl2 q2 fun y m3' a4 H4 y' e3' st3 sl3 ry x3 q3 => ?_
      rw [e3] at e3'
      cases e3'
      have rv' := (rv.mono x2).mono x3
      have rx' := rx.mono x3
      cases rx' <;> first | (simp [refK] at e4; done) | skip
      rename_i n p2 hp
      simp only [refK] at e4
      split at e4
      · rename_i kvs hm
        obtain ⟨ho, g1, g2⟩ := st3.at_ n p2 _ hp hm
        cases g2 with
        | @dct _ ks hl r =>
          simp only [putD, hm] at q3
          cases hk : keyD d3 with
          | none => rw [hk] at q3; exact False.elim q3
          | some kk =>
            rw [hk] at q3
            simp only at q3
            split at q3
            · rename_i m' hm'
              split at hm'
              · rename_i hz
                cases hm'
                have ek := key_rep ry hk
                subst ek
                have hz' : ks.length < sizeLine := by
                  rw [← r.length]
                  exact Nat.lt_of_lt_of_le hz (big_line (Nat.le_refl _))
                have r3 := put_rep kk rv' r
                refine ⟨p2, _, rfl, DPut.k g1 hz', ?_⟩
                have ro : RepO X.K H4 a4 p2 (.dct (putK kvs kk d1)) (.dK (L2.putK ks kk v')) := .dct (by
                  rw [r3.length]
                  exact Nat.le_trans (length_putK ks kk v') hz') r3
                exact q3 a4 _ σ (Ext.put hp) (st3.put hp g1 rfl ro) (sl3.mono (Ext.put hp))
              · cases hm'
            · exact False.elim q3
      · cases e4
    · refine .inl ?_
      simp only [evS] at q
      refine tS_go (f := _) st sl q fun v m1 a2 H2 v' e1 st1 sl1 rv x1 q1 => ?_
      refine tS_go (f := _) st1 sl1 q1 fun x m2 a3 H3 x' e2 st2 sl2 rx x2 q2 => ?_
      refine tS_go (f := _) st2 sl2 q2 fun y m3 a4 H4 y' e3 st3 sl3 ry x3 q3 => ?_
      have hnk : refK m3 x = false := by
        cases hr : refK m3 x with
        | false => rfl
        | true => exact absurd ⟨v, m1, x, m2, y, m3, e1, e2, e3, hr⟩ hd
      have rv' := (rv.mono x2).mono x3
      have rx' := rx.mono x3
      cases rx' <;> first | exact False.elim q3 | skip
      rename_i n p2 hp
      simp only [putD] at q3
      simp only [refK] at hnk
      cases hm : m3[n]? with
      | none => rw [hm] at q3; exact False.elim q3
      | some ob =>
        rw [hm] at q3 hnk
        cases ob with
        | dct kvs => cases hnk
        | ins c f => exact False.elim q3
        | dtt kvs => exact False.elim q3
        | lst ds =>
          obtain ⟨ho, g1, g2⟩ := st3.at_ n p2 _ hp hm
          cases g2 with
          | @lst _ xs hl r =>
            cases ry <;> first | exact False.elim q3 | skip
            rename_i ii
            simp only at q3
            cases hj : ixN ds.length ii with
            | none => rw [hj] at q3; exact False.elim q3
            | some j =>
              rw [hj] at q3
              refine ⟨p2, xs, ii, j, rfl, rfl, g1, by rw [← r.length]; exact hj, ?_⟩
              have ro : RepO X.K H4 a4 p2 (.lst (ds.set j v)) (.lst (xs.set j v')) := .lst (by rw [List.length_set]; exact hl) (RepVs.set rv' j r)
              exact q3 a4 _ σ (Ext.put hp) (st3.put hp g1 rfl ro) (sl3.mono (Ext.put hp))
  · cases h⟩
theorem s_expr (e : Ex) : SndS F fs (.expr e) := ⟨fun s N sc h X k g hN hS => by
  subst hN hS
  simp only [chkS] at h
  split at h
  · simp only [Bool.and_eq_true, Bool.not_eq_true'] at h
    refine weakS (ps_expr ((soundE e _ _ F fs).val _ _ _ h.2 X k g.g rfl rfl) (not_comp h.1.2 _ _ _)) ?_
    rintro D σ H ⟨a1, ρ, m, st, sl, q⟩
    exact tS_go (f := fun _ m1 => .nx ρ m1) st sl q fun d m1 a2 H2 v e1 st1 sl1 rv x1 q1 => q1 a2 H2 σ Ext.refl st1 sl1
  · cases h⟩
theorem s_ret (e : Ex) : SndS F fs (.ret e) := ⟨fun s N sc h X k g hN hS => by
  subst hN hS
  simp only [chkS] at h
  split at h
  · refine weakS (ps_ret ((soundE e _ _ F fs).val _ _ _ h X k g.g rfl rfl)) ?_
    rintro D σ H ⟨a1, ρ, m, st, sl, q⟩
    exact tS_go (f := fun d m1 => .rt d m1) st sl q fun d m1 a2 H2 v e1 st1 sl1 rv x1 q1 => q1 a2 H2 v Ext.refl st1 rv
  · cases h⟩
theorem s_pass : SndS F fs .pass := ⟨fun s N sc h X k g hN hS => by
  simp only [chkS] at h
  split at h
  · exact weakS ps_pass fun D σ H ⟨a1, ρ, m, st, sl, q⟩ => q a1 H σ Ext.refl st sl
  · cases h⟩
theorem s_never : SndS F fs .never := ⟨fun s N sc h X k g hN hS => weakS ps_never fun D σ H ⟨a1, ρ, m, st, sl, q⟩ => q⟩
theorem s_iff {c : Ex} {a b : Sms} (ha : SndSs F fs a) (hb : SndSs F fs b) : SndS F fs (.iff c a b) := ⟨fun s N sc h X k g hN hS => by
  subst hN hS
  simp only [chkS] at h
  split at h
  · simp only [Bool.and_eq_true] at h
    refine weakS (ps_if ((soundE c _ _ F fs).tst _ _ _ h.1.1 X k g.g rfl rfl) (ha.sts _ _ _ h.1.2 X k g rfl rfl) (hb.sts _ _ _ h.2 X k g rfl rfl)) ?_
    rintro D σ H ⟨a1, ρ, m, st, sl, q⟩
    have q' : TrS X.K a1 H ((evE F c ρ m).go fun d m1 => match d with | .bl true => (fun t : Bool => fun m1 => if t = true then evSs F a ρ m1 else evSs F b ρ m1) true m1 | .bl false => (fun t : Bool => fun m1 => if t = true then evSs F a ρ m1 else evSs F b ρ m1) false m1 | _ => .bad) D := by
      simp only [evS] at q
      exact q
    refine tT_go (f := fun t m1 => if t = true then evSs F a ρ m1 else evSs F b ρ m1) st sl q' fun t m1 a2 H2 st1 sl1 x1 q1 => ?_
    cases t with
    | true => exact iteT ⟨a2, ρ, m1, st1, sl1, q1⟩
    | false => exact iteF ⟨a2, ρ, m1, st1, sl1, q1⟩
  · cases h⟩
theorem s_whil {c : Ex} {b : Sms} (hb : SndSs F fs b) : SndS F fs (.whil c b) := ⟨fun s N sc h X k g hN hS => by
  subst hN hS
  simp only [chkS] at h
  split at h
  · simp only [Bool.and_eq_true] at h
    refine weakS (ps_while (g.po h.1.1) ((soundE c _ _ F fs).tst _ _ _ h.1.2 X k g.g rfl rfl) (hb.sts _ _ _ h.2 X k g rfl rfl)) ?_
    rintro D σ H ⟨a1, ρ, m, st, sl, q⟩
    refine ⟨fun n σ' H' => ∃ a ρ m, MRel X.K a m H' ∧ SRel X.K a H' ρ σ' ∧ TrS X.K a H' (whileL (fun ρ' m' => evE F c ρ' m') (fun ρ' m' => evSs F b ρ' m') n ρ m) D, ⟨F.wf, a1, ρ, m, st, sl, by simpa only [evS] using q⟩, ?_⟩
    rintro n σ' H' ⟨a2, ρ2, m2, st2, sl2, q2⟩
    cases n with
    | zero => exact False.elim q2
    | succ n =>
      have q3 : TrS X.K a2 H' ((evE F c ρ2 m2).go fun d m1 => match d with
        | .bl true => (fun t : Bool => fun m1 => if t = true then (evSs F b ρ2 m1).thn fun ρ' m' => whileL (fun ρ' m' => evE F c ρ' m') (fun ρ' m' => evSs F b ρ' m') n ρ' m' else .nx ρ2 m1) true m1
        | .bl false => (fun t : Bool => fun m1 => if t = true then (evSs F b ρ2 m1).thn fun ρ' m' => whileL (fun ρ' m' => evE F c ρ' m') (fun ρ' m' => evSs F b ρ' m') n ρ' m' else .nx ρ2 m1) false m1
        | _ => .bad) D := by
        simp only [whileL] at q2
        exact q2
      refine tT_go (f := fun t m1 => if t = true then (evSs F b ρ2 m1).thn fun ρ' m' => whileL (fun ρ' m' => evE F c ρ' m') (fun ρ' m' => evSs F b ρ' m') n ρ' m' else .nx ρ2 m1) st2 sl2 q3 fun t m3 a3 H3 st3 sl3 x3 q4 => ?_
      cases t with
      | false => exact iteF (q4 a3 H3 σ' Ext.refl st3 sl3)
      | true =>
        refine iteT ⟨fun σ4 H4 => ∃ m', m' < n + 1 ∧ ∃ a ρ m, MRel X.K a m H4 ∧ SRel X.K a H4 ρ σ4 ∧ TrS X.K a H4 (whileL (fun ρ' m' => evE F c ρ' m') (fun ρ' m' => evSs F b ρ' m') m' ρ m) D, fun σ4 H4 z => z, a3, ρ2, m3, st3, sl3, ?_⟩
        exact TrS.thn q4 fun ρ4 m4 a4 H4 σ4 x4 st4 sl4 q5 => ⟨n, Nat.lt_succ_self _, a4, ρ4, m4, st4, sl4, q5⟩
  · cases h⟩
theorem forL_guard {K : PySem.W.Frag} {a : Ad} {H : Hp} {Z : Ends} {tg : Tg} {gd : Mem → Bool} {b : Sl → Mem → Rs} {xs : List D} {ρ : Sl} {m : Mem} (q : TrS K a H (forL tg gd b xs ρ m) Z) : gd m = true := by
  cases hg : gd m with
  | true => rfl
  | false =>
    cases xs with
    | nil => simp only [forL, hg] at q; exact q.elim
    | cons d r => simp only [forL, hg] at q; exact q.elim
theorem s_for {tg : Tg} {w : Wk} {it : Exs} {b : Sms} (hb : SndSs F fs b) : SndS F fs (.for tg w it b) := ⟨fun s N sc h X k g hN hS => by
  subst hN hS
  simp only [chkS] at h
  split at h
  · simp only [Bool.and_eq_true] at h
    obtain ⟨⟨⟨⟨⟨⟨⟨hcm, h0⟩, h1⟩, h2⟩, h3⟩, h4⟩, h5⟩, h6⟩ := h
    have av := g.g.avs h0
    refine weakS (ps_for (g.po hcm) (g.g.calm hcm) (walk_ok g.g (soundEs it _ _ F fs) h2 h3 h4 h5) (sound_tg (loc_def g) g.g.nd (fun _ => g.g.calm hcm) av h1) (hb.sts _ _ _ h6 X k g rfl rfl) (plain_set h2 _)) ?_
    rintro D σ H ⟨a1, ρ, m, st, sl, q⟩
    simp only [evS] at q
    cases e1 : evEs F it ρ m with
    | bad => rw [e1] at q; exact False.elim q
    | ex _ _ _ => rw [e1] at q; exact False.elim q
    | ok ds m1 =>
      rw [e1] at q
      simp only [Res.nox, Res.go] at q
      cases e2 : walkD m1 w ds with
      | none => rw [e2] at q; exact False.elim q
      | some xs =>
        rw [e2] at q
        refine ⟨a1, ρ, m, ds, m1, xs, st, sl, e1, e2, fun J a2 H2 x2 st2 wk hz => ?_⟩
        refine ⟨fun i n σ' H' => n = xs.length - i ∧ i ≤ xs.length ∧ ∃ a ρ m, Kp a2 H2 a H' ∧ MRel X.K a m H' ∧ SRel X.K a H' ρ σ' ∧ TrS X.K a H' (forL tg (walkG m1 w ds) (fun ρ' m' => evSs F b ρ' m') (xs.drop i) ρ m) D, ⟨xs.length, by simp, Nat.zero_le _, a2, ρ, m1, Kp.refl, st2, sl.mono x2, TrS.mono (by simpa using q) x2⟩, ?_⟩
        rintro i n σ' H' ⟨rfl, hi, a3, ρ3, m3, kp, st3, sl3, q3⟩
        have hg : walkG m1 w ds m3 = true := forL_guard q3
        obtain ⟨w1, w2⟩ := wk _ m3 H' kp st3 hg
        by_cases hlt : i < xs.length
        · refine .inr ⟨(w1 i hlt).1, fun σ4 H4 => ∃ m', m' < xs.length - i ∧ (m' = xs.length - (i + 1) ∧ i + 1 ≤ xs.length ∧ ∃ a ρ m, Kp a2 H2 a H4 ∧ MRel X.K a m H4 ∧ SRel X.K a H4 ρ σ4 ∧ TrS X.K a H4 (forL tg (walkG m1 w ds) (fun ρ' m' => evSs F b ρ' m') (xs.drop (i + 1)) ρ m) D), fun σ4 H4 z => z, fun x H4 hy => ?_⟩
          obtain ⟨d, hd, xe, st4, rd⟩ := (w1 i hlt).2 x H4 hy
          have hdrop : xs.drop i = d :: xs.drop (i + 1) := by
            rw [List.drop_eq_getElem_cons hlt]
            have : xs[i] = d := by
              rw [List.getElem?_eq_getElem hlt] at hd
              exact Option.some.inj hd
            rw [this]
          rw [hdrop] at q3
          simp only [forL, hg, if_true] at q3
          cases hbd : bindT m3 tg d ρ3 with
          | none => rw [hbd] at q3; exact False.elim q3
          | some ρ1 =>
            rw [hbd] at q3
            refine ⟨a3, m3, d, ρ3, ρ1, st4, rd, sl3.mono xe, hbd, fun σ5 sl5 _ => ⟨a3, ρ1, m3, st4, sl5, ?_⟩⟩
            exact TrS.thn (TrS.mono q3 xe) fun ρ6 m6 a6 H6 σ6 x6 st6 sl6 q6 => ⟨_, by omega, rfl, hlt, a6, ρ6, m6, kp.trans (xe.kp.trans x6.kp), st6, sl6, q6⟩
        · have e : i = xs.length := by omega
          subst e
          rw [List.drop_length] at q3
          simp only [forL, hg, if_true] at q3
          exact .inl ⟨w2 _ (Nat.le_refl _), q3 a3 H' σ' Ext.refl st3 sl3⟩
  · cases h⟩
end
end Br


set_option Elab.async false
set_option linter.all false
set_option maxRecDepth 100000
set_option maxHeartbeats 1000000
set_option autoImplicit false
/-! Br: raise, try. -/
namespace Br
open PySem PySem.Spec PyProof.Rows L2
variable [LamTab] [LamCl] [ExC]
section
variable {F : Fe} {fs : FS}
theorem xok_here {K : PySem.W.Frag} {a : Ad} {H : Hp} {m : Mem} {c : Str} {ds : List D} (st : MRel K a m H) (q : XOk K a H c ds m) {C : Addr} {d : Option Addr} (hm : ExC.mg c = some (.ref C)) (x : XRel K a H (flds c) ds d) : ExC.E (.ref C) d H := q a H C d Ext.refl st hm x
theorem s_rais (c : Str) (es : Exs) : SndS F fs (.rais c es) := ⟨fun s N sc h X k g hN hS => by
  subst hN hS
  simp only [chkS] at h
  split at h
  · rename_i x p es' cp pos
    simp only [Bool.and_eq_true, decide_eq_true_eq] at h
    obtain ⟨⟨⟨⟨⟨hcm, hxk⟩, rfl⟩, hg⟩, hx⟩, hes⟩ := h
    by_cases hlow : F.low.isSome = true
    · obtain ⟨c2, hc2⟩ := Option.isSome_iff_exists.mp hlow
      obtain ⟨j, hj, _⟩ := g.g.lo c2 hc2
      obtain ⟨C, sp, hC, mk1, mk2⟩ := g.g.mkx hxk (by omega) x hx
      have hmg : ExC.mg x = some (.ref C) := by rw [g.g.xm]; exact hC
      by_cases hfl : flds x = []
      · have key : ∃ v j2 p2, es' = [.Constant (.str v) j2 p2] ∧ es = .nil := by
          split at hes
          · rename_i v j2 p2
            cases es with
            | nil => exact ⟨v, j2, p2, rfl, rfl⟩
            | cons _ _ => simp [hfl] at hes
          · cases hes
          · simp [hfl] at hes
        obtain ⟨v, j2, p2, rfl, rfl⟩ := key
        refine weakS (ps_raise (g.g.calm hcm) g.g.tk (mk2 hfl v j2 p p2 cp (glB_of hg))) ?_
        rintro D σ H ⟨a, ρ, m, st, sl, q⟩
        simp only [evS, hlow, if_true, evEs, Res.go, hx, hfl, List.length_nil, and_self] at q
        exact xok_here st q hmg (show XRel X.K a H (flds x) [] none from ⟨hfl, rfl⟩)
      · have key : ∃ e r, es' = e :: r ∧ chkEs fs X.N X.env.scope es es' = true := by
          have hne : (flds x).isEmpty = false := by simpa using hfl
          split at hes
          · rename_i v j2 p2
            cases es with
            | nil => rw [hne] at hes; cases hes
            | cons _ _ => simp only [hne, Bool.not_false, Bool.true_and] at hes; exact ⟨_, _, rfl, hes⟩
          · cases hes
          · simp only [hne, Bool.not_false, Bool.true_and] at hes
            rename_i hh
            cases es' with
            | nil => exact absurd rfl hh
            | cons e r => exact ⟨e, r, rfl, hes⟩
        obtain ⟨e, r, rfl, hch⟩ := key
        have pa := (soundEs es _ _ F fs).args _ _ _ hch X k g.g rfl rfl
        have s2 : (backTo cp (starEach r X.env)).any (·.1) = false := by
          cases es with
          | nil => simp [chkEs] at hch
          | cons y t =>
            simp only [chkEs, Bool.and_eq_true] at hch
            exact star_any hch.2 _ _
        refine weakS (ps_raise (g.g.calm hcm) g.g.tk ((mk1 hfl).1 e r _ p cp (glB_of hg) pa (star_plain (plain_head hch) _ _) s2)) ?_
        rintro D σ H ⟨a, ρ, m, st, sl, q⟩
        simp only [evS, hlow, if_true] at q
        refine tA_go (f := _) st sl q fun ds m1 a1 H1 vs e1 st1 sl1 rv x1 q1 => ?_
        split at q1
        · rename_i hl
          have hvl : vs.length = (flds x).length := by rw [← rv.length]; exact hl.2
          refine ⟨by have := flds_few (c := x); omega, (mk1 hfl).2 vs H1 _ hvl fun d fs2 hd hlk => ?_⟩
          have e2 : Ext a1 H1 a1 (upd H1 d (.xd fs2)) := Ext.new hd
          exact xok_here (st1.fresh hd) (XOk.mono q1 e2) hmg (show XRel X.K a1 (upd H1 d (.xd fs2)) (flds x) ds (some d) from ⟨fs2, vs, upd_same, st1.out hd, rv.mono e2, hl.2, hlk⟩)
        · exact False.elim q1
    · refine weakS ps_never ?_
      rintro D σ H ⟨a, ρ, m, st, sl, q⟩
      simp only [evS, if_neg hlow] at q
      exact q
  · cases h⟩
theorem zip_look {K : PySem.W.Frag} {H : Hp} {a : Ad} {f : Str} {d : D} : ∀ {fl : List Str} {ds : List D} {vs : List V}, RepVs K H a ds vs → (fl.zip ds).lookup f = some d → f ∈ fl ∧ ∃ v, (fl.zip vs).lookup f = some v ∧ RepV K H a d v
  | [], _, _, _, e => by simp at e
  | _ :: _, _, _, .nil, e => by simp at e
  | g :: fl, _, _, .cons (v := v) h t, e => by
    rw [List.zip_cons_cons, List.lookup_cons] at e
    rw [List.zip_cons_cons, List.lookup_cons]
    by_cases hfg : (f == g) = true
    · rw [hfg] at e ⊢
      cases e
      exact ⟨by rw [beq_iff_eq.mp hfg]; exact List.mem_cons_self, v, rfl, h⟩
    · have hfg : (f == g) = false := by simpa using hfg
      rw [hfg] at e ⊢
      obtain ⟨h1, h2⟩ := zip_look t e
      exact ⟨List.mem_cons_of_mem _ h1, h2⟩
end
theorem xc_fact {X : Cx} {F : Fe} {a C' : Addr} {oe : Obj} {d : Option Addr} {pn : List (Addr × Obj)} {c' : Str} {ds : List D} {a0 : Ad} {H0 : Hp} {i : Nat} (hz : Zc (.ref C') d oe) (hf : ∃ vs, oe.data = .fields vs) (kf : ClsFact X.K X.mg C' c')
    (all : ∀ c, (xcls.lookup c).isSome = true → ∃ C, X.mg c = some (.ref C)) (hv : X.mg "ValueError" = none) (xr : XRel X.K a0 H0 (flds c') ds d) : @XcFact ⟨[(i, a)], a0, H0⟩ (X.suite a ((a, oe) :: pn)) (F.caught c' ds) (i, a) := by
  letI : LamCl := ⟨[(i, a)], a0, H0⟩
  refine ⟨fun c b hb hc => ?_, fun c b hb hc => all c hc, fun f d' hd y np pos hi hvis hok => ?_⟩
  · have hb : some (xsub c' c) = some b := hb
    cases hb
    intro pins s σ H xs us Q I r h
    obtain ⟨v, rfl, hcv, ⟨a1, kp⟩, q⟩ := h
    cases r with
    | cons rx rr =>
      cases rr with
      | cons rt rr =>
        cases rr
        cases rx
        obtain ⟨hget, _⟩ := I.pin (a, oe) (List.mem_append.mpr (.inl List.mem_cons_self))
        obtain ⟨vs, hdt⟩ := hf
        obtain ⟨cd, hcd, _⟩ := PySem.W.any_some kf.xc.hd
        have hcl : (PySem.W.clsIn X.K C').isSome = true := by rw [hcd]; rfl
        have J : ∃ od, PySem.W.InstAt s.heap a oe C' od := by
          have hno : PySem.W.notCls oe = true := by unfold PySem.W.notCls; rw [hdt] <;> rfl
          cases d with
          | none => exact ⟨none, hget, hz.1, hno, by rw [hz.2]; exact trivial⟩
          | some p =>
            obtain ⟨fs, vs2, h1, h2, _⟩ := xr
            obtain ⟨k1, _⟩ := kp.keep p _ h1 h2 (by intro _ z; cases z)
            obtain ⟨o, ho⟩ := objOk_get (I.hok p _ k1)
            exact ⟨some o, hget, hz.1, hno, by rw [hz.2]; exact ho⟩
        obtain ⟨od, J⟩ := J
        have fin : ∀ {cv : Value}, PySem.W.kitOne X.K (.ref C') cv = some (xsub c' c) → wpAny (model X.prog X.w) (X.suite a ((a, oe) :: pn)).A (call (.builtin "isinstance") [.ref a, cv]) (EP (X.suite a ((a, oe) :: pn)) pins σ Q) (X.suite a ((a, oe) :: pn)).xe s := fun {cv} e =>
          PySem.W.kia_one (PySem.W.kitx_exc hcl kf.xc.hg kf.xc.hk kf.xc.hs kf.xc.ha kf.xc.hn kf.xc.ht kf.xc.hm) I.kIn J e (fun z => nomatch z) fun tk => ⟨.bl (xsub c' c), H, I.kept (t' := tk) fun _ _ z => z, rfl, q⟩
        rcases hcv with ⟨C, hC, rfl⟩ | ⟨rfl, rfl⟩
        · rcases hc with hc | rfl
          · cases rt
            exact fin (kf.sub c C hc hC).2
          · have hC : X.mg "ValueError" = some (.ref C) := hC
            rw [hv] at hC
            cases hC
        · have e : xsub c' "ValueError" = true := by simp [xsub]
          cases rt
          exact fin (by rw [e]; exact kf.subV)
  · have hd : ((flds c').zip ds).lookup f = some d' := hd
    cases d with
    | none =>
      obtain ⟨h1, h2⟩ := xr
      rw [h1] at hd
      simp at hd
    | some p =>
      obtain ⟨fs, vs, h1, h2, h3, h4, h5⟩ := xr
      obtain ⟨hmem, v, hlk, hrep⟩ := zip_look h3 hd
      obtain ⟨d1, d2, _⟩ := okN_d hok
      refine weakE (pe_xf (C := C') kf.xf (kf.noF f hmem) hz hf (pe_var hi hvis d1 d2)) ?_
      rintro σ H Q ⟨hs, a1, kp, q⟩
      obtain ⟨k1, k2⟩ := kp.keep p _ h1 h2 (by intro _ z; cases z)
      exact ⟨.ref a, hs, rfl, rfl, p, fs, v, rfl, k1, h5 f v hlk, q v (hrep.kp kp)⟩
section
variable {F : Fe} {fs : FS}
theorem s_tri {b : Sms} {c : Str} {i : Nat} {hd : Sms} (hb : ∀ ec : ExC, SndSs F fs.tryb b) (hh : ∀ (lc : LamCl) (ec : ExC) (F : Fe), SndSs F (FS.suite i) hd) : SndS F fs (.tri b c i hd) := ⟨fun s N sc h X k g hN hS => by
  subst hN hS
  simp only [chkS] at h
  split at h
  · rename_i b' x np n b0 h' pos' pos
    simp only [Bool.and_eq_true, decide_eq_true_eq] at h
    obtain ⟨⟨⟨⟨⟨⟨⟨⟨⟨hcm, hxk⟩, rfl⟩, hg⟩, hok⟩, hx⟩, hi⟩, hl⟩, h1⟩, h2⟩ := h
    obtain ⟨C, hC, kC⟩ := g.xf hxk x hx
    have hl : X.env.kindOf n = some .local := hl
    refine weakS (ps_try_as (x := x) (n := n) (c := .ref C) (i := i) (Wout := fun cls d _ H => ExC.E cls d H)
      (tb := fun W Z σ H => letI : ExC := ⟨fun cls d H => ∀ σ', σ'.length = σ.length → W cls d σ' H, X.mg⟩; tSt X.K (evSs F b) Z σ H)
      (ts := fun a cls d Z σ H => ∃ (c' : Str) (C' : Addr) (ds : List D) (a0 : Ad) (m : Mem) (n : Nat), (xcls.lookup c').isSome = true ∧ X.mg c' = some (.ref C') ∧ cls = .ref C' ∧ XRel X.K a0 H (flds c') ds d ∧ MRel X.K a0 m H ∧ n = σ.length ∧ σ[i]? = some (some (.ref a)) ∧
        (letI : LamCl := ⟨[(i, a)], a0, H⟩; letI : ExC := ExC.none X.mg; TrS X.K a0 H (evSs (F.caught c' ds) hd (List.replicate n none) m) Z))
      (g.hs hcm) g.hf g.g.nd hi hl ⟨glB_of hg, (okN_d hok).1, .inl hC⟩ g.g.tk ?_ ?_) ?_
    · intro W pn xe tkW po
      refine ⟨fun pins s σ H Z I hq => ?_⟩
      have G : @GoodS _ _ ⟨fun cls d H => ∀ σ', σ'.length = σ.length → W cls d σ' H, X.mg⟩ (X.tr pn xe) F k fs.tryb := by
        refine @GoodS.mk _ _ ⟨fun cls d H => ∀ σ', σ'.length = σ.length → W cls d σ' H, X.mg⟩ (X.tr pn xe) F k fs.tryb (@Good.mk _ _ ⟨fun cls d H => ∀ σ', σ'.length = σ.length → W cls d σ' H, X.mg⟩ (X.tr pn xe) F k fs.tryb g.g.calm g.g.nd g.g.room g.g.un g.g.fn g.g.blt g.g.glo g.g.av g.g.clv g.g.lo g.g.hof (fun z q hq => ?_) g.g.mkl ?_ rfl (fun z => Bool.noConfusion z) (fun z => Bool.noConfusion z)) g.fn (fun _ => po) g.kind g.hs g.hf (fun z => Bool.noConfusion z)
        · obtain ⟨l1, l2⟩ := g.g.lam z q hq
          exact ⟨fun pn2 xe2 => l1 pn2 xe2, fun pn2 xe2 E2 tk2 => l2 pn2 xe2 E2 tk2⟩
        · exact fun u s' ⟨a, B, sI, pins, σ2, H2, cls, d, e, I2, nb, up, sky, na, os, ag, w⟩ => tkW u s' ⟨a, B, sI, pins, σ2, H2, cls, d, e, I2, nb, up, sky, na, os, ag, w σ2 (by rw [I2.len, I.len])⟩
      exact (@SndSs.sts _ _ ⟨fun cls d H => ∀ σ', σ'.length = σ.length → W cls d σ' H, X.mg⟩ F fs.tryb b (hb _) _ _ _ h1 (X.tr pn xe) k G rfl rfl).run pins s σ H Z I hq
    · intro a oe cls d pn hz hf2
      refine ⟨fun pins s σ H Z I ⟨c', C', ds, a0, m, n, hx', hm', hcls, xr, st, hn, hsi, q⟩ => ?_⟩
      subst hcls
      obtain ⟨C2, hC2, kf⟩ := g.xf hxk c' hx'
      have e2 : C2 = C' := by
        rw [hm'] at hC2
        injection hC2 with z
        injection z with z
        exact z.symm
      subst e2
      have XC := xc_fact (X := X) (F := F) (a := a) (pn := pn) (c' := c') (ds := ds) (a0 := a0) (H0 := H) (i := i) hz hf2 kf (fun c hc => let ⟨C, z, _⟩ := g.xf hxk c hc; ⟨C, z⟩) (g.g.blt _ (by decide)) xr
      have G : @GoodS _ ⟨[(i, a)], a0, H⟩ (ExC.none X.mg) (X.suite a ((a, oe) :: pn)) (F.caught c' ds) k (FS.suite i) := by
        refine @GoodS.mk _ ⟨[(i, a)], a0, H⟩ (ExC.none X.mg) (X.suite a ((a, oe) :: pn)) (F.caught c' ds) k (FS.suite i) (@Good.mk _ ⟨[(i, a)], a0, H⟩ (ExC.none X.mg) (X.suite a ((a, oe) :: pn)) (F.caught c' ds) k (FS.suite i) (fun z => Bool.noConfusion z) g.g.nd (fun z => Bool.noConfusion z) g.g.un (fun f hf => nomatch hf) g.g.blt g.g.glo (fun q hq => ?_) (fun z => Bool.noConfusion z)
          (fun c2 hc2 => ?_) (fun f hf => nomatch hf) (fun z => Bool.noConfusion z) (fun z => Bool.noConfusion z) (takes_no fun _ _ _ _ h => h) rfl (fun z => Bool.noConfusion z) (fun _ => ⟨rfl, fun q hq => ?_⟩)) g.fn (fun z => Bool.noConfusion z) g.kind (fun z => Bool.noConfusion z) g.hf (fun z => Bool.noConfusion z)
        · have hq : q = (i, a) := List.mem_singleton.mp hq
          rw [hq]
          exact List.mem_singleton.mpr rfl
        · obtain ⟨j, hj, _⟩ := g.g.lo c2 hc2
          exact ⟨j, hj, fun f hf => nomatch hf⟩
        · have hq : q = (i, a) := List.mem_singleton.mp hq
          rw [hq]
          exact XC
      refine (@SndSs.sts _ ⟨[(i, a)], a0, H⟩ (ExC.none X.mg) (F.caught c' ds) (FS.suite i) hd (hh _ _ _) _ _ _ h2 _ k G rfl rfl).run pins s σ H Z I ⟨a0, List.replicate n none, m, st, ?_, q⟩
      refine @SRel.mk X.K ⟨[(i, a)], a0, H⟩ a0 H _ _ (by rw [List.length_replicate]; exact hn) (fun j d e => ?_) (fun q hq => ?_) (fun _ => Kp.refl)
      · obtain ⟨_, e3⟩ := List.getElem?_eq_some_iff.mp e
        simp at e3
      · have hq : q = (i, a) := List.mem_singleton.mp hq
        rw [hq]
        exact hsi
    · rintro Z σ H ⟨a, ρ, m, st, sl, q⟩
      refine ⟨a, ρ, m, st, sl, ?_⟩
      simp only [evS] at q
      cases e : evSs F b ρ m with
      | bad => rw [e] at q; exact q
      | nx ρ' m' => rw [e] at q; exact q
      | rt d m' => rw [e] at q; exact q
      | ex c' ds m' =>
        rw [e] at q
        simp only at q
        split at q
        · rename_i hc
          intro a' H' C' d x1 st1 hm xr σ' hlen
          obtain ⟨C2, hC2, kf⟩ := g.xf hxk c' hc.1
          have hm : X.mg c' = some (.ref C') := hm
          have e2 : C2 = C' := by
            rw [hm] at hC2
            injection hC2 with z
            injection z with z
            exact z.symm
          subst e2
          refine ⟨true, by rw [(kf.sub x C hx hC).1, hc.2.1], fun _ p hp => ?_, fun z => Bool.noConfusion z⟩
          have hil : i < σ'.length := by rw [hlen, ← sl.len]; exact hc.2.2
          refine ⟨c', C2, ds, a', m', ρ.length, hc.1, hm, rfl, xr, st1, by rw [List.length_set, hlen, sl.len], by rw [List.getElem?_set_self hil], ?_⟩
          cases e3 : evSs (F.caught c' ds) hd (List.replicate ρ.length none) m' with
          | rt d2 m2 =>
            rw [e3] at q
            exact fun a2 H2 v x2 => q a2 H2 v (x1.trans x2)
          | _ => rw [e3] at q; exact False.elim q
        · exact False.elim q
  · cases h⟩
end
end Br


set_option Elab.async false
set_option linter.all false
set_option maxRecDepth 100000
set_option maxHeartbeats 1000000
set_option autoImplicit false
/-! Br: lists and dicts that change; all statements; defs. -/
namespace Br
open PySem PySem.Spec PyProof.Rows L2
variable [LamTab] [LamCl] [ExC]
section
variable {F : Fe} {fs : FS}
theorem base_ok {e : Expr} (h : noCall e = true) (x : Str) (env : Env) : attributeBase e x env (eval e env) = eval e env := by
  cases e <;> first | rfl | skip
  rename_i f as ks p
  cases as with
  | nil =>
    cases ks with
    | nil => simp [noCall] at h
    | cons _ _ => cases f <;> rfl
  | cons _ _ => cases f <;> rfl
theorem few_ok {e : Expr} (h : plainE e = true) (pos : Pos) (env : Env) : ((backTo pos (starEach (e :: []) env)).all (fun x => !x.1) && (backToKw pos (keywordEach [] env)).all (fun x => x.1.isSome)
      && decide ((e :: []).length + ([] : List Keyword).length + (if ([] : List Keyword).isEmpty then 0 else 1) < 30)) = true := by
  rw [star_plain h]
  rfl
theorem tree_ok {e : Expr} (h : plainE e = true) (pos : Pos) (env : Env) : backTo pos (starEach [e] env) = [(false, eval e env)] := by
  rw [star_plain h]
  rfl
/-- the list of the store is one -/
theorem refL_of {K : PySem.W.Frag} {H : Hp} {a : Ad} {m : Mem} (st : MRel K a m H) {d : D} {x : V} (r : RepV K H a d x) (h : refL m d = true) : ∃ (n : Nat) (p : Addr) (ds : List D) (xs : List V), d = .ref n ∧ x = .ref p ∧ a.st[n]? = some p ∧ m[n]? = some (.lst ds) ∧ H p = some (.lst xs) ∧ ds.length ≤ sizeLine ∧ RepVs K H a ds xs := by
  cases r <;> first | (simp [refL] at h; done) | skip
  rename_i n p hp
  simp only [refL] at h
  split at h
  · rename_i ds hm
    obtain ⟨ho, g1, g2⟩ := st.at_ n p _ hp hm
    cases g2 with
    | @lst _ xs hl r => exact ⟨n, p, ds, xs, rfl, rfl, hp, hm, g1, hl, r⟩
  · cases h
theorem refK_of {K : PySem.W.Frag} {H : Hp} {a : Ad} {m : Mem} (st : MRel K a m H) {d : D} {x : V} (r : RepV K H a d x) (h : refK m d = true) : ∃ (n : Nat) (p : Addr) (kvs : List (Key × D)) (ks : List (Key × V)), d = .ref n ∧ x = .ref p ∧ a.st[n]? = some p ∧ m[n]? = some (.dct kvs) ∧ H p = some (.dK ks) ∧ kvs.length ≤ sizeLine ∧ RepK K H a kvs ks := by
  cases r <;> first | (simp [refK] at h; done) | skip
  rename_i n p hp
  simp only [refK] at h
  split at h
  · rename_i kvs hm
    obtain ⟨ho, g1, g2⟩ := st.at_ n p _ hp hm
    cases g2 with
    | @dct _ ks hl r => exact ⟨n, p, kvs, ks, rfl, rfl, hp, hm, g1, hl, r⟩
  · cases h
theorem tyL {K : PySem.W.Frag} {H : Hp} {p : Addr} {xs : List V} (h : H p = some (.lst xs)) : tyV K "list" (.ref p) H := Or.inl ⟨rfl, _, SqL.of h⟩
/-- a list's method that tells nothing -/
theorem lm_read {K : PySem.W.Frag} {f : Lm} {o : Ex} {es : Exs} {r : V → List V → Hp → VK → Prop}
    (hr : ∀ {a : Ad} {m m' : Mem} {H : Hp} {d : D} {x : V} {ds : List D} {vs : List V} {Q : VK}, MRel K a m H → RepV K H a d x → RepVs K H a ds vs → lmD m f d ds = some m' → (∀ H', Ext a H a H' → MRel K a m' H' → Q .non H') → r x vs H Q)
    {Z : Ends} {σ : L2.St} {H : Hp} (h : tSt K (evS F (.lm f o es)) Z σ H) : tDrop (tBM K "list" r (tS K (evE F o)) (tA K (evEs F es))) Z σ H := by
  obtain ⟨a, ρ, m, st, sl, q⟩ := h
  simp only [evS] at q
  refine tS_go (f := _) st sl q fun d m1 a1 H1 v e1 st1 sl1 rv x1 q1 => ?_
  split at q1
  · rename_i hL
    obtain ⟨n, p, ds0, xs0, rfl, rfl, hp, hm, hH, hl, rr⟩ := refL_of st1 rv hL
    refine ⟨tyL hH, ?_⟩
    refine tA_go (f := _) st1 sl1 q1 fun ds m2 a2 H2 vs e2 st2 sl2 rvs x2 q2 => ?_
    cases hlm : lmD m2 f (.ref n) ds with
    | none => rw [hlm] at q2; exact False.elim q2
    | some m' =>
      rw [hlm] at q2
      exact hr st2 (rv.mono x2) rvs hlm fun H' x' st' => q2 a2 H' σ x' st' (sl2.mono x')
  · exact False.elim q1
theorem lm_ok {K : PySem.W.Frag} {a : Ad} {m m' : Mem} {H : Hp} {f : Lm} {d : D} {x : V} {ds : List D} (st : MRel K a m H) (rd : RepV K H a d x) (h : lmD m f d ds = some m') :
    ∃ (n : Nat) (p : Addr) (es : List D) (xs : List V), d = .ref n ∧ x = .ref p ∧ a.st[n]? = some p ∧ m[n]? = some (.lst es) ∧ H p = some (.lst xs) ∧ es.length ≤ sizeLine ∧ RepVs K H a es xs := by
  refine refL_of st rd ?_
  unfold lmD at h
  split at h
  · rename_i n
    simp only [refL]
    split at h
    · rfl
    · cases h
  · cases h
theorem s_lm (f : Lm) (o : Ex) (es : Exs) : SndS F fs (.lm f o es) := ⟨fun s N sc h X k g hN hS => by
  subst hN hS
  simp only [chkS] at h
  split at h
  · rename_i o' x ap es' cp pos
    simp only [Bool.and_eq_true, decide_eq_true_eq, beq_iff_eq] at h
    obtain ⟨⟨⟨⟨⟨rfl, h2⟩, h3⟩, h4⟩, h5⟩, h6⟩ := h
    have po := (soundE o _ _ F fs).val _ _ _ h5 X k g.g rfl rfl
    have pa := (soundEs es _ _ F fs).args _ _ _ h6 X k g.g rfl rfl
    have h3' : (ap.endLine == cp.line) = true := by simpa using h3
    cases f with
    | append =>
      obtain ⟨e', rfl⟩ := one_list (show es'.length = 1 from h4)
      have hp := plain_head h6
      refine weakS (ps_expr (pe_bm PySem.F.plainAttrs_list PySem.F.slot_list_append PySem.F.type_list_append mt_append po pa (base_ok h2 _ _) (few_ok hp _ _) h3' (star_plain hp _ _) rfl)) fun D σ H => lm_read fun {a m m' H d x ds vs Q} st rd rvs hlm k => ?_
      obtain ⟨n, p, es0, xs0, rfl, rfl, hp1, hm, hH, hl, rr⟩ := lm_ok st rd hlm
      simp only [lmD, hm] at hlm
      split at hlm <;> first | (cases hlm; done) | skip
      · rename_i v
        split at hlm
        · rename_i hz
          cases hlm
          cases rvs with
          | cons rv t =>
            cases t
            refine ⟨p, xs0, _, rfl, rfl, hH, by rw [← rr.length]; exact Nat.lt_of_lt_of_le hz (big_line (Nat.le_refl _)), ?_⟩
            refine k _ (Ext.put hp1) (st.put hp1 hH rfl (.lst ?_ (rr.append (.cons rv .nil))))
            rw [List.length_append, List.length_singleton]
            exact Nat.le_trans hz (big_line (Nat.le_refl _))
        · cases hlm
      all_goals (rename_i hh; cases hh)
    | extend =>
      obtain ⟨e', rfl⟩ := one_list (show es'.length = 1 from h4)
      have hp := plain_head h6
      refine weakS (ps_expr (pe_bm PySem.F.plainAttrs_list PySem.F.slot_list_extend PySem.F.type_list_extend mt_extend po pa (base_ok h2 _ _) (few_ok hp _ _) h3' (star_plain hp _ _) rfl)) fun D σ H => lm_read fun {a m m' H d x ds vs Q} st rd rvs hlm k => ?_
      obtain ⟨n, p, es0, xs0, rfl, rfl, hp1, hm, hH, hl, rr⟩ := lm_ok st rd hlm
      simp only [lmD, hm] at hlm
      split at hlm <;> first | (cases hlm; done) | skip
      · rename_i hh; cases hh
      · rename_i v
        split at hlm
        · rename_i es1 he
          split at hlm
          · rename_i hz
            cases hlm
            have hz' := big_line hz
            have fin : ∀ (b : Addr) (zs : List V), vs = [.ref b] → H b = some (.lst zs) → RepVs X.K H a es1 zs → rExtend (V.ref p) vs H Q := fun b zs hv hb rz => by
              subst hv
              exact ⟨p, b, xs0, zs, rfl, rfl, hH, hb, by rw [← rr.length, ← rz.length]; exact hz', k _ (Ext.put hp1) (st.put hp1 hH rfl (.lst (by rw [List.length_append]; exact hz') (rr.append rz)))⟩
            cases rvs with
            | cons rv t =>
              cases t
              cases rv <;> simp only [extD] at he <;> first | (cases he; done) | skip
              case lst ds2 b zs hb hn hl2 rz => cases he; exact fin b zs rfl hb rz
              case ref n2 b hb =>
                split at he
                · rename_i ds2 hm2
                  cases he
                  obtain ⟨ho, g1, g2⟩ := st.at_ n2 b _ hb hm2
                  cases g2 with
                  | @lst _ zs hl2 rz => exact fin b zs rfl g1 rz
                · cases he
          · cases hlm
        · cases hlm
      all_goals (rename_i hh; cases hh)
    | reverse =>
      have : es' = [] := List.eq_nil_of_length_eq_zero h4
      subst this
      have hes : es = .nil := by
        cases es with
        | nil => rfl
        | cons _ _ => simp [chkEs] at h6
      subst hes
      refine weakS (ps_expr (pe_bm0 PySem.F.plainAttrs_list PySem.F.slot_list_reverse PySem.F.type_list_reverse mt_reverse po (base_ok h2 _ _) h3')) fun D σ H h => ?_
      have := lm_read (r := rReverse) (fun {a m m' H d x ds vs Q} st rd rvs hlm k => ?_) h
      · obtain ⟨a, ρ, m, st, sl, q⟩ := this
        refine ⟨a, ρ, m, st, sl, ?_⟩
        revert q
        cases evE F o ρ m with
        | bad => exact id
        | ex _ _ _ => exact id
        | ok d m1 =>
          intro q a1 H1 v x1 st1 rv
          obtain ⟨t1, a2, ρ2, m2, st2, sl2, q2⟩ := q a1 H1 v x1 st1 rv
          exact ⟨t1, q2 a2 H1 [] Ext.refl st2 .nil⟩
      · obtain ⟨n, p, es0, xs0, rfl, rfl, hp1, hm, hH, hl, rr⟩ := lm_ok st rd hlm
        simp only [lmD, hm] at hlm
        split at hlm <;> first | (cases hlm; done) | skip
        · rename_i hh; cases hh
        · rename_i hh; cases hh
        · cases hlm
          cases rvs
          exact ⟨p, xs0, rfl, rfl, hH, k _ (Ext.put hp1) (st.put hp1 hH rfl (.lst (by rw [List.length_reverse]; exact hl) rr.reverse))⟩
        · rename_i hh; cases hh
    | clear =>
      have : es' = [] := List.eq_nil_of_length_eq_zero h4
      subst this
      have hes : es = .nil := by
        cases es with
        | nil => rfl
        | cons _ _ => simp [chkEs] at h6
      subst hes
      refine weakS (ps_expr (pe_bm0 PySem.F.plainAttrs_list PySem.F.slot_list_clear PySem.F.type_list_clear mt_clear po (base_ok h2 _ _) h3')) fun D σ H h => ?_
      have := lm_read (r := rClear) (fun {a m m' H d x ds vs Q} st rd rvs hlm k => ?_) h
      · obtain ⟨a, ρ, m, st, sl, q⟩ := this
        refine ⟨a, ρ, m, st, sl, ?_⟩
        revert q
        cases evE F o ρ m with
        | bad => exact id
        | ex _ _ _ => exact id
        | ok d m1 =>
          intro q a1 H1 v x1 st1 rv
          obtain ⟨t1, a2, ρ2, m2, st2, sl2, q2⟩ := q a1 H1 v x1 st1 rv
          exact ⟨t1, q2 a2 H1 [] Ext.refl st2 .nil⟩
      · obtain ⟨n, p, es0, xs0, rfl, rfl, hp1, hm, hH, hl, rr⟩ := lm_ok st rd hlm
        simp only [lmD, hm] at hlm
        split at hlm <;> first | (cases hlm; done) | skip
        · rename_i hh; cases hh
        · rename_i hh; cases hh
        · rename_i hh; cases hh
        · cases hlm
          cases rvs
          exact ⟨p, xs0, rfl, rfl, hH, k _ (Ext.put hp1) (st.put hp1 hH rfl (.lst (Nat.zero_le _) .nil))⟩
  · cases h⟩
theorem s_dpop (o k : Ex) : SndS F fs (.dpop o k) := ⟨fun s N sc h X n g hN hS => by
  subst hN hS
  simp only [chkS] at h
  split at h
  · rename_i o' x ap e' cp pos
    simp only [Bool.and_eq_true, decide_eq_true_eq] at h
    obtain ⟨⟨⟨⟨⟨rfl, h2⟩, h3⟩, h4⟩, h5⟩, h6⟩ := h
    refine weakS (ps_expr (pe_dpop1 ((soundE o _ _ F fs).val _ _ _ h5 X n g.g rfl rfl) ((soundE k _ _ F fs).val _ _ _ h6 X n g.g rfl rfl) ⟨base_ok h2 _ _, few_ok h4 _ _, h3, tree_ok h4 _ _⟩)) ?_
    rintro D σ H ⟨a, ρ, m, st, sl, q⟩
    simp only [evS] at q
    refine tS_go (f := _) st sl q fun d m1 a1 H1 v e1 st1 sl1 rv x1 q1 => ?_
    split at q1
    · rename_i hK
      obtain ⟨i, p, kvs, ks, rfl, rfl, hp, hm, hH, hl, rr⟩ := refK_of st1 rv hK
      refine ⟨p, rfl, .inl ⟨ks, .inl hH⟩, ?_⟩
      refine tS_go (f := _) st1 sl1 q1 fun y m2 a2 H2 w e2 st2 sl2 rw x2 q2 => ?_
      cases hd : dpopD m2 (.ref i) y with
      | none => rw [hd] at q2; exact False.elim q2
      | some m' =>
        rw [hd] at q2
        simp only [dpopD] at hd
        split at hd
        · rename_i kvs2 kk hm2 hk2
          have hp2 := x2.old hp
          obtain ⟨ho, g1, g2⟩ := st2.at_ i p _ hp2 hm2
          cases g2 with
          | @dct _ ks2 hl2 rr2 =>
            split at hd
            · rename_i hs
              cases hd
              have ek := key_rep rw hk2
              subst ek
              rcases look_rep kk rr2 with ⟨l1, l2⟩ | ⟨dd, u, l1, l2, l3⟩
              · rw [l1] at hs; cases hs
              · refine ⟨ks2, kk, u, g1, rfl, l2, ?_⟩
                have r3 := drop_rep kk rr2
                refine q2 a2 _ σ (Ext.put hp2) (st2.put hp2 g1 rfl (.dct ?_ r3)) (sl2.mono (Ext.put hp2))
                exact Nat.le_trans (List.length_filter_le _ _) hl2
            · cases hd
        · cases hd
    · exact False.elim q1
  · cases h⟩
/-- two suites, one behind the other -/
theorem execs_app (l1 l2 : List Stmt) (env : Env) : execs (l1 ++ l2) env = (execs l1 env >>= fun f => match f with | .next => execs l2 env | f => pure f) := by
  induction l1 with
  | nil =>
    rw [List.nil_append, execs, pure_bind]
  | cons s l1 ih =>
    rw [List.cons_append, execs, execs, bind_assoc]
    congr 1
    funext f
    cases f with
    | next => exact ih
    | _ => simp only [pure_bind]
theorem pss_app {X : Cx} {l1 l2 : List Stmt} {t u : TS} (h1 : PSs X l1 t) (h2 : PSs X l2 u) : PSs X (l1 ++ l2) (tSeq t u) := by
  refine ⟨fun pins s σ H D I h => ?_⟩
  rw [execs_app]
  refine wpAny_bind (thn (h1.run pins s σ H { D with nx := u D } I h) fun f s1 q => ?_)
  cases f with
  | next =>
    obtain ⟨σ', H', I', q⟩ := q
    exact h2.run pins s1 σ' H' D I' q
  | ret v => exact wpAny_pure q
  | brk => exact wpAny_pure q
  | cont => exact wpAny_pure q
theorem undS_at {k i : Nat} {ρ : Sl} {d : D} (h : (undS k ρ)[i]? = some (some d)) : ρ[i]? = some (some d) ∧ D.und k d = true := by
  unfold undS at h
  rw [List.getElem?_map, Option.map_eq_some_iff] at h
  obtain ⟨o, h1, h2⟩ := h
  cases o with
  | none => cases h2
  | some d0 =>
    simp only at h2
    split at h2
    · rename_i hu
      cases h2
      exact ⟨h1, hu⟩
    · cases h2
theorem blk_read {K : PySem.W.Frag} {H : Hp} {a : Ad} {m : Mem} {ρ : Sl} {σ : L2.St} {x : Nat} {q : Rs} {f : Sl → Mem → Rs} {Z : Ends} {u : TS} (st : MRel K a m H) (sl : SRel K a H ρ σ) (h : TrS K a H (blkR m x q f) Z)
    (k : ∀ ρ' m' a' H' σ', MRel K a' m' H' → SRel K a' H' ρ' σ' → TrS K a' H' (f ρ' m') Z → u Z σ' H') : TrS K a H q { Z with nx := u Z } := by
  cases q with
  | bad => exact h
  | ex _ _ _ => exact h
  | rt d m' => exact h
  | nx ρ' m' =>
    unfold blkR at h
    simp only at h
    cases hg : getS ρ' x with
    | none => rw [hg] at h; exact False.elim h
    | some d =>
      rw [hg] at h
      simp only at h
      cases hf : frzD m' m.length d with
      | none => rw [hf] at h; exact False.elim h
      | some d' =>
        rw [hf] at h
        simp only at h
        split at h
        · rename_i hu
          replace hu : (m'.take m.length).all (O.und m.length) = true := by
            rcases hu with e | e
            · rw [e]; exact mrel_und st
            · exact e
          intro a' H' σ' x1 st' sl'
          obtain ⟨new, e1, fr⟩ := x1.pre
          have et : (⟨a'.st.take m.length, a'.hd⟩ : Ad) = a := by
            rw [e1, ← st.len, List.take_left, x1.hd]
          have ex : Ext a H a H' := ⟨rfl, ⟨[], by simp, by simp⟩, x1.keep, x1.dom⟩
          have hl : m.length ≤ m'.length := by
            rw [← st'.len, ← st.len, e1, List.length_append]
            omega
          have hx : ρ'[x]? = some (some d) := by
            unfold getS at hg
            exact Option.join_eq_some_iff.mp hg
          have st2 : MRel K a (m'.take m.length) H' := by
            refine ⟨st.nd, by rw [List.length_take, Nat.min_eq_left hl]; exact st.len, st.sep, fun i p o h1 h2 => ?_, fun p hp => st'.hid p (by rw [x1.hd]; exact hp), st'.tabs⟩
            have h3 : a'.st[i]? = some p := x1.old h1
            have h4 : m'[i]? = some o := by
              rw [List.getElem?_take] at h2
              split at h2
              · exact h2
              · cases h2
            obtain ⟨ho, g1, g2⟩ := st'.at_ i p o h3 h4
            have hm := List.mem_of_getElem? h2
            exact ⟨ho, g1, by rw [← et]; exact undO_rep g2 (List.all_eq_true.mp hu o hm)⟩
          refine k _ _ a H' σ' st2 ⟨?_, fun i e h2 => ?_, sl'.clo, fun z => (sl.kp0 z).trans ex.kp⟩ (TrS.mono h ex)
          · rw [List.length_set]
            unfold undS
            rw [List.length_map]
            exact sl'.len
          · by_cases hi : i = x
            · subst hi
              rw [List.getElem?_set_self (by
                unfold undS
                rw [List.length_map]
                exact (List.getElem?_eq_some_iff.mp hx).1)] at h2
              cases h2
              obtain ⟨v, h5, h6⟩ := sl'.at_ i d hx
              exact ⟨v, h5, by rw [← et]; exact frzD_rep st' h6 hf⟩
            · rw [List.getElem?_set_ne (fun z => hi z.symm)] at h2
              obtain ⟨h3, h4⟩ := undS_at h2
              obtain ⟨v, h5, h6⟩ := sl'.at_ i e h3
              exact ⟨v, h5, by rw [← et]; exact und_rep h6 h4⟩
        · exact False.elim h
mutual
theorem soundS : ∀ (x : Sm) (lc : LamCl) (ec : ExC) (F : Fe) (fs : FS), @SndS _ lc ec F fs x
  | .asg tg e, lc, ec, F, fs => s_asg tg e
  | .par i j a b, lc, ec, F, fs => s_par i j a b
  | .put o i e, lc, ec, F, fs => s_put o i e
  | .expr e, lc, ec, F, fs => s_expr e
  | .lm f o es, lc, ec, F, fs => s_lm f o es
  | .dpop o k, lc, ec, F, fs => s_dpop o k
  | .ret e, lc, ec, F, fs => s_ret e
  | .iff c a b, lc, ec, F, fs => s_iff (soundSs a lc ec F fs) (soundSs b lc ec F fs)
  | .whil c b, lc, ec, F, fs => s_whil (soundSs b lc ec F fs)
  | .for tg k it b, lc, ec, F, fs => s_for (soundSs b lc ec F fs)
  | .pass, lc, ec, F, fs => s_pass
  | .never, lc, ec, F, fs => s_never
  | .rais c es, lc, ec, F, fs => s_rais c es
  | .tri b c i h, lc, ec, F, fs => s_tri (fun ec => soundSs b lc ec F fs.tryb) (fun lc ec F => soundSs h lc ec F (FS.suite i))
theorem soundSs : ∀ (xs : Sms) (lc : LamCl) (ec : ExC) (F : Fe) (fs : FS), @SndSs _ lc ec F fs xs
  | .nil, lc, ec, F, fs => ⟨fun s N sc h X k g hN hS => by
      cases s with
      | nil => exact weakSs pss_nil fun D σ H ⟨a, ρ, m, st, sl, q⟩ => q a H σ Ext.refl st sl
      | cons _ _ => simp [chkSs] at h⟩
  | .cons x r, lc, ec, F, fs => ⟨fun s N sc h X k g hN hS => by
      cases s with
      | nil => simp [chkSs] at h
      | cons s ss =>
        simp only [chkSs, Bool.and_eq_true] at h
        refine weakSs (pss_cons ((soundS x lc ec F fs).st _ _ _ h.1 X k g hN hS) ((soundSs r lc ec F fs).sts _ _ _ h.2 X k g hN hS)) ?_
        rintro D σ H ⟨a, ρ, m, st, sl, q⟩
        refine ⟨a, ρ, m, st, sl, ?_⟩
        simp only [evSs] at q
        cases D with
        | mk nx rt bk ct => exact TrS.thn q fun ρ' m' a' H' σ' x' st' sl' q' => ⟨a', ρ', m', st', sl', q'⟩⟩
  | .blk x k b r, lc, ec, F, fs => ⟨fun s N sc h X kk g hN hS => by
      simp only [chkSs, Bool.and_eq_true] at h
      rw [show s = s.take k ++ s.drop k from (List.take_append_drop k s).symm]
      refine weakSs (pss_app ((soundSs b lc ec F fs).sts _ _ _ h.1 X kk g hN hS) ((soundSs r lc ec F fs).sts _ _ _ h.2 X kk g hN hS)) ?_
      rintro D σ H ⟨a, ρ, m, st, sl, q⟩
      refine ⟨a, ρ, m, st, sl, ?_⟩
      simp only [evSs] at q
      exact blk_read st sl q fun ρ' m' a' H' σ' st' sl' q' => ⟨a', ρ', m', st', sl', q'⟩⟩
end
end
end Br


set_option Elab.async false
set_option linter.all false
set_option maxRecDepth 100000
set_option maxHeartbeats 1000000
set_option autoImplicit false
/-! Br: the classes of exceptions: their text. -/
namespace Br
open PySem PySem.Spec PyProof.Rows L2
/-! ### the class's text -/
def oexB (K : PySem.W.Frag) (C : Addr) : Bool := (match K.lookup C with
  | some ⟨.type "type", _, .cls cd, sl⟩ => (match cd.mro, sl.toList with
    | .ref C' :: bm, [_, _, _, _, some (.builtin n), _] => C' == C && n == "ValueError.__new__" && cd.hasDict && !cd.hasDel && PySem.HandSPX.refsVE bm
    | _, _ => false)
  | _ => false) && (He.eqO (PySem.W.findIn K (.ref C) "__setattr__") (some (some (.builtin "object.__setattr__"))) && (decide (PySem.W.subIn K (.ref C) (.type "BaseException") = some true) && (decide (PySem.W.typeIn K (.ref C) = some (.type "type")) && PySem.W.keepIn K (.ref C))))
theorem oexB_ok {K : PySem.W.Frag} {C : Addr} (h : oexB K C = true) : OexC K C := by
  obtain ⟨h0, h⟩ := He.ba h
  obtain ⟨h1, h⟩ := He.ba h
  obtain ⟨h2, h⟩ := He.ba h
  obtain ⟨h3, h4⟩ := He.ba h
  refine ⟨?_, He.eqO_ok h1, of_decide_eq_true h2, of_decide_eq_true h3, h4⟩
  split at h0
  · rename_i dd cd sl ho
    split at h0
    · rename_i C' bm k0 k1 k2 k3 n k5 hm hs
      simp only [Bool.and_eq_true, beq_iff_eq, Bool.not_eq_true'] at h0
      obtain ⟨⟨⟨⟨rfl, rfl⟩, hd⟩, hdel⟩, hr⟩ := h0
      obtain ⟨nm, bs, mro, ns, qn, hdct, sn, sub, ab, col, del⟩ := cd
      dsimp only at hm hdel hd
      subst hm hdel hd
      have hsl : sl = #[k0, k1, k2, k3, some (.builtin "ValueError.__new__"), k5] := by
        obtain ⟨l⟩ := sl
        simp only at hs
        rw [hs]
      subst hsl
      exact ⟨nm, qn, ns, bs, bm, sn, sub, ab, col, dd, k0, k1, k2, k3, k5, ho, hr⟩
    · cases h0
  · cases h0
def exccB (K : PySem.W.Frag) (C : Addr) : Bool := He.eqO (PySem.W.findIn K (.ref C) "__getattribute__") (some (some (.builtin "BaseException.__getattribute__"))) && (He.eqO (PySem.W.findIn K (.ref C) "__getattr__") (some none) && (decide (PySem.W.subIn K (.ref C) (.type "BaseException") = some true) && (PySem.W.hasDictIn K C &&
  (He.eqO (PySem.W.findIn K (.ref C) "__class__") (some (some (.builtin "object.__class__"))) && (He.eqO (PySem.W.specialIn K (.builtin "object.__class__") "__get__") (some (some (.builtin "getset_descriptor.__get__"))) && (decide (PySem.W.takesIn K (.builtin "object.__class__") = some true) && decide (PySem.W.mroIn K C (.type "object") = some true)))))))
theorem exccB_ok {K : PySem.W.Frag} {C : Addr} (h : exccB K C = true) : ExcC K C := by
  obtain ⟨h1, h⟩ := He.ba h
  obtain ⟨h2, h⟩ := He.ba h
  obtain ⟨h3, h⟩ := He.ba h
  obtain ⟨h4, h⟩ := He.ba h
  obtain ⟨h5, h⟩ := He.ba h
  obtain ⟨h6, h⟩ := He.ba h
  obtain ⟨h7, h8⟩ := He.ba h
  exact ⟨He.eqO_ok h1, He.eqO_ok h2, of_decide_eq_true h3, h4, He.eqO_ok h5, He.eqO_ok h6, of_decide_eq_true h7, of_decide_eq_true h8⟩
def clsB (K : PySem.W.Frag) (c : Str) : Bool := exccB K (He.ga K c) && (xfB K (He.ga K c) && (decide (PySem.W.kitOne K (.ref (He.ga K c)) (.type "ValueError") = some true) && ((xcls.all fun q => decide (PySem.W.exmOne K (.ref (He.ga K c)) (.ref (He.ga K q.1)) = some (xsub c q.1)) && decide (PySem.W.kitOne K (.ref (He.ga K c)) (.ref (He.ga K q.1)) = some (xsub c q.1))) &&
  (((flds c).all fun f => He.eqO (PySem.W.findIn K (.ref (He.ga K c)) f) (some none)) && (if (flds c).isEmpty then (He.Fa.exc c).ok K else oexB K (He.ga K c) && (He.eqO (PySem.W.findIn K (.ref (He.ga K c)) "__init__") (some (some (.ref (He.fAd K (c, some "__init__"))))) && decide (PySem.W.typeIn K (.ref (He.fAd K (c, some "__init__"))) = some (.type "function"))))))))
def reB (K : PySem.W.Frag) : Bool := PySem.W.readsIn K (He.ga K "ReportError") (.type "type") && (He.eqO (PySem.W.specialIn K (.ref (He.ga K "ReportError")) "__getattribute__") (some (some (.builtin "type.__getattribute__"))) && (match PySem.W.findCls K (.ref (He.ga K "ReportError")) (.type "type") "__init__" with
  | some (.val (.builtin n)) => n == "ValueError.__init__"
  | _ => false))
/-- what the head must tell of the classes -/
def xkB (K : PySem.W.Frag) : Bool := reB K && xcls.all fun q => (He.Fa.glo q.1).ok K && clsB K q.1
/-! ### what __init__ does -/
section
variable {X : Cx} {e : Expr} {es : List Expr} {ta : TA} {p1 p2 pos : Pos} {R : Addr}
theorem pe_rinit {pl : Sem Bool} (hg : Gl X "ReportError") (hm : X.mg "ReportError" = some (.ref R)) (rd : PySem.W.readsIn X.K R (.type "type") = true) (ga : PySem.W.specialIn X.K (.ref R) "__getattribute__" = some (some (.builtin "type.__getattribute__")))
    (at_ : PySem.W.findCls X.K (.ref R) (.type "type") "__init__" = some (.val (.builtin "ValueError.__init__"))) (ha : PA X (e :: es) ta)
    (hc : eval (.Call (.Attribute (.Name "ReportError" p1) "__init__" p2) (e :: es) [] pos) X.env = (do
      let ov ← eval (.Name "ReportError" p1) X.env
      standAt p2.atName
      let (f, first) ← holding [ov] (getMethod ov "__init__" pl)
      callWith pos f first (backTo pos (starEach (e :: es) X.env)) (backToKw pos (keywordEach [] X.env))) := by rfl)
    (he : starEach (e :: es) X.env = (false, eval e X.env) :: starEach es X.env := by rfl) (hpl : (backTo pos (starEach es X.env)).any (·.1) = false := by rfl) :
    PE X (.Call (.Attribute (.Name "ReportError" p1) "__init__" p2) (e :: es) [] pos) (tVeI X.K ta) := by
  refine ⟨fun pins s σ H Q I h => ?_⟩
  refine PySem.W.methodCall_KW (ld_glob I hg hm ?_ (by decide)) hc
  refine PySem.W.method_cls I.kIn ga ?_
  refine PySem.W.cls_value I.kIn rd at_ (by decide +kernel) ?_
  show wpAny _ _ (callWith pos (Value.builtin "ValueError.__init__") [] (backTo pos (starEach (e :: es) X.env)) []) _ _ _
  refine PyProof.Rows.callWith_method1 (thn (ha.run pos pins _ σ H _ (I.tok _) h) fun us s1 ⟨vs, H1, I1, r1, a, C, ws, ev, hl, T, ea, q⟩ => ?_) he hpl
  subst ev
  cases r1 with
  | @cons _ u0 _ ur ra rw' =>
    obtain rfl : u0 = Value.ref a := ra
    have hlen : ur.length ≤ sizeLine := by
      rw [← Paired.length rw', sizeLine_eq]
      omega
    exact oinit_ok T I1 ea hlen fun s' J => ⟨.non, H1, J, rfl, q⟩
end
theorem call_line {o : Expr} {name : Str} {args : List Expr} {apos pos : Pos} {env : Env} (hb : attributeBase o name env (eval o env) = eval o env) (hf : methodCallForm (args.length + 0) (backTo pos (starEach args env)) (backToKw pos (keywordEach [] env)) = true) (hl : (apos.endLine == pos.line) = true) :
    eval (.Call (.Attribute o name apos) args [] pos) env = (do
      let ov ← eval o env
      standAt apos.atName
      let (f, first) ← holding [ov] (getMethod ov name (do return (← importBound o env).getD true))
      callWith pos f first (backTo pos (starEach args env)) (backToKw pos (keywordEach [] env))) := by
  show (do
    let ov ← attributeBase o name env (eval o env)
    standAt apos.atName
    methodCall o name apos pos env ov (args.length + 0) (backTo pos (starEach args env)) (backToKw pos (keywordEach [] env))) = _
  rw [hb]
  unfold methodCall calleeOf methodCallPos
  rw [hf]
  simp only [if_true, Bool.not_true, Bool.false_or, hl, pure_bind]
/-- self.f = f, one behind the other -/
def setB (N : List Str) (sc : Scope) (s : Stmt) (i : Nat) (f : Str) : Bool := match s with
  | .Assign [.Attribute (.Name x _) g _] (.Name y _) _ => decide (x = "self") && decide (g = f) && decide (y = f) && decide (N[i]? = some f) && visB sc f && okN f
  | _ => false
def callB (sc : Scope) (s : Stmt) : Bool := match s with
  | .Expr (.Call (.Attribute (.Name x _) m ap) [.Name y _, .Constant (.str _) _ _] [] cp) _ => (ap.endLine == cp.line) && decide (x = "ReportError") && glB sc x && decide (m = "__init__") && decide (y = "self")
  | _ => false
def initB (fl : List Str) (st : Stmt) : Bool := scB' ("self" :: fl) (defScope st) && (visB (defScope st) "self" && (match fl, defBody st with
  | [f], [s0, s1] => callB (defScope st) s0 && setB ("self" :: [f]) (defScope st) s1 1 f
  | [f, g], [s0, s1, s2] => callB (defScope st) s0 && setB ("self" :: [f, g]) (defScope st) s1 1 f && setB ("self" :: [f, g]) (defScope st) s2 2 g && decide (f ≠ g)
  | _, _ => false))
where scB' (N : List Str) (sc : Scope) : Bool :=
  (match sc.kind with | .function => true | _ => false) && !sc.isCoroutine && !sc.isGenerator && decide N.Nodup && N.all (locB sc) && sc.names.all (fun y => decide (y.2 ≠ .free))
theorem initB_sc {N : List Str} {sc : Scope} (h : initB.scB' N sc = true) : FnScope N N sc := by
  simp only [initB.scB', Bool.and_eq_true, decide_eq_true_eq, List.all_eq_true, Bool.not_eq_true'] at h
  obtain ⟨⟨⟨⟨⟨h1, h2⟩, h3⟩, h4⟩, h6⟩, h7⟩ := h
  refine ⟨?_, h2, h3, h4, by simp, fun x hx => ?_, h7⟩
  · split at h1
    · assumption
    · cases h1
  · have := h6 x hx
    unfold locB at this
    split at this
    · rename_i e; exact .inl e
    · rename_i e; exact .inr e
    · cases this
/-- __init__'s promise -/
def spI (K : PySem.W.Frag) (fl : List Str) : Sp := fun vs H Q _ => ∃ (a C : Addr) (ws : List V), vs = .ref a :: ws ∧ ws.length = fl.length ∧ OexC K C ∧ (∀ f ∈ fl, PySem.W.findIn K (.ref C) f = some none) ∧ H a = some (exo a C none) ∧
  ∀ d fs, H d = none → d ≠ a → (∀ f v, (fl.zip ws).lookup f = some v → fs.lookup f = some v) → Q .non (upd (upd H d (exd d fs)) a (exo a C (some d)))
section
variable {X : Cx} {s : Stmt} {R : Addr} {N : List Str}
/-- the first statement -/
theorem ps_call (h : callB X.env.scope s = true) (hm : X.mg "ReportError" = some (.ref R)) (rd : PySem.W.readsIn X.K R (.type "type") = true) (ga : PySem.W.specialIn X.K (.ref R) "__getattribute__" = some (some (.builtin "type.__getattribute__")))
    (at_ : PySem.W.findCls X.K (.ref R) (.type "type") "__init__" = some (.val (.builtin "ValueError.__init__"))) (h0 : X.N[0]? = some ("self" : Str)) (hv : Vis X.env.scope "self") :
    ∃ t, PS X s t ∧ ∀ (Z : Ends) (σ : L2.St) (H : Hp) (a C : Addr), σ[0]? = some (some (.ref a)) → OexC X.K C → H a = some (exo a C none) → Z.nx σ H → t Z σ H := by
  letI : LamTab := ⟨[]⟩
  letI : LamCl := noCl
  letI : ExC := ExC.none fun _ => none
  unfold callB at h
  split at h
  · rename_i x px m pm y py z j pz pc pe
    simp only [Bool.and_eq_true, decide_eq_true_eq] at h
    obtain ⟨⟨⟨⟨hl, rfl⟩, h2⟩, rfl⟩, rfl⟩ := h
    refine ⟨_, ps_expr (pe_rinit (glB_of h2) hm rd ga at_ (pa_cons (pe_var h0 hv (by decide) (by decide)) (pa_cons pe_str pa_nil)) (call_line rfl rfl hl)) (not_comp rfl _ _ _), fun Z σ H a C hs T e q => ?_⟩
    exact ⟨.ref a, hs, a, C, _, rfl, by simp, T, e, q⟩
  · cases h
theorem ps_set {i : Nat} {f : Str} (h : setB X.N X.env.scope s i f = true) (h0 : X.N[0]? = some ("self" : Str)) (hv : Vis X.env.scope "self") :
    ∃ t, PS X s t ∧ ∀ (Z : Ends) (σ : L2.St) (H : Hp) (a C : Addr) (v : V), σ[0]? = some (some (.ref a)) → σ[i]? = some (some v) → OexC X.K C → PySem.W.findIn X.K (.ref C) f = some none →
      ((H a = some (exo a C none) ∧ ∀ dx, H dx = none → dx ≠ a → Z.nx σ (upd (upd H dx (exd dx [(f, v)])) a (exo a C (some dx)))) ∨
        ∃ (dx : Addr) (fs : List (Str × V)), H a = some (exo a C (some dx)) ∧ H dx = some (exd dx fs) ∧ fs.length ≤ 900 ∧ Z.nx σ (upd H dx (exd dx ((f, v) :: fs)))) → t Z σ H := by
  letI : LamTab := ⟨[]⟩
  letI : LamCl := noCl
  letI : ExC := ExC.none fun _ => none
  unfold setB at h
  split at h
  · rename_i x px g pa y py pos
    simp only [Bool.and_eq_true, decide_eq_true_eq] at h
    obtain ⟨⟨⟨⟨⟨rfl, rfl⟩, rfl⟩, h4⟩, h5⟩, h6⟩ := h
    obtain ⟨d1, d2, _⟩ := okN_d h6
    refine ⟨_, ps_ost (pe_var h0 hv (by decide) (by decide)) (pe_var h4 (visB_of h5) d1 d2), fun Z σ H a C v hs hi T hn q => ?_⟩
    exact ⟨v, hi, .ref a, hs, a, C, rfl, T, hn, q⟩
  · cases h
end
section
variable {P : Program} {w : World} {K : PySem.W.Frag} {mg : Str → Option Value} {base : Heap} {R : Addr}
theorem init_fn {fl : List Str} {st : Stmt} {nm qn : Str} {f : Addr} {fd : FuncData} (h : initB fl st = true) (F : FunD K nm qn (defArgs st) (defBody st) (defScope st) [] [] f fd) (hm : mg "ReportError" = some (.ref R)) (rd : PySem.W.readsIn K R (.type "type") = true)
    (ga : PySem.W.specialIn K (.ref R) "__getattribute__" = some (some (.builtin "type.__getattribute__"))) (at_ : PySem.W.findCls K (.ref R) (.type "type") "__init__" = some (.val (.builtin "ValueError.__init__"))) :
    FnOk P w K mg base (L2.CX P w) 1 f fd ("self" :: fl) (spI K fl) := by
  letI : LamTab := ⟨[]⟩
  letI : LamCl := noCl
  letI : ExC := ExC.none fun _ => none
  simp only [initB, Bool.and_eq_true] at h
  obtain ⟨h1, h2, h3⟩ := h
  have S := initB_sc h1
  refine F.ok (k := 0) (N := "self" :: fl) S (fun vs H Q E ⟨a, C, ws, e, hl, _⟩ => by rw [e]; simp [hl]) fun cdv A outer s H vs Q E hr ⟨a, C, ws, e, hl, T, hn, ea, q⟩ => ?_
  subst e
  have hv : Vis (defScope st) "self" := visB_of h2
  split at h3
  · rename_i f s0 s1 hb _
    simp only [Bool.and_eq_true] at h3
    rw [hb]
    match ws, hl with
    | [v], _ =>
      obtain ⟨t0, p0, r0⟩ := ps_call (X := cxOf (L2.CX P w) P w K mg base ["self", f] qn (defScope st) _ cdv A outer s H E) h3.1 hm rd ga at_ rfl hv
      obtain ⟨t1, p1, r1⟩ := ps_set (X := cxOf (L2.CX P w) P w K mg base ["self", f] qn (defScope st) _ cdv A outer s H E) h3.2 rfl hv
      refine ⟨_, pss_cons p0 (pss_cons p1 pss_nil), ?_⟩
      refine r0 _ _ _ a C rfl T ea (r1 _ _ _ a C v rfl rfl T (hn f (by simp)) (.inl ⟨ea, fun d hd hda => ?_⟩))
      exact q d [(f, v)] hd hda fun g u hg => hg
  · rename_i f g s0 s1 s2 hb _
    simp only [Bool.and_eq_true, decide_eq_true_eq] at h3
    obtain ⟨⟨⟨h4, h5⟩, h6⟩, h7⟩ := h3
    rw [hb]
    match ws, hl with
    | [v, u], _ =>
      obtain ⟨t0, p0, r0⟩ := ps_call (X := cxOf (L2.CX P w) P w K mg base ["self", f, g] qn (defScope st) _ cdv A outer s H E) h4 hm rd ga at_ rfl hv
      obtain ⟨t1, p1, r1⟩ := ps_set (X := cxOf (L2.CX P w) P w K mg base ["self", f, g] qn (defScope st) _ cdv A outer s H E) h5 rfl hv
      obtain ⟨t2, p2, r2⟩ := ps_set (X := cxOf (L2.CX P w) P w K mg base ["self", f, g] qn (defScope st) _ cdv A outer s H E) h6 rfl hv
      refine ⟨_, pss_cons p0 (pss_cons p1 (pss_cons p2 pss_nil)), ?_⟩
      refine r0 _ _ _ a C rfl T ea (r1 _ _ _ a C v rfl rfl T (hn f (by simp)) (.inl ⟨ea, fun d hd hda => ?_⟩))
      refine r2 _ _ _ a C u rfl rfl T (hn g (by simp)) (.inr ⟨d, [(f, v)], upd_same, by rw [upd_ne hda, upd_same], by simp, ?_⟩)
      have e : upd (upd (upd H d (exd d [(f, v)])) a (exo a C (some d))) d (exd d [(g, u), (f, v)]) = upd (upd H d (exd d [(g, u), (f, v)])) a (exo a C (some d)) := by
        funext b
        by_cases hb : b = d
        · subst hb
          rw [upd_same, upd_ne hda, upd_same]
        · rw [upd_ne hb]
          by_cases hba : b = a
          · subst hba
            rw [upd_same, upd_same]
          · rw [upd_ne hba, upd_ne hba, upd_ne hb, upd_ne hb]
      rw [e]
      refine q d [(g, u), (f, v)] hd hda fun z y hz => ?_
      rw [List.zip_cons_cons, List.zip_cons_cons, List.zip_nil_left, lookup_put, lookup_put] at hz
      rw [lookup_put, lookup_put]
      by_cases z1 : z = f
      · rw [if_pos z1] at hz
        rw [if_neg (fun z2 => h7 (z1.symm.trans z2)), if_pos z1]
        exact hz
      · rw [if_neg z1] at hz
        by_cases z2 : z = g
        · rw [if_pos z2] at hz ⊢
          exact hz
        · rw [if_neg z2] at hz
          cases hz
  · cases h3
/-- what is known of the classes -/
structure XcOk (K : PySem.W.Frag) (mg : Str → Option Value) : Prop where
  b : xkB K = true
  g : ∀ q ∈ xcls, mg q.1 = some (.ref (He.ga K q.1))
  i : ∀ q ∈ xcls, q.2 ≠ [] → ∃ st fd, initB q.2 st = true ∧ FunD K "__init__" (q.1 ++ ".__init__") (defArgs st) (defBody st) (defScope st) [] [] (He.fAd K (q.1, some "__init__")) fd ∧ Binds K fd ("self" :: q.2) []
theorem xcls_mem {c : Str} (h : (xcls.lookup c).isSome = true) : ∃ q ∈ xcls, q.1 = c ∧ q.2 = flds c := by
  unfold flds
  obtain ⟨l, e⟩ := Option.isSome_iff_exists.mp h
  rw [e, Option.getD_some]
  have hm : ∀ {L : List (Str × List Str)}, L.lookup c = some l → ∃ q ∈ L, q.1 = c ∧ q.2 = l := by
    intro L
    induction L with
    | nil => intro h; cases h
    | cons q r ih =>
      intro h
      obtain ⟨x, y⟩ := q
      rw [List.lookup_cons] at h
      split at h
      · rename_i hx
        exact ⟨(x, y), List.mem_cons_self, (beq_iff_eq.mp hx).symm, Option.some.inj h⟩
      · obtain ⟨q, h1, h2⟩ := ih h
        exact ⟨q, List.mem_cons_of_mem _ h1, h2⟩
  exact hm e
theorem XcOk.cls (W : XcOk K mg) {c : Str} (h : (xcls.lookup c).isSome = true) : mg c = some (.ref (He.ga K c)) ∧ clsB K c = true := by
  obtain ⟨q, hq, rfl, _⟩ := xcls_mem h
  have hb := (He.ba W.b).2
  exact ⟨W.g q hq, (He.ba (List.all_eq_true.mp hb q hq)).2⟩
theorem XcOk.fact (W : XcOk K mg) {c : Str} (h : (xcls.lookup c).isSome = true) : ∃ C, mg c = some (.ref C) ∧ ClsFact K mg C c := by
  obtain ⟨h1, hb⟩ := W.cls h
  unfold clsB at hb
  obtain ⟨b1, hb⟩ := He.ba hb
  obtain ⟨b2, hb⟩ := He.ba hb
  obtain ⟨b3, hb⟩ := He.ba hb
  obtain ⟨b4, hb⟩ := He.ba hb
  obtain ⟨b5, hb⟩ := He.ba hb
  refine ⟨_, h1, fun c2 C2 h2 hm => ?_, of_decide_eq_true b3, exccB_ok b1, xfB_ok b2, fun f hf => He.eqO_ok (List.all_eq_true.mp b5 f hf)⟩
  obtain ⟨q, hq, rfl, _⟩ := xcls_mem h2
  have := List.all_eq_true.mp b4 q hq
  obtain ⟨z1, z2⟩ := He.ba this
  rw [W.g q hq] at hm
  injection hm with z
  injection z with z
  subst z
  exact ⟨of_decide_eq_true z1, of_decide_eq_true z2⟩
theorem XcOk.made {X : Cx} (W : XcOk X.K X.mg) (hr : Room 2 X.A) {c : Str} (h : (xcls.lookup c).isSome = true) : MkFact X c := by
  obtain ⟨h1, hb⟩ := W.cls h
  unfold clsB at hb
  obtain ⟨b1, hb⟩ := He.ba hb
  obtain ⟨b2, hb⟩ := He.ba hb
  obtain ⟨b3, hb⟩ := He.ba hb
  obtain ⟨b4, hb⟩ := He.ba hb
  obtain ⟨b5, b6⟩ := He.ba hb
  obtain ⟨q, hq, hq1, hq2⟩ := xcls_mem h
  have hdb : ∀ q ∈ xcls, (q.1 == ("__debug__" : Str)) = false := by decide
  have hdb : (c == ("__debug__" : Str)) = false := by rw [← hq1]; exact hdb q hq
  by_cases hf : flds c = []
  · rw [hf] at b6
    simp only [List.isEmpty_nil, if_true] at b6
    obtain ⟨c1, c2, c3, c4⟩ := He.exc_ok b6
    refine ⟨_, fun _ _ _ _ => False, h1, fun z => absurd hf z, fun _ x j p p2 pos hg => ?_⟩
    exact pmk_own PySem.F.excBase_ValueError c1 h1 c2 (raises_own c3 c4) hg hdb
  · have hne : (flds c).isEmpty = false := by simpa using hf
    rw [hne] at b6
    simp only [Bool.false_eq_true, if_false] at b6
    obtain ⟨c1, c2⟩ := He.ba b6
    obtain ⟨c3, c4⟩ := He.ba c2
    obtain ⟨st, fd, i1, i2, i3⟩ := W.i q hq (by rw [hq2]; exact hf)
    have T := oexB_ok c1
    obtain ⟨r0, _⟩ := He.ba W.b
    unfold reB at r0
    obtain ⟨r1, r2⟩ := He.ba r0
    obtain ⟨r2, r3⟩ := He.ba r2
    have at_ : PySem.W.findCls X.K (.ref (He.ga X.K "ReportError")) (.type "type") "__init__" = some (.val (.builtin "ValueError.__init__")) := by
      split at r3
      · rename_i n e
        rw [e, beq_iff_eq.mp r3]
      · cases r3
    rw [hq1] at i2
    rw [hq2] at i1 i3
    have hRE : X.mg "ReportError" = some (.ref (He.ga X.K "ReportError")) := W.g ("ReportError", []) (by decide)
    have F1 : FnOk X.prog X.w X.K X.mg X.base (L2.CX X.prog X.w) 1 _ fd ("self" :: flds c) (spI X.K (flds c)) := init_fn i1 i2 hRE r1 (He.eqO_ok r2) at_
    refine ⟨_, spI X.K (flds c), h1, fun _ => ⟨fun e es ta p pos hg ha hs hpl => ?_, fun vs H1 Q hl hq a ha => ?_⟩, fun z => absurd z hf⟩
    · exact pmk_oex T (He.eqO_ok c3) (of_decide_eq_true c4) F1 hr i3 .nil (fun pins σ H s e s' I c => passAt (X := X) (W := fun _ _ _ _ => False) (fun u s2 ⟨_, _, _, _, _, _, _, _, _, _, _, _, _, _, _, _, w⟩ => (w : False).elim) σ pins H s e s' I c) hg h1 ha hdb hs hpl
    · refine ⟨a, _, vs ++ [], rfl, by simpa using hl, T, fun f hf => He.eqO_ok (List.all_eq_true.mp b5 f hf), upd_same, fun d fs hd hda hlk => ⟨rfl, d, fs, upd_same, by rw [upd_ne hda, upd_same], by rwa [upd_ne hda] at hd, ?_⟩⟩
      have hd0 : H1 d = none := by rwa [upd_ne hda] at hd
      have e : upd (del (upd (upd (upd H1 a (exo a (He.ga X.K c) none)) d (exd d fs)) a (exo a (He.ga X.K c) (some d))) a) d (.xd fs) = upd H1 d (.xd fs) := by
        funext b
        by_cases hb : b = d
        · rw [hb, upd_same, upd_same]
        · rw [upd_ne hb, upd_ne hb]
          by_cases hba : b = a
          · rw [hba, del_same, ha]
          · rw [del_ne hba, upd_ne hba, upd_ne hb, upd_ne hba]
      rw [e]
      refine hq d fs hd0 fun f v hv => hlk f v ?_
      rw [List.append_nil]
      exact hv
end
end Br


set_option Elab.async false
set_option linter.all false
set_option maxRecDepth 100000
set_option maxHeartbeats 1000000
set_option autoImplicit false
/-! Br: defs, the table of them. -/
namespace Br
open PySem PySem.Spec PyProof.Rows L2
variable [LamTab]
/-- hf: it takes a function last; lk: it makes functions -/
structure Ent where
  name : Str
  d : Def
  N : List Str
  ps : List Str
  st : Stmt
  hf : Bool
  lk : Bool
  /-- exceptions are made or caught here -/
  xk : Bool
def scB (N ps : List Str) (sc : Scope) : Bool :=
  (match sc.kind with | .function => true | _ => false) && !sc.isCoroutine && !sc.isGenerator && decide N.Nodup && decide (N.take ps.length = ps) && ps.all (locB sc) && sc.names.all (fun y => decide (y.2 ≠ .free))
theorem scB_ok {N ps : List Str} {sc : Scope} (h : scB N ps sc = true) : FnScope N ps sc := by
  simp only [scB, Bool.and_eq_true, decide_eq_true_eq, List.all_eq_true, Bool.not_eq_true'] at h
  obtain ⟨⟨⟨⟨⟨⟨h1, h2⟩, h3⟩, h4⟩, h5⟩, h6⟩, h7⟩ := h
  refine ⟨?_, h2, h3, h4, h5, fun x hx => ?_, h7⟩
  · split at h1
    · assumption
    · cases h1
  · have := h6 x hx
    unfold locB at this
    split at this
    · rename_i e; exact .inl e
    · rename_i e; exact .inr e
    · cases this
def namesOf (E : List Ent) (b : Bool) : List Str := (E.filter fun e => e.hf == b).map (·.name)
def fsOf (E : List Ent) (e : Ent) : FS := ⟨namesOf E false, namesOf E true, if e.hf then [e.d.np] else [], e.hf, e.lk, true, false, e.xk⟩
def entB (E : List Ent) (e : Ent) : Bool := scB e.N e.ps (defScope e.st) && chkSs (fsOf E e) e.N (defScope e.st) e.d.body (defBody e.st) && decide (e.d.np + (if e.hf then 1 else 0) = e.ps.length) && decide (e.d.ns = e.N.length)
structure Placed (K : PySem.W.Frag) (mg : Str → Option Value) (e : Ent) (p : Addr) (fd : FuncData) : Prop where
  F : FunD K e.name e.name (defArgs e.st) (defBody e.st) (defScope e.st) [] [] p fd
  g : mg e.name = some (.ref p)
  b : Binds K fd e.ps []
  ad : p = He.fAd K (e.name, none)
/-- a def's code object, its table -/
def cdOf (K : PySem.W.Frag) (e : Ent) : Addr × Addr := He.cT K (e.name, none)
def tabsOf (K : PySem.W.Frag) (E : List Ent) : List (Addr × Str) := (E.filter (·.lk)).map fun e => ((cdOf K e).2, e.name ++ ".<locals>." ++ "<lambda>")
/-- what is known of the module -/
structure World0 (K : PySem.W.Frag) (mg : Str → Option Value) (E : List Ent) (g : Str → Option D) : Prop where
  ok : ∀ e ∈ E, entB E e = true
  nd : (E.map (·.name)).Nodup
  pl : ∀ e ∈ E, ∃ p fd, Placed K mg e p fd
  blt : ∀ x ∈ blts, mg x = none
  glo : ∀ x d, g x = some d → ∃ v u, mg x = some u ∧ RelV v u ∧ ∀ H a, RepV K H a d v
  tnd : ((E.filter (·.lk)).map fun e => (cdOf K e).2).Nodup
  xc : ∀ e ∈ E, e.xk = true → XcOk K mg
/-- the tables, over a base -/
def TabsAt (K : PySem.W.Frag) (mg : Str → Option Value) (E : List Ent) (base : Heap) : Prop := ∀ e ∈ E, e.lk = true → LamX.TabB base mg (cdOf K e).1 (cdOf K e).2
def tab (E : List Ent) : List (Str × Def) := E.map fun e => (e.name, e.d)
theorem tab_look : ∀ {E : List Ent} {e : Ent}, (E.map (·.name)).Nodup → e ∈ E → (tab E).lookup e.name = some e.d
  | [], _, _, h => by cases h
  | f :: E, e, nd, h => by
    simp only [List.map_cons, List.nodup_cons] at nd
    unfold tab
    simp only [List.map_cons, List.lookup_cons]
    rcases List.mem_cons.mp h with rfl | h
    · simp
    · have : (e.name == f.name) = false := by
        simp only [beq_eq_false_iff_ne]
        intro z
        exact nd.1 (by rw [← z]; exact List.mem_map_of_mem h)
      rw [this]
      exact tab_look nd.2 h
theorem names_mem {E : List Ent} {b : Bool} {f : Str} (h : f ∈ namesOf E b) : ∃ e ∈ E, e.hf = b ∧ e.name = f := by
  obtain ⟨e, he, rfl⟩ := List.mem_map.mp h
  obtain ⟨h1, h2⟩ := List.mem_filter.mp he
  exact ⟨e, h1, by simpa using h2, rfl⟩
theorem srel_at [LamCl] {K : PySem.W.Frag} {H : Hp} {a : Ad} {ds : List D} {vs more : List V} {N : List Str} {k : Nat} (r : RepVs K H a ds vs) (hk : ds.length + k = N.length) {i : Nat} {d : D} (hm : more.length ≤ k) (e : (ds.map some ++ List.replicate k none)[i]? = some (some d)) :
    ∃ v, (L2.start N (vs ++ more))[i]? = some (some v) ∧ RepV K H a d v := by
  have hl := r.length
  unfold L2.start
  by_cases hi : i < ds.length
  · rw [List.getElem?_append_left (by simpa using hi), List.getElem?_map] at e
    rw [List.map_append, List.append_assoc, List.getElem?_append_left (by rw [List.length_map, ← hl]; exact hi), List.getElem?_map]
    cases hd : ds[i]? with
    | none => rw [hd] at e; cases e
    | some d' =>
      rw [hd] at e
      cases e
      obtain ⟨v, h1, h2⟩ := r.get hd
      exact ⟨v, by rw [h1]; rfl, h2⟩
  · rw [List.getElem?_append_right (by simpa using Nat.le_of_not_lt hi)] at e
    have := List.mem_of_getElem? e
    rw [List.mem_replicate] at this
    cases this.2
theorem srel_start {K : PySem.W.Frag} {H : Hp} {a : Ad} {ds : List D} {vs : List V} {N : List Str} {k : Nat} (r : RepVs K H a ds vs) (hk : ds.length + k = N.length) : @SRel K noCl a H (ds.map some ++ List.replicate k none) (L2.start N vs) := by
  letI : LamCl := noCl
  have hl := r.length
  refine @SRel.mk K noCl a H _ _ (by simp [L2.start]; omega) (fun i d e => ?_) (fun q hq => by cases hq) (fun z => absurd rfl z)
  have := srel_at (more := []) r hk (Nat.zero_le _) e
  rwa [List.append_nil] at this
/-- .. of a def that takes a function last -/
theorem srel_hof {K : PySem.W.Frag} {H : Hp} {a : Ad} {ds : List D} {vs : List V} {N : List Str} {k np : Nat} {f0 : Addr} (r : RepVs K H a ds vs) (hk : ds.length + k = N.length) (hn : np = ds.length) (h0 : 0 < k) : @SRel K ⟨[(np, f0)], a, H⟩ a H (ds.map some ++ List.replicate k none) (L2.start N (vs ++ [.ref f0])) := by
  letI : LamCl := noCl
  have hl := r.length
  refine @SRel.mk K ⟨[(np, f0)], a, H⟩ a H _ _ (by simp [L2.start]; omega) (fun i d e => srel_at (more := [.ref f0]) r hk h0 e) (fun q hq => ?_) (fun _ => Kp.refl)
  have hq : q = (np, f0) := by simpa using hq
  subst hq
  unfold L2.start
  rw [List.map_append, List.append_assoc, List.getElem?_append_right (by rw [List.length_map]; omega), List.length_map, hn, hl, Nat.sub_self]
  rfl
section
variable {P : Program} {w : World} {K : PySem.W.Frag} {mg : Str → Option Value} {base : Heap} {E : List Ent} {g : Str → Option D} {wf : Nat}
/-- what is shown of all defs at once, so many calls within one another -/
structure TabOk (P : Program) (w : World) (K : PySem.W.Frag) (mg : Str → Option Value) (base : Heap) (E : List Ent) (g : Str → Option D) (wf n : Nat) : Prop where
  fn : ∀ f ∈ namesOf E false, FnFact P w K mg base n f (callN (tab E) g wf n f)
  hof : ∀ f ∈ namesOf E true, HofFact P w K mg base (namesOf E false) n f (runN (tab E) g wf n f)
theorem lam_table (W : World0 K mg E g) {e : Ent} (he : e ∈ E) (hl : e.lk = true) : ((cdOf K e).2, e.name ++ ".<locals>." ++ "<lambda>") ∈ tabsOf K E ∧ ∀ p ∈ tabsOf K E, p.1 = (cdOf K e).2 → p.2 = e.name ++ ".<locals>." ++ "<lambda>" := by
  have hm : e ∈ E.filter (·.lk) := List.mem_filter.mpr ⟨he, hl⟩
  refine ⟨List.mem_map.mpr ⟨e, hm, rfl⟩, fun p hp e1 => ?_⟩
  obtain ⟨e', hm', rfl⟩ := List.mem_map.mp hp
  have e1 : (cdOf K e').2 = (cdOf K e).2 := e1
  have : e' = e := by
    have nd := W.tnd
    rw [List.Nodup, List.pairwise_map] at nd
    by_cases z : e' = e
    · exact z
    · exfalso
      obtain ⟨i, hi, hi2⟩ := List.mem_iff_getElem.mp hm'
      obtain ⟨j, hj, hj2⟩ := List.mem_iff_getElem.mp hm
      rcases Nat.lt_trichotomy i j with q | q | q
      · exact (List.pairwise_iff_getElem.mp nd) i j hi hj q (by rw [hi2, hj2]; exact e1)
      · subst q
        exact z (hi2.symm.trans hj2)
      · exact (List.pairwise_iff_getElem.mp nd) j i hj hi q (by rw [hi2, hj2]; exact e1.symm)
  subst this
  rfl
/-- what the context of a def's body offers -/
theorem good_of (W : World0 K mg E g) (hT : LamTab.T = tabsOf K E) (TB : TabsAt K mg E base) {n : Nat} (IH : ∀ j, j ≤ n → TabOk P w K mg base E g wf j) [LamCl] {e : Ent} (he : e ∈ E) {p c : Addr} {fd : FuncData} (pl : Placed K mg e p fd) {oc : Value} {od : Option Addr} {osl : Array (Option Value)} (lk : K.lookup p = some ⟨oc, od, .func fd, osl⟩) (hc : fd.code = .ref c)
    {A : Around} {outer : List Env} {s : Shared} {H : Hp} {Ex : XK} {L : Lf} (hr : Room n (A.deeper (envOfC e.name (defScope e.st) s.heap.objs.size p (.ref c))))
    (hcl : ∀ q ∈ LamCl.cl, q.1 ∈ (fsOf E e).cl) (hcv : e.hf = true → LamCl.cl.map (·.1) = (fsOf E e).cl)
    (hlam : e.hf = true → ∀ q ∈ LamCl.cl, LamFrom P w K mg base (namesOf E false) outer s LamCl.a0 LamCl.H0 (n + 1) q.2 L ∧ LamCl.H0 = H) :
    @GoodS _ _ ⟨Ex, mg⟩ (cxOf (L2.CX P w) P w K mg base e.N e.name (defScope e.st) p (.ref c) A outer s H Ex) (feN (tab E) g wf n L) n (fsOf E e) := by
  have hB := W.ok e he
  simp only [entB, Bool.and_eq_true, decide_eq_true_eq] at hB
  have S := scB_ok hB.1.1.1
  refine @GoodS.mk _ _ ⟨Ex, mg⟩ _ _ _ _ (@Good.mk _ _ ⟨Ex, mg⟩ _ _ _ _ (fun _ => rfl) S.nd (fun _ => hr) hr.un (fun f hf => (IH n (Nat.le_refl _)).fn f hf) W.blt W.glo hcl (fun z => hcv z) (fun c2 hc2 => ?_) (fun f hf => (IH n (Nat.le_refl _)).hof f hf) (fun z q hq => ?_) (fun z => ?_) (takes_of (E₁ := fun e' s'' => L2.CX P w outer H s Ex e' s'') rfl rfl rfl rfl) rfl (fun z h2 c hc => XcOk.made (X := cxOf (L2.CX P w) P w K mg base e.N e.name (defScope e.st) p _ A outer s H Ex) (W.xc e he z) (hr.mono h2) hc) (fun z => Bool.noConfusion z)) (fun _ => rfl) (fun _ => passes_of rfl) S.kind (fun _ => rfl) rfl (fun z c hc => (W.xc e he z).fact hc)
  · have hc2 : lowN (tab E) g wf n = some c2 := hc2
    match n, hc2 with
    | j + 2, hc2 =>
      simp only [lowN, Option.some.injEq] at hc2
      subst hc2
      exact ⟨j, rfl, fun f hf => (IH j (by omega)).fn f hf⟩
  · obtain ⟨h1, h2⟩ := hlam z q hq
    rw [h2] at h1
    refine ⟨fun pn xe pins σ H' s' I => h1.fn (Cx.tr _ pn xe) rfl rfl rfl rfl pins σ H' s' I, fun pn xe E2 tk2 pins σ H' s' us vs ds a m Q I r kp st rv q2 => ?_⟩
    have q2 : TrE E2 mg K a H' (lamOf L (lowN (tab E) g wf n) ds m) Q := q2
    match n, hr, IH, h1, q2 with
    | 0, _, _, _, q2 => exact False.elim q2
    | 1, _, _, _, q2 => exact False.elim q2
    | j + 2, hr, IH, h1, q2 =>
      rw [h2] at kp
      exact h1.run (Cx.tr _ pn xe) j (callN (tab E) g wf j) rfl rfl rfl rfl rfl rfl rfl rfl rfl rfl rfl (hr.mono (by omega)) (fun f hf => (IH j (by omega)).fn f hf) E2 tk2 pins σ H' s' us vs ds a m Q I r kp st rv q2
  · have z : e.lk = true := z
    have hcd : (cdOf K e).1 = c := by
      unfold cdOf He.cT
      exact He.codeOf_eq (by rw [← pl.ad]; exact lk) hc
    obtain ⟨t1, t2⟩ := lam_table W he z
    refine ⟨c, (cdOf K e).2, by rw [← hcd]; exact TB e he z, rfl, ?_, ?_⟩
    · rw [hT]; exact t1
    · rw [hT]; exact t2
theorem code_ref {K : PySem.W.Frag} {cd : Value} {q : Str} (h : PySem.W.codeIn K cd q = true) : ∃ c, cd = .ref c := He.codeIn_ref h
theorem ent_bind {e : Ent} (h : entB E e = true) : e.d.np + (if e.hf then 1 else 0) = e.ps.length ∧ e.d.ns = e.N.length ∧ FnScope e.N e.ps (defScope e.st) ∧ chkSs (fsOf E e) e.N (defScope e.st) e.d.body (defBody e.st) = true := by
  simp only [entB, Bool.and_eq_true, decide_eq_true_eq] at h
  exact ⟨h.1.2, h.2, scB_ok h.1.1.1, h.1.1.2⟩
theorem ps_le {e : Ent} (S : FnScope e.N e.ps (defScope e.st)) : e.ps.length ≤ e.N.length := by
  have := congrArg List.length S.pre
  rw [List.length_take] at this
  omega
theorem rs_end [ExC] {a : Ad} {H : Hp} {r : Rs} {Q : VK} (q : Tr K a H (match r with
    | .nx _ m' => .ok .non m'
    | .rt v m' => .ok v m'
    | .ex c es m' => .ex c es m'
    | .bad => .bad) Q) [LamCl] : TrS K a H r { nx := fun _ H' => Q .non H', rt := Q } := by
  cases r with
  | bad => exact q
  | ex _ _ _ => exact q
  | nx ρ' m' => exact fun a' H' σ' x st' sl' => q a' H' .non x st' .non
  | rt d m' => exact q
theorem table_fn (W : World0 K mg E g) (hT : LamTab.T = tabsOf K E) (TB : TabsAt K mg E base) {n : Nat} (IH : ∀ j, j ≤ n → TabOk P w K mg base E g wf j) {e : Ent} (he : e ∈ E) (hf : e.hf = false) {p : Addr} {fd : FuncData} (pl : Placed K mg e p fd) :
    FnOk P w K mg base (L2.CX P w) (n + 1) p fd e.ps (spS K mg e.ps.length (callN (tab E) g wf (n + 1) e.name)) := by
  obtain ⟨h3, h4, S, h2⟩ := ent_bind (W.ok e he)
  rw [hf] at h3
  simp only [Bool.false_eq_true, if_false, Nat.add_zero] at h3
  obtain ⟨oc, od, dV, kV, doc, pm, an, cdv, ct, osl, hfd, lk, hcd, _, _⟩ := pl.F.ex
  obtain ⟨c, rfl⟩ := code_ref hcd
  subst hfd
  letI : LamCl := noCl
  refine ⟨fun vs H Q E ⟨a, m, ds, st, r, hl, q⟩ => by rw [← r.length, hl], fun A outer s H args us vs Q Ex hr e0 hb rv ⟨a, m, ds, st, r, hl, q⟩ => ?_⟩
  letI : ExC := ⟨Ex, mg⟩
  refine LamX.run_ofS (N := e.N) (ps := e.ps) (us := us) (vs := vs) lk hcd S hr e0 hb rv (by rw [← r.length, hl]) fun hr' => ?_
  have G := good_of (outer := outer) (s := s) (P := P) (w := w) (base := base) (wf := wf) (L := noLf) (Ex := Ex) (H := H) W hT TB IH he pl lk rfl hr' (fun q hq => by cases hq) (fun z => by rw [hf] at z; cases z) (fun z => by rw [hf] at z; cases z)
  refine ⟨_, (soundSs e.d.body noCl ⟨Ex, mg⟩ _ _).sts _ _ _ h2 _ n G rfl rfl, ?_⟩
  rw [callN_succ, tab_look W.nd he] at q
  have hnp : ds.length = e.d.np := by rw [hl, h3]
  simp only [runDef, if_pos hnp] at q
  have hps := ps_le S
  have sl := srel_start (N := e.N) (k := e.d.ns - e.d.np) r (by omega)
  exact ⟨a, _, m, st, sl, rs_end q⟩
theorem table_hof (W : World0 K mg E g) (hT : LamTab.T = tabsOf K E) (TB : TabsAt K mg E base) {n : Nat} (IH : ∀ j, j ≤ n → TabOk P w K mg base E g wf j) {e : Ent} (he : e ∈ E) (hf : e.hf = true) {p : Addr} {fd : FuncData} (pl : Placed K mg e p fd)
    {A : Around} {outer : List Env} {s : Shared} {H : Hp} {L : Lf} {us : List Value} {vs : List V} {ds : List D} {a : Ad} {m : Mem} {Q : VK} {Ex : XK} {f0 : Addr} (hr : Room (n + 1) A) (e0 : Env0 P w K mg base A outer s H) (lf : LamFrom P w K mg base (namesOf E false) outer s a H (n + 1) f0 L)
    (st : MRel K a m H) (r : RepVs K H a ds vs) (rv : Vals vs us) (hl : ds.length + 1 = e.ps.length) (q : TrE Ex mg K a H (runN (tab E) g wf (n + 1) e.name L ds m) Q) :
    codeAny (model P w) A (.call (.ref p) ⟨us ++ [.ref f0], []⟩) (CR (L2.CX P w) outer P w H s Q Ex) s := by
  obtain ⟨h3, h4, S, h2⟩ := ent_bind (W.ok e he)
  rw [hf] at h3
  simp only [if_true] at h3
  obtain ⟨oc, od, dV, kV, doc, pm, an, cdv, ct, osl, hfd, lk, hcd, _, _⟩ := pl.F.ex
  obtain ⟨c, rfl⟩ := code_ref hcd
  subst hfd
  have lv : ds.length = vs.length := by
    letI : LamCl := noCl
    letI : ExC := ⟨Ex, mg⟩
    exact RepVs.length r
  have lu := rv.length
  have hb := pl.b s (us ++ [.ref f0]) (e0.mod.kin.keeps fun b o z => (e0.bs b o z).1) (by simp; omega)
  rw [List.append_nil] at hb
  refine LamX.run_ofS (N := e.N) (ps := e.ps) (us := us ++ [.ref f0]) (vs := vs ++ [.ref f0]) lk hcd S hr e0 hb (rv.append (.cons (show L2.RelV (V.ref f0) (Value.ref f0) from rfl) .nil)) (by simp; omega) fun hr' => ?_
  letI : LamCl := ⟨[(e.d.np, f0)], a, H⟩
  letI : ExC := ⟨Ex, mg⟩
  have hfs : (fsOf E e).cl = [e.d.np] := by
    unfold fsOf
    rw [hf]
    rfl
  have G := good_of (outer := outer) (s := s) (P := P) (w := w) (base := base) (wf := wf) (L := L) (Ex := Ex) (H := H) W hT TB IH he pl lk rfl hr' (fun q hq => by
      have hq : q = (e.d.np, f0) := List.mem_singleton.mp hq
      rw [hfs, hq]
      simp) (fun _ => by rw [hfs]; rfl) (fun _ q hq => by
      have hq : q = (e.d.np, f0) := List.mem_singleton.mp hq
      rw [hq]
      exact ⟨lf, rfl⟩)
  refine ⟨_, (soundSs e.d.body ⟨[(e.d.np, f0)], a, H⟩ ⟨Ex, mg⟩ _ _).sts _ _ _ h2 _ n G rfl rfl, ?_⟩
  rw [runN_succ, tab_look W.nd he] at q
  have hnp : ds.length = e.d.np := by omega
  simp only [runDef, if_pos hnp] at q
  have hps := ps_le S
  have sl := srel_hof (N := e.N) (k := e.d.ns - e.d.np) (np := e.d.np) (f0 := f0) r (by omega) hnp.symm (by omega)
  exact ⟨a, _, m, st, sl, rs_end q⟩
theorem table_all [LamCl] (W : World0 K mg E g) (hT : LamTab.T = tabsOf K E) (TB : TabsAt K mg E base) : ∀ n, ∀ j, j ≤ n → TabOk P w K mg base E g wf j
  | 0, j, hj => by
    have : j = 0 := Nat.le_zero.mp hj
    subst this
    refine ⟨fun f hf => ?_, fun f hf => ?_⟩
    · obtain ⟨e, he, h1, rfl⟩ := names_mem hf
      obtain ⟨p, fd, pl⟩ := W.pl e he
      exact ⟨p, fd, e.ps, pl.g, pl.F.kp, pl.b, ⟨fun vs H Q E ⟨a, m, ds, st, r, hl, q⟩ => by rw [← r.length, hl], fun A outer s H args us vs Q E _ _ _ _ ⟨a, m, ds, _, _, _, q⟩ => q.elim⟩, fun _ _ _ => rfl⟩
    · obtain ⟨e, he, h1, rfl⟩ := names_mem hf
      obtain ⟨p, fd, pl⟩ := W.pl e he
      exact ⟨p, fd, e.ps, pl.g, pl.F.kp, pl.b, fun _ _ _ _ => rfl, fun A outer s H L us vs ds a m Q E f0 hr e0 lf st r rv hl q => q.elim⟩
  | n + 1, j, hj => by
    have IH := table_all W hT TB n
    rcases Nat.lt_or_ge n j with q | q
    · have : j = n + 1 := by omega
      subst this
      refine ⟨fun f hf => ?_, fun f hf => ?_⟩
      · obtain ⟨e, he, h1, rfl⟩ := names_mem hf
        obtain ⟨p, fd, pl⟩ := W.pl e he
        refine ⟨p, fd, e.ps, pl.g, pl.F.kp, pl.b, table_fn W hT TB IH he h1 pl, fun ds m hds => ?_⟩
        rw [callN_succ, tab_look W.nd he]
        obtain ⟨h3, _⟩ := ent_bind (W.ok e he)
        rw [h1] at h3
        simp only [Bool.false_eq_true, if_false, Nat.add_zero] at h3
        simp only [runDef]
        rw [if_neg (by rw [h3]; exact hds)]
      · obtain ⟨e, he, h1, rfl⟩ := names_mem hf
        obtain ⟨p, fd, pl⟩ := W.pl e he
        refine ⟨p, fd, e.ps, pl.g, pl.F.kp, pl.b, fun L ds m hds => ?_, fun A outer s H L us vs ds a m Q E f0 hr e0 lf st r rv hl q => table_hof W hT TB IH he h1 pl hr e0 lf st r rv hl q⟩
        rw [runN_succ, tab_look W.nd he]
        obtain ⟨h3, _⟩ := ent_bind (W.ok e he)
        rw [h1] at h3
        simp only [if_true] at h3
        simp only [runDef]
        rw [if_neg (by omega)]
    · exact IH j q
/-- the law's promise: the script's call tells True -/
theorem law_sp {n : Nat} {f : Str} (h : ∀ ns : List Int, ns.length ≤ 63 → ∃ m', callN (tab E) g wf n f [.scr ns] [] = .ok (.bl true) m') (H : Hp) (a : Addr) (ns : List Int) (hl : ns.length ≤ 63) (hT : LamX.Tabs LamTab.T H) (hS : SqL K H a (ns.map V.int)) :
    spS K mg 1 (callN (tab E) g wf n f) [.ref a] H (fun v _ => v = .bl true) fun _ _ _ => False := by
  obtain ⟨m', e⟩ := h ns hl
  refine ⟨⟨[], []⟩, [], [.scr ns], ⟨List.nodup_nil, rfl, by simp, by simp, by simp, hT⟩, .cons (.scr ?_ (Nat.le_trans hl (by decide))) .nil, rfl, ?_⟩
  · exact hS.imp (fun z => ⟨z, ⟨by simp, by simp⟩⟩) id
  · rw [e]
    intro a' H' v _ _ rv
    cases rv
    rfl
theorem cx_false {H : Hp} {s : Shared} {e : Value} {s' : Shared} (h : L2.CX P w [] H s (fun _ _ _ => False) e s') : False := by
  obtain ⟨_, _, _, _, _, _, _, _, _, _, _, _, z⟩ := h
  exact z
end
end Br


set_option Elab.async false
set_option linter.all false
set_option maxRecDepth 100000
set_option maxHeartbeats 1000000
set_option autoImplicit false
/-! Br: the head's facts, the law's end. -/
namespace Br
open PySem PySem.Spec PyProof.Rows L2
def dvOf : D → He.Dv
  | .int i => .int i
  | .str x => .str x
  | .bl b => .bl b
  | _ => .non
def flatB : D → Bool
  | .int _ => true
  | .bl _ => true
  | .non => true
  | .str x => PySem.PyData.strOk x
  | _ => false
def gloB : Str × D → Bool
  | (_, .int _) => true
  | (_, .str x) => PySem.PyData.strOk x
  | (_, .tup ds) => decide (ds.length ≤ 60) && ds.all flatB
  | _ => false
def faOf (E : List Ent) (gl : List (Str × D)) : List He.Fa :=
  E.map (fun e => .glo e.name) ++ (blts.map (fun x => .free x) ++ gl.map fun q => match q.2 with
    | .int i => .int q.1 i
    | .str x => .str q.1 x
    | _ => .glo q.1)
def dfOf (E : List Ent) (XL : List (Str × Stmt)) : List He.DefD := (E.map fun e => ⟨(e.name, none), e.name, e.name, defArgs e.st, defBody e.st, defScope e.st, [], []⟩) ++ XL.map fun q => ⟨(q.1, some "__init__"), "__init__", q.1 ++ ".__init__", defArgs q.2, defBody q.2, defScope q.2, [], []⟩
/-- the classes' text stands in the list -/
def xlB (E : List Ent) (XL : List (Str × Stmt)) : Bool := !(E.any (·.xk)) || xcls.all fun q => q.2.isEmpty || (match XL.lookup q.1 with
  | some st => initB q.2 st
  | none => false)
def BindI (c : Str) (st : Stmt) : Prop := ∀ (kV doc pm : Value) (an : Option Addr) (cdv ct : Value) (us : List Value), us.length = (("self" : Str) :: flds c).length → bindArgs (PySem.W.fnOf "__init__" (c ++ ".__init__") (defArgs st) (defBody st) (defScope st) .none kV doc pm an cdv ct) ⟨us, []⟩ = pure ((("self" : Str) :: flds c).zip us)
def exOf (E : List Ent) (gl : List (Str × D)) (K : PySem.W.Frag) : Bool := (gl.all fun q => match q.2 with
  | .tup ds => He.tupB K q.1 (ds.map dvOf)
  | _ => true) && (decide (((E.filter (·.lk)).map fun e => (cdOf K e).2).Nodup) && (!(E.any (·.xk)) || xkB K))
def tfOf (E : List Ent) : List He.Defn := (E.filter (·.lk)).map fun e => (e.name, none)
def BindOk (e : Ent) : Prop := ∀ (kV doc pm : Value) (an : Option Addr) (cdv ct : Value) (us : List Value), us.length = e.ps.length → bindArgs (PySem.W.fnOf e.name e.name (defArgs e.st) (defBody e.st) (defScope e.st) .none kV doc pm an cdv ct) ⟨us, []⟩ = pure (e.ps.zip us)
section
variable {K : PySem.W.Frag} {mg : Str → Option Value} {E : List Ent} {gl : List (Str × D)} {w : World} {h h0 : Heap}
theorem gflat_rep {d : D} (c : flatB d = true) (H : Hp) (a : Ad) : RepV K H a d ((dvOf d).v K) := by
  cases d <;> first | (cases c; done) | exact .int _ | exact .bl _ | exact .non | exact .str _ c
theorem gflat_reps : ∀ {ds : List D}, ds.all flatB = true → ∀ (H : Hp) (a : Ad), RepVs K H a ds ((ds.map dvOf).map (He.Dv.v K))
  | [], _, _, _ => .nil
  | d :: ds, c, H, a => by
    simp only [List.all_cons, Bool.and_eq_true] at c
    exact .cons (gflat_rep c.1 H a) (gflat_reps c.2 H a)
theorem lookup_memS {α : Type} {x : Str} {v : α} : ∀ {l : List (Str × α)}, l.lookup x = some v → (x, v) ∈ l
  | [], h => by cases h
  | (y, u) :: r, h => by
    simp only [List.lookup_cons] at h
    cases q : (x == y) with
    | true =>
      rw [q] at h
      rw [beq_iff_eq.mp q, Option.some.inj h]
      exact List.mem_cons_self
    | false =>
      rw [q] at h
      exact List.mem_cons_of_mem _ (lookup_memS h)
theorem world_of (X : K.In h) (G : h.Ns mainGlobals mg) {XL : List (Str × Stmt)} (c : He.SaysX (faOf E gl) (dfOf E XL) [] (tfOf E) (exOf E gl) w h0 K) (ok : E.all (entB E) = true) (nd : (E.map (·.name)).Nodup) (hb : ∀ e ∈ E, BindOk e) (hg : gl.all gloB = true) (hx : xlB E XL = true) (hi : ∀ q ∈ XL, BindI q.1 q.2) :
    World0 K mg E (fun x => gl.lookup x) := by
  have more := c.more
  unfold exOf at more
  rw [Bool.and_eq_true, Bool.and_eq_true, decide_eq_true_eq] at more
  refine ⟨fun e he => List.all_eq_true.mp ok e he, nd, fun e he => ?_, fun x hx => ?_, fun x d hd => ?_, more.2.1, fun e he hk => ?_⟩
  · obtain ⟨fd, F⟩ := c.t.d.defs (d := ⟨(e.name, none), e.name, e.name, defArgs e.st, defBody e.st, defScope e.st, [], []⟩) (by
      unfold dfOf
      exact List.mem_append_left _ (List.mem_map.mpr ⟨e, he, rfl⟩))
    have g := He.glo_ok (x := e.name) X G (c.t.d.facts (by
      unfold faOf
      exact List.mem_append_left _ (List.mem_map.mpr ⟨e, he, rfl⟩)))
    exact ⟨_, fd, F, g, FunD.bindsN (ps := e.ps) F (hb e he), rfl⟩
  · exact He.free_ok X G (c.t.d.facts (by
      unfold faOf
      exact List.mem_append_right _ (List.mem_append_left _ (List.mem_map.mpr ⟨x, hx, rfl⟩))))
  · have hm := lookup_memS hd
    have hB := List.all_eq_true.mp hg _ hm
    have hf : ∀ f, f = (match d with
        | .int i => He.Fa.int x i
        | .str z => .str x z
        | _ => .glo x) → f.ok K = true := fun f e => c.t.d.facts (by
      unfold faOf
      rw [e]
      exact List.mem_append_right _ (List.mem_append_right _ (List.mem_map.mpr ⟨(x, d), hm, rfl⟩)))
    have hx := List.all_eq_true.mp more.1 _ hm
    cases d with
    | int i =>
      obtain ⟨t, e⟩ := He.int_ok X G (hf _ rfl)
      exact ⟨.int i, _, e, ⟨t, rfl⟩, fun H a => .int i⟩
    | str z =>
      obtain ⟨t, e⟩ := He.str_ok X G (hf _ rfl)
      exact ⟨.str z, _, e, ⟨t, rfl⟩, fun H a => .str z hB⟩
    | tup ds =>
      have e := He.glo_ok X G (hf _ rfl)
      simp only [gloB, Bool.and_eq_true, decide_eq_true_eq] at hB
      refine ⟨.ref _, _, e, rfl, fun H a => .tup (.inr ?_) (Nat.le_trans hB.1 (by decide)) (gflat_reps hB.2 H a)⟩
      rcases He.tupB_ok hx (fun _ => none) with q | q
      · rcases q with q | ⟨o, q⟩
        · cases q
        · cases q
      · exact q
    | _ => cases hB
  · have ha : E.any (·.xk) = true := List.any_eq_true.mpr ⟨e, he, hk⟩
    have m2 := more.2.2
    rw [ha] at m2
    simp only [Bool.not_true, Bool.false_or] at m2
    unfold xlB at hx
    rw [ha] at hx
    simp only [Bool.not_true, Bool.false_or] at hx
    refine ⟨m2, fun q hq => ?_, fun q hq hne => ?_⟩
    · have := List.all_eq_true.mp (He.ba m2).2 q hq
      exact He.glo_ok X G (He.ba this).1
    · have h1 := List.all_eq_true.mp hx q hq
      have hne' : q.2.isEmpty = false := by simpa using hne
      rw [hne', Bool.false_or] at h1
      split at h1
      · rename_i st hst
        have hm := lookup_memS hst
        obtain ⟨fd, F⟩ := c.t.d.defs (d := ⟨(q.1, some "__init__"), "__init__", q.1 ++ ".__init__", defArgs st, defBody st, defScope st, [], []⟩) (by
          unfold dfOf
          exact List.mem_append_right _ (List.mem_map.mpr ⟨(q.1, st), hm, rfl⟩))
        have hfl : flds q.1 = q.2 := by
          have : ∀ q ∈ xcls, flds q.1 = q.2 := by decide
          exact this q hq
        have hb2 := hi _ hm
        unfold BindI at hb2
        simp only [hfl] at hb2
        exact ⟨st, fd, h1, F, FunD.bindsN (ps := "self" :: q.2) F hb2⟩
      · cases h1
end
/-! the head's look: what the names reach, and the interpreter's statics -/
def KY (g : Addr → Option Obj) (n : Nat) : PySem.W.Frag := He.frT g (He.asD g n ++ [PySem.cStatics])
def obsY (n : Nat) (fa : List He.Fa) (fn : List He.DefD) (tf : List He.Defn) (ex : PySem.W.Frag → Bool) (g : Addr → Option Obj) : He.AlX :=
  (He.obsT fa fn [] (KY g n), ex (KY g n) && He.tabsB g tf (KY g n))
theorem saysY {n : Nat} {fa : List He.Fa} {fn : List He.DefD} {tf : List He.Defn} {ex : PySem.W.Frag → Bool} {w : World} {h : Heap} (z : obsY n fa fn tf ex h.get? = He.valX fn [] w) : He.SaysX fa fn [] tf ex w h (KY h.get? n) := by
  have z1 := congrArg Prod.fst z
  have z2 : (ex (KY h.get? n) && He.tabsB h.get? tf (KY h.get? n)) = true := congrArg Prod.snd z
  rw [Bool.and_eq_true] at z2
  have both := fun p (hp : p ∈ tf) => Bool.and_eq_true_iff.mp (List.all_eq_true.mp z2.2 p hp)
  have tb : ∀ p ∈ tf, ∃ o, h.get? (He.cT (KY h.get? n) p).2 = some o ∧ He.emptyTab o = true := fun p hp => by
    have y := (both p hp).2
    cases e : h.get? (He.cT (KY h.get? n) p).2 with
    | some o => exact ⟨o, rfl, by rwa [e] at y⟩
    | none => rw [e] at y; cases y
  exact ⟨z1, z2.1, fun p hp => (both p hp).1, fun p hp => (tb p hp).elim fun o q => He.frT_none q.1 q.2, fun p hp => (tb p hp).elim fun o q => by rw [q.1, He.emptyTab_eq q.2]⟩
def hookY (n : Nat) (fa : List He.Fa) (fn : List He.DefD) (tf : List He.Defn) (ex : PySem.W.Frag → Bool) : PySem.W.Hook :=
  ⟨He.AlX, fun s => obsY n fa fn tf ex s.heap.get?, fun w => He.valX fn [] w, fun w h => ∃ K : PySem.W.Frag, K.In h ∧ He.SaysX fa fn [] tf ex w h K, fun _ _ e => ⟨_, He.frT_in, saysY e⟩,
    fun _ _ _ ⟨K, hK, c⟩ k => ⟨K, PySem.W.Frag.In.keeps hK k, ⟨c.t, c.more, c.hd, c.out, fun p hp => k _ _ (c.empty p hp)⟩⟩⟩
theorem obsY_eq {n : Nat} {fa : List He.Fa} {fn : List He.DefD} {tf : List He.Defn} {ex : PySem.W.Frag → Bool} {g : Addr → Option Obj} {s : Shared} (h : ∀ a, g a = s.heap.get? a) : obsY n fa fn tf ex g = (hookY n fa fn tf ex).obs s := by
  rw [funext h] <;> rfl
/-- the law's end -/
theorem end_of {l : PySem.W.OpenLaw} {q : Program} {loose : List Str} {XP : (Str → Option Value) → Heap → Prop} {d : DefRec} {x : Str} {E : List Ent} {gl : List (Str × D)} {e : Ent} {n wf : Nat} {XL : List (Str × Stmt)}
    (hn : l.most = some 63) (hdf : d.params.defaults = []) (hr : Room n callerA) (hd : d.name = e.name) (he : e ∈ E) (hp : e.ps = [x]) (hh : e.hf = false)
    (ok : E.all (entB E) = true) (nd : (E.map (·.name)).Nodup) (hb : ∀ e ∈ E, BindOk e) (hg' : gl.all gloB = true) (hx : xlB E XL = true) (hi : ∀ q ∈ XL, BindI q.1 q.2)
    (law : ∀ ns : List Int, ns.length ≤ 63 → ∃ m', callN (tab E) (fun x => gl.lookup x) wf n e.name [.scr ns] [] = .ok (.bl true) m') :
    PySem.W.WalkO q loose XP (fun w h => ∃ K : PySem.W.Frag, K.In h ∧ He.SaysX (faOf E gl) (dfOf E XL) [] (tfOf E) (exOf E gl) w h K) l.row.toRowW d [] (fun f vs => PySem.call f vs) := by
  refine LamX.walk_ofTsE (n := 63) (k := n) (CX := fun w => L2.CX l.prog w) (x := x) hn (by decide) hdf hr ?_ fun w H s e s' z => @cx_false ⟨[]⟩ _ _ _ _ _ _ z
  rintro w mg fa h ⟨K, KX, c⟩ hns hmg
  letI : LamTab := ⟨tabsOf K E⟩
  have W := world_of KX hns c ok nd hb hg' hx hi
  obtain ⟨p, fd, pl⟩ := W.pl e he
  rw [hd, pl.g] at hmg
  have ep : p = fa := by
    injection hmg with z
    injection z
  subst ep
  have hB : ∀ (s : Shared) (u : Value), BindsTo s fd ⟨[u], []⟩ [(x, u)] := fun s u => by
    have z := FunD.bindsA (ps := e.ps) pl.F (hb e he) s [u] (by rw [hp]; rfl)
    rw [hp] at z
    exact z
  have mem : ∀ e ∈ E, e.lk = true → (e.name, none) ∈ tfOf E := fun e he hl => List.mem_map.mpr ⟨e, List.mem_filter.mpr ⟨he, hl⟩, rfl⟩
  have cs : ∀ r ∈ (E.filter (·.lk)).map (cdOf K), ∃ e ∈ E, e.lk = true ∧ r = He.cT K (e.name, none) := fun r hr => by
    obtain ⟨e', h1, h2⟩ := List.mem_map.mp hr
    obtain ⟨h3, h4⟩ := List.mem_filter.mp h1
    exact ⟨e', h3, h4, h2.symm⟩
  refine ⟨K, KX, fd, (E.filter (·.lk)).map (cdOf K), spS K mg 1 (callN (tab E) (fun x => gl.lookup x) wf n e.name), fun r hr => ?_, fun r hr => ?_, fun r hr => ?_, hB, fun H a ns hlen _ hT hS => ?_, fun base hK hN TB => ?_⟩
  · obtain ⟨e', h1, h2, rfl⟩ := cs r hr
    exact c.empty _ (mem e' h1 h2)
  · obtain ⟨e', h1, h2, rfl⟩ := cs r hr
    exact c.out _ (mem e' h1 h2)
  · obtain ⟨e', h1, h2, rfl⟩ := cs r hr
    exact PySem.W.codeHd_of_K KX (c.hd _ (mem e' h1 h2))
  · refine law_sp law H a ns hlen (fun r hr => ?_) hS
    obtain ⟨e', h1, rfl⟩ := List.mem_map.mp hr
    exact LamX.TabS.nil (hT _ (List.mem_map.mpr ⟨e', h1, rfl⟩))
  · have W' : World0 K mg E (fun x => gl.lookup x) := W
    cases n with
    | zero =>
      obtain ⟨m', z⟩ := law [] (by simp)
      cases z
    | succ n =>
      letI : LamCl := noCl
      have t := table_fn (P := l.prog) (w := w) (base := base) (wf := wf) W rfl (fun e' he' hl => TB _ (List.mem_map.mpr ⟨e', List.mem_filter.mpr ⟨he', hl⟩, rfl⟩)) (table_all (P := l.prog) (w := w) (base := base) (wf := wf) W rfl (fun e' he' hl => TB _ (List.mem_map.mpr ⟨e', List.mem_filter.mpr ⟨he', hl⟩, rfl⟩)) n) he hh pl
      rw [hp] at t
      exact t
end Br


set_option Elab.async false
set_option linter.all false
set_option maxRecDepth 100000
set_option maxHeartbeats 1000000
set_option autoImplicit false
/-! Br: how a term of the small language is worked through (no program here). -/
namespace Br
open PySem PySem.Spec PyProof.Rows L2
abbrev XQ := Str → List D → Mem → Prop
@[irreducible] def Res.W {α : Type} (r : Res α) (Q : α → Mem → Prop) (E : XQ) : Prop := match r with
  | .ok a m => Q a m
  | .ex c ds m => E c ds m
  | .bad => False
@[irreducible] def Rs.W (r : Rs) (N : Sl → Mem → Prop) (R : D → Mem → Prop) (E : XQ) : Prop := match r with
  | .nx ρ m => N ρ m
  | .rt d m => R d m
  | .ex c ds m => E c ds m
  | .bad => False
abbrev noE : XQ := fun _ _ _ => False
def IsS {α : Type} (o : Option α) (f : α → Prop) : Prop := match o with
  | some x => f x
  | none => False
@[simp] theorem IsS_some {α : Type} {x : α} {f : α → Prop} : IsS (some x) f ↔ f x := Iff.rfl
@[simp] theorem IsS_none {α : Type} {f : α → Prop} : IsS none f ↔ False := Iff.rfl
@[simp] theorem IsS_if {α : Type} {c : Prop} [Decidable c] {x y : Option α} {f : α → Prop} : IsS (if c then x else y) f ↔ (c → IsS x f) ∧ (¬c → IsS y f) := by by_cases h : c <;> simp [h]
theorem IsS.mk {α : Type} {o : Option α} {x : α} {f : α → Prop} (h : o = some x) (hf : f x) : IsS o f := by rw [h]; exact hf
def IsB (d : D) (f : Bool → Prop) : Prop := match d with
  | .bl b => f b
  | _ => False
@[simp] theorem IsB_bl {b : Bool} {f : Bool → Prop} : IsB (.bl b) f ↔ f b := Iff.rfl
def Two (t : Bool) (A B : Prop) : Prop := (t = true → A) ∧ (t = false → B)
@[simp] theorem Two_true {A B : Prop} : Two true A B ↔ A := by simp [Two]
@[simp] theorem Two_false {A B : Prop} : Two false A B ↔ B := by simp [Two]
@[simp] theorem Two_not {b : Bool} {A B : Prop} : Two (!b) A B ↔ Two b B A := by cases b <;> simp
@[simp] theorem Two_dec {p : Prop} [Decidable p] {A B : Prop} : Two (decide p) A B ↔ (p → A) ∧ (¬p → B) := by by_cases h : p <;> simp [h]
@[simp] theorem Two_and {b c : Bool} {A B : Prop} : Two (b && c) A B ↔ Two b (Two c A B) B := by cases b <;> simp
@[simp] theorem Two_or {b c : Bool} {A B : Prop} : Two (b || c) A B ↔ Two b A (Two c A B) := by cases b <;> simp
theorem Two.mk {b : Bool} {A B : Prop} (h1 : b = true → A) (h2 : b = false → B) : Two b A B := ⟨h1, h2⟩
theorem IsS_iff {α : Type} {o : Option α} {f : α → Prop} : IsS o f ↔ ∃ x, o = some x ∧ f x := by cases o <;> simp
theorem IsB_iff {d : D} {f : Bool → Prop} : IsB d f ↔ ∃ b, d = .bl b ∧ f b := by cases d <;> simp [IsB]
theorem IsB_def {d : D} {f : Bool → Prop} (h : ∀ b, d ≠ .bl b) : IsB d f ↔ False := by cases d <;> first | exact Iff.rfl | exact absurd rfl (h _)
section
variable {α β : Type} {Q : α → Mem → Prop} {E : XQ} {N : Sl → Mem → Prop} {R : D → Mem → Prop} {m : Mem} {ρ : Sl} {F : Fe}
@[simp] theorem W_ok {a : α} : (Res.ok a m).W Q E ↔ Q a m := by unfold Res.W; exact Iff.rfl
@[simp] theorem W_bad : (Res.bad : Res α).W Q E ↔ False := by unfold Res.W; exact Iff.rfl
@[simp] theorem W_ex {c : Str} {ds : List D} : (Res.ex c ds m : Res α).W Q E ↔ E c ds m := by unfold Res.W; exact Iff.rfl
@[simp] theorem Ws_nx : (Rs.nx ρ m).W N R E ↔ N ρ m := by unfold Rs.W; exact Iff.rfl
@[simp] theorem Ws_rt {d : D} : (Rs.rt d m).W N R E ↔ R d m := by unfold Rs.W; exact Iff.rfl
@[simp] theorem Ws_bad : (Rs.bad).W N R E ↔ False := by unfold Rs.W; exact Iff.rfl
@[simp] theorem Ws_ex {c : Str} {ds : List D} : (Rs.ex c ds m).W N R E ↔ E c ds m := by unfold Rs.W; exact Iff.rfl
theorem W_bind {r : Res α} {f : α → Mem → Res β} {Q : β → Mem → Prop} : (r.bind f).W Q E ↔ r.W (fun a m => (f a m).W Q E) E := by cases r <;> simp [Res.bind]
theorem Ws_go {r : Res α} {f : α → Mem → Rs} : (r.go f).W N R E ↔ r.W (fun a m => (f a m).W N R E) E := by cases r <;> simp [Res.go]
theorem Ws_thn {r : Rs} {f : Sl → Mem → Rs} : (r.thn f).W N R E ↔ r.W (fun ρ m => (f ρ m).W N R E) R E := by cases r <;> simp [Rs.thn]
theorem W_optR {o : Option D} {Q : D → Mem → Prop} : (optR o m).W Q E ↔ IsS o fun d => Q d m := by cases o <;> simp [optR]
theorem W_optB {o : Option Bool} {Q : D → Mem → Prop} : (optB o m).W Q E ↔ IsS o fun b => Q (.bl b) m := by cases o <;> simp [optB]
theorem Res.W.mono {r : Res α} {Q' : α → Mem → Prop} (h : r.W Q E) (hq : ∀ a m, Q a m → Q' a m) : r.W Q' E := by
  cases r with
  | ok a m => exact W_ok.mpr (hq _ _ (W_ok.mp h))
  | ex c ds m => exact W_ex.mpr (W_ex.mp h)
  | bad => exact (W_bad.mp h).elim
theorem Rs.W.mono {r : Rs} {N' : Sl → Mem → Prop} {R' : D → Mem → Prop} (h : r.W N R E) (hn : ∀ ρ m, N ρ m → N' ρ m) (hr : ∀ d m, R d m → R' d m) : r.W N' R' E := by
  cases r with
  | nx ρ m => exact Ws_nx.mpr (hn _ _ (Ws_nx.mp h))
  | rt d m => exact Ws_rt.mpr (hr _ _ (Ws_rt.mp h))
  | ex c ds m => exact Ws_ex.mpr (Ws_ex.mp h)
  | bad => exact (Ws_bad.mp h).elim
theorem Res.W.lift {r : Res α} (h : r.W Q noE) : r.W Q E := by
  cases r with
  | ok a m => exact W_ok.mpr (W_ok.mp h)
  | ex c ds m => exact (W_ex.mp h).elim
  | bad => exact (W_bad.mp h).elim
theorem W_nox {r : Res α} : r.nox.W Q E ↔ r.W Q noE := by cases r <;> simp [Res.nox]
theorem Res.W.monoE {r : Res α} {Q' : α → Mem → Prop} {E' : XQ} (h : r.W Q E) (hq : ∀ a m, Q a m → Q' a m) (he : ∀ c ds m, E c ds m → E' c ds m) : r.W Q' E' := by
  cases r with
  | ok a m => exact W_ok.mpr (hq _ _ (W_ok.mp h))
  | ex c ds m => exact W_ex.mpr (he _ _ _ (W_ex.mp h))
  | bad => exact (W_bad.mp h).elim
theorem W_congr {r : Res α} {Q' : α → Mem → Prop} (h : ∀ a m, Q a m ↔ Q' a m) : r.W Q E ↔ r.W Q' E := ⟨fun z => z.mono fun a m => (h a m).mp, fun z => z.mono fun a m => (h a m).mpr⟩
theorem eq_of_W {r : Res α} {a : α} (h : r.W (fun x m' => x = a ∧ m' = m) noE) : r = .ok a m := by
  cases r with
  | ok x m' => rw [(W_ok.mp h).1, (W_ok.mp h).2]
  | ex c ds m => exact (W_ex.mp h).elim
  | bad => exact (W_bad.mp h).elim
theorem ok_of_W {r : Res α} (h : r.W Q noE) : ∃ a m, r = .ok a m ∧ Q a m := by
  cases r with
  | ok x m' => exact ⟨x, m', rfl, W_ok.mp h⟩
  | ex c ds m => exact (W_ex.mp h).elim
  | bad => exact (W_bad.mp h).elim
end
section
variable {E : XQ} {N : Sl → Mem → Prop} {R : D → Mem → Prop} {m : Mem} {ρ : Sl} {F : Fe} {Q : D → Mem → Prop} {QL : List D → Mem → Prop}
@[simp] theorem W_var {i : Nat} : (evE F (.var i) ρ m).W Q E ↔ IsS (ρ[i]?) fun o => IsS o fun d => Q d m := by
  unfold evE
  cases e : ρ[i]? with
  | none => simp
  | some o => cases o <;> simp
@[simp] theorem W_glo {x : Str} : (evE F (.glo x) ρ m).W Q E ↔ IsS (F.glo x) fun d => Q d m := W_optR
@[simp] theorem W_cst {d : D} : (evE F (.cst d) ρ m).W Q E ↔ Q d m := by rw [evE, W_ok]
@[simp] theorem W_bin {o : Bop} {a b : Ex} : (evE F (.bin o a b) ρ m).W Q E ↔ (evE F a ρ m).W (fun x m1 => (evE F b ρ m1).W (fun y m2 => IsS (binD m2 o x y) fun d => Q d m2) E) E := by
  rw [evE, W_bind]
  refine W_congr fun x m1 => ?_
  rw [W_bind]
  exact W_congr fun y m2 => W_optR
@[simp] theorem W_cmp {o : Cop} {a b : Ex} : (evE F (.cmp o a b) ρ m).W Q E ↔ (evE F a ρ m).W (fun x m1 => (evE F b ρ m1).W (fun y m2 => IsS (cmpD m2 o x y) fun d => Q (.bl d) m2) E) E := by
  rw [evE, W_bind]
  refine W_congr fun x m1 => ?_
  rw [W_bind]
  exact W_congr fun y m2 => W_optB
@[simp] theorem W_chain {o o' : Cop} {a b c : Ex} : (evE F (.chain o o' a b c) ρ m).W Q E ↔ (evE F a ρ m).W (fun x m1 => (evE F b ρ m1).W (fun y m2 => IsS (cmpD m2 o x y) fun d => Two d ((evE F c ρ m2).W (fun z m3 => IsS (cmpD m3 o' y z) fun d' => Q (.bl d') m3) E) (Q (.bl false) m2)) E) E := by
  rw [evE, W_bind]
  refine W_congr fun x m1 => ?_
  rw [W_bind]
  refine W_congr fun y m2 => ?_
  cases cmpD m2 o x y with
  | none => simp
  | some b => cases b <;> simp [W_bind, W_optB]
theorem W_onB {r : Res D} {f : Bool → Mem → Res D} : (onB r f).W Q E ↔ r.W (fun d m => IsB d fun b => (f b m).W Q E) E := by
  unfold onB
  rw [W_bind]
  refine W_congr fun d m => ?_
  cases d <;> simp [IsB]
@[simp] theorem W_and {a b : Ex} : (evE F (.and a b) ρ m).W Q E ↔ (evE F a ρ m).W (fun x m1 => IsB x fun t => Two t ((evE F b ρ m1).W Q E) (Q (.bl false) m1)) E := by
  rw [evE, W_onB]
  refine W_congr fun d m => ?_
  cases d with
  | bl t => cases t <;> simp
  | _ => exact Iff.rfl
@[simp] theorem W_or {a b : Ex} : (evE F (.or a b) ρ m).W Q E ↔ (evE F a ρ m).W (fun x m1 => IsB x fun t => Two t (Q (.bl true) m1) ((evE F b ρ m1).W Q E)) E := by
  rw [evE, W_onB]
  refine W_congr fun d m => ?_
  cases d with
  | bl t => cases t <;> simp
  | _ => exact Iff.rfl
@[simp] theorem W_not {a : Ex} : (evE F (.not a) ρ m).W Q E ↔ (evE F a ρ m).W (fun x m1 => IsB x fun t => Q (.bl (!t)) m1) E := by
  rw [evE, W_onB]
  simp only [W_ok]
@[simp] theorem W_ite {c a b : Ex} : (evE F (.ite c a b) ρ m).W Q E ↔ (evE F c ρ m).W (fun x m1 => IsB x fun t => Two t ((evE F a ρ m1).W Q E) ((evE F b ρ m1).W Q E)) E := by
  rw [evE, W_onB]
  refine W_congr fun d m => ?_
  cases d with
  | bl t => cases t <;> simp
  | _ => exact Iff.rfl
@[simp] theorem W_fn {f : Fn} {es : Exs} : (evE F (.fn f es) ρ m).W Q E ↔ (evEs F es ρ m).W (fun ds m1 => (fnD m1 f ds).W Q E) E := by rw [evE, W_bind]
@[simp] theorem W_isin {a : Ex} {ts : List Ty} : (evE F (.isin a ts) ρ m).W Q E ↔ (evE F a ρ m).W (fun x m1 => IsS (anyTy m1 x ts) fun d => Q (.bl d) m1) E := by
  rw [evE, W_bind]
  exact W_congr fun y m2 => W_optB
@[simp] theorem W_call {f : Str} {es : Exs} : (evE F (.call f es) ρ m).W Q E ↔ (evEs F es ρ m).W (fun ds m1 => (F.call f ds m1).W Q E) E := by rw [evE, W_bind]
@[simp] theorem W_idx {a b : Ex} : (evE F (.idx a b) ρ m).W Q E ↔ (evE F a ρ m).W (fun x m1 => (evE F b ρ m1).W (fun y m2 => IsS (idxD m2 x y) fun d => Q d m2) E) E := by
  rw [evE, W_bind]
  refine W_congr fun x m1 => ?_
  rw [W_bind]
  exact W_congr fun y m2 => W_optR
@[simp] theorem W_sli {a : Ex} {lo hi : Exs} : (evE F (.sli a lo hi) ρ m).W Q E ↔ (evE F a ρ m).W (fun x m1 => (evEs F lo ρ m1).W (fun l m2 => (evEs F hi ρ m2).W (fun h m3 => IsS (partOf l) fun l' => IsS (partOf h) fun h' => IsS (sliD m3 x l' h') fun d => Q d m3) noE) noE) E := by
  rw [evE, W_bind]
  refine W_congr fun x m1 => ?_
  rw [W_bind, W_nox]
  refine W_congr fun l m2 => ?_
  rw [W_bind, W_nox]
  refine W_congr fun h m3 => ?_
  cases partOf l <;> cases partOf h <;> simp [W_optR]
@[simp] theorem W_tup {es : Exs} : (evE F (.tup es) ρ m).W Q E ↔ (evEs F es ρ m).W (fun ds m1 => ds.length ≤ big ∧ Q (.tup ds) m1) E := by
  rw [evE, W_bind]
  refine W_congr fun ds m1 => ?_
  by_cases h : ds.length ≤ big <;> simp [h]
@[simp] theorem W_lstT {es : Exs} : (evE F (.lst true es) ρ m).W Q E ↔ (evEs F es ρ m).W (fun ds m1 => ds.length ≤ big ∧ Q (.lst ds) m1) E := by
  rw [evE, W_bind]
  refine W_congr fun ds m1 => ?_
  by_cases h : ds.length ≤ big <;> simp [h]
@[simp] theorem W_lstF {es : Exs} : (evE F (.lst false es) ρ m).W Q E ↔ (evEs F es ρ m).W (fun ds m1 => ds.length ≤ big ∧ Q (.ref m1.length) (m1 ++ [.lst ds])) E := by
  rw [evE, W_bind]
  refine W_congr fun ds m1 => ?_
  by_cases h : ds.length ≤ big <;> simp [h]
@[simp] theorem W_comp {own : List (Str × Nat)} {tg : Tg} {k : Wk} {it c : Exs} {e : Ex} : (evE F (.comp own tg k it c e) ρ m).W Q E ↔ (evEs F it ρ m).W (fun ds m1 => IsS (walkD m1 k ds) fun xs => (compL tg (wipeS ρ (own.map (·.2))) (walkG m1 k ds) (fun ρ' m' => evC F c ρ' m') (fun ρ' m' => evE F e ρ' m') xs m1).W (fun vs m2 => Q (.lst vs) m2) noE) noE := by
  rw [evE, W_bind, W_nox]
  refine W_congr fun ds m1 => ?_
  cases walkD m1 k ds with
  | none => simp
  | some xs =>
    simp only [IsS_some]
    cases compL tg (wipeS ρ (own.map (·.2))) (walkG m1 k ds) (fun ρ' m' => evC F c ρ' m') (fun ρ' m' => evE F e ρ' m') xs m1 <;> simp
/-- what a scope does with what it got -/
def Thaw (m : Mem) (d : D) (m' : Mem) (Q : D → Mem → Prop) : Prop := ∃ d', frzD m' m.length d = some d' ∧ (m'.take m.length = m ∨ (m'.take m.length).all (O.und m.length) = true) ∧ Q d' (m'.take m.length)
theorem Thaw.mk {x : Mem} {d d' : D} (hf : frzD (m ++ x) m.length d = some d') (q : Q d' m) : Thaw m d (m ++ x) Q := by
  refine ⟨d', hf, .inl ?_, ?_⟩
  · rw [List.take_left]
  · rw [List.take_left]
    exact q
/-- .. where what was there before has changed -/
theorem Thaw.mk2 {m0 x : Mem} {d d' : D} (hl : m0.length = m.length) (hf : frzD (m0 ++ x) m.length d = some d') (hu : m0.all (O.und m.length) = true) (q : Q d' m0) : Thaw m d (m0 ++ x) Q := by
  have e : (m0 ++ x).take m.length = m0 := by rw [← hl, List.take_left]
  refine ⟨d', hf, .inr ?_, ?_⟩
  · rw [e]; exact hu
  · rw [e]; exact q
@[simp] theorem W_scope {a : Ex} : (evE F (.scope a) ρ m).W Q E ↔ (evE F a ρ m).W (fun d m' => Thaw m d m' Q) E := by
  rw [evE]
  unfold Thaw
  cases evE F a ρ m with
  | bad => simp
  | ex c ds m' => simp
  | ok d m' =>
    simp only [W_ok]
    cases frzD m' m.length d with
    | none => simp
    | some d' =>
      simp only [Option.some.injEq, exists_eq_left']
      by_cases h : m'.take m.length = m ∨ (m'.take m.length).all (O.und m.length) = true
      · rw [if_pos h]
        simp only [W_ok, h, true_and]
      · rw [if_neg h]
        simp only [W_bad, h, false_and]
theorem W_newD {d : D} : (newD d m).W Q E ↔ ∃ ds, d = .lst ds ∧ Q (.ref m.length) (m ++ [.lst ds]) := by
  cases d <;> simp [newD]
@[simp] theorem W_newD_lst {ds : List D} : (newD (.lst ds) m).W Q E ↔ Q (.ref m.length) (m ++ [.lst ds]) := by rw [newD, W_ok]
@[simp] theorem W_new {a : Ex} : (evE F (.new a) ρ m).W Q E ↔ (evE F a ρ m).W (fun d m1 => (newD d m1).W Q E) E := by rw [evE, W_bind]
@[simp] theorem W_hof {f : Str} {es : Exs} {np : Nat} {caps : List Nat} {x : Ex} : (evE F (.hof f es np caps x) ρ m).W Q E ↔ (evEs F es ρ m).W (fun ds m1 => (F.hof f (fun c as m' => if as.length = np then evE (F.lamb c) x (as.map some ++ capS ρ caps) m' else .bad) ds m1).W Q E) noE := by rw [evE, W_bind, W_nox]
@[simp] theorem W_callv {es : Exs} : (evE F (.callv es) ρ m).W Q E ↔ (evEs F es ρ m).W (fun ds m1 => (F.lam ds m1).W Q E) E := by rw [evE, W_bind]
@[simp] theorem W_sortK {e : Ex} {caps : List Nat} {x : Ex} : (evE F (.sortK (.cons e .nil) caps x) ρ m).W Q E ↔ (evE F e ρ m).W (fun d m1 => IsS F.low fun c => IsS (lstD m1 d) fun xs => IsS (keysL m1 (fun v => evE (F.lamb c) x (some v :: capS ρ caps) m1) xs) fun l => oneKd l = true ∧ Q (.lst (sortKL l)) m1) E := by
  rw [evE, W_bind, evEs, W_bind]
  refine W_congr fun d m1 => ?_
  simp only [evEs, Res.bind, W_ok]
  cases F.low with
  | none => simp
  | some c =>
    cases lstD m1 d with
    | none => simp
    | some xs =>
      simp only [IsS_some]
      cases keysL m1 (fun v => evE (F.lamb c) x (some v :: capS ρ caps) m1) xs with
      | none => simp
      | some l => by_cases h : oneKd l = true <;> simp [h]
@[simp] theorem W_lpop {o : Ex} {es : Exs} : (evE F (.lpop o es) ρ m).W Q E ↔ (evE F o ρ m).W (fun x m1 => refL m1 x = true ∧ (evEs F es ρ m1).W (fun ds m2 => (lpopD m2 x ds).W Q E) E) E := by
  rw [evE, W_bind]
  refine W_congr fun x m1 => ?_
  by_cases h : refL m1 x = true
  · rw [if_pos h, W_bind]
    simp only [h, true_and]
  · rw [if_neg h]
    simp [h]
@[simp] theorem W_sdef {o k e : Ex} : (evE F (.sdef o k e) ρ m).W Q E ↔ (evE F o ρ m).W (fun x m1 => refT m1 x = true ∧ (evE F k ρ m1).W (fun y m2 => (evE F e ρ m2).W (fun z m3 => (sdefD m3 x y z).W Q E) E) E) E := by
  rw [evE, W_bind]
  refine W_congr fun x m1 => ?_
  by_cases h : refT m1 x = true
  · rw [if_pos h, W_bind]
    simp only [h, true_and]
    refine W_congr fun y m2 => ?_
    rw [W_bind]
  · rw [if_neg h]
    simp [h]
@[simp] theorem W_dgetT {o k : Ex} : (evE F (.dgetT o k) ρ m).W Q E ↔ (evE F o ρ m).W (fun x m1 => (evE F k ρ m1).W (fun y m2 => IsS (getTD m2 x y) fun d => Q d m2) E) E := by
  rw [evE, W_bind]
  refine W_congr fun x m1 => ?_
  rw [W_bind]
  refine W_congr fun y m2 => ?_
  cases getTD m2 x y <;> simp [optR]
@[simp] theorem W_pick {get : Bool} {ks : List Str} {es : Exs} {k : Ex} : (evE F (.pick get ks es k) ρ m).W Q E ↔ (evEs F es ρ m).W (fun ds m1 => (evE F k ρ m1).W (fun y m2 => IsS (pickD get ks ds y) fun d => Q d m2) noE) noE := by
  rw [evE, W_bind, W_nox]
  refine W_congr fun ds m1 => ?_
  rw [W_bind, W_nox]
  exact W_congr fun y m2 => W_optR
@[simp] theorem W_isx {i : Nat} {c : Str} : (evE F (.isx i c) ρ m).W Q E ↔ IsS (isxD F c) fun b => Q (.bl b) m := by
  rw [evE]
  exact W_optB
@[simp] theorem W_xat {i : Nat} {f : Str} : (evE F (.xat i f) ρ m).W Q E ↔ IsS (xatD F f) fun d => Q d m := by
  rw [evE]
  exact W_optR
@[simp] theorem isxD_caught {c d : Str} {ds : List D} : isxD (F.caught c ds) d = some (xsub c d) := rfl
@[simp] theorem xatD_caught {c f : Str} {ds : List D} : xatD (F.caught c ds) f = ((flds c).zip ds).lookup f := rfl
@[simp] theorem caught_call {c : Str} {ds : List D} : (F.caught c ds).call = F.call := rfl
@[simp] theorem caught_glo {c : Str} {ds : List D} : (F.caught c ds).glo = F.glo := rfl
@[simp] theorem W_nil : (evEs F .nil ρ m).W QL E ↔ QL [] m := by rw [evEs, W_ok]
@[simp] theorem W_cons {e : Ex} {r : Exs} : (evEs F (.cons e r) ρ m).W QL E ↔ (evE F e ρ m).W (fun d m1 => (evEs F r ρ m1).W (fun ds m2 => QL (d :: ds) m2) E) E := by
  rw [evEs, W_bind]
  refine W_congr fun x m1 => ?_
  rw [W_bind]
  simp only [W_ok]
@[simp] theorem W_cnil : (evC F .nil ρ m).W Q E ↔ Q (.bl true) m := by rw [evC, W_ok]
@[simp] theorem W_ccons {e : Ex} {r : Exs} : (evC F (.cons e r) ρ m).W Q E ↔ (evE F e ρ m).W Q E := by rw [evC]
/-! ### statements -/
@[simp] theorem Ws_asg {tg : Tg} {e : Ex} : (evS F (.asg tg e) ρ m).W N R E ↔ (evE F e ρ m).W (fun d m1 => IsS (bindT m1 tg d ρ) fun ρ' => N ρ' m1) E := by
  rw [evS, Ws_go]
  refine W_congr fun d m1 => ?_
  cases bindT m1 tg d ρ <;> simp
@[simp] theorem Ws_par {i j : Nat} {a b : Ex} : (evS F (.par i j a b) ρ m).W N R E ↔ (evE F a ρ m).W (fun x m1 => (evE F b ρ m1).W (fun y m2 => N ((ρ.set i (some x)).set j (some y)) m2) E) E := by
  rw [evS, Ws_go]
  refine W_congr fun x m1 => ?_
  rw [Ws_go]
  simp only [Ws_nx]
@[simp] theorem Ws_put {o i e : Ex} : (evS F (.put o i e) ρ m).W N R E ↔ (evE F e ρ m).W (fun v m1 => (evE F o ρ m1).W (fun x m2 => (evE F i ρ m2).W (fun k m3 => IsS (putD m3 x k v) fun m' => N ρ m') E) E) E := by
  rw [evS, Ws_go]
  refine W_congr fun v m1 => ?_
  rw [Ws_go]
  refine W_congr fun x m2 => ?_
  rw [Ws_go]
  refine W_congr fun k m3 => ?_
  cases putD m3 x k v <;> simp
@[simp] theorem Ws_expr {e : Ex} : (evS F (.expr e) ρ m).W N R E ↔ (evE F e ρ m).W (fun _ m1 => N ρ m1) E := by
  rw [evS, Ws_go]
  simp only [Ws_nx, Ws_rt]
@[simp] theorem Ws_lm {f : Lm} {o : Ex} {es : Exs} : (evS F (.lm f o es) ρ m).W N R E ↔ (evE F o ρ m).W (fun x m1 => refL m1 x = true ∧ (evEs F es ρ m1).W (fun vs m2 => IsS (lmD m2 f x vs) fun m' => N ρ m') E) E := by
  rw [evS, Ws_go]
  refine W_congr fun x m1 => ?_
  by_cases h : refL m1 x = true
  · rw [if_pos h, Ws_go]
    simp only [h, true_and]
    refine W_congr fun vs m2 => ?_
    cases lmD m2 f x vs <;> simp
  · rw [if_neg h]
    simp [h]
@[simp] theorem Ws_dpop {o k : Ex} : (evS F (.dpop o k) ρ m).W N R E ↔ (evE F o ρ m).W (fun x m1 => refK m1 x = true ∧ (evE F k ρ m1).W (fun y m2 => IsS (dpopD m2 x y) fun m' => N ρ m') E) E := by
  rw [evS, Ws_go]
  refine W_congr fun x m1 => ?_
  by_cases h : refK m1 x = true
  · rw [if_pos h, Ws_go]
    simp only [h, true_and]
    refine W_congr fun vs m2 => ?_
    cases dpopD m2 x vs <;> simp
  · rw [if_neg h]
    simp [h]
@[simp] theorem Ws_ret {e : Ex} : (evS F (.ret e) ρ m).W N R E ↔ (evE F e ρ m).W R E := by
  rw [evS, Ws_go]
  simp only [Ws_nx, Ws_rt]
@[simp] theorem Ws_iff {c : Ex} {a b : Sms} : (evS F (.iff c a b) ρ m).W N R E ↔ (evE F c ρ m).W (fun d m1 => IsB d fun t => Two t ((evSs F a ρ m1).W N R E) ((evSs F b ρ m1).W N R E)) E := by
  rw [evS, Ws_go]
  refine W_congr fun d m1 => ?_
  cases d with
  | bl t => cases t <;> simp
  | _ => simp [IsB]
@[simp] theorem Ws_whil {c : Ex} {b : Sms} : (evS F (.whil c b) ρ m).W N R E ↔ (whileL (fun ρ' m' => evE F c ρ' m') (fun ρ' m' => evSs F b ρ' m') F.wf ρ m).W N R E := by rw [evS]
@[simp] theorem Ws_for {tg : Tg} {k : Wk} {it : Exs} {b : Sms} : (evS F (.for tg k it b) ρ m).W N R E ↔ (evEs F it ρ m).W (fun ds m1 => IsS (walkD m1 k ds) fun xs => (forL tg (walkG m1 k ds) (fun ρ' m' => evSs F b ρ' m') xs ρ m1).W N R E) noE := by
  rw [evS, Ws_go, W_nox]
  refine W_congr fun ds m1 => ?_
  cases walkD m1 k ds <;> simp
@[simp] theorem Ws_pass : (evS F .pass ρ m).W N R E ↔ N ρ m := by rw [evS, Ws_nx]
@[simp] theorem Ws_never : (evS F .never ρ m).W N R E ↔ False := by rw [evS, Ws_bad]
@[simp] theorem Ws_rais {c : Str} {es : Exs} : (evS F (.rais c es) ρ m).W N R E ↔ F.low.isSome = true ∧ (evEs F es ρ m).W (fun ds m1 => (xcls.lookup c).isSome = true ∧ ds.length = (flds c).length ∧ E c ds m1) E := by
  rw [evS]
  by_cases h : F.low.isSome = true
  · rw [if_pos h, Ws_go]
    simp only [h, true_and]
    refine W_congr fun ds m1 => ?_
    by_cases h2 : (xcls.lookup c).isSome = true ∧ ds.length = (flds c).length
    · rw [if_pos h2, Ws_ex]
      simp [h2]
    · rw [if_neg h2, Ws_bad]
      exact ⟨False.elim, fun q => h2 ⟨q.1, q.2.1⟩⟩
  · rw [if_neg h, Ws_bad]
    exact ⟨False.elim, fun q => h q.1⟩
@[simp] theorem Ws_tri {b h : Sms} {c : Str} {i : Nat} : (evS F (.tri b c i h) ρ m).W N R E ↔ (evSs F b ρ m).W N R (fun c' ds m' => (xcls.lookup c').isSome = true ∧ xsub c' c = true ∧ i < ρ.length ∧ (evSs (F.caught c' ds) h (List.replicate ρ.length none) m').W (fun _ _ => False) R noE) := by
  rw [evS]
  cases evSs F b ρ m with
  | nx ρ' m' => simp
  | rt d m' => simp
  | bad => simp
  | ex c' ds m' =>
    simp only [Ws_ex]
    by_cases h2 : (xcls.lookup c').isSome = true ∧ xsub c' c = true ∧ i < ρ.length
    · rw [if_pos h2]
      cases evSs (F.caught c' ds) h (List.replicate ρ.length none) m' <;> simp [h2]
    · rw [if_neg h2, Ws_bad]
      exact ⟨False.elim, fun q => h2 ⟨q.1, q.2.1, q.2.2.1⟩⟩
@[simp] theorem Ws_nil : (evSs F .nil ρ m).W N R E ↔ N ρ m := by rw [evSs, Ws_nx]
theorem Ws_cons {s : Sm} {r : Sms} : (evSs F (.cons s r) ρ m).W N R E ↔ (evS F s ρ m).W (fun ρ' m' => (evSs F r ρ' m').W N R E) R E := by rw [evSs, Ws_thn]
theorem Ws_blk {x k : Nat} {b r : Sms} : (evSs F (.blk x k b r) ρ m).W N R E ↔ (evSs F b ρ m).W (fun ρ' m' => IsS (getS ρ' x) fun d => Thaw m d m' fun d' m'' => (evSs F r ((undS m.length ρ').set x (some d')) m'').W N R E) R E := by
  rw [evSs]
  cases evSs F b ρ m with
  | bad => simp [blkR]
  | ex c ds m' => simp [blkR]
  | rt d m' => simp [blkR]
  | nx ρ' m' =>
    rw [Ws_nx]
    simp only [blkR]
    cases hg : getS ρ' x with
    | none => simp only [Ws_bad, IsS_none]
    | some d =>
      simp only [IsS_some, Thaw]
      cases hf : frzD m' m.length d with
      | none =>
        simp only [Ws_bad]
        exact ⟨False.elim, fun ⟨e, h, _⟩ => by cases h⟩
      | some d' =>
        by_cases h : m'.take m.length = m ∨ (m'.take m.length).all (O.und m.length) = true
        · simp only [if_pos h]
          exact ⟨fun q => ⟨d', rfl, h, q⟩, fun ⟨e, h1, _, q⟩ => by cases h1; exact q⟩
        · simp only [if_neg h, Ws_bad]
          exact ⟨False.elim, fun ⟨e, h1, h2, _⟩ => h h2⟩
theorem wcons {s : Sm} {r : Sms} (h : (evS F s ρ m).W (fun ρ' m' => (evSs F r ρ' m').W N R E) R E) : (evSs F (.cons s r) ρ m).W N R E := Ws_cons.mpr h
/-- a statement, what it brings about, the rest -/
theorem wcut {s : Sm} {r : Sms} (P : Sl → Mem → Prop) (h : (evS F s ρ m).W P (fun _ _ => False) E) (k : ∀ ρ' m', P ρ' m' → (evSs F r ρ' m').W N R E) : (evSs F (.cons s r) ρ m).W N R E := wcons (h.mono k fun _ _ h => h.elim)
/-! ### defs -/
section
variable {T : List (Str × Def)} {g : Str → Option D} {wf n : Nat} {L : Lf}
@[simp] theorem feN_call : (feN T g wf n L).call = callN T g wf n := rfl
@[simp] theorem feN_low : (feN T g wf n L).low = lowN T g wf n := rfl
@[simp] theorem feN_hof : (feN T g wf n L).hof = runN T g wf n := rfl
@[simp] theorem feN_lam : (feN T g wf n L).lam = lamOf L (lowN T g wf n) := rfl
@[simp] theorem feN_glo : (feN T g wf n L).glo = g := rfl
@[simp] theorem feN_wf : (feN T g wf n L).wf = wf := rfl
@[simp] theorem lamb_call {F : Fe} {c : Str → List D → Mem → Res D} : (F.lamb c).call = c := rfl
@[simp] theorem lamb_glo {F : Fe} {c : Str → List D → Mem → Res D} : (F.lamb c).glo = F.glo := rfl
@[simp] theorem lowN_add : lowN T g wf (n + 2) = some (callN T g wf n) := rfl
@[simp] theorem lamOf_some {c : Str → List D → Mem → Res D} : lamOf L (some c) = L c := rfl
theorem W_run {d : Def} {ds : List D} {f : Str} (ht : T.lookup f = some d) (hl : ds.length = d.np) (h : (evSs (feN T g wf n noLf) d.body (ds.map some ++ List.replicate (d.ns - d.np) none) m).W (fun _ m' => Q .non m') Q E) : (callN T g wf (n + 1) f ds m).W Q E := by
  rw [callN_succ, ht]
  simp only [runDef, if_pos hl]
  revert h
  cases evSs (feN T g wf n noLf) d.body (ds.map some ++ List.replicate (d.ns - d.np) none) m <;> simp
theorem W_runL {d : Def} {ds : List D} {f : Str} (ht : T.lookup f = some d) (hl : ds.length = d.np) (h : (evSs (feN T g wf n L) d.body (ds.map some ++ List.replicate (d.ns - d.np) none) m).W (fun _ m' => Q .non m') Q E) : (runN T g wf (n + 1) f L ds m).W Q E := by
  rw [runN_succ, ht]
  simp only [runDef, if_pos hl]
  revert h
  cases evSs (feN T g wf n L) d.body (ds.map some ++ List.replicate (d.ns - d.np) none) m <;> simp
end
@[simp] theorem walkG_rng1 {ds : List D} : walkG m .rng1 ds = fun _ => true := by funext _; rfl
@[simp] theorem walkG_rng2 {ds : List D} : walkG m .rng2 ds = fun _ => true := by funext _; rfl
@[simp] theorem walkG_rngD {ds : List D} : walkG m .rngD ds = fun _ => true := by funext _; rfl
@[simp] theorem walkG_str {ds : List D} : walkG m .str ds = fun _ => true := by funext _; rfl
@[simp] theorem walkG_enumT {ds : List D} : walkG m .enumT ds = fun _ => true := by funext _; rfl
@[simp] theorem walkG_seqL {ds : List D} : walkG m .seq [.lst ds] = fun _ => true := by funext _; rfl
@[simp] theorem walkG_seqT {ds : List D} : walkG m .seq [.tup ds] = fun _ => true := by funext _; rfl
@[simp] theorem walkG_seqS {ns : List Int} : walkG m .seq [.scr ns] = fun _ => true := by funext _; rfl
@[simp] theorem walkG_enumL {ds : List D} : walkG m .enum [.lst ds] = fun _ => true := by funext _; rfl
@[simp] theorem walkG_ref {k : Nat} : walkG m .seq [.ref k] = fun m' => decide (m'[k]? = m[k]?) := by funext _; rfl
@[simp] theorem walkG_enumR {k : Nat} : walkG m .enum [.ref k] = fun m' => decide (m'[k]? = m[k]?) := by funext _; rfl
/-! ### loops -/
theorem forL_W {tg : Tg} {gd : Mem → Bool} {b : Sl → Mem → Rs} {xs : List D} (I : List D → Sl → Mem → Prop) (h0 : I [] ρ m)
    (step : ∀ done d rest ρ m, xs = done ++ d :: rest → I done ρ m → IsS (bindT m tg d ρ) fun ρ1 => (b ρ1 m).W (fun ρ' m' => I (done ++ [d]) ρ' m') R E)
    (fin : ∀ ρ m, I xs ρ m → N ρ m) (hg : ∀ done ρ m, I done ρ m → gd m = true := by intros; rfl) : (forL tg gd b xs ρ m).W N R E := by
  have key : ∀ (rest done : List D) (ρ : Sl) (m : Mem), xs = done ++ rest → I done ρ m → (forL tg gd b rest ρ m).W N R E := by
    intro rest
    induction rest with
    | nil =>
      intro done ρ m e hI
      rw [List.append_nil] at e
      simp only [forL, hg _ _ _ hI, if_true, Ws_nx]
      exact fin _ _ (by rw [e]; exact hI)
    | cons d rest ih =>
      intro done ρ m e hI
      obtain ⟨ρ1, h1, h2⟩ := (IsS_iff).mp (step done d rest ρ m e hI)
      simp only [forL, hg _ _ _ hI, if_true, h1, Ws_thn]
      exact h2.mono (fun ρ' m' h => ih (done ++ [d]) ρ' m' (by rw [e]; simp) h) (fun _ _ h => h)
  exact key xs [] ρ m rfl h0
theorem whileL_W {c : Sl → Mem → Res D} {b : Sl → Mem → Rs} (I : Sl → Mem → Prop) (μ : Sl → Mem → Nat) {wf : Nat} (h0 : I ρ m) (hw : μ ρ m < wf)
    (step : ∀ ρ m, I ρ m → (c ρ m).W (fun d m1 => IsB d fun t => Two t ((b ρ m1).W (fun ρ' m' => I ρ' m' ∧ μ ρ' m' < μ ρ m) R E) (N ρ m1)) E) : (whileL c b wf ρ m).W N R E := by
  induction wf generalizing ρ m with
  | zero => omega
  | succ n ih =>
    have hs := step ρ m h0
    simp only [whileL, Ws_go]
    refine hs.mono fun d m1 h => ?_
    cases d with
    | bl t =>
     cases t with
     | true =>
      simp only [IsB_bl, Two_true] at h
      simp only [Ws_thn]
      exact h.mono (fun ρ' m' h => ih h.1 (by omega)) (fun _ _ h => h)
     | false => simpa using h
    | _ => exact h.elim
theorem compL_W {tg : Tg} {gd : Mem → Bool} {c e : Sl → Mem → Res D} {xs : List D} {QL : List D → Mem → Prop} (I : List D → List D → Mem → Prop) (h0 : I [] [] m)
    (step : ∀ done d rest vs m, xs = done ++ d :: rest → I done vs m → IsS (bindT m tg d ρ) fun ρ1 => (c ρ1 m).W (fun x m1 => IsB x fun t => Two t ((e ρ1 m1).W (fun v m2 => I (done ++ [d]) (vs ++ [v]) m2) noE) (I (done ++ [d]) vs m1)) noE)
    (fin : ∀ vs m, I xs vs m → QL vs m) (hg : ∀ done vs m, I done vs m → gd m = true := by intros; rfl) : (compL tg ρ gd c e xs m).W QL noE := by
  have key : ∀ (rest done vs : List D) (m : Mem), xs = done ++ rest → I done vs m → (compL tg ρ gd c e rest m).W (fun us m' => QL (vs ++ us) m') noE := by
    intro rest
    induction rest with
    | nil =>
      intro done vs m q hI
      rw [List.append_nil] at q
      simp only [compL, hg _ _ _ hI, if_true, W_ok, List.append_nil]
      exact fin _ _ (by rw [q]; exact hI)
    | cons d rest ih =>
      intro done vs m q hI
      obtain ⟨ρ1, h1, h2⟩ := IsS_iff.mp (step done d rest vs m q hI)
      obtain ⟨x, m1, e1, h5⟩ := ok_of_W h2
      obtain ⟨t, rfl, h3, h4⟩ := IsB_iff.mp h5
      simp only [compL, hg _ _ _ hI, if_true, h1, e1]
      cases t with
      | true =>
        obtain ⟨v, m2, e2, h5⟩ := ok_of_W (h3 rfl)
        obtain ⟨us, m3, e3, h6⟩ := ok_of_W (ih (done ++ [d]) (vs ++ [v]) m2 (by rw [q]; simp) h5)
        simp only [e2, e3, W_ok]
        rw [List.append_assoc] at h6
        exact h6
      | false => exact ih (done ++ [d]) vs m1 (by rw [q]; simp) (h4 rfl)
  have z := key xs [] [] m rfl h0
  simpa using z
theorem forL_N {tg : Tg} {gd : Mem → Bool} {b : Sl → Mem → Rs} {xs : List D} (I : Nat → Sl → Mem → Prop) (h0 : I 0 ρ m)
    (step : ∀ (j : Nat) (h : j < xs.length) ρ m, I j ρ m → IsS (bindT m tg xs[j] ρ) fun ρ1 => (b ρ1 m).W (fun ρ' m' => I (j + 1) ρ' m') R E)
    (fin : ∀ ρ m, I xs.length ρ m → N ρ m) (hg : ∀ j ρ m, I j ρ m → gd m = true := by intros; rfl) : (forL tg gd b xs ρ m).W N R E := by
  refine forL_W (fun done ρ m => I done.length ρ m) h0 (fun done d rest ρ m e hI => ?_) fin fun _ _ _ h => hg _ _ _ h
  have h : done.length < xs.length := by rw [e]; simp
  have e2 : xs[done.length] = d := by simp [e]
  have s := step done.length h ρ m hI
  rw [e2] at s
  simpa using s
theorem compL_N {tg : Tg} {gd : Mem → Bool} {c e : Sl → Mem → Res D} {xs : List D} {QL : List D → Mem → Prop} (I : Nat → List D → Mem → Prop) (h0 : I 0 [] m)
    (step : ∀ (j : Nat) (h : j < xs.length) vs m, I j vs m → IsS (bindT m tg xs[j] ρ) fun ρ1 => (c ρ1 m).W (fun x m1 => IsB x fun t => Two t ((e ρ1 m1).W (fun v m2 => I (j + 1) (vs ++ [v]) m2) noE) (I (j + 1) vs m1)) noE)
    (fin : ∀ vs m, I xs.length vs m → QL vs m) (hg : ∀ j vs m, I j vs m → gd m = true := by intros; rfl) : (compL tg ρ gd c e xs m).W QL noE := by
  refine compL_W (fun done vs m => I done.length vs m) h0 (fun done d rest vs m q hI => ?_) fin fun _ _ _ h => hg _ _ _ h
  have h : done.length < xs.length := by rw [q]; simp
  have e2 : xs[done.length] = d := by simp [q]
  have s := step done.length h vs m hI
  rw [e2] at s
  simpa using s
/-- a comprehension that changes nothing -/
theorem compL_pure {tg : Tg} {gd : Mem → Bool} {c e : Sl → Mem → Res D} {xs : List D} (p : D → Bool) (f : D → D) (h : ∀ d ∈ xs, IsS (bindT m tg d ρ) fun ρ1 => (c ρ1 m).W (fun x m1 => x = .bl (p d) ∧ m1 = m) noE ∧ (p d = true → (e ρ1 m).W (fun x m1 => x = f d ∧ m1 = m) noE)) (hg : gd m = true := by rfl) : compL tg ρ gd c e xs m = .ok ((xs.filter p).map f) m := by
  induction xs with
  | nil => simp only [compL, hg, if_true, List.filter_nil, List.map_nil]
  | cons d rest ih =>
    obtain ⟨ρ1, h1, h2, h3⟩ := IsS_iff.mp (h d (List.mem_cons_self ..))
    have i := ih fun d hd => h d (List.mem_cons_of_mem _ hd)
    simp only [compL, hg, if_true, h1, eq_of_W h2]
    cases q : p d with
    | true =>
      simp only [eq_of_W (h3 q), i, List.filter_cons_of_pos q, List.map_cons]
    | false =>
      simp only [i]
      rw [List.filter_cons_of_neg (by simp [q])]
end
end Br


set_option Elab.async false
set_option linter.all false
set_option maxRecDepth 100000
set_option maxHeartbeats 1000000
set_option autoImplicit false
/-! Br: data, ==, what is frozen; operators by their values. -/
namespace Br
open PySem PySem.Spec PyProof.Rows L2
mutual
/-- no bool, no thing of the store, no script within -/
def D.nice : D → Bool
  | .tup ds => D.nices ds
  | .lst ds => D.nices ds
  | .non => true
  | .int _ => true
  | .str _ => true
  | _ => false
def D.nices : List D → Bool
  | [] => true
  | d :: r => D.nice d && D.nices r
end
mutual
theorem D.nice_pure : ∀ {d : D}, d.nice = true → d.pure = true
  | .non, _ => rfl
  | .bl _, h => by cases h
  | .int _, _ => rfl
  | .str _, _ => rfl
  | .tup ds, h => by
    simp only [D.nice] at h
    simp only [D.pure]
    exact D.nices_pures h
  | .lst ds, h => by
    simp only [D.nice] at h
    simp only [D.pure]
    exact D.nices_pures h
  | .scr _, h => by cases h
  | .ref _, h => by cases h
theorem D.nices_pures : ∀ {ds : List D}, D.nices ds = true → D.pures ds = true
  | [], _ => rfl
  | d :: r, h => by
    simp only [D.nices, Bool.and_eq_true] at h
    simp only [D.pures, Bool.and_eq_true]
    exact ⟨D.nice_pure h.1, D.nices_pures h.2⟩
end
mutual
theorem D.res_pure {g : Nat → Option D} : ∀ {d : D}, d.pure = true → D.res g d = some d
  | .non, _ => rfl
  | .bl _, h => rfl
  | .int _, _ => rfl
  | .str _, _ => rfl
  | .tup ds, h => by
    simp only [D.pure] at h
    simp only [D.res, D.ress_pures h, Option.map_some]
  | .lst ds, h => by
    simp only [D.pure] at h
    simp only [D.res, D.ress_pures h, Option.map_some]
  | .scr _, h => by cases h
  | .ref _, h => by cases h
theorem D.ress_pures {g : Nat → Option D} : ∀ {ds : List D}, D.pures ds = true → D.ress g ds = some ds
  | [], _ => rfl
  | d :: r, h => by
    simp only [D.pures, Bool.and_eq_true] at h
    simp only [D.ress, D.res_pure h.1, D.ress_pures h.2]
end
theorem frz_pure {m : Mem} {k : Nat} {d : D} (h : d.pure = true) : frzD m k d = some d := D.res_pure h
mutual
theorem eqv_nice : ∀ {a b : D}, a.nice = true → b.nice = true → PyData.eqv (toPy a) (toPy b) = decide (a = b)
  | .non, b, _, h => by cases b <;> first | (cases h; done) | simp [toPy, PyData.eqv]
  | .bl _, b, h, _ => by cases h
  | .int _, b, _, h => by cases b <;> first | (cases h; done) | (simp [toPy, PyData.eqv]; try rfl)
  | .str _, b, _, h => by cases b <;> first | (cases h; done) | (simp [toPy, PyData.eqv]; try rfl)
  | .tup ds, b, h1, h => by
    cases b <;> first | (cases h; done) | (simp [toPy, PyData.eqv]; done) | skip
    simp only [D.nice] at h h1
    simp only [toPy, PyData.eqv, eqv_nices h1 h, D.tup.injEq]
  | .lst ds, b, h1, h => by
    cases b <;> first | (cases h; done) | (simp [toPy, PyData.eqv]; done) | skip
    simp only [D.nice] at h h1
    simp only [toPy, PyData.eqv, eqv_nices h1 h, D.lst.injEq]
  | .scr _, b, h, _ => by cases h
  | .ref _, b, h, _ => by cases h
theorem eqv_nices : ∀ {a b : List D}, D.nices a = true → D.nices b = true → PyData.eqvAll (toPys a) (toPys b) = decide (a = b)
  | [], [], _, _ => by simp [toPys, PyData.eqvAll]
  | [], _ :: _, _, _ => by simp [toPys, PyData.eqvAll]
  | _ :: _, [], _, _ => by simp [toPys, PyData.eqvAll]
  | x :: xs, y :: ys, h1, h2 => by
    simp only [D.nices, Bool.and_eq_true] at h1 h2
    simp only [toPys, PyData.eqvAll, eqv_nice h1.1 h2.1, eqv_nices h1.2 h2.2]
    rw [Bool.eq_iff_iff]
    simp
end
mutual
theorem eqv_refl : ∀ {a : D}, a.pure = true → PyData.eqv (toPy a) (toPy a) = true
  | .non, h => by simp [toPy, PyData.eqv]
  | .bl _, h => by simp [toPy, PyData.eqv]
  | .int _, h => by simp [toPy, PyData.eqv]
  | .str _, h => by simp [toPy, PyData.eqv]
  | .tup ds, h => by
    simp only [D.pure] at h
    simp only [toPy, PyData.eqv, eqvs_refl h]
  | .lst ds, h => by
    simp only [D.pure] at h
    simp only [toPy, PyData.eqv, eqvs_refl h]
  | .scr _, h => by cases h
  | .ref _, h => by cases h
theorem eqvs_refl : ∀ {a : List D}, D.pures a = true → PyData.eqvAll (toPys a) (toPys a) = true
  | [], _ => by simp [toPys, PyData.eqvAll]
  | x :: xs, h1 => by
    simp only [D.pures, Bool.and_eq_true] at h1
    simp only [toPys, PyData.eqvAll, eqv_refl h1.1, eqvs_refl h1.2, Bool.and_self]
end
theorem eqD_nice {m : Mem} {a b : D} (ha : a.nice = true) (hb : b.nice = true) (da : a.dep ≤ 64) (db : b.dep ≤ 64) : eqD m a b = some (decide (a = b)) := by
  unfold eqD
  rw [frz_pure (D.nice_pure ha), frz_pure (D.nice_pure hb)]
  simp only [D.nice_pure ha, D.nice_pure hb, da, db, and_self, if_true, eqv_nice ha hb]
theorem eqD_same {m : Mem} {a b d : D} (ha : frzD m 0 a = some d) (hb : frzD m 0 b = some d) (hp : d.pure = true) (hd : d.dep ≤ 64) : eqD m a b = some true := by
  unfold eqD
  rw [ha, hb]
  simp only [hp, hd, and_self, if_true, eqv_refl hp]
section
variable {m : Mem} {i j : Int} {s t : Str} {a b : List D} {x y : D}
@[simp] theorem bin_add : binD m .add (.int i) (.int j) = some (.int (i + j)) := rfl
@[simp] theorem bin_sub : binD m .sub (.int i) (.int j) = some (.int (i - j)) := rfl
@[simp] theorem bin_addL : binD m .add (.lst a) (.lst b) = if a.length + b.length ≤ big then some (.lst (a ++ b)) else none := rfl
@[simp] theorem bin_addRL {n : Nat} : binD m .add (.ref n) (.lst b) = addL m (.ref n) (.lst b) := rfl
@[simp] theorem bin_addRR {n k : Nat} : binD m .add (.ref n) (.ref k) = addL m (.ref n) (.ref k) := rfl
@[simp] theorem bin_addLR {n : Nat} : binD m .add (.lst a) (.ref n) = addL m (.lst a) (.ref n) := rfl
@[simp] theorem bin_mulL : binD m .mul (.lst a) (.int j) = if -(2 ^ 62) ≤ j ∧ j ≤ 1000 ∧ a.length ≤ 1000 then some (.lst (repL a j.toNat)) else none := rfl
@[simp] theorem bin_mulT : binD m .mul (.tup a) (.int j) = if 1 ≤ j ∧ j ≤ 1000 ∧ a.length ≤ 1000 ∧ a ≠ [] then some (.tup (repL a j.toNat)) else none := rfl
@[simp] theorem bin_addT : binD m .add (.tup a) (.tup b) = if a.length + b.length ≤ big then some (.tup (a ++ b)) else none := rfl
@[simp] theorem bin_addS : binD m .add (.str s) (.str t) = if s.length + t.length ≤ big then some (.str (s ++ t)) else none := rfl
@[simp] theorem bin_mul : binD m .mul (.int i) (.int j) = if (-(2 ^ 64) < i ∧ i < 2 ^ 64) ∨ (-(2 ^ 64) < j ∧ j < 2 ^ 64) then some (.int (i * j)) else none := rfl
@[simp] theorem bin_fdiv : binD m .fdiv (.int i) (.int j) = if j ≠ 0 ∧ j.natAbs < 1000000000000000000000000000000 then some (.int (i.fdiv j)) else none := rfl
@[simp] theorem bin_mod : binD m .mod (.int i) (.int j) = if j ≠ 0 then some (.int (i.fmod j)) else none := rfl
@[simp] theorem bin_pow : binD m .pow (.int i) (.int j) = if 0 ≤ j ∧ j ≤ 1000000 ∧ i.natAbs < 2 ^ 64 then some (.int (i ^ j.toNat)) else none := rfl
@[simp] theorem cmp_lt : cmpD m .lt (.int i) (.int j) = some (decide (i < j)) := rfl
@[simp] theorem cmp_le : cmpD m .le (.int i) (.int j) = some (decide (i ≤ j)) := rfl
@[simp] theorem cmp_gt : cmpD m .gt (.int i) (.int j) = some (decide (j < i)) := rfl
@[simp] theorem cmp_ge : cmpD m .ge (.int i) (.int j) = some (decide (j ≤ i)) := rfl
@[simp] theorem cmp_isn : cmpD m .isn x .non = some (decide (x = .non)) := rfl
@[simp] theorem cmp_notn : cmpD m .notn x .non = some (!decide (x = .non)) := rfl
@[simp] theorem cmp_inn : cmpD m .inn x y = inD m x y := rfl
@[simp] theorem cmp_nin : cmpD m .nin x y = (inD m x y).map (!·) := rfl
@[simp] theorem cmp_eqi : cmpD m .eq (.int i) (.int j) = some (decide (i = j)) := by
  show eqD m (.int i) (.int j) = _
  rw [eqD_nice rfl rfl (by simp [D.dep]) (by simp [D.dep])]
  simp
@[simp] theorem cmp_nei : cmpD m .ne (.int i) (.int j) = some (!decide (i = j)) := by
  show (eqD m (.int i) (.int j)).map _ = _
  rw [eqD_nice rfl rfl (by simp [D.dep]) (by simp [D.dep])]
  simp
@[simp] theorem cmp_eqs : cmpD m .eq (.str s) (.str t) = some (decide (s = t)) := by
  show eqD m (.str s) (.str t) = _
  rw [eqD_nice rfl rfl (by simp [D.dep]) (by simp [D.dep])]
  simp
@[simp] theorem cmp_nes : cmpD m .ne (.str s) (.str t) = some (!decide (s = t)) := by
  show (eqD m (.str s) (.str t)).map _ = _
  rw [eqD_nice rfl rfl (by simp [D.dep]) (by simp [D.dep])]
  simp
@[simp] theorem cmp_eqb {b c : Bool} : cmpD m .eq (.bl b) (.bl c) = some (b == c) := by
  show eqD m (.bl b) (.bl c) = _
  unfold eqD
  rw [frz_pure rfl, frz_pure rfl]
  simp [D.pure, D.dep, toPy, PyData.eqv]
@[simp] theorem cmp_neb {b c : Bool} : cmpD m .ne (.bl b) (.bl c) = some (!(b == c)) := by
  show (eqD m (.bl b) (.bl c)).map _ = _
  unfold eqD
  rw [frz_pure rfl, frz_pure rfl]
  simp [D.pure, D.dep, toPy, PyData.eqv]
theorem cmp_eqn (ha : x.nice = true) (hb : y.nice = true) (da : x.dep ≤ 64) (db : y.dep ≤ 64) : cmpD m .eq x y = some (decide (x = y)) := eqD_nice ha hb da db
theorem cmp_nen (ha : x.nice = true) (hb : y.nice = true) (da : x.dep ≤ 64) (db : y.dep ≤ 64) : cmpD m .ne x y = some (!decide (x = y)) := by
  show (eqD m _ _).map _ = _
  rw [eqD_nice ha hb da db]
  simp
end
theorem ixN_lt {n k : Nat} (h : k < n) : ixN n (k : Int) = some k := by
  unfold ixN
  rw [if_pos (by omega), if_pos (by omega)]
  simp
theorem atI_cast {α : Type} {xs : List α} {k : Nat} : atI xs (k : Int) = xs[k]? := by
  unfold atI
  by_cases h : k < xs.length
  · rw [ixN_lt h]
    rfl
  · unfold ixN
    rw [if_pos (by omega), if_neg (by omega)]
    rw [List.getElem?_eq_none (by omega)]
    rfl
theorem atI_get {α : Type} {xs : List α} {i : Int} {k : Nat} (h : i = k) : atI xs i = xs[k]? := by rw [h, atI_cast]
@[simp] theorem atI_zero {α : Type} {xs : List α} : atI xs 0 = xs[0]? := atI_get rfl
@[simp] theorem atI_one {α : Type} {xs : List α} : atI xs 1 = xs[1]? := atI_get rfl
@[simp] theorem atI_2 {α : Type} {xs : List α} : atI xs 2 = xs[2]? := atI_get rfl
@[simp] theorem atI_3 {α : Type} {xs : List α} : atI xs 3 = xs[3]? := atI_get rfl
@[simp] theorem atI_4 {α : Type} {xs : List α} : atI xs 4 = xs[4]? := atI_get rfl
@[simp] theorem atI_5 {α : Type} {xs : List α} : atI xs 5 = xs[5]? := atI_get rfl
@[simp] theorem atI_6 {α : Type} {xs : List α} : atI xs 6 = xs[6]? := atI_get rfl
@[simp] theorem atI_7 {α : Type} {xs : List α} : atI xs 7 = xs[7]? := atI_get rfl
@[simp] theorem atI_8 {α : Type} {xs : List α} : atI xs 8 = xs[8]? := atI_get rfl
@[simp] theorem atI_9 {α : Type} {xs : List α} : atI xs 9 = xs[9]? := atI_get rfl
@[simp] theorem atI_10 {α : Type} {xs : List α} : atI xs 10 = xs[10]? := atI_get rfl
@[simp] theorem atI_11 {α : Type} {xs : List α} : atI xs 11 = xs[11]? := atI_get rfl
section
variable {m : Mem} {i : Int} {ds : List D} {k : D} {n : Nat} {ns : List Int} {b : Bool} {s : Str}
@[simp] theorem idx_tup : idxD m (.tup ds) (.int i) = atI ds i := rfl
@[simp] theorem idx_lst : idxD m (.lst ds) (.int i) = atI ds i := rfl
@[simp] theorem idx_scr : idxD m (.scr ns) (.int i) = atI (ns.map .int) i := rfl
theorem idx_refL (h : m[n]? = some (.lst ds)) : idxD m (.ref n) (.int i) = atI ds i := by simp [idxD, h]
@[simp] theorem items_tup : itemsD m (.tup ds) = some ds := rfl
@[simp] theorem items_lst : itemsD m (.lst ds) = some ds := rfl
@[simp] theorem items_scr : itemsD m (.scr ns) = some (ns.map .int) := rfl
@[simp] theorem len_tup : lenD m (.tup ds) = some ds.length := rfl
@[simp] theorem len_lst : lenD m (.lst ds) = some ds.length := rfl
@[simp] theorem len_scr : lenD m (.scr ns) = some ns.length := by simp [lenD]
theorem len_refL (h : m[n]? = some (.lst ds)) : lenD m (.ref n) = some ds.length := by simp [lenD, h]
@[simp] theorem fn_len {d : D} {Q : D → Mem → Prop} {E : XQ} : (fnD m .len [d]).W Q E ↔ IsS (lenD m d) fun n => Q (.int n) m := by
  simp only [fnD]
  cases lenD m d <;> simp
@[simp] theorem fn_list {d : D} {Q : D → Mem → Prop} {E : XQ} : (fnD m .list [d]).W Q E ↔ IsS (itemsD m d) fun n => Q (.lst n) m := by
  simp only [fnD]
  cases itemsD m d <;> simp
@[simp] theorem fn_tuple {d : D} {Q : D → Mem → Prop} {E : XQ} : (fnD m .tuple [d]).W Q E ↔ IsS (itemsD m d) fun n => Q (.tup n) m := by
  simp only [fnD]
  cases itemsD m d <;> simp
@[simp] theorem fn_sorted {d : D} {Q : D → Mem → Prop} {E : XQ} : (fnD m .sorted [d]).W Q E ↔ IsS (keysD m d) fun l => IsS (intsD l) fun ns => Q (.lst ((sortI ns).map .int)) m := by
  simp only [fnD]
  cases keysD m d with
  | none => simp
  | some l => simp only [Option.bind_some, IsS_some]; cases intsD l <;> simp
@[simp] theorem fn_sortedSet {d : D} {Q : D → Mem → Prop} {E : XQ} : (fnD m .sortedSet [d]).W Q E ↔ IsS (lstD m d) fun l => IsS (intsD l) fun ns => ns.length ≤ 4000 ∧ Q (.lst ((sortI (dedI ns)).map .int)) m := by
  simp only [fnD]
  cases lstD m d with
  | none => simp
  | some l =>
    simp only [Option.bind_some, IsS_some]
    cases intsD l with
    | none => simp
    | some ns => by_cases h : ns.length ≤ 4000 <;> simp [h]
@[simp] theorem fn_min {d : D} {Q : D → Mem → Prop} {E : XQ} : (fnD m .min [d]).W Q E ↔ IsS (lstD m d) fun l => IsS (intsD l) fun ns => IsS (minI ns) fun n => Q (.int n) m := by
  simp only [fnD]
  cases lstD m d with
  | none => simp
  | some l =>
    simp only [Option.bind_some, IsS_some]
    cases intsD l with
    | none => simp
    | some ns => simp only [Option.bind_some, IsS_some]; cases minI ns <;> simp
@[simp] theorem fn_max {d : D} {Q : D → Mem → Prop} {E : XQ} : (fnD m .max [d]).W Q E ↔ IsS (lstD m d) fun l => IsS (intsD l) fun ns => IsS (maxI ns) fun n => Q (.int n) m := by
  simp only [fnD]
  cases lstD m d with
  | none => simp
  | some l =>
    simp only [Option.bind_some, IsS_some]
    cases intsD l with
    | none => simp
    | some ns => simp only [Option.bind_some, IsS_some]; cases maxI ns <;> simp
@[simp] theorem fn_sum {d : D} {Q : D → Mem → Prop} {E : XQ} : (fnD m .sum [d]).W Q E ↔ IsS (lstD m d) fun l => IsS (intsD l) fun ns => Q (.int ns.sum) m := by
  simp only [fnD]
  cases lstD m d with
  | none => simp
  | some l => simp only [Option.bind_some, IsS_some]; cases intsD l <;> simp
@[simp] theorem fn_min2 {i j : Int} {Q : D → Mem → Prop} {E : XQ} : (fnD m .min2 [.int i, .int j]).W Q E ↔ Q (.int (if j < i then j else i)) m := by simp only [fnD, W_ok]
@[simp] theorem fn_max2 {i j : Int} {Q : D → Mem → Prop} {E : XQ} : (fnD m .max2 [.int i, .int j]).W Q E ↔ Q (.int (if j > i then j else i)) m := by simp only [fnD, W_ok]
@[simp] theorem fn_intb {Q : D → Mem → Prop} {E : XQ} : (fnD m .int [.bl b]).W Q E ↔ Q (.int (if b then 1 else 0)) m := by simp only [fnD, W_ok]
@[simp] theorem fn_dict {d : D} {Q : D → Mem → Prop} {E : XQ} : (fnD m .dict [d]).W Q E ↔ IsS (lstD m d) fun l => IsS (pairsD l) fun ps => Q (.ref m.length) (m ++ [.dct (ps.foldl (fun a p => putK a p.1 p.2) [])]) := by
  simp only [fnD]
  cases lstD m d with
  | none => simp
  | some l => simp only [Option.bind_some, IsS_some]; cases pairsD l <;> simp
@[simp] theorem fn_dct0 {Q : D → Mem → Prop} {E : XQ} : (fnD m .dct0 []).W Q E ↔ Q (.ref m.length) (m ++ [.dct []]) := by simp only [fnD, W_ok]
@[simp] theorem fn_sortedSetT {d : D} {Q : D → Mem → Prop} {E : XQ} : (fnD m .sortedSetT [d]).W Q E ↔ IsS (lstD m d) fun l => IsS (tupsD l) fun ns => okT ns = true ∧ Q (.lst ((sortT (dedT ns)).map tupI)) m := by
  simp only [fnD]
  cases lstD m d with
  | none => simp
  | some l =>
    simp only [Option.bind_some, IsS_some]
    cases tupsD l with
    | none => simp
    | some ns => by_cases h : okT ns = true <;> simp [h]
@[simp] theorem fn_dctT0 {Q : D → Mem → Prop} {E : XQ} : (fnD m .dctT0 []).W Q E ↔ Q (.ref m.length) (m ++ [.dtt []]) := by simp only [fnD, W_ok]
theorem fn_sortedDT {n : Nat} {kvs : List (List Int × D)} {Q : D → Mem → Prop} {E : XQ} (h : m[n]? = some (.dtt kvs)) (h1 : ∀ t ∈ kvs.map (·.1), t ≠ []) (h2 : kvs.length ≤ 1000) (q : Q (.lst ((sortT (kvs.map (·.1))).map tupI)) m) : (fnD m .sortedDT [.ref n]).W Q E := by
  have h3 : (kvs.map (·.1)).all (fun t => !t.isEmpty) = true ∧ kvs.length ≤ big := ⟨by
    rw [List.all_eq_true]
    intro t ht
    have := h1 t ht
    cases t with
    | nil => exact absurd rfl this
    | cons => rfl, Nat.le_trans h2 (by decide)⟩
  simp only [fnD, h, h3, and_self, if_true, W_ok]
  exact q
theorem fn_minT {d : D} {x : List Int} {r : List (List Int)} {Q : D → Mem → Prop} {E : XQ} (h : (lstD m d).bind tupsD = some (x :: r)) (h1 : (x :: r).length ≤ 100) (h2 : ∀ t ∈ x :: r, t.length ≤ 100) (q : Q (tupI (minTs x r)) m) : (fnD m .minT [d]).W Q E := by
  have h3 : (x :: r).length ≤ 100 ∧ (x :: r).all (fun t => decide (t.length ≤ 100)) = true := ⟨h1, by
    rw [List.all_eq_true]
    intro t ht
    exact decide_eq_true (h2 t ht)⟩
  simp only [fnD, h]
  rw [if_pos h3, W_ok]
  exact q
theorem fn_index {x : D} {j : Nat} {Q : D → Mem → Prop} {E : XQ} (h1 : flatD x = true) (h2 : ds.all flatD = true) (h3 : ds.findIdx? (fun y => eqF y x) = some j) (q : Q (.int (j : Nat)) m) : (fnD m .index [.lst ds, x]).W Q E := by
  have e : fnD m .index [.lst ds, x] = .ok (.int (j : Nat)) m := by
    cases x <;> simp only [fnD, h1, h2, and_self, if_true, h3]
  rw [e, W_ok]
  exact q
@[simp] theorem lst_lst : lstD m (.lst ds) = some ds := rfl
@[simp] theorem lst_scr : lstD m (.scr ns) = some (ns.map .int) := rfl
theorem lst_ref (h : m[n]? = some (.lst ds)) : lstD m (.ref n) = some ds := by simp [lstD, h]
@[simp] theorem keys_lst : keysD m (.lst ds) = some ds := rfl
@[simp] theorem ints_map : intsD (ns.map .int) = some ns := by
  induction ns with
  | nil => rfl
  | cons i r ih => simp [intsD, ih]
@[simp] theorem ints_map' {α : Type} {l : List α} {f : α → Int} : intsD (l.map fun x => .int (f x)) = some (l.map f) := by
  induction l with
  | nil => rfl
  | cons i r ih => simp [intsD, ih]
theorem ints_app {a b : List D} {x y : List Int} (ha : intsD a = some x) (hb : intsD b = some y) : intsD (a ++ b) = some (x ++ y) := by
  induction a generalizing x with
  | nil =>
    simp only [intsD, Option.some.injEq] at ha
    subst ha
    exact hb
  | cons d r ih =>
    cases d with
    | int i =>
      simp only [intsD, Option.map_eq_some_iff] at ha
      obtain ⟨z, h1, rfl⟩ := ha
      simp only [List.cons_append, intsD, ih h1, Option.map_some]
    | _ => simp [intsD] at ha
@[simp] theorem ty_non {t : Ty} : isTy m .non t = some false := rfl
@[simp] theorem ty_bl_bool : isTy m (.bl b) .bool = some true := rfl
@[simp] theorem ty_bl_int : isTy m (.bl b) .int = some true := rfl
@[simp] theorem ty_bl_str : isTy m (.bl b) .str = some false := rfl
@[simp] theorem ty_bl_list : isTy m (.bl b) .list = some false := rfl
@[simp] theorem ty_bl_tuple : isTy m (.bl b) .tuple = some false := rfl
@[simp] theorem ty_int_bool : isTy m (.int i) .bool = some false := rfl
@[simp] theorem ty_int_int : isTy m (.int i) .int = some true := rfl
@[simp] theorem ty_int_str : isTy m (.int i) .str = some false := rfl
@[simp] theorem ty_int_list : isTy m (.int i) .list = some false := rfl
@[simp] theorem ty_int_tuple : isTy m (.int i) .tuple = some false := rfl
@[simp] theorem ty_str_bool : isTy m (.str s) .bool = some false := rfl
@[simp] theorem ty_str_int : isTy m (.str s) .int = some false := rfl
@[simp] theorem ty_str_str : isTy m (.str s) .str = some true := rfl
@[simp] theorem ty_str_list : isTy m (.str s) .list = some false := rfl
@[simp] theorem ty_str_tuple : isTy m (.str s) .tuple = some false := rfl
@[simp] theorem ty_tup_bool : isTy m (.tup ds) .bool = some false := rfl
@[simp] theorem ty_tup_int : isTy m (.tup ds) .int = some false := rfl
@[simp] theorem ty_tup_str : isTy m (.tup ds) .str = some false := rfl
@[simp] theorem ty_tup_list : isTy m (.tup ds) .list = some false := rfl
@[simp] theorem ty_tup_tuple : isTy m (.tup ds) .tuple = some true := rfl
@[simp] theorem ty_lst_bool : isTy m (.lst ds) .bool = some false := rfl
@[simp] theorem ty_lst_int : isTy m (.lst ds) .int = some false := rfl
@[simp] theorem ty_lst_str : isTy m (.lst ds) .str = some false := rfl
@[simp] theorem ty_lst_list : isTy m (.lst ds) .list = some true := rfl
@[simp] theorem ty_lst_tuple : isTy m (.lst ds) .tuple = some false := rfl
@[simp] theorem ty_scr_list : isTy m (.scr ns) .list = some true := rfl
@[simp] theorem anyTy_nil {d : D} : anyTy m d [] = some false := rfl
@[simp] theorem anyTy_one {d : D} {t : Ty} : anyTy m d [t] = isTy m d t := by
  unfold anyTy
  cases isTy m d t <;> simp
theorem ty_refL (h : m[n]? = some (.lst ds)) {t : Ty} : isTy m (.ref n) t = some (t == .list) := by simp [isTy, h]
theorem anyTy_two {d : D} {t u : Ty} {a b : Bool} (h1 : isTy m d t = some a) (h2 : isTy m d u = some b) : anyTy m d [t, u] = some (a || b) := by
  simp [anyTy, h1, h2]
theorem walk_rng1i {j : Int} (h0 : 0 ≤ j) (h : j ≤ big) : walkD m .rng1 [.int j] = some ((List.range j.toNat).map fun (i : Nat) => D.int (i : Int)) := by
  unfold walkD
  simp only
  rw [if_pos ⟨by omega, h⟩]
theorem walk_rng1n {n : Nat} (h : n ≤ big) : walkD m .rng1 [.int (n : Int)] = some ((List.range n).map fun (i : Nat) => D.int (i : Int)) := walk_rng1i (by omega) (by omega)
theorem walk_rng1 {j : Int} : walkD m .rng1 [.int j] = if -(2 ^ 62) ≤ j ∧ j ≤ big then some ((List.range j.toNat).map fun (i : Nat) => D.int (i : Int)) else none := rfl
theorem walk_rng2i {i j : Int} (h1 : -100000 ≤ i) (h2 : i < 100000) (h3 : -100000 ≤ j) (h4 : j < 100000) : walkD m .rng2 [.int i, .int j] = some ((List.range (j - i).toNat).map fun (n : Nat) => D.int (i + (n : Int))) := by
  unfold walkD
  simp only
  have e : (2 : Int) ^ 62 = 4611686018427387904 := by decide
  rw [e, if_pos ⟨by omega, by omega, by omega, by omega, by simp only [big]; omega⟩]
theorem walk_rng2 {i j : Int} : walkD m .rng2 [.int i, .int j] = if -(2 ^ 62) ≤ i ∧ i < 2 ^ 62 ∧ -(2 ^ 62) ≤ j ∧ j < 2 ^ 62 ∧ (j - i).toNat ≤ big then some ((List.range (j - i).toNat).map fun (n : Nat) => D.int (i + (n : Int))) else none := rfl
@[simp] theorem walk_enum : walkD m .enum [.lst ds] = some (ds.zipIdx.map fun p => .tup [.int p.2, p.1]) := rfl
theorem walk_enumR (h : m[n]? = some (.lst ds)) : walkD m .enum [.ref n] = some (ds.zipIdx.map fun p => .tup [.int p.2, p.1]) := by simp [walkD, h]
theorem walk_ref (h : m[n]? = some (.lst ds)) : walkD m .seq [.ref n] = some ds := by simp [walkD, itemsD, h]
@[simp] theorem walk_enumT : walkD m .enumT [.tup ds] = some (ds.zipIdx.map fun p => .tup [.int p.2, p.1]) := rfl
theorem walk_rngD {i j : Int} : walkD m .rngD [.int i, .int j] = if -(2 ^ 62) ≤ i ∧ i < 2 ^ 62 ∧ -(2 ^ 62) ≤ j ∧ j < 2 ^ 62 ∧ (i - j).toNat ≤ big then some ((List.range (i - j).toNat).map fun (n : Nat) => D.int (i - (n : Int))) else none := rfl
theorem addL_ref (h : m[n]? = some (.lst ds)) {es : List D} : addL m (.ref n) (.lst es) = if ds.length + es.length ≤ big then some (.lst (ds ++ es)) else none := by simp [addL, extD, h]
theorem fnD_rngL_int {j : Int} : fnD m .rngL [.int j] = if -(2 ^ 62) ≤ j ∧ j ≤ big then .ok (.lst ((List.range j.toNat).map fun (i : Nat) => D.int (i : Int))) m else .bad := rfl
@[simp] theorem walk_lst : walkD m .seq [.lst ds] = some ds := rfl
@[simp] theorem walk_tup : walkD m .seq [.tup ds] = some ds := rfl
@[simp] theorem walk_scr : walkD m .seq [.scr ns] = some (ns.map .int) := rfl
@[simp] theorem part_nil : partOf [] = some none := rfl
@[simp] theorem part_one : partOf [.int i] = some (some i) := rfl
@[simp] theorem sli_tup {lo hi : Option Int} : sliD m (.tup ds) lo hi = some (.tup (cutD ds lo hi)) := rfl
@[simp] theorem sli_lst {lo hi : Option Int} : sliD m (.lst ds) lo hi = some (.lst (cutD ds lo hi)) := rfl
@[simp] theorem bind_one {j : Nat} {d : D} {ρ : Sl} : bindT m (.one j) d ρ = some (ρ.set j (some d)) := rfl
@[simp] theorem bind_two {i j : Nat} {a b : D} {ρ : Sl} : bindT m (.tup [i, j]) (.tup [a, b]) ρ = some ((ρ.set i (some a)).set j (some b)) := rfl
@[simp] theorem bind_three {i j k : Nat} {a b c : D} {ρ : Sl} : bindT m (.tup [i, j, k]) (.tup [a, b, c]) ρ = some (((ρ.set i (some a)).set j (some b)).set k (some c)) := rfl
@[simp] theorem key_int : keyD (.int i) = some (.inl i) := rfl
@[simp] theorem key_str : keyD (.str s) = some (.inr s) := rfl
theorem refL_mk (h : m[n]? = some (.lst ds)) : refL m (.ref n) = true := by simp [refL, h]
theorem refK_mk {kvs : List (Key × D)} (h : m[n]? = some (.dct kvs)) : refK m (.ref n) = true := by simp [refK, h]
theorem lm_append {d : D} (h : m[n]? = some (.lst ds)) (hb : ds.length < big) : lmD m .append (.ref n) [d] = some (m.set n (.lst (ds ++ [d]))) := by simp [lmD, h, hb]
theorem lm_reverse (h : m[n]? = some (.lst ds)) : lmD m .reverse (.ref n) [] = some (m.set n (.lst ds.reverse)) := by simp [lmD, h]
theorem put_lst {d : D} {j : Nat} (h : m[n]? = some (.lst ds)) (hj : j < ds.length) : putD m (.ref n) (.int j) d = some (m.set n (.lst (ds.set j d))) := by simp [putD, h, ixN_lt hj]
theorem compL_map {α : Type} {tg : Tg} {ρ : Sl} {gd : Mem → Bool} {c e : Sl → Mem → Res D} {l : List α} {Fm G : α → D} (h : ∀ x ∈ l, IsS (bindT m tg (Fm x) ρ) fun ρ1 => (c ρ1 m).W (fun y m1 => y = .bl true ∧ m1 = m) noE ∧ (e ρ1 m).W (fun y m1 => y = G x ∧ m1 = m) noE) (hg : gd m = true := by rfl) : compL tg ρ gd c e (l.map Fm) m = .ok (l.map G) m := by
  induction l with
  | nil => simp only [List.map_nil, compL, hg, if_true]
  | cons x r ih =>
    obtain ⟨ρ1, h1, h2, h3⟩ := IsS_iff.mp (h x (List.mem_cons_self ..))
    have i := ih fun d hd => h d (List.mem_cons_of_mem _ hd)
    simp only [List.map_cons, compL, hg, if_true, h1, eq_of_W h2, eq_of_W h3, i]
/-- a comprehension with a test that changes nothing -/
theorem compL_fm {α : Type} {tg : Tg} {ρ : Sl} {gd : Mem → Bool} {c e : Sl → Mem → Res D} {l : List α} {Fm G : α → D} {p : α → Bool} (h : ∀ x ∈ l, IsS (bindT m tg (Fm x) ρ) fun ρ1 => (c ρ1 m).W (fun y m1 => y = .bl (p x) ∧ m1 = m) noE ∧ (p x = true → (e ρ1 m).W (fun y m1 => y = G x ∧ m1 = m) noE)) (hg : gd m = true := by rfl) : compL tg ρ gd c e (l.map Fm) m = .ok ((l.filter p).map G) m := by
  induction l with
  | nil => simp only [List.map_nil, compL, hg, if_true, List.filter_nil]
  | cons x r ih =>
    obtain ⟨ρ1, h1, h2, h3⟩ := IsS_iff.mp (h x (List.mem_cons_self ..))
    have i := ih fun d hd => h d (List.mem_cons_of_mem _ hd)
    cases q : p x with
    | true => simp only [List.map_cons, compL, hg, if_true, h1, eq_of_W h2, eq_of_W (h3 q), i, q, List.filter_cons_of_pos]
    | false =>
      rw [List.filter_cons_of_neg (by simp [q])]
      simp only [List.map_cons, compL, hg, if_true, h1, eq_of_W h2, i, q]
theorem inD_ints {α : Type} {l : List α} {f : α → Int} {k : Int} : inD m (.int k) (.lst (l.map fun x => .int (f x))) = some (decide (k ∈ l.map f)) := by
  have h1 : (l.map fun x => D.int (f x)).all flatD = true := by simp [flatD]
  show (if flatD (.int k) = true ∧ (l.map fun x => D.int (f x)).all flatD = true then some ((l.map fun x => D.int (f x)).any fun y => eqF y (.int k)) else none) = _
  rw [if_pos ⟨rfl, h1⟩]
  congr 1
  induction l with
  | nil => rfl
  | cons x r ih =>
    have e0 : ∀ a : Int, eqF (.int a) (.int k) = (a == k) := fun _ => rfl
    simp only [List.map_cons, List.any_cons, e0, ih (by simp [flatD])]
    rw [Bool.eq_iff_iff, Bool.or_eq_true]
    simp only [beq_iff_eq, decide_eq_true_eq, List.mem_cons]
    constructor
    · rintro (e | e)
      · exact .inl e.symm
      · exact .inr e
    · rintro (e | e)
      · exact .inl e.symm
      · exact .inr e
theorem compL_none {tg : Tg} {ρ : Sl} {gd : Mem → Bool} {c e : Sl → Mem → Res D} {xs : List D} (h : ∀ (j : Nat) (h : j < xs.length), IsS (bindT m tg xs[j] ρ) fun ρ1 => (c ρ1 m).W (fun x m1 => x = .bl false ∧ m1 = m) noE) (hg : gd m = true := by rfl) : compL tg ρ gd c e xs m = .ok [] m := by
  rw [compL_pure (fun _ => false) id (hg := hg)]
  · rw [List.filter_eq_nil_iff.mpr (by simp)]
    rfl
  · intro d hd
    obtain ⟨j, hj, rfl⟩ := List.mem_iff_getElem.mp hd
    obtain ⟨x, hx, h2⟩ := IsS_iff.mp (h j hj)
    exact IsS_iff.mpr ⟨x, hx, h2, by simp⟩
theorem compW_none {tg : Tg} {ρ : Sl} {gd : Mem → Bool} {c e : Sl → Mem → Res D} {xs : List D} {QL : List D → Mem → Prop} (h : ∀ (j : Nat) (h : j < xs.length), IsS (bindT m tg xs[j] ρ) fun ρ1 => (c ρ1 m).W (fun x m1 => x = .bl false ∧ m1 = m) noE) (q : QL [] m) (hg : gd m = true := by rfl) : (compL tg ρ gd c e xs m).W QL noE := by
  rw [compL_none h hg]
  exact W_ok.mpr q
theorem compW_map {α : Type} {tg : Tg} {ρ : Sl} {gd : Mem → Bool} {c e : Sl → Mem → Res D} {l : List α} {Fm : α → D} {QL : List D → Mem → Prop} (G : α → D) (h : ∀ x ∈ l, IsS (bindT m tg (Fm x) ρ) fun ρ1 => (c ρ1 m).W (fun y m1 => y = .bl true ∧ m1 = m) noE ∧ (e ρ1 m).W (fun y m1 => y = G x ∧ m1 = m) noE) (q : QL (l.map G) m) (hg : gd m = true := by rfl) : (compL tg ρ gd c e (l.map Fm) m).W QL noE := by
  rw [compL_map h hg]
  exact W_ok.mpr q
theorem compW_fm {α : Type} {tg : Tg} {ρ : Sl} {gd : Mem → Bool} {c e : Sl → Mem → Res D} {l : List α} {Fm : α → D} {QL : List D → Mem → Prop} (p : α → Bool) (G : α → D) (h : ∀ x ∈ l, IsS (bindT m tg (Fm x) ρ) fun ρ1 => (c ρ1 m).W (fun y m1 => y = .bl (p x) ∧ m1 = m) noE ∧ (p x = true → (e ρ1 m).W (fun y m1 => y = G x ∧ m1 = m) noE)) (q : QL ((l.filter p).map G) m) (hg : gd m = true := by rfl) : (compL tg ρ gd c e (l.map Fm) m).W QL noE := by
  rw [compL_fm h hg]
  exact W_ok.mpr q
@[simp] theorem cmp_ne_nil : cmpD m .ne (.lst []) (.lst []) = some false := by
  rw [cmp_nen rfl rfl (by simp [D.dep, D.deps]) (by simp [D.dep, D.deps])]
  simp
@[simp] theorem cmp_eq_nil : cmpD m .eq (.lst []) (.lst []) = some true := by
  rw [cmp_eqn rfl rfl (by simp [D.dep, D.deps]) (by simp [D.dep, D.deps])]
  simp
end
@[simp] theorem mem0 {α : Type} {m r : List α} {A : α} : (m ++ A :: r)[m.length]? = some A := by simp
@[simp] theorem mem1 {α : Type} {m r : List α} {A B : α} : (m ++ A :: B :: r)[m.length + 1]? = some B := by
  rw [List.getElem?_append_right (by omega)]
  simp
@[simp] theorem mset0 {α : Type} {m r : List α} {A X : α} : (m ++ A :: r).set m.length X = m ++ X :: r := by
  rw [List.set_append_right _ _ (Nat.le_refl _)]
  simp
@[simp] theorem mset1 {α : Type} {m r : List α} {A B X : α} : (m ++ A :: B :: r).set (m.length + 1) X = m ++ A :: X :: r := by
  rw [List.set_append_right _ _ (by omega)]
  simp
@[simp] theorem big_eq : big = 1000000 := rfl
end Br


set_option Elab.async false
set_option linter.all false
set_option maxRecDepth 100000
set_option maxHeartbeats 1000000
set_option autoImplicit false
/-! what the laws have in common: draws, sameness, numbers. -/
namespace BrK
open PySem PySem.Spec PyProof.Rows L2 Br
def b_is_number : Sms := (Sms.cons (Sm.ret (Ex.and (Ex.isin (Ex.var 0) [Ty.int]) (Ex.and (Ex.not (Ex.isin (Ex.var 0) [Ty.bool])) (Ex.chain Cop.le Cop.le (Ex.var 1) (Ex.var 0) (Ex.var 2)))))
 Sms.nil)
def d_is_number : Def := ⟨3, 3, b_is_number⟩
def b__law_start : Sms := (Sms.cons (Sm.asg (Tg.one 1) (Ex.cst (D.int 1)))
 (Sms.cons (Sm.for (Tg.one 2) Wk.seq (Exs.cons (Ex.var 0) Exs.nil) (Sms.cons (Sm.asg (Tg.one 1) (Ex.bin Bop.mod (Ex.bin Bop.add (Ex.bin Bop.add (Ex.bin Bop.mul (Ex.var 1) (Ex.cst (D.int 48271))) (Ex.var 2)) (Ex.cst (D.int 7))) (Ex.cst (D.int 2147483647))))
 Sms.nil))
 (Sms.cons (Sm.ret (Ex.lst false (Exs.cons (Ex.var 0) (Exs.cons (Ex.cst (D.int 0)) (Exs.cons (Ex.var 1) (Exs.cons (Ex.cst (D.int 0)) Exs.nil))))))
 Sms.nil)))
def d__law_start : Def := ⟨1, 3, b__law_start⟩
def b__law_drawn : Sms := (Sms.cons (Sm.iff (Ex.cmp Cop.gt (Ex.idx (Ex.var 0) (Ex.cst (D.int 3))) (Ex.cst (D.int 0))) (Sms.cons (Sm.asg (Tg.one 2) (Ex.bin Bop.mod (Ex.idx (Ex.var 0) (Ex.cst (D.int 3))) (Ex.var 1)))
 (Sms.cons (Sm.put (Ex.var 0) (Ex.cst (D.int 3)) (Ex.bin Bop.fdiv (Ex.idx (Ex.var 0) (Ex.cst (D.int 3))) (Ex.var 1)))
 (Sms.cons (Sm.ret (Ex.var 2))
 Sms.nil))) Sms.nil)
 (Sms.cons (Sm.put (Ex.var 0) (Ex.cst (D.int 1)) (Ex.bin Bop.add (Ex.idx (Ex.var 0) (Ex.cst (D.int 1))) (Ex.cst (D.int 1))))
 (Sms.cons (Sm.iff (Ex.cmp Cop.le (Ex.idx (Ex.var 0) (Ex.cst (D.int 1))) (Ex.fn Fn.len (Exs.cons (Ex.idx (Ex.var 0) (Ex.cst (D.int 0))) Exs.nil))) (Sms.cons (Sm.asg (Tg.one 3) (Ex.idx (Ex.idx (Ex.var 0) (Ex.cst (D.int 0))) (Ex.bin Bop.sub (Ex.idx (Ex.var 0) (Ex.cst (D.int 1))) (Ex.cst (D.int 1)))))
 (Sms.cons (Sm.put (Ex.var 0) (Ex.cst (D.int 3)) (Ex.ite (Ex.cmp Cop.ge (Ex.var 3) (Ex.bin Bop.pow (Ex.cst (D.int 10)) (Ex.cst (D.int 18)))) (Ex.bin Bop.fdiv (Ex.var 3) (Ex.var 1)) (Ex.cst (D.int 0))))
 (Sms.cons (Sm.ret (Ex.bin Bop.mod (Ex.var 3) (Ex.var 1)))
 Sms.nil))) Sms.nil)
 (Sms.cons (Sm.put (Ex.var 0) (Ex.cst (D.int 2)) (Ex.bin Bop.mod (Ex.bin Bop.add (Ex.bin Bop.mul (Ex.idx (Ex.var 0) (Ex.cst (D.int 2))) (Ex.cst (D.int 48271))) (Ex.cst (D.int 11))) (Ex.cst (D.int 2147483647))))
 (Sms.cons (Sm.ret (Ex.bin Bop.mod (Ex.bin Bop.fdiv (Ex.idx (Ex.var 0) (Ex.cst (D.int 2))) (Ex.cst (D.int 7))) (Ex.var 1)))
 Sms.nil)))))
def d__law_drawn : Def := ⟨2, 4, b__law_drawn⟩
def b__law_same : Sms := (Sms.cons (Sm.iff (Ex.isin (Ex.var 1) [Ty.tuple, Ty.list]) (Sms.cons (Sm.iff (Ex.or (Ex.not (Ex.isin (Ex.var 0) [Ty.tuple, Ty.list])) (Ex.cmp Cop.ne (Ex.isin (Ex.var 0) [Ty.list]) (Ex.isin (Ex.var 1) [Ty.list]))) (Sms.cons (Sm.ret (Ex.cst (D.bl false)))
 Sms.nil) Sms.nil)
 (Sms.cons (Sm.iff (Ex.cmp Cop.ne (Ex.fn Fn.len (Exs.cons (Ex.var 0) Exs.nil)) (Ex.fn Fn.len (Exs.cons (Ex.var 1) Exs.nil))) (Sms.cons (Sm.ret (Ex.cst (D.bl false)))
 Sms.nil) Sms.nil)
 (Sms.cons (Sm.ret (Ex.cmp Cop.eq (Ex.comp [("_law_k", 3)] (Tg.one 3) Wk.rng1 (Exs.cons (Ex.fn Fn.len (Exs.cons (Ex.var 1) Exs.nil)) Exs.nil) (Exs.cons (Ex.not (Ex.call "_law_same" (Exs.cons (Ex.idx (Ex.var 0) (Ex.var 3)) (Exs.cons (Ex.idx (Ex.var 1) (Ex.var 3)) Exs.nil)))) Exs.nil) (Ex.var 3)) (Ex.lst true Exs.nil)))
 Sms.nil))) Sms.nil)
 (Sms.cons (Sm.asg (Tg.one 2) (Ex.and (Ex.cmp Cop.eq (Ex.isin (Ex.var 0) [Ty.bool]) (Ex.isin (Ex.var 1) [Ty.bool])) (Ex.cmp Cop.eq (Ex.isin (Ex.var 0) [Ty.int]) (Ex.isin (Ex.var 1) [Ty.int]))))
 (Sms.cons (Sm.ret (Ex.and (Ex.var 2) (Ex.cmp Cop.eq (Ex.var 0) (Ex.var 1))))
 Sms.nil)))
def d__law_same : Def := ⟨2, 4, b__law_same⟩
abbrev Has (T : List (Str × Def)) (x : Str) (d : Def) : Prop := T.lookup x = some d
section
variable {T : List (Str × Def)} {g : Str → Option D} {wf n : Nat} {m : Mem}
theorem is_number_int (ht : Has T "is_number" d_is_number) (i lo hi : Int) : callN T g wf (n + 1) "is_number" [.int i, .int lo, .int hi] m = .ok (.bl (decide (lo ≤ i ∧ i ≤ hi))) m := by
  refine eq_of_W (W_run ht rfl (wcons ?_))
  by_cases h1 : lo ≤ i <;> by_cases h2 : i ≤ hi <;> simp [d_is_number, h1, h2]
def St (ns : List Int) (rest : Mem) (m : Mem) : Prop := ∃ a b c : Int, 0 ≤ a ∧ m = .lst [.scr ns, .int a, .int b, .int c] :: rest
theorem fmod_lt {a k : Int} (h : 0 < k) : 0 ≤ a.fmod k ∧ a.fmod k < k := ⟨Int.fmod_nonneg_of_pos a h, Int.fmod_lt_of_pos a h⟩
theorem drawn {ns : List Int} {rest : Mem} (ht : Has T "_law_drawn" d__law_drawn) (hs : St ns rest m) {k : Int} (h0 : 0 < k) (h1 : k < 1000000000000000000000000000000) :
    (callN T g wf (n + 1) "_law_drawn" [.ref 0, .int k] m).W (fun d m' => ∃ i : Int, d = .int i ∧ 0 ≤ i ∧ i < k ∧ St ns rest m') noE := by
  obtain ⟨a, b, c, ha, rfl⟩ := hs
  have hk : k ≠ 0 := by omega
  have hk2 : k.natAbs < 1000000000000000000000000000000 := by omega
  refine W_run ht rfl (wcons ?_)
  by_cases hc : 0 < c
  · simp [d__law_drawn, idxD, atI, ixN, hc]
    refine wcons ?_
    simp [idxD, hc, hk]
    refine wcons ?_
    simp [idxD, hc, hk, hk2, putD, ixN]
    refine wcons ?_
    simp
    exact ⟨(fmod_lt h0).1, (fmod_lt h0).2, a, b, _, ha, rfl⟩
  · simp [d__law_drawn, idxD, atI, ixN, hc]
    refine wcons ?_
    simp [idxD, putD, ixN]
    refine wcons ?_
    simp [idxD]
    refine ⟨fun hl => ?_, fun hl => ?_⟩
    · refine wcons ?_
      simp [idxD, -List.getElem?_map]
      obtain ⟨j, rfl⟩ := Int.eq_ofNat_of_zero_le ha
      rw [atI_cast]
      have hj : j < ns.length := by omega
      simp [List.getElem?_eq_getElem hj]
      refine wcons ?_
      simp [idxD, putD, ixN, hk, hk2]
      have fin : ∀ (N : Sl → Mem → Prop) (x : Int), (evSs (feN T g wf n noLf) (Sms.cons (Sm.ret (Ex.bin Bop.mod (Ex.var 3) (Ex.var 1))) Sms.nil) [some (D.ref 0), some (D.int k), none, some (D.int ns[j])] (O.lst [D.scr ns, D.int (↑j + 1), D.int b, D.int x] :: rest)).W N (fun d m' => ∃ i, d = D.int i ∧ 0 ≤ i ∧ i < k ∧ St ns rest m') noE := fun N x => by
        refine wcons ?_
        simp [hk]
        exact ⟨(fmod_lt h0).1, (fmod_lt h0).2, _, b, _, by omega, rfl⟩
      exact ⟨fun _ => fin _ _, fun _ => fin _ _⟩
    · refine wcons ?_
      simp [idxD, putD, ixN]
      refine wcons ?_
      simp [idxD, hk]
      exact ⟨(fmod_lt h0).1, (fmod_lt h0).2, a + 1, _, c, by omega, rfl⟩
theorem start {ns : List Int} (ht : Has T "_law_start" d__law_start) : (callN T g wf (n + 1) "_law_start" [.scr ns] []).W (fun d m' => d = .ref 0 ∧ St ns [] m') noE := by
  refine W_run ht rfl (wcons ?_)
  simp [d__law_start]
  refine wcons ?_
  simp
  refine forL_W (fun _ ρ m => m = [] ∧ ∃ (x : Int) (y : Option D), ρ = [some (.scr ns), some (.int x), y]) ⟨rfl, 1, none, rfl⟩ ?_ ?_
  · intro done d rest ρ m e ⟨hm, x, y, hρ⟩
    subst hm hρ
    have hd : d ∈ ns.map D.int := by rw [e]; simp
    obtain ⟨i, _, rfl⟩ := List.mem_map.mp hd
    simp
    refine wcons ?_
    simp
  · intro ρ m ⟨hm, x, y, hρ⟩
    subst hm hρ
    refine wcons ?_
    simp [big]
    exact ⟨0, x, 0, by omega, rfl⟩
end
mutual
/-- lists within are of a length that range takes -/
def wid : D → Bool
  | .tup ds => decide (ds.length ≤ big) && wids ds
  | .lst ds => decide (ds.length ≤ big) && wids ds
  | _ => true
def wids : List D → Bool
  | [] => true
  | d :: r => wid d && wids r
end
theorem res_cases {m : Mem} {j : Nat} {d d' : D} (h : D.res (frz m 0 j) d = some d') (hp : d'.pure = true) :
    (d = d' ∧ flatD d' = true) ∨ (∃ ds es, d = .tup ds ∧ d' = .tup es ∧ D.ress (frz m 0 j) ds = some es) ∨ ∃ ds es j', d' = .lst es ∧ D.ress (frz m 0 j') ds = some es ∧ (d = .lst ds ∨ ∃ p, d = .ref p ∧ m[p]? = some (.lst ds)) := by
  cases d with
  | tup ds =>
    simp only [D.res] at h
    cases h1 : D.ress (frz m 0 j) ds with
    | none => simp [h1] at h
    | some es =>
      simp only [h1, Option.map_some, Option.some.injEq] at h
      subst h
      exact .inr (.inl ⟨ds, es, rfl, rfl, h1⟩)
  | lst ds =>
    simp only [D.res] at h
    cases h1 : D.ress (frz m 0 j) ds with
    | none => simp [h1] at h
    | some es =>
      simp only [h1, Option.map_some, Option.some.injEq] at h
      subst h
      exact .inr (.inr ⟨ds, es, j, rfl, h1, .inl rfl⟩)
  | ref p =>
    simp only [D.res] at h
    cases j with
    | zero => simp [frz] at h
    | succ j =>
      simp only [frz, Nat.not_lt_zero, if_false] at h
      cases h2 : m[p]? with
      | none => simp [h2] at h
      | some o =>
        cases o with
        | lst ds =>
          simp only [h2] at h
          cases h1 : D.ress (frz m 0 j) ds with
          | none => simp [h1] at h
          | some es =>
            simp only [h1, Option.map_some, Option.some.injEq] at h
            subst h
            exact .inr (.inr ⟨ds, es, j, rfl, h1, .inr ⟨p, rfl, h2⟩⟩)
        | _ => simp [h2] at h
  | scr ns =>
    simp only [D.res, Option.some.injEq] at h
    subst h
    cases hp
  | _ =>
    simp only [D.res, Option.some.injEq] at h
    subst h
    exact .inl ⟨rfl, rfl⟩
theorem ress_get {f : Nat → Option D} : ∀ {ds es : List D}, D.ress f ds = some es → ds.length = es.length ∧ ∀ (i : Nat) (e : D), es[i]? = some e → ∃ d, ds[i]? = some d ∧ D.res f d = some e
  | [], es, h => by
    simp only [D.ress, Option.some.injEq] at h
    subst h
    simp
  | d :: ds, es, h => by
    simp only [D.ress] at h
    cases h1 : D.res f d with
    | none => simp [h1] at h
    | some d' =>
      cases h2 : D.ress f ds with
      | none => simp [h1, h2] at h
      | some r =>
        simp only [h1, h2, Option.some.injEq] at h
        subst h
        obtain ⟨l, q⟩ := ress_get h2
        refine ⟨by simp [l], fun i e he => ?_⟩
        cases i with
        | zero =>
          simp only [List.getElem?_cons_zero, Option.some.injEq] at he
          subst he
          exact ⟨d, rfl, h1⟩
        | succ i => exact q i e (by simpa using he)
theorem pures_mem : ∀ {ds : List D} {d : D}, D.pures ds = true → d ∈ ds → d.pure = true
  | [], _, _, h => by cases h
  | x :: r, d, h, hm => by
    simp only [D.pures, Bool.and_eq_true] at h
    rcases List.mem_cons.mp hm with rfl | hm
    · exact h.1
    · exact pures_mem h.2 hm
theorem nices_mem : ∀ {ds : List D} {d : D}, D.nices ds = true → d ∈ ds → d.nice = true
  | [], _, _, h => by cases h
  | x :: r, d, h, hm => by
    simp only [D.nices, Bool.and_eq_true] at h
    rcases List.mem_cons.mp hm with rfl | hm
    · exact h.1
    · exact nices_mem h.2 hm
theorem wids_mem : ∀ {ds : List D} {d : D}, wids ds = true → d ∈ ds → wid d = true
  | [], _, _, h => by cases h
  | x :: r, d, h, hm => by
    simp only [wids, Bool.and_eq_true] at h
    rcases List.mem_cons.mp hm with rfl | hm
    · exact h.1
    · exact wids_mem h.2 hm
theorem deps_mem : ∀ {ds : List D} {d : D}, d ∈ ds → d.dep ≤ D.deps ds
  | [], _, h => by cases h
  | x :: r, d, hm => by
    simp only [D.deps]
    rcases List.mem_cons.mp hm with rfl | hm
    · exact Nat.le_max_left ..
    · exact Nat.le_trans (deps_mem hm) (Nat.le_max_right ..)
section
variable {T : List (Str × Def)} {g : Str → Option D} {wf n : Nat} {m : Mem}
theorem same_list {k : Nat} {d d' : D} {ds es : List D} (ht : Has T "_law_same" d__law_same) (hl : ds.length = es.length)
    (ih : ∀ (i : Nat) (x y : D), ds[i]? = some x → es[i]? = some y → callN T g wf k "_law_same" [x, y] m = .ok (.bl true) m)
    (b1 b2 : Bool) (hb : (b1 || b2) = true) (t1 : isTy m d .tuple = some b1) (t2 : isTy m d .list = some b2) (u1 : isTy m d' .tuple = some b1) (u2 : isTy m d' .list = some b2)
    (l1 : lenD m d = some ds.length) (l2 : lenD m d' = some es.length) (i1 : ∀ i : Int, idxD m d (.int i) = atI ds i) (i2 : ∀ i : Int, idxD m d' (.int i) = atI es i) (hbig : es.length ≤ big) :
    callN T g wf (k + 1) "_law_same" [d, d'] m = .ok (.bl true) m := by
  refine eq_of_W (W_run ht rfl (wcons ?_))
  simp [d__law_same, anyTy_two u1 u2, hb]
  refine wcons ?_
  simp [anyTy_two t1 t2, hb, t2, u2]
  refine wcons ?_
  simp [l1, l2, hl]
  refine wcons ?_
  simp [l2, walk_rng1n hbig]
  rw [compL_pure (fun _ => false) id]
  · rw [List.filter_eq_nil_iff.mpr (by simp)]
    simp [big]
  · intro x hx
    obtain ⟨j, hj, rfl⟩ := List.mem_map.mp hx
    have hj2 : j < es.length := by simpa using hj
    simp [wipeS, i1, i2, atI_cast, List.getElem?_eq_getElem hj2, List.getElem?_eq_getElem (hl ▸ hj2 : j < ds.length)]
    rw [ih j _ _ (List.getElem?_eq_getElem (hl ▸ hj2 : j < ds.length)) (List.getElem?_eq_getElem hj2)]
    simp
theorem same_flat {k : Nat} {d : D} (ht : Has T "_law_same" d__law_same) (hf : flatD d = true) : callN T g wf (k + 1) "_law_same" [d, d] m = .ok (.bl true) m := by
  refine eq_of_W (W_run ht rfl (wcons ?_))
  have e : cmpD m .eq d d = some true := eqD_same (d := d) (by cases d <;> first | (cases hf; done) | rfl) (by cases d <;> first | (cases hf; done) | rfl) (by cases d <;> first | (cases hf; done) | rfl) (by cases d <;> first | (cases hf; done) | simp [D.dep])
  cases d <;> first | (cases hf; done) | (
    simp [d__law_same, anyTy]
    refine wcons ?_
    simp
    refine wcons ?_
    simp [e])
theorem same_ok (ht : Has T "_law_same" d__law_same) : ∀ (k j : Nat) (d d' : D), D.res (frz m 0 j) d = some d' → d'.pure = true → wid d' = true → d'.dep ≤ k → callN T g wf (k + 1) "_law_same" [d, d'] m = .ok (.bl true) m := by
  intro k
  induction k with
  | zero =>
    intro j d d' h hp hw hk
    rcases res_cases h hp with ⟨rfl, hf⟩ | ⟨ds, es, rfl, rfl, _⟩ | ⟨ds, es, j', rfl, _, _⟩
    · exact same_flat ht hf
    · simp [D.dep] at hk
    · simp [D.dep] at hk
  | succ k ih =>
    intro j d d' h hp hw hk
    rcases res_cases h hp with ⟨rfl, hf⟩ | ⟨ds, es, rfl, rfl, hr⟩ | ⟨ds, es, j', rfl, hr, hd⟩
    · exact same_flat ht hf
    · simp only [D.pure] at hp
      simp only [wid, Bool.and_eq_true, decide_eq_true_eq] at hw
      simp only [D.dep] at hk
      obtain ⟨hl, hg⟩ := ress_get hr
      refine same_list ht hl (fun i x y hx hy => ?_) true false rfl rfl rfl rfl rfl rfl rfl (fun _ => rfl) (fun _ => rfl) hw.1
      obtain ⟨z, hz, hq⟩ := hg i y hy
      rw [hx] at hz
      cases hz
      have hm := List.mem_of_getElem? hy
      exact ih j x y hq (pures_mem hp hm) (wids_mem hw.2 hm) (by have := deps_mem hm; omega)
    · simp only [D.pure] at hp
      simp only [wid, Bool.and_eq_true, decide_eq_true_eq] at hw
      simp only [D.dep] at hk
      obtain ⟨hl, hg⟩ := ress_get hr
      rcases hd with rfl | ⟨p, rfl, hp2⟩
      · refine same_list ht hl (fun i x y hx hy => ?_) false true rfl rfl rfl rfl rfl rfl rfl (fun _ => rfl) (fun _ => rfl) hw.1
        obtain ⟨z, hz, hq⟩ := hg i y hy
        rw [hx] at hz
        cases hz
        have hm := List.mem_of_getElem? hy
        exact ih j' x y hq (pures_mem hp hm) (wids_mem hw.2 hm) (by have := deps_mem hm; omega)
      · refine same_list ht hl (fun i x y hx hy => ?_) false true rfl (ty_refL hp2) (ty_refL hp2) rfl rfl (len_refL hp2) rfl (fun _ => idx_refL hp2) (fun _ => rfl) hw.1
        obtain ⟨z, hz, hq⟩ := hg i y hy
        rw [hx] at hz
        cases hz
        have hm := List.mem_of_getElem? hy
        exact ih j' x y hq (pures_mem hp hm) (wids_mem hw.2 hm) (by have := deps_mem hm; omega)
/-- what froze to d' is told the same as d' -/
theorem same_frz {k : Nat} {d d' : D} (ht : Has T "_law_same" d__law_same) (h : frzD m 0 d = some d') (hp : d'.pure = true) (hw : wid d' = true) (hk : d'.dep ≤ k) : callN T g wf (k + 1) "_law_same" [d, d'] m = .ok (.bl true) m := same_ok ht k 6 d d' h hp hw hk
end
end BrK


set_option Elab.async false
set_option linter.all false
set_option maxRecDepth 100000
set_option maxHeartbeats 1000000
set_option autoImplicit false
/-! laws of refusals: what they have in common. -/
namespace BrK
open PySem PySem.Spec PyProof.Rows L2 Br
/-! ### cells of rows -/
/-- none, a bool, a number, a text, () -/
def cellB : D → Bool
  | .non => true
  | .bl _ => true
  | .int _ => true
  | .str _ => true
  | .tup [] => true
  | _ => false
theorem cell_pure {d : D} (h : cellB d = true) : d.pure = true ∧ d.dep ≤ 1 := by
  cases d <;> first | (cases h; done) | exact ⟨rfl, by simp [D.dep]⟩ | skip
  rename_i ds
  cases ds <;> first | (cases h; done) | exact ⟨rfl, by simp [D.dep, D.deps]⟩
theorem cells_pure : ∀ {ds : List D}, ds.all cellB = true → D.pures ds = true ∧ D.deps ds ≤ 1
  | [], _ => ⟨rfl, by simp [D.deps]⟩
  | d :: r, h => by
    simp only [List.all_cons, Bool.and_eq_true] at h
    obtain ⟨h1, h2⟩ := cell_pure h.1
    obtain ⟨h3, h4⟩ := cells_pure h.2
    exact ⟨by simp [D.pures, h1, h3], by simp only [D.deps]; omega⟩
theorem cell_ref {d : D} (h : cellB d = true) : ∀ n, d ≠ .ref n := by
  intro n z
  subst z
  cases h
section
variable {m : Mem}
theorem eqv_nilL (xs : List D) : PyData.eqv (toPy (.lst xs)) (toPy (.lst [])) = xs.isEmpty := by
  cases xs with
  | nil => simp [toPy, toPys, PyData.eqv, PyData.eqvAll]
  | cons a r => simp [toPy, toPys, PyData.eqv, PyData.eqvAll]
theorem eqv_nilT (xs : List D) : PyData.eqv (toPy (.tup xs)) (toPy (.tup [])) = xs.isEmpty := by
  cases xs with
  | nil => simp [toPy, toPys, PyData.eqv, PyData.eqvAll]
  | cons a r => simp [toPy, toPys, PyData.eqv, PyData.eqvAll]
theorem eqD_nilL {xs : List D} (hp : D.pures xs = true) (hd : D.deps xs ≤ 60) : eqD m (.lst xs) (.lst []) = some xs.isEmpty := by
  have p : D.pure (.lst xs) = true := by rw [D.pure]; exact hp
  have p0 : D.pure (.lst []) = true := by rw [D.pure]; rfl
  have d1 : (D.lst xs).dep ≤ 64 := by simp only [D.dep]; omega
  have d0 : (D.lst []).dep ≤ 64 := by simp [D.dep, D.deps]
  unfold eqD
  rw [frz_pure p, frz_pure p0]
  simp only [p, p0, d1, d0, and_self, if_true, eqv_nilL]
theorem eqD_nilT {xs : List D} (hp : D.pures xs = true) (hd : D.deps xs ≤ 60) : eqD m (.tup xs) (.tup []) = some xs.isEmpty := by
  have p : D.pure (.tup xs) = true := by rw [D.pure]; exact hp
  have p0 : D.pure (.tup []) = true := by rw [D.pure]; rfl
  have d1 : (D.tup xs).dep ≤ 64 := by simp only [D.dep]; omega
  have d0 : (D.tup []).dep ≤ 64 := by simp [D.dep, D.deps]
  unfold eqD
  rw [frz_pure p, frz_pure p0]
  simp only [p, p0, d1, d0, and_self, if_true, eqv_nilT]
theorem ne_nilL {xs : List D} (hp : D.pures xs = true) (hd : D.deps xs ≤ 60) : cmpD m .ne (.lst xs) (.lst []) = some (!xs.isEmpty) := by
  show (eqD m (.lst xs) (.lst [])).map (!·) = _
  rw [eqD_nilL hp hd]
  rfl
theorem eq_nilL {xs : List D} (hp : D.pures xs = true) (hd : D.deps xs ≤ 60) : cmpD m .eq (.lst xs) (.lst []) = some xs.isEmpty := eqD_nilL hp hd
theorem eq_nilT {xs : List D} (hp : D.pures xs = true) (hd : D.deps xs ≤ 60) : cmpD m .eq (.tup xs) (.tup []) = some xs.isEmpty := eqD_nilT hp hd
end
/-- a number in bounds -/
def okI (lo hi : Int) : D → Bool
  | .int i => decide (lo ≤ i) && decide (i ≤ hi)
  | _ => false
section
variable {T : List (Str × Def)} {g : Str → Option D} {wf n : Nat} {m : Mem} {ns : List Int} {rest : Mem}
theorem ok_chain {lo i hi : Int} : (if lo ≤ i then decide (i ≤ hi) else false) = (decide (lo ≤ i) && decide (i ≤ hi)) := by by_cases h : lo ≤ i <;> simp [h]
theorem is_number_D (ht : Has T "is_number" d_is_number) {d : D} (hd : cellB d = true) (lo hi : Int) : callN T g wf (n + 1) "is_number" [d, .int lo, .int hi] m = .ok (.bl (okI lo hi d)) m := by
  cases d with
  | int i =>
    rw [is_number_int ht]
    by_cases h1 : lo ≤ i <;> by_cases h2 : i ≤ hi <;> simp [okI, h1, h2]
  | ref k => cases hd
  | scr k => cases hd
  | _ =>
    refine eq_of_W (W_run ht rfl (wcons ?_))
    simp [d_is_number, okI]
/-- a draw -/
theorem drawK (ht : Has T "_law_drawn" d__law_drawn) (hs : St ns rest m) {k : Int} (h0 : 0 < k) (h1 : k < 1000000000000000000000000000000) {Q : D → Mem → Prop} (q : ∀ (i : Int) (m' : Mem), 0 ≤ i → i < k → St ns rest m' → Q (.int i) m') {E : XQ} : (callN T g wf (n + 1) "_law_drawn" [.ref 0, .int k] m).W Q E :=
  Res.W.lift ((drawn ht hs h0 h1).mono fun d m' ⟨i, hd, a, b, c⟩ => by rw [hd]; exact q i m' a b c)
theorem comp_drawK {α : Type} {f : α → D} {P : α → Prop} {tg : Nat} {ρ : Sl} {gd : Mem → Bool} {e : Sl → Mem → Res D} {R : Mem} {xs : List D} {QL : List D → Mem → Prop} (hs : St ns R m) (hg : ∀ m, gd m = true)
    (step : ∀ (j : Nat) (hj : j < xs.length) (m : Mem), St ns R m → (e (ρ.set tg (some xs[j])) m).W (fun d m' => ∃ a, d = f a ∧ P a ∧ St ns R m') noE)
    (q : ∀ (l : List α) (m' : Mem), l.length = xs.length → (∀ a ∈ l, P a) → St ns R m' → QL (l.map f) m') :
    (compL (.one tg) ρ gd (fun ρ' m' => evC (feN T g wf n noLf) .nil ρ' m') e xs m).W QL noE := by
  refine compL_N (fun j vs m' => St ns R m' ∧ ∃ l : List α, vs = l.map f ∧ l.length = j ∧ ∀ a ∈ l, P a) ⟨hs, [], rfl, rfl, by simp⟩ ?_ ?_ (fun _ _ _ _ => hg _)
  · rintro j hj vs m2 ⟨s2, l, rfl, hl, hp⟩
    simp
    refine (step j hj m2 s2).mono fun d m3 ⟨a, hd, ha, s3⟩ => ⟨s3, l ++ [a], by simp [hd], by simp [hl], fun x hx => ?_⟩
    rcases List.mem_append.mp hx with z | z
    · exact hp x z
    · rw [List.mem_singleton.mp z]; exact ha
  · rintro vs m2 ⟨s2, l, rfl, hl, hp⟩
    exact q l m2 (by simpa using hl) hp s2
end
/-! ### what is told of a refusal -/
def kindD (c : Str) (ds : List D) : D :=
  if c = "BadSize" ∨ c = "BadAgain" ∨ c = "BadKeys" then .str c else .tup (.str c :: ds)
def h__law_kind : Sms := (Sms.cons (Sm.asg (Tg.one 2) (Ex.lst true (Exs.cons (Ex.isx 1 "BadReport") (Exs.cons (Ex.isx 1 "BadSize") (Exs.cons (Ex.isx 1 "BadAgain") (Exs.cons (Ex.isx 1 "BadKeys") Exs.nil))))))
 (Sms.cons (Sm.asg (Tg.one 2) (Ex.bin Bop.add (Ex.var 2) (Ex.lst true (Exs.cons (Ex.isx 1 "BadRows") (Exs.cons (Ex.isx 1 "BadOrder") (Exs.cons (Ex.isx 1 "BadPlan") Exs.nil))))))
 (Sms.cons (Sm.asg (Tg.one 2) (Ex.bin Bop.add (Ex.var 2) (Ex.lst true (Exs.cons (Ex.isx 1 "BadMoves") (Exs.cons (Ex.isx 1 "BadText") Exs.nil)))))
 (Sms.cons (Sm.asg (Tg.one 3) (Ex.lst true (Exs.cons (Ex.cst (D.str "BadReport")) (Exs.cons (Ex.cst (D.str "BadSize")) (Exs.cons (Ex.cst (D.str "BadAgain")) (Exs.cons (Ex.cst (D.str "BadKeys")) (Exs.cons (Ex.cst (D.str "BadRows")) (Exs.cons (Ex.cst (D.str "BadOrder")) (Exs.cons (Ex.cst (D.str "BadPlan")) (Exs.cons (Ex.cst (D.str "BadMoves")) Exs.nil))))))))))
 (Sms.cons (Sm.iff (Ex.or (Ex.cmp Cop.ne (Ex.fn Fn.count (Exs.cons (Ex.var 2) (Exs.cons (Ex.cst (D.bl true)) Exs.nil))) (Ex.cst (D.int 1))) (Ex.not (Ex.isx 1 "ValueError"))) (Sms.cons (Sm.ret (Ex.cst (D.str "other")))
 Sms.nil) Sms.nil)
 (Sms.cons (Sm.asg (Tg.one 4) (Ex.idx (Ex.bin Bop.add (Ex.var 3) (Ex.lst true (Exs.cons (Ex.cst (D.str "BadText")) Exs.nil))) (Ex.fn Fn.index (Exs.cons (Ex.var 2) (Exs.cons (Ex.cst (D.bl true)) Exs.nil)))))
 (Sms.cons (Sm.iff (Ex.cmp Cop.eq (Ex.var 4) (Ex.cst (D.str "BadReport"))) (Sms.cons (Sm.ret (Ex.tup (Exs.cons (Ex.var 4) (Exs.cons (Ex.xat 1 "part") (Exs.cons (Ex.xat 1 "number") Exs.nil)))))
 Sms.nil) Sms.nil)
 (Sms.cons (Sm.iff (Ex.cmp Cop.inn (Ex.var 4) (Ex.tup (Exs.cons (Ex.cst (D.str "BadSize")) (Exs.cons (Ex.cst (D.str "BadAgain")) (Exs.cons (Ex.cst (D.str "BadKeys")) Exs.nil))))) (Sms.cons (Sm.ret (Ex.var 4))
 Sms.nil) Sms.nil)
 (Sms.cons (Sm.ret (Ex.ite (Ex.cmp Cop.eq (Ex.var 4) (Ex.cst (D.str "BadText"))) (Ex.tup (Exs.cons (Ex.var 4) (Exs.cons (Ex.xat 1 "row") Exs.nil))) (Ex.tup (Exs.cons (Ex.var 4) (Exs.cons (Ex.xat 1 "number") Exs.nil)))))
 Sms.nil)))))))))
def b__law_kind : Sms := (Sms.cons (Sm.tri (Sms.cons (Sm.ret (Ex.callv Exs.nil))
 Sms.nil) "ReportError" 1 h__law_kind)
 Sms.nil)
def d__law_kind : Def := ⟨0, 5, b__law_kind⟩

section
variable {T : List (Str × Def)} {g : Str → Option D} {wf n : Nat} {m : Mem}
/-- the handler -/
theorem kind_caught {F : Fe} {c : Str} {ds : List D} (hc : c ∈ (["BadReport", "BadSize", "BadAgain", "BadKeys", "BadRows", "BadOrder", "BadPlan", "BadMoves", "BadText"] : List Str)) (hl : ds.length = (flds c).length) :
    (evSs (F.caught c ds) h__law_kind (List.replicate 5 none) m).W (fun _ _ => False) (fun d m' => d = kindD c ds ∧ m' = m) noE := by
  simp only [List.mem_cons, List.not_mem_nil, or_false] at hc
  rcases hc with rfl | rfl | rfl | rfl | rfl | rfl | rfl | rfl | rfl
  · match ds, hl with
    | [p, q], _ =>
      have X : xsub "BadReport" "BadReport" = true ∧ xsub "BadReport" "BadSize" = false ∧ xsub "BadReport" "BadAgain" = false ∧ xsub "BadReport" "BadKeys" = false ∧ xsub "BadReport" "BadRows" = false ∧ xsub "BadReport" "BadOrder" = false ∧ xsub "BadReport" "BadPlan" = false ∧ xsub "BadReport" "BadMoves" = false ∧ xsub "BadReport" "BadText" = false ∧ xsub "BadReport" "ValueError" = true := by decide
      obtain ⟨x0, x1, x2, x3, x4, x5, x6, x7, x8, x9⟩ := X
      refine wcons ?_
      simp [h__law_kind, x0, x1, x2, x3]
      refine wcons ?_
      simp [x4, x5, x6]
      refine wcons ?_
      simp [x7, x8]
      refine wcons ?_
      simp
      refine wcons ?_
      simp [fnD, flatD, eqF, List.countP_cons, x9]
      refine wcons ?_
      simp [fnD, flatD, eqF, List.findIdx?_cons]
      refine wcons ?_
      simp [kindD, fnD, flatD, eqF, inD, List.countP_cons, List.findIdx?_cons, xatD, Fe.caught, show flds "BadReport" = (["part", "number"] : List Str) from by decide, List.lookup, show (("number" : Str) == "part") = false from by decide, show (("BadReport" : Str) = "BadSize") = False from by decide, show (("BadReport" : Str) = "BadAgain") = False from by decide, show (("BadReport" : Str) = "BadKeys") = False from by decide, show (("BadReport" : Str) = "BadText") = False from by decide, show (("BadSize" : Str) == "BadReport") = false from by decide, show (("BadAgain" : Str) == "BadReport") = false from by decide, show (("BadKeys" : Str) == "BadReport") = false from by decide]
      refine wcons ?_
      simp [kindD, fnD, flatD, eqF, inD, List.countP_cons, List.findIdx?_cons, xatD, Fe.caught, show flds "BadReport" = (["part", "number"] : List Str) from by decide, List.lookup, show (("number" : Str) == "part") = false from by decide, show (("BadReport" : Str) = "BadSize") = False from by decide, show (("BadReport" : Str) = "BadAgain") = False from by decide, show (("BadReport" : Str) = "BadKeys") = False from by decide, show (("BadReport" : Str) = "BadText") = False from by decide, show (("BadSize" : Str) == "BadReport") = false from by decide, show (("BadAgain" : Str) == "BadReport") = false from by decide, show (("BadKeys" : Str) == "BadReport") = false from by decide]
  · match ds, hl with
    | [], _ =>
      have X : xsub "BadSize" "BadReport" = false ∧ xsub "BadSize" "BadSize" = true ∧ xsub "BadSize" "BadAgain" = false ∧ xsub "BadSize" "BadKeys" = false ∧ xsub "BadSize" "BadRows" = false ∧ xsub "BadSize" "BadOrder" = false ∧ xsub "BadSize" "BadPlan" = false ∧ xsub "BadSize" "BadMoves" = false ∧ xsub "BadSize" "BadText" = false ∧ xsub "BadSize" "ValueError" = true := by decide
      obtain ⟨x0, x1, x2, x3, x4, x5, x6, x7, x8, x9⟩ := X
      refine wcons ?_
      simp [h__law_kind, x0, x1, x2, x3]
      refine wcons ?_
      simp [x4, x5, x6]
      refine wcons ?_
      simp [x7, x8]
      refine wcons ?_
      simp
      refine wcons ?_
      simp [fnD, flatD, eqF, List.countP_cons, x9]
      refine wcons ?_
      simp [fnD, flatD, eqF, List.findIdx?_cons]
      refine wcons ?_
      simp [kindD, fnD, flatD, eqF, inD, List.countP_cons, List.findIdx?_cons, xatD, Fe.caught, show flds "BadSize" = ([] : List Str) from by decide, show (("BadSize" : Str) = "BadReport") = False from by decide, show (("BadSize" : Str) = "BadAgain") = False from by decide, show (("BadSize" : Str) = "BadKeys") = False from by decide, show (("BadSize" : Str) = "BadText") = False from by decide, show (("BadAgain" : Str) == "BadSize") = false from by decide, show (("BadKeys" : Str) == "BadSize") = false from by decide]
      refine wcons ?_
      simp [kindD, fnD, flatD, eqF, inD, List.countP_cons, List.findIdx?_cons, xatD, Fe.caught, show flds "BadSize" = ([] : List Str) from by decide, show (("BadSize" : Str) = "BadReport") = False from by decide, show (("BadSize" : Str) = "BadAgain") = False from by decide, show (("BadSize" : Str) = "BadKeys") = False from by decide, show (("BadSize" : Str) = "BadText") = False from by decide, show (("BadAgain" : Str) == "BadSize") = false from by decide, show (("BadKeys" : Str) == "BadSize") = false from by decide]
      refine wcons ?_
      simp [kindD, fnD, flatD, eqF, inD, List.countP_cons, List.findIdx?_cons, xatD, Fe.caught, show flds "BadSize" = ([] : List Str) from by decide, show (("BadSize" : Str) = "BadReport") = False from by decide, show (("BadSize" : Str) = "BadAgain") = False from by decide, show (("BadSize" : Str) = "BadKeys") = False from by decide, show (("BadSize" : Str) = "BadText") = False from by decide, show (("BadAgain" : Str) == "BadSize") = false from by decide, show (("BadKeys" : Str) == "BadSize") = false from by decide]
  · match ds, hl with
    | [], _ =>
      have X : xsub "BadAgain" "BadReport" = false ∧ xsub "BadAgain" "BadSize" = false ∧ xsub "BadAgain" "BadAgain" = true ∧ xsub "BadAgain" "BadKeys" = false ∧ xsub "BadAgain" "BadRows" = false ∧ xsub "BadAgain" "BadOrder" = false ∧ xsub "BadAgain" "BadPlan" = false ∧ xsub "BadAgain" "BadMoves" = false ∧ xsub "BadAgain" "BadText" = false ∧ xsub "BadAgain" "ValueError" = true := by decide
      obtain ⟨x0, x1, x2, x3, x4, x5, x6, x7, x8, x9⟩ := X
      refine wcons ?_
      simp [h__law_kind, x0, x1, x2, x3]
      refine wcons ?_
      simp [x4, x5, x6]
      refine wcons ?_
      simp [x7, x8]
      refine wcons ?_
      simp
      refine wcons ?_
      simp [fnD, flatD, eqF, List.countP_cons, x9]
      refine wcons ?_
      simp [fnD, flatD, eqF, List.findIdx?_cons]
      refine wcons ?_
      simp [kindD, fnD, flatD, eqF, inD, List.countP_cons, List.findIdx?_cons, xatD, Fe.caught, show flds "BadAgain" = ([] : List Str) from by decide, show (("BadAgain" : Str) = "BadReport") = False from by decide, show (("BadAgain" : Str) = "BadSize") = False from by decide, show (("BadAgain" : Str) = "BadKeys") = False from by decide, show (("BadAgain" : Str) = "BadText") = False from by decide, show (("BadSize" : Str) == "BadAgain") = false from by decide, show (("BadKeys" : Str) == "BadAgain") = false from by decide]
      refine wcons ?_
      simp [kindD, fnD, flatD, eqF, inD, List.countP_cons, List.findIdx?_cons, xatD, Fe.caught, show flds "BadAgain" = ([] : List Str) from by decide, show (("BadAgain" : Str) = "BadReport") = False from by decide, show (("BadAgain" : Str) = "BadSize") = False from by decide, show (("BadAgain" : Str) = "BadKeys") = False from by decide, show (("BadAgain" : Str) = "BadText") = False from by decide, show (("BadSize" : Str) == "BadAgain") = false from by decide, show (("BadKeys" : Str) == "BadAgain") = false from by decide]
      refine wcons ?_
      simp [kindD, fnD, flatD, eqF, inD, List.countP_cons, List.findIdx?_cons, xatD, Fe.caught, show flds "BadAgain" = ([] : List Str) from by decide, show (("BadAgain" : Str) = "BadReport") = False from by decide, show (("BadAgain" : Str) = "BadSize") = False from by decide, show (("BadAgain" : Str) = "BadKeys") = False from by decide, show (("BadAgain" : Str) = "BadText") = False from by decide, show (("BadSize" : Str) == "BadAgain") = false from by decide, show (("BadKeys" : Str) == "BadAgain") = false from by decide]
  · match ds, hl with
    | [], _ =>
      have X : xsub "BadKeys" "BadReport" = false ∧ xsub "BadKeys" "BadSize" = false ∧ xsub "BadKeys" "BadAgain" = false ∧ xsub "BadKeys" "BadKeys" = true ∧ xsub "BadKeys" "BadRows" = false ∧ xsub "BadKeys" "BadOrder" = false ∧ xsub "BadKeys" "BadPlan" = false ∧ xsub "BadKeys" "BadMoves" = false ∧ xsub "BadKeys" "BadText" = false ∧ xsub "BadKeys" "ValueError" = true := by decide
      obtain ⟨x0, x1, x2, x3, x4, x5, x6, x7, x8, x9⟩ := X
      refine wcons ?_
      simp [h__law_kind, x0, x1, x2, x3]
      refine wcons ?_
      simp [x4, x5, x6]
      refine wcons ?_
      simp [x7, x8]
      refine wcons ?_
      simp
      refine wcons ?_
      simp [fnD, flatD, eqF, List.countP_cons, x9]
      refine wcons ?_
      simp [fnD, flatD, eqF, List.findIdx?_cons]
      refine wcons ?_
      simp [kindD, fnD, flatD, eqF, inD, List.countP_cons, List.findIdx?_cons, xatD, Fe.caught, show flds "BadKeys" = ([] : List Str) from by decide, show (("BadKeys" : Str) = "BadReport") = False from by decide, show (("BadKeys" : Str) = "BadSize") = False from by decide, show (("BadKeys" : Str) = "BadAgain") = False from by decide, show (("BadKeys" : Str) = "BadText") = False from by decide, show (("BadSize" : Str) == "BadKeys") = false from by decide, show (("BadAgain" : Str) == "BadKeys") = false from by decide]
      refine wcons ?_
      simp [kindD, fnD, flatD, eqF, inD, List.countP_cons, List.findIdx?_cons, xatD, Fe.caught, show flds "BadKeys" = ([] : List Str) from by decide, show (("BadKeys" : Str) = "BadReport") = False from by decide, show (("BadKeys" : Str) = "BadSize") = False from by decide, show (("BadKeys" : Str) = "BadAgain") = False from by decide, show (("BadKeys" : Str) = "BadText") = False from by decide, show (("BadSize" : Str) == "BadKeys") = false from by decide, show (("BadAgain" : Str) == "BadKeys") = false from by decide]
      refine wcons ?_
      simp [kindD, fnD, flatD, eqF, inD, List.countP_cons, List.findIdx?_cons, xatD, Fe.caught, show flds "BadKeys" = ([] : List Str) from by decide, show (("BadKeys" : Str) = "BadReport") = False from by decide, show (("BadKeys" : Str) = "BadSize") = False from by decide, show (("BadKeys" : Str) = "BadAgain") = False from by decide, show (("BadKeys" : Str) = "BadText") = False from by decide, show (("BadSize" : Str) == "BadKeys") = false from by decide, show (("BadAgain" : Str) == "BadKeys") = false from by decide]
  · match ds, hl with
    | [p], _ =>
      have X : xsub "BadRows" "BadReport" = false ∧ xsub "BadRows" "BadSize" = false ∧ xsub "BadRows" "BadAgain" = false ∧ xsub "BadRows" "BadKeys" = false ∧ xsub "BadRows" "BadRows" = true ∧ xsub "BadRows" "BadOrder" = false ∧ xsub "BadRows" "BadPlan" = false ∧ xsub "BadRows" "BadMoves" = false ∧ xsub "BadRows" "BadText" = false ∧ xsub "BadRows" "ValueError" = true := by decide
      obtain ⟨x0, x1, x2, x3, x4, x5, x6, x7, x8, x9⟩ := X
      refine wcons ?_
      simp [h__law_kind, x0, x1, x2, x3]
      refine wcons ?_
      simp [x4, x5, x6]
      refine wcons ?_
      simp [x7, x8]
      refine wcons ?_
      simp
      refine wcons ?_
      simp [fnD, flatD, eqF, List.countP_cons, x9]
      refine wcons ?_
      simp [fnD, flatD, eqF, List.findIdx?_cons]
      refine wcons ?_
      simp [kindD, fnD, flatD, eqF, inD, List.countP_cons, List.findIdx?_cons, xatD, Fe.caught, show flds "BadRows" = (["number"] : List Str) from by decide, List.lookup, show (("number" : Str) == "part") = false from by decide, show (("BadRows" : Str) = "BadReport") = False from by decide, show (("BadRows" : Str) = "BadSize") = False from by decide, show (("BadRows" : Str) = "BadAgain") = False from by decide, show (("BadRows" : Str) = "BadKeys") = False from by decide, show (("BadRows" : Str) = "BadText") = False from by decide, show (("BadSize" : Str) == "BadRows") = false from by decide, show (("BadAgain" : Str) == "BadRows") = false from by decide, show (("BadKeys" : Str) == "BadRows") = false from by decide]
      refine wcons ?_
      simp [kindD, fnD, flatD, eqF, inD, List.countP_cons, List.findIdx?_cons, xatD, Fe.caught, show flds "BadRows" = (["number"] : List Str) from by decide, List.lookup, show (("number" : Str) == "part") = false from by decide, show (("BadRows" : Str) = "BadReport") = False from by decide, show (("BadRows" : Str) = "BadSize") = False from by decide, show (("BadRows" : Str) = "BadAgain") = False from by decide, show (("BadRows" : Str) = "BadKeys") = False from by decide, show (("BadRows" : Str) = "BadText") = False from by decide, show (("BadSize" : Str) == "BadRows") = false from by decide, show (("BadAgain" : Str) == "BadRows") = false from by decide, show (("BadKeys" : Str) == "BadRows") = false from by decide]
      refine wcons ?_
      simp [kindD, fnD, flatD, eqF, inD, List.countP_cons, List.findIdx?_cons, xatD, Fe.caught, show flds "BadRows" = (["number"] : List Str) from by decide, List.lookup, show (("number" : Str) == "part") = false from by decide, show (("BadRows" : Str) = "BadReport") = False from by decide, show (("BadRows" : Str) = "BadSize") = False from by decide, show (("BadRows" : Str) = "BadAgain") = False from by decide, show (("BadRows" : Str) = "BadKeys") = False from by decide, show (("BadRows" : Str) = "BadText") = False from by decide, show (("BadSize" : Str) == "BadRows") = false from by decide, show (("BadAgain" : Str) == "BadRows") = false from by decide, show (("BadKeys" : Str) == "BadRows") = false from by decide]
  · match ds, hl with
    | [p], _ =>
      have X : xsub "BadOrder" "BadReport" = false ∧ xsub "BadOrder" "BadSize" = false ∧ xsub "BadOrder" "BadAgain" = false ∧ xsub "BadOrder" "BadKeys" = false ∧ xsub "BadOrder" "BadRows" = false ∧ xsub "BadOrder" "BadOrder" = true ∧ xsub "BadOrder" "BadPlan" = false ∧ xsub "BadOrder" "BadMoves" = false ∧ xsub "BadOrder" "BadText" = false ∧ xsub "BadOrder" "ValueError" = true := by decide
      obtain ⟨x0, x1, x2, x3, x4, x5, x6, x7, x8, x9⟩ := X
      refine wcons ?_
      simp [h__law_kind, x0, x1, x2, x3]
      refine wcons ?_
      simp [x4, x5, x6]
      refine wcons ?_
      simp [x7, x8]
      refine wcons ?_
      simp
      refine wcons ?_
      simp [fnD, flatD, eqF, List.countP_cons, x9]
      refine wcons ?_
      simp [fnD, flatD, eqF, List.findIdx?_cons]
      refine wcons ?_
      simp [kindD, fnD, flatD, eqF, inD, List.countP_cons, List.findIdx?_cons, xatD, Fe.caught, show flds "BadOrder" = (["number"] : List Str) from by decide, List.lookup, show (("number" : Str) == "part") = false from by decide, show (("BadOrder" : Str) = "BadReport") = False from by decide, show (("BadOrder" : Str) = "BadSize") = False from by decide, show (("BadOrder" : Str) = "BadAgain") = False from by decide, show (("BadOrder" : Str) = "BadKeys") = False from by decide, show (("BadOrder" : Str) = "BadText") = False from by decide, show (("BadSize" : Str) == "BadOrder") = false from by decide, show (("BadAgain" : Str) == "BadOrder") = false from by decide, show (("BadKeys" : Str) == "BadOrder") = false from by decide]
      refine wcons ?_
      simp [kindD, fnD, flatD, eqF, inD, List.countP_cons, List.findIdx?_cons, xatD, Fe.caught, show flds "BadOrder" = (["number"] : List Str) from by decide, List.lookup, show (("number" : Str) == "part") = false from by decide, show (("BadOrder" : Str) = "BadReport") = False from by decide, show (("BadOrder" : Str) = "BadSize") = False from by decide, show (("BadOrder" : Str) = "BadAgain") = False from by decide, show (("BadOrder" : Str) = "BadKeys") = False from by decide, show (("BadOrder" : Str) = "BadText") = False from by decide, show (("BadSize" : Str) == "BadOrder") = false from by decide, show (("BadAgain" : Str) == "BadOrder") = false from by decide, show (("BadKeys" : Str) == "BadOrder") = false from by decide]
      refine wcons ?_
      simp [kindD, fnD, flatD, eqF, inD, List.countP_cons, List.findIdx?_cons, xatD, Fe.caught, show flds "BadOrder" = (["number"] : List Str) from by decide, List.lookup, show (("number" : Str) == "part") = false from by decide, show (("BadOrder" : Str) = "BadReport") = False from by decide, show (("BadOrder" : Str) = "BadSize") = False from by decide, show (("BadOrder" : Str) = "BadAgain") = False from by decide, show (("BadOrder" : Str) = "BadKeys") = False from by decide, show (("BadOrder" : Str) = "BadText") = False from by decide, show (("BadSize" : Str) == "BadOrder") = false from by decide, show (("BadAgain" : Str) == "BadOrder") = false from by decide, show (("BadKeys" : Str) == "BadOrder") = false from by decide]
  · match ds, hl with
    | [p], _ =>
      have X : xsub "BadPlan" "BadReport" = false ∧ xsub "BadPlan" "BadSize" = false ∧ xsub "BadPlan" "BadAgain" = false ∧ xsub "BadPlan" "BadKeys" = false ∧ xsub "BadPlan" "BadRows" = false ∧ xsub "BadPlan" "BadOrder" = false ∧ xsub "BadPlan" "BadPlan" = true ∧ xsub "BadPlan" "BadMoves" = false ∧ xsub "BadPlan" "BadText" = false ∧ xsub "BadPlan" "ValueError" = true := by decide
      obtain ⟨x0, x1, x2, x3, x4, x5, x6, x7, x8, x9⟩ := X
      refine wcons ?_
      simp [h__law_kind, x0, x1, x2, x3]
      refine wcons ?_
      simp [x4, x5, x6]
      refine wcons ?_
      simp [x7, x8]
      refine wcons ?_
      simp
      refine wcons ?_
      simp [fnD, flatD, eqF, List.countP_cons, x9]
      refine wcons ?_
      simp [fnD, flatD, eqF, List.findIdx?_cons]
      refine wcons ?_
      simp [kindD, fnD, flatD, eqF, inD, List.countP_cons, List.findIdx?_cons, xatD, Fe.caught, show flds "BadPlan" = (["number"] : List Str) from by decide, List.lookup, show (("number" : Str) == "part") = false from by decide, show (("BadPlan" : Str) = "BadReport") = False from by decide, show (("BadPlan" : Str) = "BadSize") = False from by decide, show (("BadPlan" : Str) = "BadAgain") = False from by decide, show (("BadPlan" : Str) = "BadKeys") = False from by decide, show (("BadPlan" : Str) = "BadText") = False from by decide, show (("BadSize" : Str) == "BadPlan") = false from by decide, show (("BadAgain" : Str) == "BadPlan") = false from by decide, show (("BadKeys" : Str) == "BadPlan") = false from by decide]
      refine wcons ?_
      simp [kindD, fnD, flatD, eqF, inD, List.countP_cons, List.findIdx?_cons, xatD, Fe.caught, show flds "BadPlan" = (["number"] : List Str) from by decide, List.lookup, show (("number" : Str) == "part") = false from by decide, show (("BadPlan" : Str) = "BadReport") = False from by decide, show (("BadPlan" : Str) = "BadSize") = False from by decide, show (("BadPlan" : Str) = "BadAgain") = False from by decide, show (("BadPlan" : Str) = "BadKeys") = False from by decide, show (("BadPlan" : Str) = "BadText") = False from by decide, show (("BadSize" : Str) == "BadPlan") = false from by decide, show (("BadAgain" : Str) == "BadPlan") = false from by decide, show (("BadKeys" : Str) == "BadPlan") = false from by decide]
      refine wcons ?_
      simp [kindD, fnD, flatD, eqF, inD, List.countP_cons, List.findIdx?_cons, xatD, Fe.caught, show flds "BadPlan" = (["number"] : List Str) from by decide, List.lookup, show (("number" : Str) == "part") = false from by decide, show (("BadPlan" : Str) = "BadReport") = False from by decide, show (("BadPlan" : Str) = "BadSize") = False from by decide, show (("BadPlan" : Str) = "BadAgain") = False from by decide, show (("BadPlan" : Str) = "BadKeys") = False from by decide, show (("BadPlan" : Str) = "BadText") = False from by decide, show (("BadSize" : Str) == "BadPlan") = false from by decide, show (("BadAgain" : Str) == "BadPlan") = false from by decide, show (("BadKeys" : Str) == "BadPlan") = false from by decide]
  · match ds, hl with
    | [p], _ =>
      have X : xsub "BadMoves" "BadReport" = false ∧ xsub "BadMoves" "BadSize" = false ∧ xsub "BadMoves" "BadAgain" = false ∧ xsub "BadMoves" "BadKeys" = false ∧ xsub "BadMoves" "BadRows" = false ∧ xsub "BadMoves" "BadOrder" = false ∧ xsub "BadMoves" "BadPlan" = false ∧ xsub "BadMoves" "BadMoves" = true ∧ xsub "BadMoves" "BadText" = false ∧ xsub "BadMoves" "ValueError" = true := by decide
      obtain ⟨x0, x1, x2, x3, x4, x5, x6, x7, x8, x9⟩ := X
      refine wcons ?_
      simp [h__law_kind, x0, x1, x2, x3]
      refine wcons ?_
      simp [x4, x5, x6]
      refine wcons ?_
      simp [x7, x8]
      refine wcons ?_
      simp
      refine wcons ?_
      simp [fnD, flatD, eqF, List.countP_cons, x9]
      refine wcons ?_
      simp [fnD, flatD, eqF, List.findIdx?_cons]
      refine wcons ?_
      simp [kindD, fnD, flatD, eqF, inD, List.countP_cons, List.findIdx?_cons, xatD, Fe.caught, show flds "BadMoves" = (["number"] : List Str) from by decide, List.lookup, show (("number" : Str) == "part") = false from by decide, show (("BadMoves" : Str) = "BadReport") = False from by decide, show (("BadMoves" : Str) = "BadSize") = False from by decide, show (("BadMoves" : Str) = "BadAgain") = False from by decide, show (("BadMoves" : Str) = "BadKeys") = False from by decide, show (("BadMoves" : Str) = "BadText") = False from by decide, show (("BadSize" : Str) == "BadMoves") = false from by decide, show (("BadAgain" : Str) == "BadMoves") = false from by decide, show (("BadKeys" : Str) == "BadMoves") = false from by decide]
      refine wcons ?_
      simp [kindD, fnD, flatD, eqF, inD, List.countP_cons, List.findIdx?_cons, xatD, Fe.caught, show flds "BadMoves" = (["number"] : List Str) from by decide, List.lookup, show (("number" : Str) == "part") = false from by decide, show (("BadMoves" : Str) = "BadReport") = False from by decide, show (("BadMoves" : Str) = "BadSize") = False from by decide, show (("BadMoves" : Str) = "BadAgain") = False from by decide, show (("BadMoves" : Str) = "BadKeys") = False from by decide, show (("BadMoves" : Str) = "BadText") = False from by decide, show (("BadSize" : Str) == "BadMoves") = false from by decide, show (("BadAgain" : Str) == "BadMoves") = false from by decide, show (("BadKeys" : Str) == "BadMoves") = false from by decide]
      refine wcons ?_
      simp [kindD, fnD, flatD, eqF, inD, List.countP_cons, List.findIdx?_cons, xatD, Fe.caught, show flds "BadMoves" = (["number"] : List Str) from by decide, List.lookup, show (("number" : Str) == "part") = false from by decide, show (("BadMoves" : Str) = "BadReport") = False from by decide, show (("BadMoves" : Str) = "BadSize") = False from by decide, show (("BadMoves" : Str) = "BadAgain") = False from by decide, show (("BadMoves" : Str) = "BadKeys") = False from by decide, show (("BadMoves" : Str) = "BadText") = False from by decide, show (("BadSize" : Str) == "BadMoves") = false from by decide, show (("BadAgain" : Str) == "BadMoves") = false from by decide, show (("BadKeys" : Str) == "BadMoves") = false from by decide]
  · match ds, hl with
    | [p], _ =>
      have X : xsub "BadText" "BadReport" = false ∧ xsub "BadText" "BadSize" = false ∧ xsub "BadText" "BadAgain" = false ∧ xsub "BadText" "BadKeys" = false ∧ xsub "BadText" "BadRows" = false ∧ xsub "BadText" "BadOrder" = false ∧ xsub "BadText" "BadPlan" = false ∧ xsub "BadText" "BadMoves" = false ∧ xsub "BadText" "BadText" = true ∧ xsub "BadText" "ValueError" = true := by decide
      obtain ⟨x0, x1, x2, x3, x4, x5, x6, x7, x8, x9⟩ := X
      refine wcons ?_
      simp [h__law_kind, x0, x1, x2, x3]
      refine wcons ?_
      simp [x4, x5, x6]
      refine wcons ?_
      simp [x7, x8]
      refine wcons ?_
      simp
      refine wcons ?_
      simp [fnD, flatD, eqF, List.countP_cons, x9]
      refine wcons ?_
      simp [fnD, flatD, eqF, List.findIdx?_cons]
      refine wcons ?_
      simp [kindD, fnD, flatD, eqF, inD, List.countP_cons, List.findIdx?_cons, xatD, Fe.caught, show flds "BadText" = (["row"] : List Str) from by decide, List.lookup, show (("number" : Str) == "part") = false from by decide, show (("BadText" : Str) = "BadReport") = False from by decide, show (("BadText" : Str) = "BadSize") = False from by decide, show (("BadText" : Str) = "BadAgain") = False from by decide, show (("BadText" : Str) = "BadKeys") = False from by decide, show (("BadSize" : Str) == "BadText") = false from by decide, show (("BadAgain" : Str) == "BadText") = false from by decide, show (("BadKeys" : Str) == "BadText") = false from by decide]
      refine wcons ?_
      simp [kindD, fnD, flatD, eqF, inD, List.countP_cons, List.findIdx?_cons, xatD, Fe.caught, show flds "BadText" = (["row"] : List Str) from by decide, List.lookup, show (("number" : Str) == "part") = false from by decide, show (("BadText" : Str) = "BadReport") = False from by decide, show (("BadText" : Str) = "BadSize") = False from by decide, show (("BadText" : Str) = "BadAgain") = False from by decide, show (("BadText" : Str) = "BadKeys") = False from by decide, show (("BadSize" : Str) == "BadText") = false from by decide, show (("BadAgain" : Str) == "BadText") = false from by decide, show (("BadKeys" : Str) == "BadText") = false from by decide]
      refine wcons ?_
      simp [kindD, fnD, flatD, eqF, inD, List.countP_cons, List.findIdx?_cons, xatD, Fe.caught, show flds "BadText" = (["row"] : List Str) from by decide, List.lookup, show (("number" : Str) == "part") = false from by decide, show (("BadText" : Str) = "BadReport") = False from by decide, show (("BadText" : Str) = "BadSize") = False from by decide, show (("BadText" : Str) = "BadAgain") = False from by decide, show (("BadText" : Str) = "BadKeys") = False from by decide, show (("BadSize" : Str) == "BadText") = false from by decide, show (("BadAgain" : Str) == "BadText") = false from by decide, show (("BadKeys" : Str) == "BadText") = false from by decide]
end
end BrK


set_option Elab.async false
set_option linter.all false
set_option maxRecDepth 100000
set_option maxHeartbeats 1000000
set_option autoImplicit false
/-! laws of refusals: what is told of a call. -/
namespace BrK
open PySem PySem.Spec PyProof.Rows L2 Br
def excNames : List Str := ["BadReport", "BadSize", "BadAgain", "BadKeys", "BadRows", "BadOrder", "BadPlan", "BadMoves", "BadText"]
section
variable {T : List (Str × Def)} {g : Str → Option D} {wf n : Nat} {m : Mem}
/-- a refusal as it must be -/
def Refuse (Q : D → Mem → Prop) : XQ := fun c ds m' => c ∈ excNames ∧ ds.length = (flds c).length ∧ Q (kindD c ds) m'
theorem exc_known : ∀ c ∈ excNames, (xcls.lookup c).isSome = true ∧ xsub c "ReportError" = true := by decide
theorem law_kind_ok (ht : Has T "_law_kind" d__law_kind) {L : Lf} {Q : D → Mem → Prop} (h : (L (callN T g wf n) [] m).W Q (Refuse Q)) {E : XQ} : (runN T g wf (n + 3) "_law_kind" L [] m).W Q E := by
  refine Res.W.lift (W_runL ht rfl (wcons ?_))
  rw [Ws_tri]
  refine wcons ?_
  simp [d__law_kind]
  refine h.monoE (fun _ _ q => q) fun c ds m' ⟨h1, h2, h3⟩ => ?_
  obtain ⟨k1, k2⟩ := exc_known c h1
  refine ⟨by simpa using k1, k2, ?_⟩
  exact (kind_caught (F := feN T g wf (n + 2) L) h1 h2).mono (fun _ _ z => z) fun d m2 ⟨e1, e2⟩ => by rw [e1, e2]; exact h3
/-- what is told in the walk of the law, where it is due -/
def dueV : Option (Str × Nat) → D
  | none => .non
  | some (c, k) => .tup [.str c, .int (k : Int)]
end
theorem compW_fmI {tg : Tg} {ρ : Sl} {m : Mem} {gd : Mem → Bool} {c e : Sl → Mem → Res D} {xs : List D} {QL : List D → Mem → Prop} (p : D → Bool) (G : D → D) (h : ∀ x ∈ xs, IsS (bindT m tg x ρ) fun ρ1 => (c ρ1 m).W (fun y m1 => y = .bl (p x) ∧ m1 = m) noE ∧ (p x = true → (e ρ1 m).W (fun y m1 => y = G x ∧ m1 = m) noE)) (q : QL ((xs.filter p).map G) m) (hg : gd m = true := by rfl) : (compL tg ρ gd c e xs m).W QL noE := by
  have := compW_fm (QL := QL) (l := xs) (Fm := id) (ρ := ρ) (m := m) (gd := gd) (c := c) (e := e) (tg := tg) p G (by simpa using h) q hg
  simpa using this
theorem W_raise {F : Fe} {c : Str} {ρ : Sl} {m : Mem} {N : Sl → Mem → Prop} {R : D → Mem → Prop} {E : XQ} {i : Nat} {v : D} (hlow : F.low.isSome = true) (hv : ρ[i]? = some (some v)) (hc : (xcls.lookup c).isSome = true) (hf : (flds c).length = 1) (q : E c [v] m) :
    (evSs F (Sms.cons (Sm.rais c (Exs.cons (Ex.var i) Exs.nil)) Sms.nil) ρ m).W N R E := by
  refine wcons ?_
  rw [Ws_rais]
  refine ⟨hlow, ?_⟩
  rw [W_cons, W_var, hv, IsS_some, IsS_some, W_nil]
  exact ⟨hc, by rw [hf]; rfl, q⟩
/-! ### the first thing that can't be -/
/-- a row's first number -/
def keyI : D → Int
  | .tup (.int i :: _) => i
  | _ => 0
def lastK (w : Int) (l : List D) : Int := l.foldl (fun _ d => keyI d) w
def fb (p : Nat → Int → D → Bool) : Nat → Int → List D → Option Nat
  | _, _, [] => none
  | k, w, d :: r => if p k w d = true then some k else fb p (k + 1) (keyI d) r
theorem lastK_snoc {w : Int} {l : List D} {d : D} : lastK w (l ++ [d]) = keyI d := by simp [lastK]
theorem fb_app {p : Nat → Int → D → Bool} : ∀ {done l : List D} {k : Nat} {w : Int}, fb p k w done = none → fb p k w (done ++ l) = fb p (k + done.length) (lastK w done) l
  | [], l, k, w, _ => rfl
  | d :: r, l, k, w, h => by
    simp only [fb] at h
    split at h
    · cases h
    · rename_i hp
      rw [List.cons_append, fb, if_neg hp, fb_app h]
      simp only [List.length_cons, lastK, List.foldl_cons]
      congr 1
      omega
/-- it is the next one -/
theorem fb_hit {p : Nat → Int → D → Bool} {done rest : List D} {d : D} (h : fb p 0 0 done = none) (hp : p done.length (lastK 0 done) d = true) : fb p 0 0 (done ++ d :: rest) = some done.length := by
  rw [fb_app h, fb, if_pos (by simpa using hp)]
  simp
theorem fb_next {p : Nat → Int → D → Bool} {done : List D} {d : D} (h : fb p 0 0 done = none) (hp : p done.length (lastK 0 done) d = false) : fb p 0 0 (done ++ [d]) = none := by
  rw [fb_app h, fb, if_neg (by simpa using hp)]
  rfl
theorem fb_pre {p : Nat → Int → D → Bool} : ∀ {done rest : List D} {k : Nat} {w : Int}, fb p k w (done ++ rest) = none → fb p k w done = none
  | [], _, _, _, _ => rfl
  | d :: r, rest, k, w, h => by
    rw [List.cons_append, fb] at h
    split at h
    · cases h
    · rename_i hp
      rw [fb, if_neg hp]
      exact fb_pre h
theorem fb_all {p : Nat → Int → D → Bool} {l : List D} (h : fb p 0 0 l = none) {j : Nat} {d : D} (hj : l[j]? = some d) : p j (lastK 0 (l.take j)) d = false := by
  have hl := (List.getElem?_eq_some_iff.mp hj).1
  have e : l = l.take j ++ d :: l.drop (j + 1) := by
    have : d = l[j] := by rw [List.getElem?_eq_getElem hl] at hj; exact (Option.some.inj hj).symm
    rw [this]
    simp
  have h1 : fb p 0 0 (l.take j) = none := by
    rw [e] at h
    exact fb_pre h
  cases hp : p j (lastK 0 (l.take j)) d with
  | false => rfl
  | true =>
    have hlen : (l.take j).length = j := by rw [List.length_take]; omega
    rw [e, fb_hit h1 (by rw [hlen]; exact hp)] at h
    cases h
end BrK


set_option Elab.async false
set_option linter.all false
set_option maxRecDepth 100000
set_option maxHeartbeats 1000000
set_option autoImplicit false
/-! laws of refusals: rows told otherwise. -/
namespace BrK
open PySem PySem.Spec PyProof.Rows L2 Br
theorem xpick {l : List D} {i : Int} (h : 0 ≤ i) (h1 : i < l.length) : ∃ (k : Nat) (hk : k < l.length), i = (k : Int) ∧ atI l i = some l[k] := by
  have : i.toNat < l.length := by omega
  exact ⟨i.toNat, this, by omega, by rw [atI_get (k := i.toNat) (by omega), List.getElem?_eq_getElem this]⟩
theorem xpickM {l : List D} {i : Int} (h : 0 ≤ i) (h1 : i < l.length) : ∃ x ∈ l, atI l i = some x := by
  obtain ⟨k, hk, _, e⟩ := xpick h h1
  exact ⟨_, List.getElem_mem hk, e⟩
theorem xcut_to {ds : List D} {k : Nat} (h : k ≤ ds.length) : Br.cutD ds none (some (k : Int)) = ds.take k := by
  unfold Br.cutD
  rw [HT.sIx_nat]
  simp [HT.sIx]
theorem xcut_from {ds : List D} {k : Nat} (h : k ≤ ds.length) : Br.cutD ds (some (k : Int)) none = ds.drop k := by
  unfold Br.cutD
  rw [HT.sIx_nat, Nat.min_eq_left h]
  simp only [HT.sIx]
  exact List.take_of_length_le (by simp)
theorem xcut_from1 {ds : List D} {k : Nat} (h : k < ds.length) : Br.cutD ds (some ((k : Int) + 1)) none = ds.drop (k + 1) := xcut_from (k := k + 1) h
theorem xcut_one {ds : List D} {i : Nat} (h : i < ds.length) : Br.cutD ds (some (i : Int)) (some ((i : Int) + 1)) = [ds[i]] := by
  unfold Br.cutD
  have e : ((i : Int) + 1) = ((i + 1 : Nat) : Int) := by omega
  rw [e, HT.sIx_nat, HT.sIx_nat]
  rw [Nat.min_eq_left (Nat.le_of_lt h), Nat.min_eq_left (by omega), Nat.add_sub_cancel_left, List.drop_eq_getElem_cons h]
  rfl
theorem xsort_len {c : List Int} : (sortI c).length = c.length := (List.mergeSort_perm c _).length_eq
theorem xded_len : ∀ {ns : List Int}, (dedI ns).length ≤ ns.length
  | [] => by simp [dedI]
  | a :: r => by
    have := xded_len (ns := r)
    unfold dedI
    split <;> simp <;> omega
/-- a row as a law may tell it -/
def rowB (b : Nat) : D → Bool
  | .tup ds => ds.all cellB && decide (ds.length ≤ 10 + b)
  | d => cellB d
structure RwsB (b : Nat) (l : List D) : Prop where
  len : l.length ≤ 70 + b
  row : ∀ r ∈ l, rowB b r = true
theorem rowB_up {b c : Nat} {d : D} (h : rowB b d = true) (hc : b ≤ c) : rowB c d = true := by
  unfold rowB at h ⊢
  split <;> simp_all
  omega
theorem RwsB.up {b c : Nat} {l : List D} (h : RwsB b l) (hc : b ≤ c) : RwsB c l := ⟨by have := h.len; omega, fun r hr => rowB_up (h.row r hr) hc⟩
theorem rowB_pure {b : Nat} {d : D} (h : rowB b d = true) : d.pure = true ∧ d.dep ≤ 2 := by
  unfold rowB at h
  split at h
  · rename_i ds
    simp at h
    have h1 : ds.all cellB = true := by rw [List.all_eq_true]; exact h.1
    obtain ⟨p, q⟩ := cells_pure h1
    exact ⟨by rw [D.pure]; exact p, by simp only [D.dep]; omega⟩
  · obtain ⟨p, q⟩ := cell_pure h
    exact ⟨p, by omega⟩
theorem rowsB_pure {b : Nat} : ∀ {l : List D}, (∀ r ∈ l, rowB b r = true) → D.pures l = true ∧ D.deps l ≤ 2
  | [], _ => ⟨rfl, by simp [D.deps]⟩
  | d :: r, h => by
    obtain ⟨p, q⟩ := rowB_pure (h d List.mem_cons_self)
    obtain ⟨p2, q2⟩ := rowsB_pure fun x hx => h x (List.mem_cons_of_mem _ hx)
    exact ⟨by simp [D.pures, p, p2], by simp only [D.deps]; omega⟩
theorem rowB_tup {b : Nat} {ds : List D} (h : rowB b (.tup ds) = true) : ds.all cellB = true ∧ ds.length ≤ 10 + b := by
  simp only [rowB, Bool.and_eq_true, decide_eq_true_eq] at h
  exact h
theorem rowB_mk {b : Nat} {ds : List D} (h : ds.all cellB = true) (hl : ds.length ≤ 10 + b) : rowB b (.tup ds) = true := by
  simp only [rowB, Bool.and_eq_true, decide_eq_true_eq]
  exact ⟨h, hl⟩
/-- one row put for another -/
theorem RwsB.put {b : Nat} {l : List D} {k : Nat} {x : D} (h : RwsB b l) (hk : k < l.length) (hx : rowB (b + 1) x = true) : RwsB (b + 1) (l.take k ++ [x] ++ l.drop (k + 1)) := by
  have hl := h.len
  refine ⟨by simp; omega, fun r hr => ?_⟩
  rcases List.mem_append.mp hr with z | z
  · rcases List.mem_append.mp z with y | y
    · exact rowB_up (h.row r (List.mem_of_mem_take y)) (by omega)
    · rw [List.mem_singleton.mp y]; exact hx
  · exact rowB_up (h.row r (List.mem_of_mem_drop z)) (by omega)
/-- one row twice -/
theorem RwsB.dup {b : Nat} {l : List D} {k : Nat} (h : RwsB b l) (hk : k < l.length) : RwsB (b + 1) (l.take (k + 1) ++ l.drop k) := by
  have hl := h.len
  refine ⟨by simp; omega, fun r hr => ?_⟩
  rcases List.mem_append.mp hr with z | z
  · exact rowB_up (h.row r (List.mem_of_mem_take z)) (by omega)
  · exact rowB_up (h.row r (List.mem_of_mem_drop z)) (by omega)
theorem cells_take {ds : List D} {k : Nat} (h : ds.all cellB = true) : (ds.take k).all cellB = true := by
  rw [List.all_eq_true] at h ⊢
  exact fun x hx => h x (List.mem_of_mem_take hx)
theorem cells_drop {ds : List D} {k : Nat} (h : ds.all cellB = true) : (ds.drop k).all cellB = true := by
  rw [List.all_eq_true] at h ⊢
  exact fun x hx => h x (List.mem_of_mem_drop hx)
theorem cells_app {ds es : List D} (h : ds.all cellB = true) (h2 : es.all cellB = true) : (ds ++ es).all cellB = true := by rw [List.all_append, h, h2]; rfl
theorem ones_pure {l : List D} : D.pures (l.map fun _ => D.int 1) = true ∧ D.deps (l.map fun _ => D.int 1) ≤ 60 := by
  induction l with
  | nil => exact ⟨rfl, by simp [D.deps]⟩
  | cons a r ih => exact ⟨by simp [D.pures, ih.1, D.pure], by simp only [List.map_cons, D.deps, D.dep]; have := ih.2; omega⟩
section
variable {m : Mem}
theorem eq_rows_nil {b : Nat} {l : List D} (h : RwsB b l) : cmpD m .eq (.lst l) (.lst []) = some l.isEmpty := by
  obtain ⟨p, q⟩ := rowsB_pure h.row
  exact eq_nilL p (by omega)
end
end BrK


set_option Elab.async false
set_option linter.all false
set_option maxRecDepth 100000
set_option maxHeartbeats 1000000
set_option autoImplicit false
/-! rows, their keys: what texts of reports and sides have in common. -/
namespace BrK
open PySem PySem.Spec PyProof.Rows L2 Br
section
variable {T : List (Str × Def)} {g : Str → Option D} {wf n : Nat} {m : Mem} {ns : List Int} {rest : Mem}
abbrev Row := List Int
def natsD (l : List Nat) : List D := l.map fun k => .int (k : Nat)
def rowD (r : Row) : D := .tup (r.map .int)
def rowsD (rs : List Row) : D := .lst (rs.map rowD)
def RowOk (n : Nat) (row : Row) : Prop := row.length = n ∧ ∀ x ∈ row, 0 ≤ x ∧ x ≤ 999
def fld (row : Row) (f : Nat) : Int := row.getD f 0
def rowAt (rows : List Row) (i : Nat) : Row := rows.getD i []
def intsT (l : List Int) : D := .tup (l.map .int)
theorem fld_at {row : Row} {f : Nat} (hl : f < row.length) : atI (row.map D.int) (f : Int) = some (.int (fld row f)) := by
  rw [atI_cast, List.getElem?_map, List.getElem?_eq_getElem hl]
  simp [fld, List.getD_eq_getElem?_getD, List.getElem?_eq_getElem hl]
theorem lt_ints {a b : List Int} : cmpD m .lt (intsT a) (intsT b) = some (HT.lexLt a b) := by
  unfold intsT
  show (match intsD (a.map .int), intsD (b.map .int) with | some x, some y => some (HT.lexLt x y) | _, _ => none) = _
  rw [Br.ints_map, Br.ints_map]
theorem rowAt_mem {rows : List Row} {i : Nat} (h : i < rows.length) : rowAt rows i ∈ rows := by
  simp [rowAt, List.getD_eq_getElem?_getD, List.getElem?_eq_getElem h]
theorem rows_idx {rows : List Row} {i : Nat} (h : i < rows.length) : idxD m (rowsD rows) (.int (i : Nat)) = some (rowD (rowAt rows i)) := by
  simp [rowsD, atI_cast, rowAt, List.getD_eq_getElem?_getD, List.getElem?_eq_getElem h]
theorem nice_ints : ∀ c : List Int, D.nices (c.map .int) = true
  | [] => rfl
  | x :: r => by simp [D.nices, D.nice, nice_ints r]
theorem dep_ints : ∀ c : List Int, D.deps (c.map .int) = 0
  | [] => by simp [D.deps]
  | x :: r => by simp [D.deps, D.dep, dep_ints r]
theorem ress_pure {g : Nat → Option D} {l : List D} (h : D.nices l = true) : D.ress g l = some l := D.ress_pures (D.nices_pures h)
theorem frz_list {m : Mem} {k p : Nat} {ds : List D} (hk : k ≤ p) (h : m[p]? = some (.lst ds)) (hn : D.nices ds = true) : frzD m k (.ref p) = some (.lst ds) := by
  unfold frzD
  simp only [D.res, frz]
  rw [if_neg (by omega), h]
  simp only [ress_pure hn, Option.map_some]
theorem eqD_frz {m : Mem} {a b a' b' : D} (h1 : frzD m 0 a = some a') (h2 : frzD m 0 b = some b') (n1 : a'.nice = true) (n2 : b'.nice = true) (d1 : a'.dep ≤ 64) (d2 : b'.dep ≤ 64) : eqD m a b = some (decide (a' = b')) := by
  unfold eqD
  rw [h1, h2]
  simp only [D.nice_pure n1, D.nice_pure n2, d1, d2, and_self, if_true, eqv_nice n1 n2]
theorem atI_nn {α : Type} {l : List α} {i : Int} (h : 0 ≤ i) : atI l i = l[i.toNat]? := by
  obtain ⟨k, rfl⟩ := Int.eq_ofNat_of_zero_le h
  rw [atI_cast]
  simp
theorem pick_mem {l : List D} {i : Int} (h : 0 ≤ i) (h1 : i < l.length) : ∃ x ∈ l, atI l i = some x := by
  have : i.toNat < l.length := by omega
  exact ⟨l[i.toNat], List.getElem_mem this, by rw [atI_nn h, List.getElem?_eq_getElem this]⟩
theorem St.app {ns : List Int} {rest m : Mem} (h : St ns rest m) (x : Mem) : St ns (rest ++ x) (m ++ x) := by
  obtain ⟨a, b, c, h0, rfl⟩ := h
  exact ⟨a, b, c, h0, rfl⟩
theorem St.len {ns : List Int} {rest m : Mem} (h : St ns rest m) : m.length = rest.length + 1 := by
  obtain ⟨a, b, c, h0, rfl⟩ := h
  rfl
theorem St.at {ns : List Int} {rest m : Mem} {o : O} (h : St ns (rest ++ [o]) m) : m[rest.length + 1]? = some o := by
  obtain ⟨a, b, c, h0, rfl⟩ := h
  simp
theorem St.put {ns : List Int} {rest m : Mem} {o : O} (h : St ns (rest ++ [o]) m) (o' : O) : St ns (rest ++ [o']) (m.set (rest.length + 1) o') := by
  obtain ⟨a, b, c, h0, rfl⟩ := h
  exact ⟨a, b, c, h0, by simp⟩
theorem St.cut {ns : List Int} {rest m x : Mem} (h : St ns (rest ++ x) m) : ∃ m0, m = m0 ++ x ∧ St ns rest m0 := by
  obtain ⟨a, b, c, h0, rfl⟩ := h
  exact ⟨O.lst [.scr ns, .int a, .int b, .int c] :: rest, rfl, a, b, c, h0, rfl⟩
theorem comp_draw {α : Type} {f : α → D} {P : α → Prop} {tg : Nat} {ρ : Sl} {e : Sl → Mem → Res D} {R : Mem} {c : Nat} {QL : List D → Mem → Prop} (hs : St ns R m)
    (step : ∀ (j : Nat) (m : Mem), St ns R m → (e (ρ.set tg (some (.int (j : Nat)))) m).W (fun d m' => ∃ a, d = f a ∧ P a ∧ St ns R m') noE)
    (q : ∀ (l : List α) (m' : Mem), l.length = c → (∀ a ∈ l, P a) → St ns R m' → QL (l.map f) m') :
    (compL (.one tg) ρ (fun _ => true) (fun ρ' m' => evC (feN T g wf n noLf) .nil ρ' m') e ((List.range c).map fun (i : Nat) => D.int (i : Int)) m).W QL noE := by
  refine compL_N (fun j vs m' => St ns R m' ∧ ∃ l : List α, vs = l.map f ∧ l.length = j ∧ ∀ a ∈ l, P a) ⟨hs, [], rfl, rfl, by simp⟩ ?_ ?_
  · rintro j hj vs m2 ⟨s2, l, rfl, hl, hp⟩
    simp at hj
    simp
    refine (step j m2 s2).mono fun d m3 ⟨a, hd, ha, s3⟩ => ⟨s3, l ++ [a], by simp [hd], by simp [hl], fun x hx => ?_⟩
    rcases List.mem_append.mp hx with z | z
    · exact hp x z
    · rw [List.mem_singleton.mp z]; exact ha
  · rintro vs m2 ⟨s2, l, rfl, hl, hp⟩
    exact q l m2 (by simpa using hl) hp s2
theorem lexK_asym : ∀ {a b : List Int}, HT.lexLt a b = true → HT.lexLt b a = false
  | [], [], h => by cases h
  | [], _ :: _, _ => rfl
  | _ :: _, [], h => by cases h
  | x :: a, y :: b, h => by
    rw [HT.lexLt_cons] at h ⊢
    by_cases e : x = y
    · rw [if_pos e] at h
      rw [if_pos e.symm]
      exact lexK_asym h
    · rw [if_neg e] at h
      rw [if_neg (fun z => e z.symm)]
      simp at h ⊢
      omega
theorem lexK_tr : ∀ {a b c : List Int}, HT.lexLt b a = false → HT.lexLt c b = false → HT.lexLt c a = false
  | [], [], c, _, h => h
  | [], _ :: _, [], _, _ => rfl
  | [], _ :: _, _ :: _, h, _ => rfl
  | _ :: _, [], _, h, _ => by cases h
  | _ :: _, _ :: _, [], _, h => by cases h
  | x :: a, y :: b, z :: c, h1, h2 => by
    rw [HT.lexLt_cons] at h1 h2 ⊢
    by_cases e1 : y = x
    · subst e1
      rw [if_pos rfl] at h1
      by_cases e2 : z = y
      · subst e2
        rw [if_pos rfl] at h2 ⊢
        exact lexK_tr h1 h2
      · rw [if_neg e2] at h2 ⊢
        exact h2
    · rw [if_neg e1] at h1
      simp at h1
      by_cases e2 : z = y
      · subst e2
        rw [if_neg e1]
        simp
        omega
      · rw [if_neg e2] at h2
        simp at h2
        have e3 : ¬ z = x := by omega
        rw [if_neg e3]
        simp
        omega
theorem keysL_map {α : Type} {l : List α} {Fm : α → D} {kf : α → List Int} {f : D → Res D} (h : ∀ x ∈ l, f (Fm x) = .ok (intsT (kf x)) m) : keysL m f (l.map Fm) = some (l.map fun x => (kf x, Fm x)) := by
  induction l with
  | nil => rfl
  | cons x r ih =>
    have i := ih fun y hy => h y (List.mem_cons_of_mem _ hy)
    simp only [List.map_cons, keysL, h x List.mem_cons_self, intsT, if_true, Br.ints_map, i]
theorem sortKL_map {α : Type} {l : List α} {Fm : α → D} {kf : α → List Int} : sortKL (l.map fun x => (kf x, Fm x)) = (l.mergeSort fun a b => !HT.lexLt (kf b) (kf a)).map Fm := by
  unfold sortKL
  rw [← List.map_mergeSort (f := fun x => (kf x, Fm x)) (r := fun a b => !HT.lexLt (kf b) (kf a)) fun _ _ _ _ => rfl, List.map_map]
  rfl
theorem foldl_max : ∀ (r : List Int) (a : Int), (r.foldl max a = a ∨ r.foldl max a ∈ r) ∧ a ≤ r.foldl max a ∧ ∀ y ∈ r, y ≤ r.foldl max a
  | [], a => ⟨.inl rfl, Int.le_refl _, by simp⟩
  | b :: r, a => by
    obtain ⟨h1, h2, h3⟩ := foldl_max r (max a b)
    simp only [List.foldl_cons]
    refine ⟨?_, by omega, fun y hy => ?_⟩
    · rcases h1 with h | h
      · rw [h]
        rcases Int.le_total a b with q | q
        · exact .inr (by rw [Int.max_eq_right q]; exact List.mem_cons_self)
        · exact .inl (Int.max_eq_left q)
      · exact .inr (List.mem_cons_of_mem _ h)
    · rcases List.mem_cons.mp hy with rfl | hy
      · omega
      · exact h3 y hy
theorem maxI_spec {c : List Int} (h : c ≠ []) : ∃ x, maxI c = some x ∧ x ∈ c ∧ ∀ y ∈ c, y ≤ x := by
  cases c with
  | nil => exact absurd rfl h
  | cons a r =>
    obtain ⟨h1, h2, h3⟩ := foldl_max r a
    refine ⟨_, rfl, ?_, fun y hy => ?_⟩
    · rcases h1 with h | h
      · rw [h]; exact List.mem_cons_self
      · exact List.mem_cons_of_mem _ h
    · rcases List.mem_cons.mp hy with rfl | hy
      · exact h2
      · exact h3 y hy
theorem lexK_tot : ∀ {a b : List Int}, a.length = b.length → HT.lexLt a b = false → HT.lexLt b a = false → a = b
  | [], [], _, _, _ => rfl
  | [], _ :: _, h, _, _ => by cases h
  | _ :: _, [], h, _, _ => by cases h
  | x :: a, y :: b, h, h1, h2 => by
    rw [HT.lexLt_cons] at h1 h2
    by_cases e : x = y
    · subst e
      rw [if_pos rfl] at h1 h2
      rw [lexK_tot (by simpa using h) h1 h2]
    · rw [if_neg e] at h1
      rw [if_neg (fun z => e z.symm)] at h2
      simp at h1 h2
      omega
theorem lexK_irr (a : List Int) : HT.lexLt a a = false := by
  cases h : HT.lexLt a a with
  | false => rfl
  | true => rw [lexK_asym h] at h; cases h
theorem lexK_lt {a b : List Int} (hl : a.length = b.length) (h : HT.lexLt b a = false) (hn : a ≠ b) : HT.lexLt a b = true := by
  cases e : HT.lexLt a b with
  | true => rfl
  | false => exact absurd (lexK_tot hl e h) hn
theorem lexK_ltr {a b c : List Int} (h1 : HT.lexLt a b = true) (h2 : HT.lexLt c b = false) : HT.lexLt a c = true := by
  cases e : HT.lexLt a c with
  | true => rfl
  | false => rw [lexK_tr h2 e] at h1; cases h1
theorem nice_rows : ∀ rows : List Row, D.nices (rows.map rowD) = true
  | [] => rfl
  | row :: r => by simp [D.nices, D.nice, rowD, nice_ints, nice_rows r]
mutual
theorem und_pure {k : Nat} : ∀ {d : D}, d.pure = true → d.und k = true
  | .non, _ => rfl
  | .bl _, _ => rfl
  | .int _, _ => rfl
  | .str _, _ => rfl
  | .tup ds, h => by
    simp only [D.pure] at h
    simp only [D.und]
    exact unds_pure h
  | .lst ds, h => by
    simp only [D.pure] at h
    simp only [D.und]
    exact unds_pure h
  | .scr _, h => by cases h
  | .ref _, h => by cases h
theorem unds_pure {k : Nat} : ∀ {ds : List D}, D.pures ds = true → D.unds k ds = true
  | [], _ => rfl
  | d :: r, h => by
    simp only [D.pures, Bool.and_eq_true] at h
    simp only [D.unds, Bool.and_eq_true]
    exact ⟨und_pure h.1, unds_pure h.2⟩
end

mutual
theorem und_le {j k : Nat} (h : j ≤ k) : ∀ {d : D}, d.und j = true → d.und k = true
  | .non, _ => rfl
  | .bl _, _ => rfl
  | .int _, _ => rfl
  | .str _, _ => rfl
  | .tup ds, e => by
    simp only [D.und] at e ⊢
    exact unds_le h e
  | .lst ds, e => by
    simp only [D.und] at e ⊢
    exact unds_le h e
  | .scr _, _ => rfl
  | .ref n, e => by
    simp only [D.und, decide_eq_true_eq] at e ⊢
    omega
theorem unds_le {j k : Nat} (h : j ≤ k) : ∀ {ds : List D}, D.unds j ds = true → D.unds k ds = true
  | [], _ => rfl
  | d :: r, e => by
    simp only [D.unds, Bool.and_eq_true] at e ⊢
    exact ⟨und_le h e.1, unds_le h e.2⟩
end
theorem undO_le {j k : Nat} (h : j ≤ k) {o : O} (e : O.und j o = true) : O.und k o = true := by
  cases o <;> simp only [O.und] at e ⊢ <;> first | exact unds_le h e | exact e
/-- all that it holds lies there, too -/
def UM (rest : Mem) : Prop := ∀ o ∈ rest, O.und (rest.length + 1) o = true
theorem UM.nil : UM [] := fun o ho => by cases ho
theorem UM.app {a b : Mem} (h : UM a) (h2 : ∀ o ∈ b, O.und (a.length + b.length + 1) o = true) : UM (a ++ b) := fun o ho => by
  rw [List.length_append]
  rcases List.mem_append.mp ho with z | z
  · exact undO_le (by omega) (h o z)
  · exact h2 o z
theorem und_nices {k : Nat} {ds : List D} (h : D.nices ds = true) : O.und k (.lst ds) = true := unds_pure (D.nices_pures h)
section
variable {T : List (Str × Def)} {g : Str → Option D} {wf n : Nat} {m : Mem} {ns : List Int} {rest : Mem}
theorem St.undU (hs : St ns rest m) (hp : UM rest) {k : Nat} (hk : rest.length + 1 ≤ k) : m.all (O.und k) = true := by
  obtain ⟨a, b, c, h0, rfl⟩ := hs
  refine List.all_eq_true.mpr fun o ho => ?_
  rcases List.mem_cons.mp ho with rfl | ho
  · simp [O.und, D.unds, D.und]
  · exact undO_le hk (hp o ho)
theorem thawU_st {m' x : Mem} {d d' : D} {Q : D → Mem → Prop} (hs : St ns rest m) (hp : UM rest) (h' : St ns (rest ++ x) m') (hf : frzD m' m.length d = some d') (q : ∀ m0, St ns rest m0 → Q d' m0) : Thaw m d m' Q := by
  obtain ⟨m0, rfl, h0⟩ := h'.cut
  have hl : m0.length = m.length := by rw [h0.len, hs.len]
  exact Thaw.mk2 hl hf (h0.undU hp (by rw [hs.len]; exact Nat.le_refl _)) (q m0 h0)
end
end
end BrK


set_option Elab.async false
set_option linter.all false
set_option maxRecDepth 100000
set_option maxHeartbeats 1000000
set_option autoImplicit false
/-! k13: keys and sides refused. -/
namespace BrK
open PySem PySem.Spec PyProof.Rows L2 Br
def b_need_keys : Sms := (Sms.cons (Sm.iff (Ex.or (Ex.not (Ex.isin (Ex.var 0) [Ty.tuple])) (Ex.not (Ex.chain Cop.le Cop.le (Ex.cst (D.int 1)) (Ex.fn Fn.len (Exs.cons (Ex.var 0) Exs.nil)) (Ex.glo "MOST_KEYS")))) (Sms.cons (Sm.rais "BadKeys" Exs.nil)
 Sms.nil) Sms.nil)
 (Sms.cons (Sm.for (Tg.one 1) Wk.seq (Exs.cons (Ex.var 0) Exs.nil) (Sms.cons (Sm.iff (Ex.or (Ex.not (Ex.isin (Ex.var 1) [Ty.tuple])) (Ex.cmp Cop.ne (Ex.fn Fn.len (Exs.cons (Ex.var 1) Exs.nil)) (Ex.cst (D.int 2)))) (Sms.cons (Sm.rais "BadKeys" Exs.nil)
 Sms.nil) Sms.nil)
 (Sms.cons (Sm.iff (Ex.cmp Cop.ne (Ex.comp [("field", 2)] (Tg.one 2) Wk.seq (Exs.cons (Ex.var 1) Exs.nil) (Exs.cons (Ex.not (Ex.call "is_number" (Exs.cons (Ex.var 2) (Exs.cons (Ex.cst (D.int 0)) (Exs.cons (Ex.bin Bop.sub (Ex.glo "MOST_FIELDS") (Ex.cst (D.int 1))) Exs.nil))))) Exs.nil) (Ex.var 2)) (Ex.lst true Exs.nil)) (Sms.cons (Sm.rais "BadKeys" Exs.nil)
 Sms.nil) Sms.nil)
 Sms.nil)))
 Sms.nil))
def d_need_keys : Def := ⟨1, 3, b_need_keys⟩
def b_need_side : Sms := (Sms.cons (Sm.for (Tg.tup [2, 3]) Wk.enum (Exs.cons (Ex.var 0) Exs.nil) (Sms.cons (Sm.iff (Ex.or (Ex.cmp Cop.eq (Ex.var 2) (Ex.glo "MOST_ROWS")) (Ex.or (Ex.not (Ex.isin (Ex.var 3) [Ty.tuple])) (Ex.not (Ex.chain Cop.lt Cop.le (Ex.fn Fn.max (Exs.cons (Ex.var 1) Exs.nil)) (Ex.fn Fn.len (Exs.cons (Ex.var 3) Exs.nil)) (Ex.glo "MOST_FIELDS"))))) (Sms.cons (Sm.rais "BadRows" (Exs.cons (Ex.var 2) Exs.nil))
 Sms.nil) Sms.nil)
 (Sms.cons (Sm.iff (Ex.cmp Cop.ne (Ex.comp [("one", 4)] (Tg.one 4) Wk.seq (Exs.cons (Ex.var 3) Exs.nil) (Exs.cons (Ex.not (Ex.call "is_number" (Exs.cons (Ex.var 4) (Exs.cons (Ex.cst (D.int 0)) (Exs.cons (Ex.glo "MOST_WORTH") Exs.nil))))) Exs.nil) (Ex.var 4)) (Ex.lst true Exs.nil)) (Sms.cons (Sm.rais "BadRows" (Exs.cons (Ex.var 2) Exs.nil))
 Sms.nil) Sms.nil)
 Sms.nil)))
 (Sms.cons (Sm.for (Tg.one 2) Wk.rng2 (Exs.cons (Ex.cst (D.int 1)) (Exs.cons (Ex.fn Fn.len (Exs.cons (Ex.var 0) Exs.nil)) Exs.nil)) (Sms.cons (Sm.iff (Ex.cmp Cop.lt (Ex.call "face" (Exs.cons (Ex.idx (Ex.var 0) (Ex.var 2)) (Exs.cons (Ex.var 1) Exs.nil))) (Ex.call "face" (Exs.cons (Ex.idx (Ex.var 0) (Ex.bin Bop.sub (Ex.var 2) (Ex.cst (D.int 1)))) (Exs.cons (Ex.var 1) Exs.nil)))) (Sms.cons (Sm.rais "BadOrder" (Exs.cons (Ex.var 2) Exs.nil))
 Sms.nil) Sms.nil)
 Sms.nil))
 Sms.nil))
def d_need_side : Def := ⟨2, 5, b_need_side⟩
def b_face : Sms := (Sms.cons (Sm.ret (Ex.fn Fn.tuple (Exs.cons (Ex.comp [("field", 2)] (Tg.one 2) Wk.seq (Exs.cons (Ex.var 1) Exs.nil) Exs.nil (Ex.idx (Ex.var 0) (Ex.var 2))) Exs.nil)))
 Sms.nil)
def d_face : Def := ⟨2, 3, b_face⟩
def b_matched : Sms := (Sms.cons (Sm.expr (Ex.call "need_keys" (Exs.cons (Ex.var 2) Exs.nil)))
 (Sms.cons (Sm.asg (Tg.one 3) (Ex.comp [("side", 11)] (Tg.one 11) Wk.rng1 (Exs.cons (Ex.cst (D.int 2)) Exs.nil) Exs.nil (Ex.comp [("pair", 12)] (Tg.one 12) Wk.seq (Exs.cons (Ex.var 2) Exs.nil) Exs.nil (Ex.idx (Ex.var 12) (Ex.var 11)))))
 (Sms.cons (Sm.expr (Ex.call "need_side" (Exs.cons (Ex.var 0) (Exs.cons (Ex.idx (Ex.var 3) (Ex.cst (D.int 0))) Exs.nil))))
 (Sms.cons (Sm.expr (Ex.call "need_side" (Exs.cons (Ex.var 1) (Exs.cons (Ex.idx (Ex.var 3) (Ex.cst (D.int 1))) Exs.nil))))
 (Sms.cons (Sm.asg (Tg.one 4) (Ex.lst false Exs.nil))
 (Sms.cons (Sm.asg (Tg.tup [5, 6]) (Ex.tup (Exs.cons (Ex.cst (D.int 0)) (Exs.cons (Ex.cst (D.int 0)) Exs.nil))))
 (Sms.cons (Sm.whil (Ex.or (Ex.cmp Cop.lt (Ex.var 5) (Ex.fn Fn.len (Exs.cons (Ex.var 0) Exs.nil))) (Ex.cmp Cop.lt (Ex.var 6) (Ex.fn Fn.len (Exs.cons (Ex.var 1) Exs.nil)))) (Sms.cons (Sm.asg (Tg.one 7) (Ex.ite (Ex.cmp Cop.lt (Ex.var 5) (Ex.fn Fn.len (Exs.cons (Ex.var 0) Exs.nil))) (Ex.lst true (Exs.cons (Ex.call "face" (Exs.cons (Ex.idx (Ex.var 0) (Ex.var 5)) (Exs.cons (Ex.idx (Ex.var 3) (Ex.cst (D.int 0))) Exs.nil))) Exs.nil)) (Ex.lst true Exs.nil)))
 (Sms.cons (Sm.asg (Tg.one 7) (Ex.bin Bop.add (Ex.var 7) (Ex.ite (Ex.cmp Cop.lt (Ex.var 6) (Ex.fn Fn.len (Exs.cons (Ex.var 1) Exs.nil))) (Ex.lst true (Exs.cons (Ex.call "face" (Exs.cons (Ex.idx (Ex.var 1) (Ex.var 6)) (Exs.cons (Ex.idx (Ex.var 3) (Ex.cst (D.int 1))) Exs.nil))) Exs.nil)) (Ex.lst true Exs.nil))))
 (Sms.cons (Sm.asg (Tg.one 8) (Ex.fn Fn.minT (Exs.cons (Ex.var 7) Exs.nil)))
 (Sms.cons (Sm.par 9 10 (Ex.lst false Exs.nil) (Ex.lst false Exs.nil))
 (Sms.cons (Sm.whil (Ex.and (Ex.cmp Cop.lt (Ex.var 5) (Ex.fn Fn.len (Exs.cons (Ex.var 0) Exs.nil))) (Ex.cmp Cop.eq (Ex.call "face" (Exs.cons (Ex.idx (Ex.var 0) (Ex.var 5)) (Exs.cons (Ex.idx (Ex.var 3) (Ex.cst (D.int 0))) Exs.nil))) (Ex.var 8))) (Sms.cons (Sm.lm Lm.append (Ex.var 9) (Exs.cons (Ex.var 5) Exs.nil))
 (Sms.cons (Sm.asg (Tg.one 5) (Ex.bin Bop.add (Ex.var 5) (Ex.cst (D.int 1))))
 Sms.nil)))
 (Sms.cons (Sm.whil (Ex.and (Ex.cmp Cop.lt (Ex.var 6) (Ex.fn Fn.len (Exs.cons (Ex.var 1) Exs.nil))) (Ex.cmp Cop.eq (Ex.call "face" (Exs.cons (Ex.idx (Ex.var 1) (Ex.var 6)) (Exs.cons (Ex.idx (Ex.var 3) (Ex.cst (D.int 1))) Exs.nil))) (Ex.var 8))) (Sms.cons (Sm.lm Lm.append (Ex.var 10) (Exs.cons (Ex.var 6) Exs.nil))
 (Sms.cons (Sm.asg (Tg.one 6) (Ex.bin Bop.add (Ex.var 6) (Ex.cst (D.int 1))))
 Sms.nil)))
 (Sms.cons (Sm.lm Lm.append (Ex.var 4) (Exs.cons (Ex.tup (Exs.cons (Ex.var 8) (Exs.cons (Ex.var 9) (Exs.cons (Ex.var 10) Exs.nil)))) Exs.nil))
 Sms.nil))))))))
 (Sms.cons (Sm.ret (Ex.var 4))
 Sms.nil))))))))
def d_matched : Def := ⟨3, 13, b_matched⟩
structure MaT (T : List (Str × Def)) (g : Str → Option D) : Prop where
  isn : Has T "is_number" d_is_number
  nke : Has T "need_keys" d_need_keys
  nsi : Has T "need_side" d_need_side
  fac : Has T "face" d_face
  mat : Has T "matched" d_matched
  gKeys : g "MOST_KEYS" = some (.int 3)
  gFields : g "MOST_FIELDS" = some (.int 5)
  gRows : g "MOST_ROWS" = some (.int 60)
  gWorth : g "MOST_WORTH" = some (.int 999)
/-! ### keys -/
def goodKp : D → Bool
  | .tup ds => decide (ds.length = 2) && ds.all (okI 0 4)
  | _ => false
def goodKs : D → Bool
  | .tup ps => decide (1 ≤ ps.length) && decide (ps.length ≤ 3) && ps.all goodKp
  | _ => false
/-- what may be handed in as keys -/
def keyB : D → Bool
  | .tup ds => ds.all cellB && decide (ds.length ≤ 1000)
  | d => cellB d
def keysB : D → Bool
  | .tup ps => ps.all keyB && decide (ps.length ≤ 1000)
  | d => cellB d
/-! ### the first of some -/
def fsI (n : Nat) (p : Nat → Bool) : Option Nat := (List.range n).find? p
theorem fsI_none {n : Nat} {p : Nat → Bool} : fsI n p = none ↔ ∀ i, i < n → p i = false := by
  unfold fsI
  rw [List.find?_eq_none]
  constructor
  · intro h i hi
    have := h i (List.mem_range.mpr hi)
    simpa using this
  · intro h i hi
    have := h i (List.mem_range.mp hi)
    simp [this]
theorem fsI_hit {n k : Nat} {p : Nat → Bool} (h : ∀ i, i < k → p i = false) (hk : k < n) (hp : p k = true) : fsI n p = some k := by
  unfold fsI
  have e : List.range n = List.range k ++ (k :: List.range' (k + 1) (n - k - 1)) := by
    have : k :: List.range' (k + 1) (n - k - 1) = List.range' k (n - k) := by
      have e1 : n - k = (n - k - 1) + 1 := by omega
      rw [e1, List.range'_succ]
      rfl
    rw [this, List.range_eq_range', List.range_eq_range']
    have := List.range'_append (s := 0) (m := k) (n := n - k) (step := 1)
    have e2 : 0 + 1 * k = k := by omega
    have e3 : k + (n - k) = n := by omega
    rw [e2, e3] at this
    exact this.symm
  rw [e, List.find?_append]
  have : (List.range k).find? p = none := fsI_none.mpr h
  rw [this, List.find?_cons_of_pos hp]
  rfl
/-! ### rows -/
def goodRw (fs : List Nat) : D → Bool
  | .tup ds => fs.all (fun f => decide (f < ds.length)) && decide (ds.length ≤ 5) && ds.all (okI 0 999)
  | _ => false
def intO : D → Int
  | .int i => i
  | _ => 0
def faceD (fs : List Nat) : D → List Int
  | .tup ds => fs.map fun f => intO (ds.getD f .non)
  | _ => []
def pR (fs : List Nat) (rows : List D) (i : Nat) : Bool := decide (i = 60) || !goodRw fs (rows.getD i .non)
def pF (fs : List Nat) (rows : List D) (i : Nat) : Bool := decide (1 ≤ i) && HT.lexLt (faceD fs (rows.getD i .non)) (faceD fs (rows.getD (i - 1) .non))
def dueS (fs : List Nat) (rows : List D) : Option (Str × Nat) := match fsI rows.length (pR fs rows) with
  | some k => some ("BadRows", k)
  | none => (fsI rows.length (pF fs rows)).map fun k => ("BadOrder", k)
theorem dueS_none {fs : List Nat} {rows : List D} : dueS fs rows = none ↔ (∀ i, i < rows.length → pR fs rows i = false) ∧ ∀ i, i < rows.length → pF fs rows i = false := by
  unfold dueS
  cases h : fsI rows.length (pR fs rows) with
  | some k =>
    constructor
    · intro z; cases z
    · rintro ⟨z, _⟩
      rw [fsI_none.mpr z] at h
      cases h
  | none =>
    simp only [Option.map_eq_none_iff, fsI_none]
    exact ⟨fun z => ⟨fsI_none.mp h, z⟩, fun z => z.2⟩
theorem row_shape {fs : List Nat} {d : D} (h : goodRw fs d = true) : ∃ r : Row, d = rowD r ∧ r.length ≤ 5 ∧ (∀ f ∈ fs, f < r.length) ∧ (∀ x ∈ r, 0 ≤ x ∧ x ≤ 999) ∧ faceD fs d = fs.map (fld r) := by
  cases d <;> first | (cases h; done) | skip
  rename_i ds
  simp only [goodRw, Bool.and_eq_true, List.all_eq_true, decide_eq_true_eq] at h
  obtain ⟨⟨h1, h2⟩, h3⟩ := h
  have : ∀ l : List D, (∀ d ∈ l, okI 0 999 d = true) → ∃ r : Row, l = r.map .int ∧ ∀ x ∈ r, 0 ≤ x ∧ x ≤ 999 := by
    intro l
    induction l with
    | nil => exact fun _ => ⟨[], rfl, by simp⟩
    | cons a l ih =>
      intro h
      obtain ⟨r, e, hr⟩ := ih fun d hd => h d (List.mem_cons_of_mem _ hd)
      have ha := h a List.mem_cons_self
      cases a <;> first | (cases ha; done) | skip
      rename_i i
      simp [okI] at ha
      refine ⟨i :: r, by rw [e]; rfl, fun x hx => ?_⟩
      rcases List.mem_cons.mp hx with rfl | z
      · exact ha
      · exact hr x z
  obtain ⟨r, rfl, hr⟩ := this ds h3
  rw [List.length_map] at h2
  refine ⟨r, rfl, h2, fun f hf => by have := h1 f hf; rwa [List.length_map] at this, hr, ?_⟩
  simp only [faceD]
  refine List.map_congr_left fun f hf => ?_
  have := h1 f hf
  rw [List.length_map] at this
  simp [fld, List.getD_eq_getElem?_getD, this, intO]
section
variable {T : List (Str × Def)} {g : Str → Option D} {wf n : Nat} {m : Mem}
theorem all_filter2 {p : D → Bool} {ds : List D} : (!(ds.filter fun d => !p d).isEmpty) = !ds.all p := by
  congr 1
  induction ds with
  | nil => rfl
  | cons a r ih =>
    by_cases h : p a = true
    · simp [h, ih]
    · simp [h]
theorem pures_filter2 {p : D → Bool} {ds : List D} (h : ds.all cellB = true) : D.pures (ds.filter p) = true ∧ D.deps (ds.filter p) ≤ 60 := by
  have : (ds.filter p).all cellB = true := by
    rw [List.all_eq_true] at h ⊢
    exact fun x hx => h x ((List.mem_filter.mp hx).1)
  obtain ⟨a, b⟩ := cells_pure this
  exact ⟨a, by omega⟩
theorem key_ty {d : D} (h : keyB d = true) : (∃ ds, d = .tup ds ∧ ds.all cellB = true ∧ ds.length ≤ 1000) ∨ ((∀ m, isTy m d .tuple = some false) ∧ goodKp d = false) := by
  cases d <;> first | exact .inr ⟨fun _ => rfl, rfl⟩ | (cases h; done) | skip
  rename_i ds
  simp only [keyB, Bool.and_eq_true, decide_eq_true_eq] at h
  exact .inl ⟨ds, rfl, h.1, h.2⟩
theorem keys_ty {d : D} (h : keysB d = true) : (∃ ps, d = .tup ps ∧ (∀ p ∈ ps, keyB p = true) ∧ ps.length ≤ 1000) ∨ ((∀ m, isTy m d .tuple = some false) ∧ goodKs d = false) := by
  cases d <;> first | exact .inr ⟨fun _ => rfl, rfl⟩ | (cases h; done) | skip
  rename_i ds
  simp only [keysB, Bool.and_eq_true, decide_eq_true_eq, List.all_eq_true] at h
  exact .inl ⟨ds, rfl, h.1, h.2⟩
theorem need_keys_all (U : MaT T g) {d : D} (h : keysB d = true) :
    (callN T g wf (n + 3) "need_keys" [d] m).W (fun _ m' => m' = m ∧ goodKs d = true) (fun c ds m' => m' = m ∧ c = "BadKeys" ∧ ds = [] ∧ goodKs d = false) := by
  have rz : ∀ (ρ : Sl) (N : Sl → Mem → Prop) (R : D → Mem → Prop), goodKs d = false → (evSs (feN T g wf (n + 2) noLf) (Sms.cons (Sm.rais "BadKeys" Exs.nil) Sms.nil) ρ m).W N R (fun c ds m' => m' = m ∧ c = "BadKeys" ∧ ds = [] ∧ goodKs d = false) := fun ρ N R hb => by
    refine wcons ?_
    rw [Ws_rais]
    refine ⟨rfl, ?_⟩
    rw [W_nil]
    exact ⟨by decide, by decide, rfl, rfl, rfl, hb⟩
  refine W_run U.nke rfl (wcons ?_)
  rcases keys_ty h with ⟨ps, rfl, hk, hl⟩ | ⟨h1, h2⟩
  · by_cases c : 1 ≤ ps.length ∧ ps.length ≤ 3
    · have c1 : (1 : Int) ≤ ps.length := by omega
      have c2 : (ps.length : Int) ≤ 3 := by omega
      simp [d_need_keys, U.gKeys, c1, c2, show ¬ (3 : Int) < ps.length by omega]
      refine wcons ?_
      simp
      refine forL_N (fun j ρ m' => m' = m ∧ (ps.take j).all goodKp = true ∧ ∃ y : Option D, ρ = [some (.tup ps), y, none]) ⟨rfl, by simp, none, rfl⟩ ?_ ?_
      · rintro j hj ρ m' ⟨rfl, hp, y, rfl⟩
        have hj' : j < ps.length := by simpa using hj
        have bad : goodKp ps[j] = false → goodKs (.tup ps) = false := fun z => by
          have : ps.all goodKp = false := by rw [List.all_eq_false]; exact ⟨ps[j], List.getElem_mem hj', by simp [z]⟩
          simp [goodKs, this]
        have htk : ps.take (j + 1) = ps.take j ++ [ps[j]] := by simp
        simp only [bind_one, IsS_some]
        refine wcons ?_
        rcases key_ty (hk _ (List.getElem_mem hj')) with ⟨ds, e, hc, hdl⟩ | ⟨h1, h2⟩
        · rw [htk, e]
          rw [e] at bad
          by_cases h2 : ds.length = 2
          · simp [h2]
            refine wcons ?_
            simp [wipeS]
            refine compW_fmI (fun d => !okI 0 4 d) id ?_ ?_
            · intro x hx
              have cx := List.all_eq_true.mp hc x hx
              simp [U.gFields, is_number_D U.isn cx]
            · obtain ⟨f1, f2⟩ := pures_filter2 (p := fun d => !okI 0 4 d) hc
              simp only [List.map_id, ne_nilL f1 f2, IsS_some, all_filter2]
              cases hg : ds.all (okI 0 4) with
              | false =>
                simp
                exact rz _ _ _ (bad (by simp [goodKp, hg]))
              | true =>
                simp
                refine ⟨?_, ?_⟩
                · simpa using hp
                · simp only [goodKp, hg, h2, decide_true, Bool.and_self]
          · simp [show ¬ (ds.length : Int) = 2 by omega]
            exact rz _ _ _ (bad (by simp [goodKp, h2]))
        · simp [h1]
          exact rz _ _ _ (bad h2)
      · rintro ρ m' ⟨rfl, hp, y, rfl⟩
        simp at hp
        simp
        simp [goodKs, c]
        exact hp
    · have hb : goodKs (.tup ps) = false := by
        simp [goodKs]
        intro a b
        exact absurd ⟨a, b⟩ c
      by_cases c1 : (1 : Int) ≤ ps.length
      · simp [d_need_keys, U.gKeys, c1, show ¬ (ps.length : Int) ≤ 3 by omega, show (3 : Int) < ps.length by omega]
        exact rz _ _ _ hb
      · simp [d_need_keys, U.gKeys, c1]
        exact rz _ _ _ hb
  · simp [d_need_keys, h1]
    exact rz _ _ _ h2
theorem face_ok (U : MaT T g) {row : Row} {fs : List Nat} (h : ∀ f ∈ fs, f < row.length) : callN T g wf (n + 1) "face" [rowD row, .lst (natsD fs)] m = .ok (intsT (fs.map (fld row))) m := by
  refine eq_of_W (W_run U.fac rfl (wcons ?_))
  simp [d_face, natsD]
  refine compW_map (fun f => .int (fld row f)) (fun f hf => ?_) ?_
  · have := h f hf
    simp [wipeS, rowD, fld_at this]
  · simp [intsT, Function.comp_def]
theorem row_ty {b : Nat} {d : D} (h : rowB b d = true) : (∃ ds, d = .tup ds ∧ ds.all cellB = true ∧ ds.length ≤ 10 + b) ∨ ((∀ m, isTy m d .tuple = some false) ∧ ∀ fs, goodRw fs d = false) := by
  cases d <;> first | exact .inr ⟨fun _ => rfl, fun _ => rfl⟩ | (cases h; done) | skip
  rename_i ds
  obtain ⟨h1, h2⟩ := rowB_tup h
  exact .inl ⟨ds, rfl, h1, h2⟩
theorem max_nats {fs : List Nat} (h : fs ≠ []) : ∃ mx : Int, intsD (natsD fs) = some (fs.map fun (k : Nat) => ((k : Nat) : Int)) ∧ maxI (fs.map fun (k : Nat) => ((k : Nat) : Int)) = some mx ∧ ∀ l : Nat, (mx < (l : Int)) ↔ fs.all (fun f => decide (f < l)) = true := by
  have emx : intsD (natsD fs) = some (fs.map fun (k : Nat) => ((k : Nat) : Int)) := by
    have e1 : natsD fs = (fs.map fun (k : Nat) => ((k : Nat) : Int)).map .int := by simp [natsD, Function.comp_def]
    rw [e1, Br.ints_map]
  obtain ⟨x, e, h1, h2⟩ := maxI_spec (c := fs.map fun (k : Nat) => ((k : Nat) : Int)) (by simpa using h)
  refine ⟨x, emx, e, fun l => ?_⟩
  rw [List.all_eq_true]
  constructor
  · intro hx f hf
    have := h2 (f : Int) (List.mem_map.mpr ⟨f, hf, rfl⟩)
    simp
    omega
  · intro hx
    obtain ⟨k, hk, rfl⟩ := List.mem_map.mp h1
    have := hx k hk
    simp at this
    omega
theorem need_side_all (U : MaT T g) {b : Nat} {rows : List D} (hr : RwsB b rows) (hb : b ≤ 900) {fs : List Nat} (hf : fs ≠ []) :
    (callN T g wf (n + 3) "need_side" [.lst rows, .lst (natsD fs)] m).W (fun _ m' => m' = m ∧ dueS fs rows = none) (fun c ds m' => m' = m ∧ ∃ k : Nat, dueS fs rows = some (c, k) ∧ ds = [.int (k : Int)]) := by
  have hlen := hr.len
  obtain ⟨mx, emx, hmx, hlt⟩ := max_nats hf
  refine W_run U.nsi rfl (wcons ?_)
  simp [d_need_side]
  refine forL_N (fun j ρ m' => m' = m ∧ (∀ i, i < j → pR fs rows i = false) ∧ ∃ y z : Option D, ρ = [some (.lst rows), some (.lst (natsD fs)), y, z, none]) ⟨rfl, fun i hi => absurd hi (by omega), none, none, rfl⟩ ?_ ?_
  · rintro j hj ρ m' ⟨rfl, hp, y, z, rfl⟩
    have hj' : j < rows.length := by simpa using hj
    have eg : rows.getD j .non = rows[j] := by simp [List.getD_eq_getElem?_getD, hj']
    have bad : pR fs rows j = true → dueS fs rows = some (("BadRows" : Str), j) := fun h => by
      simp [dueS, fsI_hit hp hj' h]
    have nxt : pR fs rows j = false → ∀ i, i < j + 1 → pR fs rows i = false := fun h i hi => by
      rcases Nat.lt_or_ge i j with q | q
      · exact hp i q
      · have : i = j := by omega
        rw [this]; exact h
    have rai : ∀ (x c : Option D) (N : Sl → Mem → Prop) (R : D → Mem → Prop), dueS fs rows = some (("BadRows" : Str), j) → (evSs (feN T g wf (n + 2) noLf) (Sms.cons (Sm.rais "BadRows" (Exs.cons (Ex.var 2) Exs.nil)) Sms.nil) [some (.lst rows), some (.lst (natsD fs)), some (.int (j : Int)), x, c] m').W N R (fun c ds m'' => m'' = m' ∧ ∃ k : Nat, dueS fs rows = some (c, k) ∧ ds = [.int (k : Int)]) := fun x c N R h => by
      exact W_raise rfl rfl (by decide) (by decide) ⟨rfl, j, h, rfl⟩
    simp
    refine wcons ?_
    rcases row_ty (hr.row _ (List.getElem_mem hj')) with ⟨ds, e, hc, hdl⟩ | ⟨h1, h2⟩
    · rw [e]
      rw [e] at eg
      have nb : ¬ (mx < (ds.length : Int) ∧ (ds.length : Int) ≤ 5) → pR fs rows j = true := fun hL => by
        have : goodRw fs (.tup ds) = false := by
          cases hq : goodRw fs (.tup ds) with
          | false => rfl
          | true =>
            simp only [goodRw, Bool.and_eq_true, decide_eq_true_eq] at hq
            exact absurd ⟨(hlt ds.length).mpr hq.1.1, by omega⟩ hL
        simp only [pR, eg, this]; simp
      simp [U.gRows, emx, hmx, U.gFields]
      refine ⟨fun h => rai _ _ _ _ (bad (by simp [pR]; omega)), fun h60 => ⟨fun h3 => ⟨fun h4 => ?_, fun h4 => rai _ _ _ _ (bad (nb (by omega)))⟩, fun h3 => rai _ _ _ _ (bad (nb (by omega)))⟩⟩
      have a1 := (hlt ds.length).mp h3
      refine wcons ?_
      simp [wipeS]
      refine compW_fmI (fun d => !okI 0 999 d) id ?_ ?_
      · intro x hx
        have cx := List.all_eq_true.mp hc x hx
        simp [U.gWorth, is_number_D U.isn cx]
      · obtain ⟨f1, f2⟩ := pures_filter2 (p := fun d => !okI 0 999 d) hc
        simp only [List.map_id, ne_nilL f1 f2, IsS_some, all_filter2]
        cases hg : ds.all (okI 0 999) with
        | false =>
          simp
          exact rai _ _ _ _ (bad (by simp only [pR, eg, goodRw, hg]; simp))
        | true =>
          simp
          refine nxt ?_
          simp only [pR, eg, goodRw, hg, a1]
          simp
          omega
    · simp [U.gRows, h1]
      have b1 : pR fs rows j = true := by simp only [pR, eg, h2]; simp
      exact rai _ _ _ _ (bad b1)
  · rintro ρ m' ⟨rfl, hp, y, z, rfl⟩
    have hp : ∀ i, i < rows.length → pR fs rows i = false := by simpa using hp
    have sh : ∀ j (h : j < rows.length), ∃ r : Row, rows[j] = rowD r ∧ (∀ f ∈ fs, f < r.length) ∧ faceD fs rows[j] = fs.map (fld r) := fun j h => by
      have := hp j h
      simp [pR, List.getD_eq_getElem?_getD, h] at this
      obtain ⟨r, e1, _, e2, _, e3⟩ := row_shape this.2
      exact ⟨r, e1, e2, e3⟩
    refine wcons ?_
    simp
    rw [walk_rng2i (by omega) (by omega) (by omega) (by omega)]
    simp only [IsS_some]
    refine forL_N (fun j ρ m'' => m'' = m' ∧ (∀ i, i < j + 1 → pF fs rows i = false) ∧ ∃ y z : Option D, ρ = [some (.lst rows), some (.lst (natsD fs)), y, z, none]) ⟨rfl, fun i hi => by simp [pF]; omega, _, _, rfl⟩ ?_ ?_
    · rintro j hj ρ m'' ⟨rfl, hq, y, z, rfl⟩
      have hj' : j + 1 < rows.length := by simp at hj; omega
      obtain ⟨r1, e1, g1, k1⟩ := sh j (by omega)
      obtain ⟨r2, e2, g2, k2⟩ := sh (j + 1) hj'
      have a1 : atI rows (1 + (j : Int)) = some (rowD r2) := by rw [atI_get (k := j + 1) (by omega), List.getElem?_eq_getElem hj', e2]
      have a2 : atI rows (1 + (j : Int) - 1) = some (rowD r1) := by rw [atI_get (k := j) (by omega), List.getElem?_eq_getElem (by omega), e1]
      have f1 := fun mm => face_ok (g := g) (wf := wf) (n := n + 1) (m := mm) U g1
      have f2 := fun mm => face_ok (g := g) (wf := wf) (n := n + 1) (m := mm) U g2
      have hpf : pF fs rows (j + 1) = HT.lexLt (fs.map (fld r2)) (fs.map (fld r1)) := by
        have d1 : rows.getD (j + 1) .non = rows[j + 1] := by simp [List.getD_eq_getElem?_getD, hj']
        have d2 : rows.getD j .non = rows[j] := by simp [List.getD_eq_getElem?_getD, show j < rows.length by omega]
        simp only [pF, Nat.add_sub_cancel, d1, d2, k1, k2]
        simp
      simp only [List.getElem_map, List.getElem_range, bind_one, IsS_some]
      refine wcons ?_
      simp [a1, a2, f1, f2, lt_ints]
      cases hx : HT.lexLt (fs.map (fld r2)) (fs.map (fld r1)) with
      | true =>
        simp
        exact W_raise rfl rfl (by decide) (by decide) ⟨rfl, j + 1, by simp [dueS, fsI_none.mpr hp, fsI_hit hq hj' (by rw [hpf]; exact hx)], by simp; omega⟩
      | false =>
        simp
        intro i hi
        rcases Nat.lt_or_ge i (j + 1) with q | q
        · exact hq i q
        · have : i = j + 1 := by omega
          rw [this, hpf]; exact hx
    · rintro ρ m'' ⟨rfl, hq, y, z, rfl⟩
      simp
      refine dueS_none.mpr ⟨hp, fun i hi => hq i ?_⟩
      simp
      omega
end
end BrK


set_option Elab.async false
set_option linter.all false
set_option maxRecDepth 100000
set_option maxHeartbeats 1000000
set_option autoImplicit false
/-! k13: what matched tells. -/
namespace BrK
open PySem PySem.Spec PyProof.Rows L2 Br
/-- the numbers of the rows that have a key -/
def idxOf (n : Nat) (f : Nat → List Int) (k : List Int) : List Nat := (List.range n).filter fun i => decide (f i = k)
def SrtN (n : Nat) (f : Nat → List Int) : Prop := ∀ i j, i ≤ j → j < n → HT.lexLt (f j) (f i) = false
theorem idx_eq {n at_ a : Nat} {f : Nat → List Int} {k : List Int} (h0 : at_ ≤ a) (h1 : a ≤ n) (p1 : ∀ i, i < at_ → f i ≠ k) (p2 : ∀ i, at_ ≤ i → i < a → f i = k) (p3 : ∀ i, a ≤ i → i < n → f i ≠ k) : idxOf n f k = List.range' at_ (a - at_) := by
  unfold idxOf
  have e : List.range n = List.range' 0 at_ ++ (List.range' at_ (a - at_) ++ List.range' a (n - a)) := by
    rw [List.range_eq_range']
    have e1 : List.range' at_ (a - at_) ++ List.range' a (n - a) = List.range' at_ (n - at_) := by
      have := List.range'_append (s := at_) (m := a - at_) (n := n - a) (step := 1)
      have e2 : at_ + 1 * (a - at_) = a := by omega
      have e3 : a - at_ + (n - a) = n - at_ := by omega
      rw [e2, e3] at this
      exact this
    rw [e1]
    have := List.range'_append (s := 0) (m := at_) (n := n - at_) (step := 1)
    have e2 : 0 + 1 * at_ = at_ := by omega
    have e3 : at_ + (n - at_) = n := by omega
    rw [e2, e3] at this
    exact this.symm
  rw [e, List.filter_append, List.filter_append]
  have f1 : (List.range' 0 at_).filter (fun i => decide (f i = k)) = [] := List.filter_eq_nil_iff.mpr fun i hi => by
    have := List.mem_range'_1.mp hi
    simp [p1 i (by omega)]
  have f2 : (List.range' at_ (a - at_)).filter (fun i => decide (f i = k)) = List.range' at_ (a - at_) := List.filter_eq_self.mpr fun i hi => by
    have := List.mem_range'_1.mp hi
    simp [p2 i (by omega) (by omega)]
  have f3 : (List.range' a (n - a)).filter (fun i => decide (f i = k)) = [] := List.filter_eq_nil_iff.mpr fun i hi => by
    have := List.mem_range'_1.mp hi
    simp [p3 i (by omega) (by omega)]
  rw [f1, f2, f3, List.nil_append, List.append_nil]
/-- the keys done: K; up to a of the one, b of the other -/
structure MtI (nA : Nat) (fA : Nat → List Int) (nB : Nat) (fB : Nat → List Int) (K : List (List Int)) (a b : Nat) : Prop where
  la : a ≤ nA
  lb : b ≤ nB
  inc : K.Pairwise fun x y => HT.lexLt x y = true
  mem : ∀ k ∈ K, (∃ i, i < nA ∧ fA i = k) ∨ ∃ i, i < nB ∧ fB i = k
  da : ∀ i, i < a → fA i ∈ K
  db : ∀ i, i < b → fB i ∈ K
  ra : ∀ k ∈ K, ∀ i, a ≤ i → i < nA → HT.lexLt k (fA i) = true
  rb : ∀ k ∈ K, ∀ i, b ≤ i → i < nB → HT.lexLt k (fB i) = true
section
variable {nA nB : Nat} {fA fB : Nat → List Int} {K : List (List Int)} {a b : Nat}
theorem MtI.start : MtI nA fA nB fB [] 0 0 := ⟨Nat.zero_le _, Nat.zero_le _, .nil, fun _ h => (nomatch h), fun _ h => by omega, fun _ h => by omega, fun _ h => (nomatch h), fun _ h => (nomatch h)⟩
theorem lexK_ne {x y : List Int} (h : HT.lexLt x y = true) : x ≠ y := fun e => by rw [e, lexK_irr] at h; cases h
theorem lexK_trt {a b c : List Int} (h1 : HT.lexLt a b = true) (h2 : HT.lexLt b c = true) : HT.lexLt a c = true := lexK_ltr h1 (lexK_asym h2)
theorem lexK_lttr {a b c : List Int} (h1 : HT.lexLt b a = false) (h2 : HT.lexLt b c = true) : HT.lexLt a c = true := by
  cases e : HT.lexLt a c with
  | true => rfl
  | false =>
    rw [lexK_tr e h1] at h2
    cases h2
theorem lexU_tot : ∀ {a b : List Int}, HT.lexLt a b = false → HT.lexLt b a = false → a = b
  | [], [], _, _ => rfl
  | [], _ :: _, h, _ => by cases h
  | _ :: _, [], _, h => by cases h
  | x :: a, y :: b, h1, h2 => by
    rw [HT.lexLt_cons] at h1 h2
    by_cases e : x = y
    · subst e
      rw [if_pos rfl] at h1 h2
      rw [lexU_tot h1 h2]
    · rw [if_neg e] at h1
      rw [if_neg (fun z => e z.symm)] at h2
      simp at h1 h2
      omega
theorem lexU_lt {a b : List Int} (h : HT.lexLt b a = false) (hn : a ≠ b) : HT.lexLt a b = true := by
  cases e : HT.lexLt a b with
  | true => rfl
  | false => exact absurd (lexU_tot e h) hn
theorem MtI.step (m : MtI nA fA nB fB K a b) (sA : SrtN nA fA) (sB : SrtN nB fB) {key : List Int} {a' b' : Nat} (h1 : ∀ i, a ≤ i → i < nA → HT.lexLt (fA i) key = false) (h2 : ∀ i, b ≤ i → i < nB → HT.lexLt (fB i) key = false)
    (hin : (a < nA ∧ fA a = key) ∨ (b < nB ∧ fB b = key)) (ha : a ≤ a') (hb : b ≤ b') (la : a' ≤ nA) (lb : b' ≤ nB) (eA : ∀ i, a ≤ i → i < a' → fA i = key) (eB : ∀ i, b ≤ i → i < b' → fB i = key)
    (xA : a' < nA → fA a' ≠ key) (xB : b' < nB → fB b' ≠ key) :
    MtI nA fA nB fB (K ++ [key]) a' b' ∧ idxOf nA fA key = List.range' a (a' - a) ∧ idxOf nB fB key = List.range' b (b' - b) := by
  have gA : ∀ i, a' ≤ i → i < nA → HT.lexLt key (fA i) = true := fun i h3 h4 => by
    have h5 := lexU_lt (h1 a' ha (by omega)) (fun e => xA (by omega) e.symm)
    exact lexK_ltr h5 (sA a' i h3 h4)
  have gB : ∀ i, b' ≤ i → i < nB → HT.lexLt key (fB i) = true := fun i h3 h4 => by
    have h5 := lexU_lt (h2 b' hb (by omega)) (fun e => xB (by omega) e.symm)
    exact lexK_ltr h5 (sB b' i h3 h4)
  have kK : ∀ k ∈ K, HT.lexLt k key = true := fun k hk => by
    rcases hin with ⟨q1, q2⟩ | ⟨q1, q2⟩
    · rw [← q2]; exact m.ra k hk a (Nat.le_refl _) q1
    · rw [← q2]; exact m.rb k hk b (Nat.le_refl _) q1
  have nK : ∀ k ∈ K, k ≠ key := fun k hk => lexK_ne (kK k hk)
  refine ⟨⟨la, lb, ?_, fun k hk => ?_, fun i hi => ?_, fun i hi => ?_, fun k hk i h3 h4 => ?_, fun k hk i h3 h4 => ?_⟩, ?_, ?_⟩
  · rw [List.pairwise_append]
    exact ⟨m.inc, List.pairwise_singleton _ _, fun x hx y hy => by rw [List.mem_singleton.mp hy]; exact kK x hx⟩
  · rcases List.mem_append.mp hk with z | z
    · exact m.mem k z
    · rw [List.mem_singleton.mp z]
      rcases hin with ⟨q1, q2⟩ | ⟨q1, q2⟩
      · exact .inl ⟨a, q1, q2⟩
      · exact .inr ⟨b, q1, q2⟩
  · by_cases q : i < a
    · exact List.mem_append_left _ (m.da i q)
    · rw [eA i (by omega) hi]; simp
  · by_cases q : i < b
    · exact List.mem_append_left _ (m.db i q)
    · rw [eB i (by omega) hi]; simp
  · rcases List.mem_append.mp hk with z | z
    · exact m.ra k z i (by omega) h4
    · rw [List.mem_singleton.mp z]; exact gA i h3 h4
  · rcases List.mem_append.mp hk with z | z
    · exact m.rb k z i (by omega) h4
    · rw [List.mem_singleton.mp z]; exact gB i h3 h4
  · exact idx_eq ha la (fun i hi => nK _ (m.da i hi)) eA fun i h3 h4 => fun e => by
      have := gA i h3 h4
      rw [e, lexK_irr] at this
      cases this
  · exact idx_eq hb lb (fun i hi => nK _ (m.db i hi)) eB fun i h3 h4 => fun e => by
      have := gB i h3 h4
      rw [e, lexK_irr] at this
      cases this
end
theorem minTs_le : ∀ (l : List (List Int)) (x : List Int), (minTs x l = x ∨ minTs x l ∈ l) ∧ HT.lexLt x (minTs x l) = false ∧ ∀ y ∈ l, HT.lexLt y (minTs x l) = false
  | [], x => ⟨.inl rfl, lexK_irr x, fun _ h => (nomatch h)⟩
  | y :: l, x => by
    have e : minTs x (y :: l) = minTs (if HT.lexLt y x = true then y else x) l := rfl
    rw [e]
    by_cases h : HT.lexLt y x = true
    · rw [if_pos h]
      obtain ⟨h1, h2, h3⟩ := minTs_le l y
      refine ⟨.inr ?_, ?_, fun z hz => ?_⟩
      · rcases h1 with q | q
        · rw [q]; exact List.mem_cons_self
        · exact List.mem_cons_of_mem _ q
      · cases q : HT.lexLt x (minTs y l) with
        | false => rfl
        | true =>
          have := lexK_trt h q
          rw [h2] at this
          cases this
      · rcases List.mem_cons.mp hz with rfl | hz
        · exact h2
        · exact h3 z hz
    · rw [if_neg h]
      have h := Bool.eq_false_iff.mpr h
      obtain ⟨h1, h2, h3⟩ := minTs_le l x
      refine ⟨?_, h2, fun z hz => ?_⟩
      · rcases h1 with q | q
        · exact .inl q
        · exact .inr (List.mem_cons_of_mem _ q)
      · rcases List.mem_cons.mp hz with rfl | hz
        · exact lexK_tr h2 h
        · exact h3 z hz
abbrev Kys := List (Nat × Nat)
def kyD (ks : Kys) : D := .tup (ks.map fun p => .tup [.int p.1, .int p.2])
structure KysOk (ks : Kys) (wA wB : Nat) : Prop where
  l1 : 1 ≤ ks.length
  l3 : ks.length ≤ 3
  lt : ∀ p ∈ ks, p.1 < wA ∧ p.2 < wB
  w5 : wA ≤ 5 ∧ wB ≤ 5
def fcOf (fs : List Nat) (row : Row) : List Int := fs.map (fld row)
def fcAt (fs : List Nat) (rows : List Row) (i : Nat) : List Int := fcOf fs (rowAt rows i)
structure SideR (rows : List Row) (fs : List Nat) : Prop where
  len : rows.length ≤ 60
  fl' : ∀ row ∈ rows, ∀ f ∈ fs, f < row.length
  srt : SrtN rows.length (fcAt fs rows)
theorem SideR.fl {rows : List Row} {fs : List Nat} (h : SideR rows fs) {i : Nat} (hi : i < rows.length) : ∀ f ∈ fs, f < (rowAt rows i).length := fun f hf => h.fl' _ (rowAt_mem hi) f hf
abbrev MtE := List Int × List Nat × List Nat
def xrefs (p : Nat) (L : List MtE) : List D := L.zipIdx.map fun q => .tup [intsT q.1.1, .ref (p + 1 + 2 * q.2), .ref (p + 2 + 2 * q.2)]
def xls (L : List MtE) : Mem := L.flatMap fun e => [O.lst (natsD e.2.1), O.lst (natsD e.2.2)]
def XM (m : Mem) (L : List MtE) : Mem := m ++ O.lst (xrefs m.length L) :: xls L
section
variable {m : Mem} {L : List MtE}
theorem xls_len : ∀ L : List MtE, (xls L).length = 2 * L.length
  | [] => rfl
  | e :: L => by
    have := xls_len L
    simp only [xls, List.flatMap_cons, List.length_append, List.length_cons, List.length_nil] at this ⊢
    omega
theorem XM_len : (XM m L).length = m.length + 1 + 2 * L.length := by simp [XM, xls_len]; omega
theorem XM_0 : (XM m L)[m.length]? = some (.lst (xrefs m.length L)) := by simp [XM]
theorem xrefs_len : (xrefs m.length L).length = L.length := by simp [xrefs]
theorem XM_new {k : List Int} {a b : List Nat} : (XM m L ++ [O.lst (natsD a), O.lst (natsD b)]).set m.length (.lst (xrefs m.length L ++ [.tup [intsT k, .ref (XM m L).length, .ref ((XM m L).length + 1)]])) = XM m (L ++ [(k, a, b)]) := by
  have e1 : xrefs m.length (L ++ [(k, a, b)]) = xrefs m.length L ++ [.tup [intsT k, .ref (XM m L).length, .ref ((XM m L).length + 1)]] := by
    unfold xrefs
    rw [List.zipIdx_append, List.map_append, XM_len]
    simp only [List.zipIdx_cons, List.zipIdx_nil, List.map_cons, List.map_nil, Nat.zero_add]
    have q1 : m.length + 1 + 2 * L.length + 1 = m.length + 2 + 2 * L.length := by omega
    rw [q1]
  unfold XM at *
  rw [e1]
  simp [xls]
end
def ent (nA : Nat) (fA : Nat → List Int) (nB : Nat) (fB : Nat → List Int) (k : List Int) : MtE := (k, idxOf nA fA k, idxOf nB fB k)
theorem intsT_inj {a b : List Int} : (intsT a = intsT b) = (a = b) := by
  simp only [intsT, D.tup.injEq, eq_iff_iff]
  constructor
  · intro h
    have := congrArg (fun l => intsD l) h
    simpa using this
  · rintro rfl; rfl
theorem eq_intsT {mm : Mem} {a b : List Int} : cmpD mm .eq (intsT a) (intsT b) = some (decide (a = b)) := by
  have p : ∀ a : List Int, (intsT a).nice = true := fun a => by simp [intsT, D.nice, nice_ints]
  have q : ∀ a : List Int, (intsT a).dep ≤ 64 := fun a => by
    have : D.deps (a.map .int) = 0 := by
      induction a with
      | nil => rfl
      | cons x r ih => simp only [List.map_cons, D.deps, D.dep, ih]; rfl
    simp only [intsT, D.dep, this]
    omega
  show eqD _ _ _ = _
  rw [eqD_frz (a' := intsT a) (b' := intsT b) (frz_pure (D.nice_pure (p a))) (frz_pure (D.nice_pure (p b))) (p a) (p b) (q a) (q b)]
  simp only [intsT_inj]
section
variable {T : List (Str × Def)} {g : Str → Option D} {wf n : Nat} {m : Mem}
def ints56 (ρ : Sl) (i : Nat) : Nat := match getS ρ i with
  | some (.int x) => x.toNat
  | _ => 0
theorem loop_side (U : MaT T g) {ρ0 : Sl} {v s mv q : Nat} {R : List Row} {fs : List Nat} {key : List Int} {S : D} (hR : SideR R fs) (hv : ∀ d, (ρ0.set v (some d))[v]? = some (some d)) (hs : ∀ d, (ρ0.set v d)[s]? = some (some (rowsD R)))
    (h3 : ∀ d, (ρ0.set v d)[3]? = some (some S)) (hS : ∀ mm, idxD mm S (.int (s : Nat)) = some (.lst (natsD fs))) (h8 : ∀ d, (ρ0.set v d)[8]? = some (some (intsT key))) (hm : ∀ d, (ρ0.set v d)[mv]? = some (some (.ref q)))
    {a : Nat} (ha : a ≤ R.length) (M : List Nat → Mem) (hM : ∀ l, (M l)[q]? = some (.lst (natsD l))) (hset : ∀ l l', (M l).set q (.lst (natsD l')) = M l') {N : Sl → Mem → Prop} {Rr : D → Mem → Prop}
    (fin : ∀ a', a ≤ a' → a' ≤ R.length → (∀ i, a ≤ i → i < a' → fcAt fs R i = key) → (a' < R.length → fcAt fs R a' ≠ key) → N (ρ0.set v (some (.int (a' : Nat)))) (M (List.range' a (a' - a)))) :
    (whileL (fun ρ' m' => evE (feN T g 1000 (n + 2) noLf) (Ex.and (Ex.cmp Cop.lt (Ex.var v) (Ex.fn Fn.len (Exs.cons (Ex.var s) Exs.nil))) (Ex.cmp Cop.eq (Ex.call "face" (Exs.cons (Ex.idx (Ex.var s) (Ex.var v)) (Exs.cons (Ex.idx (Ex.var 3) (Ex.cst (D.int (s : Nat)))) Exs.nil))) (Ex.var 8))) ρ' m')
      (fun ρ' m' => evSs (feN T g 1000 (n + 2) noLf) (Sms.cons (Sm.lm Lm.append (Ex.var mv) (Exs.cons (Ex.var v) Exs.nil)) (Sms.cons (Sm.asg (Tg.one v) (Ex.bin Bop.add (Ex.var v) (Ex.cst (D.int 1)))) Sms.nil)) ρ' m') 1000 (ρ0.set v (some (.int (a : Nat)))) (M [])).W N Rr noE := by
  have hlen := hR.len
  refine whileL_W (fun ρ m => ∃ a', a ≤ a' ∧ a' ≤ R.length ∧ (∀ i, a ≤ i → i < a' → fcAt fs R i = key) ∧ ρ = ρ0.set v (some (.int (a' : Nat))) ∧ m = M (List.range' a (a' - a))) (fun ρ _ => R.length - ints56 ρ v) ⟨a, Nat.le_refl _, ha, fun i h1 h2 => by omega, rfl, by rw [Nat.sub_self]; rfl⟩ (by omega) ?_
  rintro ρ m ⟨a', h1, h2, h4, rfl, rfl⟩
  have el : ∀ mm, lenD mm (rowsD R) = some R.length := fun mm => by simp [rowsD]
  have hi : ints56 (ρ0.set v (some (.int (a' : Nat)))) v = a' := by simp [ints56, getS, hv]
  simp [hv, hs, el]
  refine ⟨fun hlt => ?_, fun hge => ?_⟩
  · have i1 := rows_idx (m := M (List.range' a (a' - a))) (rows := R) (i := a') hlt
    have f1 := fun mm => face_ok (g := g) (wf := 1000) (n := n + 1) (m := mm) U (hR.fl (i := a') hlt)
    simp [h3, hS, i1, f1, h8, eq_intsT]
    refine ⟨fun he => ?_, fun hne => ?_⟩
    · refine wcons ?_
      have hap := lm_append (d := .int (a' : Nat)) (hM (List.range' a (a' - a))) (by simp [natsD, big]; omega)
      have er : natsD (List.range' a (a' - a)) ++ [D.int (a' : Nat)] = natsD (List.range' a (a' + 1 - a)) := by
        have e1 : a' + 1 - a = (a' - a) + 1 := by omega
        rw [e1, List.range'_concat]
        have e2 : a + 1 * (a' - a) = a' := by omega
        rw [e2]
        simp [natsD]
      rw [er, hset] at hap
      simp [hm, refL_mk (hM _), hv, hap]
      refine wcons ?_
      simp [hv]
      have e5 : ((a' : Int) + 1) = ((a' + 1 : Nat) : Int) := by omega
      rw [e5]
      refine ⟨⟨a' + 1, by omega, by omega, fun i g1 g2 => ?_, rfl, rfl⟩, ?_⟩
      · by_cases q : i < a'
        · exact h4 i g1 q
        · have : i = a' := by omega
          rw [this]; exact he
      · have hi2 : ints56 (ρ0.set v (some (.int ((a' + 1 : Nat) : Int)))) v = a' + 1 := by simp only [ints56, getS, hv]; simp
        rw [hi, hi2]
        omega
    · exact fin a' h1 h2 h4 fun _ => hne
  · exact fin a' h1 h2 h4 fun h => absurd h (by omega)
theorem nodup_len {α : Type} [DecidableEq α] : ∀ {l c : List α}, l.Nodup → (∀ x ∈ l, x ∈ c) → l.length ≤ c.length
  | [], _, _, _ => by simp
  | x :: l, c, nd, hs => by
    rw [List.nodup_cons] at nd
    have hx := hs x List.mem_cons_self
    have := nodup_len (l := l) (c := c.erase x) nd.2 fun y hy => by
      have hne : y ≠ x := fun e => nd.1 (by rw [← e]; exact hy)
      exact (List.mem_erase_of_ne hne).mpr (hs y (List.mem_cons_of_mem _ hy))
    rw [List.length_erase_of_mem hx] at this
    have := List.length_pos_of_mem hx
    simp only [List.length_cons]
    omega
theorem MtI.few {nA nB : Nat} {fA fB : Nat → List Int} {K : List (List Int)} {a b : Nat} (h : MtI nA fA nB fB K a b) : K.length ≤ nA + nB := by
  have nd : K.Nodup := h.inc.imp fun {x y} q => lexK_ne q
  have := nodup_len (c := (List.range nA).map fA ++ (List.range nB).map fB) nd fun k hk => by
    rcases h.mem k hk with ⟨i, h1, h2⟩ | ⟨i, h1, h2⟩
    · exact List.mem_append_left _ (List.mem_map.mpr ⟨i, List.mem_range.mpr h1, h2⟩)
    · exact List.mem_append_right _ (List.mem_map.mpr ⟨i, List.mem_range.mpr h1, h2⟩)
  simpa using this
theorem two_set {X : Mem} {x y z : O} : (X ++ [x, y]).set X.length z = X ++ [z, y] ∧ (X ++ [x, y]).set (X.length + 1) z = X ++ [x, z] ∧ (X ++ [x, y])[X.length]? = some x ∧ (X ++ [x, y])[X.length + 1]? = some y := by
  refine ⟨by simp, ?_, by simp, ?_⟩
  · rw [List.set_append_right _ _ (by omega)]
    have : X.length + 1 - X.length = 1 := by omega
    rw [this]
    rfl
  · rw [List.getElem?_append_right (by omega)]
    have : X.length + 1 - X.length = 1 := by omega
    rw [this]
    rfl
def sidesD (ks : Kys) : D := .lst [.lst (natsD (ks.map (·.1))), .lst (natsD (ks.map (·.2)))]
def MoI (ks : Kys) (A B : List Row) (m : Mem) (ρ : Sl) (m' : Mem) : Prop := ∃ (K : List (List Int)) (a b : Nat) (a7 a8 a9 a10 : Option D), MtI A.length (fcAt (ks.map (·.1)) A) B.length (fcAt (ks.map (·.2)) B) K a b ∧
  m' = XM m (K.map (ent A.length (fcAt (ks.map (·.1)) A) B.length (fcAt (ks.map (·.2)) B))) ∧ ρ = [some (rowsD A), some (rowsD B), some (kyD ks), some (sidesD ks), some (.ref m.length), some (.int (a : Nat)), some (.int (b : Nat)), a7, a8, a9, a10, none, none]
def b_mtail : Sms := match b_matched with
  | Sms.cons _ (Sms.cons _ (Sms.cons _ (Sms.cons _ (Sms.cons _ (Sms.cons _ (Sms.cons (Sm.whil _ (Sms.cons _ (Sms.cons _ (Sms.cons _ t)))) _)))))) => t
  | _ => .nil
theorem mtail_ok (U : MaT T g) {A B : List Row} {ks : Kys} (hA : SideR A (ks.map (·.1))) (hB : SideR B (ks.map (·.2))) {K : List (List Int)} {a b : Nat} {a7 a9 a10 : Option D} {key : List Int}
    (hM : MtI A.length (fcAt (ks.map (·.1)) A) B.length (fcAt (ks.map (·.2)) B) K a b) (h1 : ∀ i, a ≤ i → i < A.length → HT.lexLt (fcAt (ks.map (·.1)) A i) key = false) (h2 : ∀ i, b ≤ i → i < B.length → HT.lexLt (fcAt (ks.map (·.2)) B i) key = false)
    (hin : (a < A.length ∧ fcAt (ks.map (·.1)) A a = key) ∨ (b < B.length ∧ fcAt (ks.map (·.2)) B b = key)) {Rr : D → Mem → Prop} :
    (evSs (feN T g 1000 (n + 2) noLf) b_mtail [some (rowsD A), some (rowsD B), some (kyD ks), some (sidesD ks), some (.ref m.length), some (.int (a : Nat)), some (.int (b : Nat)), a7, some (intsT key), a9, a10, none, none]
      (XM m (K.map (ent A.length (fcAt (ks.map (·.1)) A) B.length (fcAt (ks.map (·.2)) B))))).W (fun ρ' m' => MoI ks A B m ρ' m' ∧ (A.length - ints56 ρ' 5) + (B.length - ints56 ρ' 6) < (A.length - a) + (B.length - b)) Rr noE := by
  have hla := hA.len
  have hlb := hB.len
  have g1 := hM.la
  have g2 := hM.lb
  generalize hL : K.map (ent A.length (fcAt (ks.map (·.1)) A) B.length (fcAt (ks.map (·.2)) B)) = L at *
  have hLl : L.length = K.length := by rw [← hL, List.length_map]
  have eb : b_mtail = (Sms.cons (Sm.par 9 10 (Ex.lst false Exs.nil) (Ex.lst false Exs.nil))
 (Sms.cons (Sm.whil (Ex.and (Ex.cmp Cop.lt (Ex.var 5) (Ex.fn Fn.len (Exs.cons (Ex.var 0) Exs.nil))) (Ex.cmp Cop.eq (Ex.call "face" (Exs.cons (Ex.idx (Ex.var 0) (Ex.var 5)) (Exs.cons (Ex.idx (Ex.var 3) (Ex.cst (D.int ((0 : Nat) : Int)))) Exs.nil))) (Ex.var 8))) (Sms.cons (Sm.lm Lm.append (Ex.var 9) (Exs.cons (Ex.var 5) Exs.nil))
 (Sms.cons (Sm.asg (Tg.one 5) (Ex.bin Bop.add (Ex.var 5) (Ex.cst (D.int 1))))
 Sms.nil)))
 (Sms.cons (Sm.whil (Ex.and (Ex.cmp Cop.lt (Ex.var 6) (Ex.fn Fn.len (Exs.cons (Ex.var 1) Exs.nil))) (Ex.cmp Cop.eq (Ex.call "face" (Exs.cons (Ex.idx (Ex.var 1) (Ex.var 6)) (Exs.cons (Ex.idx (Ex.var 3) (Ex.cst (D.int ((1 : Nat) : Int)))) Exs.nil))) (Ex.var 8))) (Sms.cons (Sm.lm Lm.append (Ex.var 10) (Exs.cons (Ex.var 6) Exs.nil))
 (Sms.cons (Sm.asg (Tg.one 6) (Ex.bin Bop.add (Ex.var 6) (Ex.cst (D.int 1))))
 Sms.nil)))
 (Sms.cons (Sm.lm Lm.append (Ex.var 4) (Exs.cons (Ex.tup (Exs.cons (Ex.var 8) (Exs.cons (Ex.var 9) (Exs.cons (Ex.var 10) Exs.nil)))) Exs.nil))
 Sms.nil)))) := rfl
  rw [eb]
  refine wcons ?_
  simp only [Ws_par, W_lstF, W_nil, List.length_nil, Nat.zero_le, true_and, List.set_cons_succ, List.set_cons_zero]
  try simp only [List.append_assoc, List.cons_append, List.nil_append, List.length_append, List.length_cons, List.length_nil, Nat.zero_add]
  refine wcons ?_
  simp only [Ws_whil]
  have hwf : ∀ k, (feN T g 1000 k noLf).wf = 1000 := fun _ => rfl
  rw [hwf]
  refine loop_side (n := n) (g := g) (ρ0 := [some (rowsD A), some (rowsD B), some (kyD ks), some (sidesD ks), some (.ref m.length), some (.int (a : Nat)), some (.int (b : Nat)), a7, some (intsT key), some (.ref (XM m L).length), some (.ref ((XM m L).length + 1)), none, none]) (v := 5) (s := 0) (mv := 9) (q := (XM m L).length) (S := sidesD ks) U hA
    (fun _ => rfl) (fun _ => rfl) (fun _ => rfl) (fun _ => by simp [sidesD]) (fun _ => rfl) (fun _ => rfl) g1 (fun l => XM m L ++ [O.lst (natsD l), O.lst []]) (fun l => (two_set (z := O.lst [])).2.2.1) (fun l l' => (two_set (z := O.lst (natsD l'))).1) fun a' c1 c2 c3 c4 => ?_
  refine wcons ?_
  simp only [Ws_whil]
  rw [hwf]
  refine loop_side (n := n) (g := g) (ρ0 := [some (rowsD A), some (rowsD B), some (kyD ks), some (sidesD ks), some (.ref m.length), some (.int (a' : Nat)), some (.int (b : Nat)), a7, some (intsT key), some (.ref (XM m L).length), some (.ref ((XM m L).length + 1)), none, none]) (v := 6) (s := 1) (mv := 10) (q := (XM m L).length + 1) (S := sidesD ks) U hB
    (fun _ => rfl) (fun _ => rfl) (fun _ => rfl) (fun _ => by simp [sidesD]) (fun _ => rfl) (fun _ => rfl) g2 (fun l => XM m L ++ [O.lst (natsD (List.range' a (a' - a))), O.lst (natsD l)]) (fun l => (two_set (z := O.lst [])).2.2.2) (fun l l' => (two_set (z := O.lst (natsD l'))).2.1) fun b' d1 d2 d3 d4 => ?_
  obtain ⟨hM2, eA, eB⟩ := hM.step hA.srt hB.srt h1 h2 hin c1 d1 c2 d2 c3 d3 c4 d4
  have hf : (XM m L ++ [O.lst (natsD (List.range' a (a' - a))), O.lst (natsD (List.range' b (b' - b)))])[m.length]? = some (.lst (xrefs m.length L)) := by
    rw [List.getElem?_append_left (by rw [XM_len]; omega)]
    exact XM_0
  have hap := lm_append (d := .tup [intsT key, .ref (XM m L).length, .ref ((XM m L).length + 1)]) hf (by
    have hKl : L.length ≤ A.length + B.length := by
      have := hM.few
      omega
    rw [xrefs_len]
    unfold big
    omega)
  rw [XM_new] at hap
  refine wcons ?_
  simp [refL_mk hf, hap]
  refine ⟨⟨K ++ [key], a', b', _, _, _, _, hM2, ?_, rfl⟩, ?_⟩
  · rw [List.map_append, hL, List.map_cons, List.map_nil, ent, eA, eB]
  · have i5 : ∀ x y : Option D, ints56 [some (rowsD A), some (rowsD B), some (kyD ks), some (sidesD ks), some (.ref m.length), some (.int (a' : Nat)), some (.int (b' : Nat)), a7, some (intsT key), x, y, none, none] 5 = a' := fun x y => by simp [ints56, getS]
    have i6 : ∀ x y : Option D, ints56 [some (rowsD A), some (rowsD B), some (kyD ks), some (sidesD ks), some (.ref m.length), some (.int (a' : Nat)), some (.int (b' : Nat)), a7, some (intsT key), x, y, none, none] 6 = b' := fun x y => by simp [ints56, getS]
    rw [i5, i6]
    rcases hin with ⟨q1, q2⟩ | ⟨q1, q2⟩
    · have : a < a' := by
        rcases Nat.lt_or_ge a a' with z | z
        · exact z
        · have : a' = a := by omega
          subst this
          exact absurd q2 (c4 q1)
      omega
    · have : b < b' := by
        rcases Nat.lt_or_ge b b' with z | z
        · exact z
        · have : b' = b := by omega
          subst this
          exact absurd q2 (d4 q1)
      omega
theorem matched_ok (U : MaT T g) {A B : List Row} {ks : Kys} (hk : 1 ≤ ks.length ∧ ks.length ≤ 3) (hwf : wf = 1000) (nk : (callN T g wf (n + 2) "need_keys" [kyD ks] m).W (fun _ m' => m' = m) noE) (n1 : (callN T g wf (n + 2) "need_side" [rowsD A, .lst (natsD (ks.map (·.1)))] m).W (fun _ m' => m' = m) noE) (n2 : (callN T g wf (n + 2) "need_side" [rowsD B, .lst (natsD (ks.map (·.2)))] m).W (fun _ m' => m' = m) noE) (hA : SideR A (ks.map (·.1))) (hB : SideR B (ks.map (·.2))) :
    (callN T g wf (n + 3) "matched" [rowsD A, rowsD B, kyD ks] m).W (fun d m' => d = .ref m.length ∧ ∃ K, MtI A.length (fcAt (ks.map (·.1)) A) B.length (fcAt (ks.map (·.2)) B) K A.length B.length ∧
      m' = XM m (K.map (ent A.length (fcAt (ks.map (·.1)) A) B.length (fcAt (ks.map (·.2)) B)))) noE := by
  subst hwf
  refine W_run U.mat rfl (wcons ?_)
  simp [d_matched]
  refine (Res.W.lift nk).mono ?_
  intro _ m1 em
  have em := em.symm
  subst em
  refine wcons ?_
  simp
  have hkd : ∀ mm, walkD mm .rng1 [.int 2] = some ((List.range 2).map fun (i : Nat) => D.int (i : Int)) := fun mm => rfl
  simp [hkd]
  refine compW_map (l := List.range 2) (Fm := fun (i : Nat) => D.int (i : Int)) (fun i => D.lst (natsD (ks.map fun p => if i = 0 then p.1 else p.2))) (fun i hi => ?_) ?_
  · have : i = 0 ∨ i = 1 := by have := List.mem_range.mp hi; omega
    simp [wipeS, kyD]
    refine compW_map (fun p => D.int ((if i = 0 then p.1 else p.2 : Nat) : Int)) (fun p hp => ?_) ?_
    · rcases this with rfl | rfl <;> simp [wipeS]
    · simp [natsD, Function.comp_def]
  · have e1 : ((List.range 2).map fun i => D.lst (natsD (ks.map fun p => if i = 0 then p.1 else p.2))) = [.lst (natsD (ks.map (·.1))), .lst (natsD (ks.map (·.2)))] := by
      simp [List.range_succ]
    rw [e1]
    refine wcons ?_
    simp
    refine (Res.W.lift n1).mono ?_
    intro _ m1 em
    have em := em.symm
    subst em
    refine wcons ?_
    simp
    refine (Res.W.lift n2).mono ?_
    intro _ m1 em
    have em := em.symm
    subst em
    refine wcons ?_
    simp
    refine wcons ?_
    simp
    refine wcons ?_
    have hla := hA.len
    have hlb := hB.len
    have hwf : ∀ k, (feN T g 1000 k noLf).wf = 1000 := fun _ => rfl
    simp only [Ws_whil, hwf]
    refine whileL_W (fun ρ m' => MoI ks A B m ρ m') (fun ρ _ => (A.length - ints56 ρ 5) + (B.length - ints56 ρ 6)) ⟨[], 0, 0, none, none, none, none, MtI.start, by simp [XM, xrefs, xls], rfl⟩ (by simp [ints56, getS]; omega) ?_
    rintro ρ m' ⟨K, a, b, a7, a8, a9, a10, hM, rfl, rfl⟩
    have lA : ∀ mm, lenD mm (rowsD A) = some A.length := fun mm => by simp [rowsD]
    have lB : ∀ mm, lenD mm (rowsD B) = some B.length := fun mm => by simp [rowsD]
    have h0 : ∀ mm, idxD mm (sidesD ks) (.int 0) = some (.lst (natsD (ks.map (·.1)))) := fun mm => by simp [sidesD]
    have h1 : ∀ mm, idxD mm (sidesD ks) (.int 1) = some (.lst (natsD (ks.map (·.2)))) := fun mm => by simp [sidesD, atI_cast]
    have iA : ∀ mm, a < A.length → idxD mm (rowsD A) (.int (a : Nat)) = some (rowD (rowAt A a)) := fun mm h => rows_idx h
    have iB : ∀ mm, b < B.length → idxD mm (rowsD B) (.int (b : Nat)) = some (rowD (rowAt B b)) := fun mm h => rows_idx h
    have fA : ∀ mm, a < A.length → callN T g 1000 (n + 2) "face" [rowD (rowAt A a), .lst (natsD (ks.map (·.1)))] mm = .ok (intsT (fcAt (ks.map (·.1)) A a)) mm := fun mm h => face_ok (g := g) (wf := 1000) (n := n + 1) (m := mm) U (hA.fl h)
    have fB : ∀ mm, b < B.length → callN T g 1000 (n + 2) "face" [rowD (rowAt B b), .lst (natsD (ks.map (·.2)))] mm = .ok (intsT (fcAt (ks.map (·.2)) B b)) mm := fun mm h => face_ok (g := g) (wf := 1000) (n := n + 1) (m := mm) U (hB.fl h)
    have i5 : ints56 [some (rowsD A), some (rowsD B), some (kyD ks), some (sidesD ks), some (.ref m.length), some (.int (a : Nat)), some (.int (b : Nat)), a7, a8, a9, a10, none, none] 5 = a := by simp [ints56, getS]
    have i6 : ints56 [some (rowsD A), some (rowsD B), some (kyD ks), some (sidesD ks), some (.ref m.length), some (.int (a : Nat)), some (.int (b : Nat)), a7, a8, a9, a10, none, none] 6 = b := by simp [ints56, getS]
    rw [i5, i6]
    have fl1 : ∀ (R : List Row) (fs : List Nat) (i : Nat), (fcAt fs R i).length = fs.length := fun R fs i => by simp [fcAt, fcOf]
    have kl3 := hk.2
    have sA := hA.srt
    have sB := hB.srt
    have tl := fun (a7 : Option D) (key : List Int) => mtail_ok (n := n) (g := g) (m := m) U hA hB (a7 := a7) (a9 := a9) (a10 := a10) (key := key) hM (Rr := fun d m' => d = .ref m.length ∧ ∃ K, MtI A.length (fcAt (ks.map (·.1)) A) B.length (fcAt (ks.map (·.2)) B) K A.length B.length ∧
      m' = XM m (K.map (ent A.length (fcAt (ks.map (·.1)) A) B.length (fcAt (ks.map (·.2)) B))))
    simp only [b_mtail, b_matched] at tl
    generalize hX : XM m (K.map (ent A.length (fcAt (ks.map (·.1)) A) B.length (fcAt (ks.map (·.2)) B))) = X at *
    have tk : ∀ x : List Int, tupsD [intsT x] = some [x] := fun x => by simp [tupsD, intsT]
    have tk2 : ∀ x y : List Int, tupsD [intsT x, intsT y] = some [x, y] := fun x y => by simp [tupsD, intsT]
    have gA : ∀ i, a ≤ i → i < A.length → HT.lexLt (fcAt (ks.map (·.1)) A i) (fcAt (ks.map (·.1)) A a) = false := fun i q1 q2 => sA a i q1 q2
    have gB : ∀ i, b ≤ i → i < B.length → HT.lexLt (fcAt (ks.map (·.2)) B i) (fcAt (ks.map (·.2)) B b) = false := fun i q1 q2 => sB b i q1 q2
    by_cases ca : a < A.length
    · by_cases cb : b < B.length
      · simp [lA, lB, ca, cb]
        refine wcons ?_
        simp [lA, ca, iA, h0, fA]
        refine wcons ?_
        simp [lB, cb, iB, h1, fB]
        refine wcons ?_
        simp only [Ws_asg, W_fn, W_cons, W_nil, W_var, List.getElem?_cons_succ, List.getElem?_cons_zero, IsS_some]
        refine fn_minT (x := fcAt (ks.map (·.1)) A a) (r := [fcAt (ks.map (·.2)) B b]) (by rw [lst_lst, Option.bind_some, tk2]) (by simp) (fun t ht => ?_) ?_
        · simp only [List.mem_cons, List.not_mem_nil, or_false] at ht
          rcases ht with rfl | rfl <;> (rw [fl1, List.length_map]; omega)
        · obtain ⟨q1, q2, q3⟩ := minTs_le [fcAt (ks.map (·.2)) B b] (fcAt (ks.map (·.1)) A a)
          generalize minTs (fcAt (ks.map (·.1)) A a) [fcAt (ks.map (·.2)) B b] = key at *
          simp only [bind_one, IsS_some]
          have := tl (some (.lst [intsT (fcAt (ks.map (·.1)) A a), intsT (fcAt (ks.map (·.2)) B b)])) key (fun i e1 e2 => lexK_tr q2 (gA i e1 e2)) (fun i e1 e2 => lexK_tr (q3 _ (by simp)) (gB i e1 e2)) (by
            rcases q1 with q1 | q1
            · exact .inl ⟨ca, q1.symm⟩
            · exact .inr ⟨cb, (List.mem_singleton.mp q1).symm⟩)
          exact this
      · simp [lA, lB, ca, cb]
        refine wcons ?_
        simp [lA, ca, iA, h0, fA]
        refine wcons ?_
        simp [lB, cb]
        refine wcons ?_
        simp only [Ws_asg, W_fn, W_cons, W_nil, W_var, List.getElem?_cons_succ, List.getElem?_cons_zero, IsS_some]
        refine fn_minT (x := fcAt (ks.map (·.1)) A a) (r := []) (by rw [lst_lst, Option.bind_some, tk]) (by simp) (fun t ht => ?_) ?_
        · simp only [List.mem_cons, List.not_mem_nil, or_false] at ht
          rcases ht with rfl <;> (rw [fl1, List.length_map]; omega)
        · simp only [bind_one, IsS_some]
          have := tl (some (.lst [intsT (fcAt (ks.map (·.1)) A a)])) (fcAt (ks.map (·.1)) A a) gA (fun i e1 e2 => absurd e1 (by omega)) (.inl ⟨ca, rfl⟩)
          exact this
    · by_cases cb : b < B.length
      · simp [lA, lB, ca, cb]
        refine wcons ?_
        simp [lA, ca]
        refine wcons ?_
        simp [lB, cb, iB, h1, fB]
        refine wcons ?_
        simp only [Ws_asg, W_fn, W_cons, W_nil, W_var, List.getElem?_cons_succ, List.getElem?_cons_zero, IsS_some]
        refine fn_minT (x := fcAt (ks.map (·.2)) B b) (r := []) (by rw [lst_lst, Option.bind_some, tk]) (by simp) (fun t ht => ?_) ?_
        · simp only [List.mem_cons, List.not_mem_nil, or_false] at ht
          rcases ht with rfl <;> (rw [fl1, List.length_map]; omega)
        · simp only [bind_one, IsS_some]
          have := tl (some (.lst [intsT (fcAt (ks.map (·.2)) B b)])) (fcAt (ks.map (·.2)) B b) (fun i e1 e2 => absurd e1 (by omega)) gB (.inr ⟨cb, rfl⟩)
          exact this
      · have g1 := hM.la
        have g2 := hM.lb
        have ea : a = A.length := by omega
        have eb : b = B.length := by omega
        subst ea eb
        simp [lA, lB]
        refine wcons ?_
        simp
        exact ⟨K, hM, hX.symm⟩
end
end BrK


set_option Elab.async false
set_option linter.all false
set_option maxRecDepth 100000
set_option maxHeartbeats 1000000
set_option autoImplicit false
/-! k13: matched refuses or tells. -/
namespace BrK
open PySem PySem.Spec PyProof.Rows L2 Br
def dueK (ks : Kys) (A B : List D) : Option (Str × Nat) := match dueS (ks.map (·.1)) A with
  | some q => some q
  | none => dueS (ks.map (·.2)) B
theorem faceD_row {fs : List Nat} {r : Row} (h : ∀ f ∈ fs, f < r.length) : faceD fs (rowD r) = fcOf fs r := by
  simp only [faceD, rowD, fcOf]
  refine List.map_congr_left fun f hf => ?_
  have := h f hf
  simp [fld, List.getD_eq_getElem?_getD, this, intO]
theorem rows_of {fs : List Nat} : ∀ {rows : List D}, (∀ d ∈ rows, goodRw fs d = true) → ∃ R : List Row, rows = R.map rowD ∧ ∀ r ∈ R, ∀ f ∈ fs, f < r.length
  | [], _ => ⟨[], rfl, by simp⟩
  | d :: l, h => by
    obtain ⟨r, e, _, h2, _⟩ := row_shape (h d List.mem_cons_self)
    obtain ⟨R, e2, hR⟩ := rows_of fun x hx => h x (List.mem_cons_of_mem _ hx)
    refine ⟨r :: R, by rw [e, e2]; rfl, fun x hx => ?_⟩
    rcases List.mem_cons.mp hx with rfl | z
    · exact h2
    · exact hR x z
theorem side_of {fs : List Nat} {rows : List D} (h : dueS fs rows = none) : ∃ R : List Row, rows = R.map rowD ∧ SideR R fs := by
  obtain ⟨h1, h2⟩ := dueS_none.mp h
  have gd : ∀ (j : Nat) (hj : j < rows.length), goodRw fs rows[j] = true ∧ j ≠ 60 := fun j hj => by
    have := h1 j hj
    simp [pR, List.getD_eq_getElem?_getD, hj] at this
    exact ⟨this.2, this.1⟩
  obtain ⟨R, rfl, hR⟩ := rows_of (fs := fs) (rows := rows) fun d hd => by
    obtain ⟨j, hj, rfl⟩ := List.mem_iff_getElem.mp hd
    exact (gd j hj).1
  rw [List.length_map] at h2
  refine ⟨R, rfl, ?_, hR, ?_⟩
  · by_cases hl : R.length ≤ 60
    · exact hl
    · exact absurd rfl (gd 60 (by rw [List.length_map]; omega)).2
  · have ra : ∀ j (hj : j < R.length), rowAt R j = R[j] := fun j hj => by simp [rowAt, List.getD_eq_getElem?_getD, hj]
    have st : ∀ j, j + 1 < R.length → HT.lexLt (fcAt fs R (j + 1)) (fcAt fs R j) = false := fun j hj => by
      have := h2 (j + 1) hj
      have d1 : (R.map rowD).getD (j + 1) .non = rowD R[j + 1] := by simp [List.getD_eq_getElem?_getD, hj]
      have d2 : (R.map rowD).getD j .non = rowD R[j] := by simp [List.getD_eq_getElem?_getD, show j < R.length by omega]
      simp only [pF, Nat.add_sub_cancel, d1, d2, faceD_row (hR _ (List.getElem_mem hj)), faceD_row (hR _ (List.getElem_mem (show j < R.length by omega)))] at this
      simp only [fcAt, ra _ hj, ra j (by omega)]
      simpa using this
    intro i j hij hj
    obtain ⟨k, rfl⟩ : ∃ k, j = i + k := ⟨j - i, by omega⟩
    induction k with
    | zero => exact lexK_irr _
    | succ k ih => exact lexK_tr (ih (by omega) (by omega)) (st (i + k) (by omega))
theorem XM_cut {m : Mem} {L : List MtE} : XM m L = m ++ (O.lst (xrefs m.length L) :: xls L) := rfl
theorem unds_all (k : Nat) : ∀ (l : List D), (∀ d ∈ l, D.und k d = true) → D.unds k l = true
  | [], _ => rfl
  | a :: b, h => by simp only [D.unds, Bool.and_eq_true]; exact ⟨h a List.mem_cons_self, unds_all k b fun x hx => h x (List.mem_cons_of_mem _ hx)⟩
theorem nice_natsD (l : List Nat) : D.nices (natsD l) = true := by
  have := nice_ints (l.map fun k : Nat => (k : Int))
  rw [List.map_map] at this
  exact this
theorem UM.told {rest : Mem} {p : Nat} (h : UM rest) (hp : p = rest.length + 1) (L : List MtE) : UM (rest ++ (O.lst (xrefs p L) :: xls L)) := by
  refine h.app fun o ho => ?_
  rw [List.length_cons, xls_len]
  rcases List.mem_cons.mp ho with rfl | ho
  · simp only [O.und]
    refine unds_all _ _ fun d hd => ?_
    obtain ⟨q, hq, rfl⟩ := List.mem_map.mp hd
    have hlt : q.2 < L.length := by
      have := List.mem_zipIdx hq
      omega
    have hu : ∀ k, D.und k (intsT q.1.1) = true := fun k => by
      have h1 := und_nices (k := k) (nice_ints q.1.1)
      simpa only [O.und, intsT, D.und] using h1
    simp only [D.und, D.unds, hu, Bool.true_and, Bool.and_true, Bool.and_eq_true, decide_eq_true_eq]
    omega
  · obtain ⟨e, _, he⟩ := List.mem_flatMap.mp ho
    simp only [List.mem_cons, List.not_mem_nil, or_false] at he
    rcases he with rfl | rfl <;> exact und_nices (nice_natsD _)
section
variable {T : List (Str × Def)} {g : Str → Option D} {wf n : Nat} {m : Mem}
theorem keys_good {ks : Kys} (hk : 1 ≤ ks.length ∧ ks.length ≤ 3) (h5 : ∀ p ∈ ks, p.1 ≤ 4 ∧ p.2 ≤ 4) : goodKs (kyD ks) = true ∧ keysB (kyD ks) = true := by
  constructor
  · simp only [goodKs, kyD, List.length_map, hk, decide_true, Bool.true_and, List.all_map, List.all_eq_true]
    intro p hp
    have := h5 p hp
    simp [goodKp, okI]
    omega
  · simp only [keysB, kyD, List.length_map, List.all_map, Bool.and_eq_true, List.all_eq_true, decide_eq_true_eq]
    refine ⟨fun p hp => ?_, by omega⟩
    simp [keyB, cellB]
theorem matched_bad (U : MaT T g) {A B d : D} (hd : keysB d = true) (hg : goodKs d = false) : (callN T g wf (n + 4) "matched" [A, B, d] m).W (fun _ _ => False) (fun c ds m' => m' = m ∧ c = "BadKeys" ∧ ds = []) := by
  refine W_run U.mat rfl (wcons ?_)
  simp [d_matched]
  refine (need_keys_all U hd).monoE (fun d m' z => ?_) fun c ds m' z => ⟨z.1, z.2.1, z.2.2.1⟩
  rw [hg] at z
  exact absurd z.2 (by simp)
theorem sides_ok {ks : Kys} : D.pures (ks.map fun p => D.int (p.1 : Nat)) = true := by
  induction ks with
  | nil => rfl
  | cons a r ih => simp [D.pures, D.pure, ih]
theorem matched_all (U : MaT T g) {b : Nat} {A B : List D} (ha : RwsB b A) (hb : RwsB b B) (hb9 : b ≤ 900) {ks : Kys} (hk : 1 ≤ ks.length ∧ ks.length ≤ 3) (h5 : ∀ p ∈ ks, p.1 ≤ 4 ∧ p.2 ≤ 4) (hwf : wf = 1000) :
    (callN T g wf (n + 4) "matched" [.lst A, .lst B, kyD ks] m).W (fun d m' => dueK ks A B = none ∧ ∃ L : List MtE, d = .ref m.length ∧ m' = XM m L) (fun c ds m' => m' = m ∧ ∃ k : Nat, dueK ks A B = some (c, k) ∧ ds = [.int (k : Int)]) := by
  obtain ⟨g1, g2⟩ := keys_good hk h5
  have ne1 : ks.map (·.1) ≠ [] := by intro z; have := congrArg List.length z; rw [List.length_map, List.length_nil] at this; omega
  have ne2 : ks.map (·.2) ≠ [] := by intro z; have := congrArg List.length z; rw [List.length_map, List.length_nil] at this; omega
  have nk : (callN T g wf (n + 3) "need_keys" [kyD ks] m).W (fun _ m' => m' = m) noE := (need_keys_all U g2).monoE (fun _ _ z => z.1) fun c ds m' z => by rw [g1] at z; exact absurd z.2.2.2 (by simp)
  have w1 := need_side_all (wf := wf) (n := n) (m := m) U ha hb9 ne1
  have w2 := need_side_all (wf := wf) (n := n) (m := m) U hb hb9 ne2
  cases hd : dueK ks A B with
  | some q =>
    refine W_run U.mat rfl (wcons ?_)
    simp [d_matched]
    refine (Res.W.lift nk).mono ?_
    intro _ m1 em
    have em := em.symm
    subst em
    refine wcons ?_
    have hkd : ∀ mm, walkD mm .rng1 [.int 2] = some ((List.range 2).map fun (i : Nat) => D.int (i : Int)) := fun mm => rfl
    simp [hkd]
    refine compW_map (l := List.range 2) (Fm := fun (i : Nat) => D.int (i : Int)) (fun i => D.lst (natsD (ks.map fun p => if i = 0 then p.1 else p.2))) (fun i hi => ?_) ?_
    · have : i = 0 ∨ i = 1 := by have := List.mem_range.mp hi; omega
      simp [wipeS, kyD]
      refine compW_map (fun p => D.int ((if i = 0 then p.1 else p.2 : Nat) : Int)) (fun p hp => ?_) ?_
      · rcases this with rfl | rfl <;> simp [wipeS]
      · simp [natsD, Function.comp_def]
    · have e1 : ((List.range 2).map fun i => D.lst (natsD (ks.map fun p => if i = 0 then p.1 else p.2))) = [.lst (natsD (ks.map (·.1))), .lst (natsD (ks.map (·.2)))] := by
        simp [List.range_succ]
      rw [e1]
      refine wcons ?_
      simp
      refine w1.monoE (fun d m' ⟨e, h⟩ => ?_) (fun c ds m' ⟨e, k, h1, h2⟩ => ⟨e, k, by have z := hd; simp only [dueK, h1] at z; exact (Option.some.inj z).symm, h2⟩)
      subst e
      refine wcons ?_
      simp
      refine w2.monoE (fun d m' ⟨e, h'⟩ => ?_) (fun c ds m' ⟨e, k, h1, h2⟩ => ⟨e, k, by have z := hd; simp only [dueK, h, h1] at z; exact (Option.some.inj z).symm, h2⟩)
      simp [dueK, h, h'] at hd
  | none =>
    have hA : dueS (ks.map (·.1)) A = none := by
      unfold dueK at hd
      split at hd
      · cases hd
      · assumption
    have hB : dueS (ks.map (·.2)) B = none := by simpa [dueK, hA] using hd
    obtain ⟨R1, rfl, o1⟩ := side_of hA
    obtain ⟨R2, rfl, o2⟩ := side_of hB
    have n1 : (callN T g wf (n + 3) "need_side" [rowsD R1, .lst (natsD (ks.map (·.1)))] m).W (fun _ m' => m' = m) noE := w1.monoE (fun _ _ z => z.1) fun c ds m' ⟨_, k, z, _⟩ => by rw [hA] at z; cases z
    have n2 : (callN T g wf (n + 3) "need_side" [rowsD R2, .lst (natsD (ks.map (·.2)))] m).W (fun _ m' => m' = m) noE := w2.monoE (fun _ _ z => z.1) fun c ds m' ⟨_, k, z, _⟩ => by rw [hB] at z; cases z
    exact Res.W.lift ((matched_ok (n := n + 1) U hk hwf nk n1 n2 o1 o2).mono fun d m' ⟨z1, K, _, z2⟩ => ⟨rfl, _, z1, z2⟩)
end
end BrK


set_option Elab.async false
set_option linter.all false
set_option maxRecDepth 100000
set_option maxHeartbeats 1000000
set_option autoImplicit false
/-! k13: what the law draws. -/
namespace BrK
open PySem PySem.Spec PyProof.Rows L2 Br
def b__law_side : Sms := (Sms.cons (Sm.asg (Tg.one 3) (Ex.bin Bop.add (Ex.cst (D.int 1)) (Ex.call "_law_drawn" (Exs.cons (Ex.var 0) (Exs.cons (Ex.cst (D.int 5)) Exs.nil)))))
 (Sms.cons (Sm.asg (Tg.one 4) (Ex.lst false Exs.nil))
 (Sms.cons (Sm.for (Tg.one 5) Wk.rng1 (Exs.cons (Ex.call "_law_drawn" (Exs.cons (Ex.var 0) (Exs.cons (Ex.bin Bop.add (Ex.var 2) (Ex.cst (D.int 1))) Exs.nil))) Exs.nil) (Sms.cons (Sm.lm Lm.append (Ex.var 4) (Exs.cons (Ex.fn Fn.tuple (Exs.cons (Ex.comp [("_law_at", 6)] (Tg.one 6) Wk.rng1 (Exs.cons (Ex.var 3) Exs.nil) Exs.nil (Ex.call "_law_drawn" (Exs.cons (Ex.var 0) (Exs.cons (Ex.idx (Ex.lst true (Exs.cons (Ex.var 1) (Exs.cons (Ex.var 1) (Exs.cons (Ex.cst (D.int 1000)) Exs.nil)))) (Ex.call "_law_drawn" (Exs.cons (Ex.var 0) (Exs.cons (Ex.cst (D.int 3)) Exs.nil)))) Exs.nil)))) Exs.nil)) Exs.nil))
 Sms.nil))
 (Sms.cons (Sm.ret (Ex.tup (Exs.cons (Ex.var 4) (Exs.cons (Ex.var 3) Exs.nil))))
 Sms.nil))))
def d__law_side : Def := ⟨3, 7, b__law_side⟩
def b__law_keys : Sms := (Sms.cons (Sm.asg (Tg.one 3) (Ex.bin Bop.add (Ex.cst (D.int 1)) (Ex.call "_law_drawn" (Exs.cons (Ex.var 0) (Exs.cons (Ex.cst (D.int 3)) Exs.nil)))))
 (Sms.cons (Sm.ret (Ex.fn Fn.tuple (Exs.cons (Ex.comp [("_law_k", 4)] (Tg.one 4) Wk.rng1 (Exs.cons (Ex.var 3) Exs.nil) Exs.nil (Ex.tup (Exs.cons (Ex.call "_law_drawn" (Exs.cons (Ex.var 0) (Exs.cons (Ex.var 1) Exs.nil))) (Exs.cons (Ex.call "_law_drawn" (Exs.cons (Ex.var 0) (Exs.cons (Ex.var 2) Exs.nil))) Exs.nil)))) Exs.nil)))
 Sms.nil))
def d__law_keys : Def := ⟨3, 5, b__law_keys⟩
def b__law_face : Sms := (Sms.cons (Sm.ret (Ex.fn Fn.tuple (Exs.cons (Ex.comp [("_law_pair", 3)] (Tg.one 3) Wk.seq (Exs.cons (Ex.var 1) Exs.nil) Exs.nil (Ex.idx (Ex.var 0) (Ex.idx (Ex.var 3) (Ex.var 2)))) Exs.nil)))
 Sms.nil)
def d__law_face : Def := ⟨3, 4, b__law_face⟩
def b__law_other : Sms := (Sms.cons (Sm.iff (Ex.cmp Cop.eq (Ex.var 1) (Ex.lst true Exs.nil)) (Sms.cons (Sm.ret (Ex.lst true (Exs.cons (Ex.tup Exs.nil) Exs.nil)))
 Sms.nil) Sms.nil)
 (Sms.cons (Sm.asg (Tg.one 2) (Ex.idx (Ex.lst true (Exs.cons (Ex.call "_law_drawn" (Exs.cons (Ex.var 0) (Exs.cons (Ex.fn Fn.len (Exs.cons (Ex.var 1) Exs.nil)) Exs.nil))) (Exs.cons (Ex.bin Bop.sub (Ex.fn Fn.len (Exs.cons (Ex.var 1) Exs.nil)) (Ex.cst (D.int 1))) Exs.nil))) (Ex.call "_law_drawn" (Exs.cons (Ex.var 0) (Exs.cons (Ex.cst (D.int 2)) Exs.nil)))))
 (Sms.cons (Sm.asg (Tg.one 3) (Ex.call "_law_drawn" (Exs.cons (Ex.var 0) (Exs.cons (Ex.fn Fn.len (Exs.cons (Ex.var 1) Exs.nil)) Exs.nil))))
 (Sms.cons (Sm.asg (Tg.one 4) (Ex.idx (Ex.var 1) (Ex.var 2)))
 (Sms.cons (Sm.iff (Ex.or (Ex.not (Ex.isin (Ex.var 4) [Ty.tuple])) (Ex.or (Ex.cmp Cop.eq (Ex.var 4) (Ex.tup Exs.nil)) (Ex.cmp Cop.eq (Ex.call "_law_drawn" (Exs.cons (Ex.var 0) (Exs.cons (Ex.cst (D.int 3)) Exs.nil))) (Ex.cst (D.int 0))))) (Sms.cons (Sm.ret (Ex.bin Bop.add (Ex.bin Bop.add (Ex.sli (Ex.var 1) Exs.nil (Exs.cons (Ex.var 2) Exs.nil)) (Ex.lst true (Exs.cons (Ex.idx (Ex.var 1) (Ex.var 3)) Exs.nil))) (Ex.sli (Ex.var 1) (Exs.cons (Ex.bin Bop.add (Ex.var 2) (Ex.cst (D.int 1))) Exs.nil) Exs.nil)))
 Sms.nil) Sms.nil)
 (Sms.cons (Sm.asg (Tg.one 5) (Ex.idx (Ex.lst true (Exs.cons (Ex.call "_law_drawn" (Exs.cons (Ex.var 0) (Exs.cons (Ex.fn Fn.len (Exs.cons (Ex.var 4) Exs.nil)) Exs.nil))) (Exs.cons (Ex.bin Bop.sub (Ex.fn Fn.len (Exs.cons (Ex.var 4) Exs.nil)) (Ex.cst (D.int 1))) Exs.nil))) (Ex.call "_law_drawn" (Exs.cons (Ex.var 0) (Exs.cons (Ex.cst (D.int 2)) Exs.nil)))))
 (Sms.cons (Sm.asg (Tg.one 6) (Ex.idx (Ex.lst true (Exs.cons (Ex.bin Bop.add (Ex.cst (D.int 1000)) (Ex.call "_law_drawn" (Exs.cons (Ex.var 0) (Exs.cons (Ex.bin Bop.pow (Ex.cst (D.int 10)) (Ex.cst (D.int 20))) Exs.nil)))) (Exs.cons (Ex.bin Bop.sub (Ex.cst (D.int 0)) (Ex.cst (D.int 1))) (Exs.cons (Ex.cst (D.str "1")) (Exs.cons (Ex.cst D.non) (Exs.cons (Ex.cst (D.bl true)) (Exs.cons (Ex.tup Exs.nil) (Exs.cons (Ex.cst (D.int 999)) (Exs.cons (Ex.cst (D.int 0)) Exs.nil))))))))) (Ex.call "_law_drawn" (Exs.cons (Ex.var 0) (Exs.cons (Ex.cst (D.int 8)) Exs.nil)))))
 (Sms.cons (Sm.asg (Tg.one 7) (Ex.lst true (Exs.cons (Ex.bin Bop.add (Ex.bin Bop.add (Ex.sli (Ex.var 4) Exs.nil (Exs.cons (Ex.var 5) Exs.nil)) (Ex.tup (Exs.cons (Ex.var 6) Exs.nil))) (Ex.sli (Ex.var 4) (Exs.cons (Ex.bin Bop.add (Ex.var 5) (Ex.cst (D.int 1))) Exs.nil) Exs.nil)) (Exs.cons (Ex.bin Bop.add (Ex.var 4) (Ex.tup (Exs.cons (Ex.cst (D.int 0)) Exs.nil))) (Exs.cons (Ex.bin Bop.add (Ex.var 4) (Ex.bin Bop.mul (Ex.tup (Exs.cons (Ex.cst (D.int 0)) Exs.nil)) (Ex.cst (D.int 5)))) (Exs.cons (Ex.bin Bop.add (Ex.sli (Ex.var 4) Exs.nil (Exs.cons (Ex.var 5) Exs.nil)) (Ex.sli (Ex.var 4) (Exs.cons (Ex.bin Bop.add (Ex.var 5) (Ex.cst (D.int 1))) Exs.nil) Exs.nil)) (Exs.cons (Ex.cst (D.int 7)) (Exs.cons (Ex.tup Exs.nil) Exs.nil))))))))
 (Sms.cons (Sm.ret (Ex.bin Bop.add (Ex.bin Bop.add (Ex.sli (Ex.var 1) Exs.nil (Exs.cons (Ex.var 2) Exs.nil)) (Ex.lst true (Exs.cons (Ex.idx (Ex.var 7) (Ex.call "_law_drawn" (Exs.cons (Ex.var 0) (Exs.cons (Ex.cst (D.int 6)) Exs.nil)))) Exs.nil))) (Ex.sli (Ex.var 1) (Exs.cons (Ex.bin Bop.add (Ex.var 2) (Ex.cst (D.int 1))) Exs.nil) Exs.nil)))
 Sms.nil)))))))))
def d__law_other : Def := ⟨2, 8, b__law_other⟩
def b__law_is_row : Sms := (Sms.cons (Sm.iff (Ex.or (Ex.not (Ex.isin (Ex.var 0) [Ty.tuple])) (Ex.not (Ex.chain Cop.lt Cop.lt (Ex.fn Fn.max (Exs.cons (Ex.var 1) Exs.nil)) (Ex.fn Fn.len (Exs.cons (Ex.var 0) Exs.nil)) (Ex.cst (D.int 6))))) (Sms.cons (Sm.ret (Ex.cst (D.bl false)))
 Sms.nil) Sms.nil)
 (Sms.cons (Sm.ret (Ex.cmp Cop.eq (Ex.comp [("_law_one", 2)] (Tg.one 2) Wk.seq (Exs.cons (Ex.var 0) Exs.nil) (Exs.cons (Ex.or (Ex.not (Ex.isin (Ex.var 2) [Ty.int])) (Ex.or (Ex.isin (Ex.var 2) [Ty.bool]) (Ex.not (Ex.chain Cop.le Cop.le (Ex.cst (D.int 0)) (Ex.var 2) (Ex.cst (D.int 999)))))) Exs.nil) (Ex.cst (D.int 1))) (Ex.lst true Exs.nil)))
 Sms.nil))
def d__law_is_row : Def := ⟨2, 3, b__law_is_row⟩
def b__law_first : Sms := (Sms.cons (Sm.asg (Tg.one 3) (Ex.comp [("_law_pair", 5)] (Tg.one 5) Wk.seq (Exs.cons (Ex.var 1) Exs.nil) Exs.nil (Ex.idx (Ex.var 5) (Ex.var 2))))
 (Sms.cons (Sm.for (Tg.one 4) Wk.rng1 (Exs.cons (Ex.fn Fn.len (Exs.cons (Ex.var 0) Exs.nil)) Exs.nil) (Sms.cons (Sm.iff (Ex.or (Ex.cmp Cop.eq (Ex.var 4) (Ex.cst (D.int 60))) (Ex.not (Ex.call "_law_is_row" (Exs.cons (Ex.idx (Ex.var 0) (Ex.var 4)) (Exs.cons (Ex.var 3) Exs.nil))))) (Sms.cons (Sm.ret (Ex.tup (Exs.cons (Ex.cst (D.str "BadRows")) (Exs.cons (Ex.var 4) Exs.nil))))
 Sms.nil) Sms.nil)
 Sms.nil))
 (Sms.cons (Sm.for (Tg.one 4) Wk.rng2 (Exs.cons (Ex.cst (D.int 1)) (Exs.cons (Ex.fn Fn.len (Exs.cons (Ex.var 0) Exs.nil)) Exs.nil)) (Sms.cons (Sm.iff (Ex.cmp Cop.lt (Ex.call "_law_face" (Exs.cons (Ex.idx (Ex.var 0) (Ex.var 4)) (Exs.cons (Ex.var 1) (Exs.cons (Ex.var 2) Exs.nil)))) (Ex.call "_law_face" (Exs.cons (Ex.idx (Ex.var 0) (Ex.bin Bop.sub (Ex.var 4) (Ex.cst (D.int 1)))) (Exs.cons (Ex.var 1) (Exs.cons (Ex.var 2) Exs.nil))))) (Sms.cons (Sm.ret (Ex.tup (Exs.cons (Ex.cst (D.str "BadOrder")) (Exs.cons (Ex.var 4) Exs.nil))))
 Sms.nil) Sms.nil)
 Sms.nil))
 (Sms.cons (Sm.ret (Ex.cst D.non))
 Sms.nil))))
def d__law_first : Def := ⟨3, 6, b__law_first⟩
def b_law : Sms := (Sms.cons (Sm.asg (Tg.one 1) (Ex.call "_law_start" (Exs.cons (Ex.var 0) Exs.nil)))
 (Sms.cons (Sm.for (Tg.one 2) Wk.rng1 (Exs.cons (Ex.cst (D.int 3)) Exs.nil) (Sms.cons (Sm.asg (Tg.one 3) (Ex.idx (Ex.lst true (Exs.cons (Ex.cst (D.int 1)) (Exs.cons (Ex.cst (D.int 2)) (Exs.cons (Ex.cst (D.int 4)) Exs.nil)))) (Ex.call "_law_drawn" (Exs.cons (Ex.var 1) (Exs.cons (Ex.cst (D.int 3)) Exs.nil)))))
 (Sms.cons (Sm.asg (Tg.tup [4, 5]) (Ex.scope (Ex.call "_law_side" (Exs.cons (Ex.var 1) (Exs.cons (Ex.var 3) (Exs.cons (Ex.idx (Ex.lst true (Exs.cons (Ex.cst (D.int 4)) (Exs.cons (Ex.cst (D.int 20)) (Exs.cons (Ex.cst (D.int 62)) Exs.nil)))) (Ex.var 2)) Exs.nil))))))
 (Sms.cons (Sm.asg (Tg.tup [6, 7]) (Ex.scope (Ex.call "_law_side" (Exs.cons (Ex.var 1) (Exs.cons (Ex.var 3) (Exs.cons (Ex.idx (Ex.lst true (Exs.cons (Ex.cst (D.int 62)) (Exs.cons (Ex.cst (D.int 4)) (Exs.cons (Ex.cst (D.int 20)) Exs.nil)))) (Ex.var 2)) Exs.nil))))))
 (Sms.cons (Sm.asg (Tg.one 8) (Ex.call "_law_keys" (Exs.cons (Ex.var 1) (Exs.cons (Ex.var 5) (Exs.cons (Ex.var 7) Exs.nil)))))
 (Sms.cons (Sm.iff (Ex.cmp Cop.gt (Ex.call "_law_drawn" (Exs.cons (Ex.var 1) (Exs.cons (Ex.cst (D.int 3)) Exs.nil))) (Ex.cst (D.int 0))) (Sms.cons (Sm.asg (Tg.one 4) (Ex.sortK (Exs.cons (Ex.var 4) Exs.nil) [8] (Ex.call "_law_face" (Exs.cons (Ex.var 0) (Exs.cons (Ex.var 1) (Exs.cons (Ex.cst (D.int 0)) Exs.nil))))))
 (Sms.cons (Sm.asg (Tg.one 6) (Ex.sortK (Exs.cons (Ex.var 6) Exs.nil) [8] (Ex.call "_law_face" (Exs.cons (Ex.var 0) (Exs.cons (Ex.var 1) (Exs.cons (Ex.cst (D.int 1)) Exs.nil))))))
 Sms.nil)) Sms.nil)
 (Sms.cons (Sm.for (Tg.one 9) Wk.rng1 (Exs.cons (Ex.call "_law_drawn" (Exs.cons (Ex.var 1) (Exs.cons (Ex.cst (D.int 3)) Exs.nil))) Exs.nil) (Sms.cons (Sm.iff (Ex.cmp Cop.eq (Ex.call "_law_drawn" (Exs.cons (Ex.var 1) (Exs.cons (Ex.cst (D.int 2)) Exs.nil))) (Ex.cst (D.int 0))) (Sms.cons (Sm.asg (Tg.one 4) (Ex.call "_law_other" (Exs.cons (Ex.var 1) (Exs.cons (Ex.var 4) Exs.nil))))
 Sms.nil) (Sms.cons (Sm.asg (Tg.one 6) (Ex.call "_law_other" (Exs.cons (Ex.var 1) (Exs.cons (Ex.var 6) Exs.nil))))
 Sms.nil))
 Sms.nil))
 (Sms.cons (Sm.asg (Tg.one 10) (Ex.call "_law_first" (Exs.cons (Ex.var 4) (Exs.cons (Ex.var 8) (Exs.cons (Ex.cst (D.int 0)) Exs.nil)))))
 (Sms.cons (Sm.asg (Tg.one 10) (Ex.ite (Ex.cmp Cop.isn (Ex.var 10) (Ex.cst D.non)) (Ex.call "_law_first" (Exs.cons (Ex.var 6) (Exs.cons (Ex.var 8) (Exs.cons (Ex.cst (D.int 1)) Exs.nil)))) (Ex.var 10)))
 (Sms.cons (Sm.asg (Tg.one 11) (Ex.hof "_law_kind" Exs.nil 0 [4, 6, 8] (Ex.call "matched" (Exs.cons (Ex.var 0) (Exs.cons (Ex.var 1) (Exs.cons (Ex.var 2) Exs.nil))))))
 (Sms.cons (Sm.iff (Ex.or (Ex.cmp Cop.ne (Ex.isin (Ex.var 11) [Ty.list]) (Ex.cmp Cop.isn (Ex.var 10) (Ex.cst D.non))) (Ex.and (Ex.cmp Cop.notn (Ex.var 10) (Ex.cst D.non)) (Ex.not (Ex.call "_law_same" (Exs.cons (Ex.var 11) (Exs.cons (Ex.var 10) Exs.nil)))))) (Sms.cons (Sm.ret (Ex.cst (D.bl false)))
 Sms.nil) Sms.nil)
 (Sms.cons (Sm.asg (Tg.one 12) (Ex.lst true (Exs.cons (Ex.tup Exs.nil) (Exs.cons (Ex.bin Bop.add (Ex.var 8) (Ex.bin Bop.mul (Ex.tup (Exs.cons (Ex.tup (Exs.cons (Ex.cst (D.int 0)) (Exs.cons (Ex.cst (D.int 0)) Exs.nil))) Exs.nil)) (Ex.cst (D.int 3)))) (Exs.cons (Ex.bin Bop.add (Ex.sli (Ex.var 8) (Exs.cons (Ex.cst (D.int 1)) Exs.nil) Exs.nil) (Ex.tup (Exs.cons (Ex.tup (Exs.cons (Ex.cst (D.int 5)) (Exs.cons (Ex.cst (D.int 0)) Exs.nil))) Exs.nil))) (Exs.cons (Ex.bin Bop.add (Ex.sli (Ex.var 8) Exs.nil (Exs.cons (Ex.cst (D.int 1)) Exs.nil)) (Ex.tup (Exs.cons (Ex.tup (Exs.cons (Ex.cst (D.int 0)) (Exs.cons (Ex.bin Bop.sub (Ex.cst (D.int 0)) (Ex.cst (D.int 1))) Exs.nil))) Exs.nil))) (Exs.cons (Ex.bin Bop.add (Ex.sli (Ex.var 8) Exs.nil (Exs.cons (Ex.cst (D.int 2)) Exs.nil)) (Ex.tup (Exs.cons (Ex.tup (Exs.cons (Ex.cst (D.int 0)) Exs.nil)) Exs.nil))) Exs.nil)))))))
 (Sms.cons (Sm.asg (Tg.one 12) (Ex.bin Bop.add (Ex.var 12) (Ex.lst true (Exs.cons (Ex.tup (Exs.cons (Ex.tup (Exs.cons (Ex.cst (D.int 0)) (Exs.cons (Ex.cst (D.int 0)) (Exs.cons (Ex.cst (D.int 0)) Exs.nil)))) Exs.nil)) (Exs.cons (Ex.tup (Exs.cons (Ex.cst (D.int 0)) (Exs.cons (Ex.cst (D.int 0)) Exs.nil))) (Exs.cons (Ex.tup (Exs.cons (Ex.tup (Exs.cons (Ex.bin Bop.pow (Ex.cst (D.int 10)) (Ex.cst (D.int 20))) (Exs.cons (Ex.cst (D.int 0)) Exs.nil))) Exs.nil)) (Exs.cons (Ex.cst (D.int 0)) Exs.nil)))))))
 (Sms.cons (Sm.iff (Ex.cmp Cop.ne (Ex.hof "_law_kind" Exs.nil 0 [4, 6, 12, 1] (Ex.call "matched" (Exs.cons (Ex.var 0) (Exs.cons (Ex.var 1) (Exs.cons (Ex.idx (Ex.var 2) (Ex.call "_law_drawn" (Exs.cons (Ex.var 3) (Exs.cons (Ex.cst (D.int 9)) Exs.nil)))) Exs.nil))))) (Ex.cst (D.str "BadKeys"))) (Sms.cons (Sm.ret (Ex.cst (D.bl false)))
 Sms.nil) Sms.nil)
 Sms.nil))))))))))))))
 (Sms.cons (Sm.ret (Ex.cst (D.bl true)))
 Sms.nil)))
def d_law : Def := ⟨1, 13, b_law⟩
structure SdT (T : List (Str × Def)) : Prop where
  dra : Has T "_law_drawn" d__law_drawn
  sid : Has T "_law_side" d__law_side
  kys : Has T "_law_keys" d__law_keys
  fac : Has T "_law_face" d__law_face
  lot : Has T "_law_other" d__law_other
  lir : Has T "_law_is_row" d__law_is_row
  lfi : Has T "_law_first" d__law_first
section
variable {T : List (Str × Def)} {g : Str → Option D} {wf n : Nat} {m : Mem} {ns : List Int} {rest : Mem}
theorem drawA (U : SdT T) (hs : St ns rest m) {k : Int} (h0 : 0 < k) (h1 : k < 1073741824) {Q : D → Mem → Prop} (q : ∀ (i : Int) (m' : Mem), 0 ≤ i → i < k → St ns rest m' → Q (.int i) m') : (callN T g wf (n + 1) "_law_drawn" [.ref 0, .int k] m).W Q noE :=
  (drawn U.dra hs h0 (by omega)).mono fun d m' ⟨i, hd, a, b, c⟩ => by rw [hd]; exact q i m' a b c
def SidI (ns : List Int) (rest : Mem) (near : Int) (most w : Nat) (j : Nat) (ρ : Sl) (m' : Mem) : Prop := ∃ (rows : List Row) (y : Option D), ρ = [some (.ref 0), some (.int near), some (.int most), some (.int (w : Nat)), some (.ref (rest.length + 1)), y, none] ∧ rows.length = j ∧ (∀ row ∈ rows, RowOk w row) ∧ St ns (rest ++ [.lst (rows.map rowD)]) m'
theorem law_side_ok (U : SdT T) (hs : St ns rest m) {near : Int} (hn1 : 0 < near) (hn2 : near ≤ 1000) {most : Nat} (h1 : most < 1000) {Q : D → Mem → Prop}
    (q : ∀ (rows : List Row) (w : Nat) (m' : Mem), rows.length ≤ most → 1 ≤ w → w ≤ 5 → (∀ row ∈ rows, RowOk w row) → St ns (rest ++ [.lst (rows.map rowD)]) m' → Q (.tup [.ref (rest.length + 1), .int (w : Nat)]) m') : (callN T g wf (n + 2) "_law_side" [.ref 0, .int near, .int most] m).W Q noE := by
  refine W_run U.sid rfl (wcons ?_)
  simp [d__law_side]
  refine drawA U hs (by omega) (by omega) fun i m1 a1 b1 s1 => ?_
  obtain ⟨w0, rfl⟩ := Int.eq_ofNat_of_zero_le a1
  have ew : (1 + ((w0 : Nat) : Int)) = ((w0 + 1 : Nat) : Int) := by omega
  simp only [bin_add, IsS_some, bind_one, ew]
  refine wcons ?_
  simp
  refine wcons ?_
  rw [s1.len]
  simp
  refine drawA U (s1.app [O.lst []]) (by omega) (by omega) fun c m2 a2 b2 s2 => ?_
  obtain ⟨c, rfl⟩ := Int.eq_ofNat_of_zero_le a2
  simp [walk_rng1n (m := m2) (n := c) (by simp [big]; omega)]
  refine forL_N (fun j ρ m' => SidI ns rest near most (w0 + 1) j ρ m') ⟨[], none, by simp, rfl, by simp, s2⟩ ?_ ?_
  · rintro j hj ρ m3 ⟨rows, y, rfl, hl, hok, s3⟩
    simp at hj
    simp [-Int.natCast_add]
    refine wcons ?_
    simp [refL_mk s3.at, -Int.natCast_add, walk_rng1n (m := m3) (n := w0 + 1) (by simp [big]; omega)]
    refine comp_draw (f := D.int) (P := fun x => 0 ≤ x ∧ x ≤ 999) s3 (fun k mm sm => ?_) fun row m4 lrow hrow s4 => ?_
    · simp [wipeS]
      refine drawA U sm (by omega) (by omega) fun i2 m5 a5 b5 s5 => ?_
      obtain ⟨v, hv, ev⟩ := pick_mem (l := [D.int near, D.int near, D.int 1000]) a5 (by simpa using b5)
      obtain ⟨v, rfl, hv1, hv2⟩ : ∃ j : Int, v = .int j ∧ 0 < j ∧ j ≤ 1000 := by
        simp only [List.mem_cons, List.not_mem_nil, or_false] at hv
        rcases hv with rfl | rfl | rfl <;> exact ⟨_, rfl, by omega, by omega⟩
      simp [ev]
      refine drawA U s5 (by omega) (by omega) fun z m6 a6 b6 s6 => ?_
      exact ⟨z, rfl, ⟨by omega, by omega⟩, s6⟩
    · have el : lmD m4 .append (.ref (rest.length + 1)) [.tup (row.map .int)] = some (m4.set (rest.length + 1) (.lst ((rows ++ [row]).map rowD))) := by
        rw [lm_append s4.at (by simp [big]; omega)]
        simp [rowD]
      simp [el]
      refine ⟨rows ++ [row], _, rfl, by simp [hl], fun x hx => ?_, by have := s4.put (.lst ((rows ++ [row]).map rowD)); simpa using this⟩
      rcases List.mem_append.mp hx with z | z
      · exact hok x z
      · rw [List.mem_singleton.mp z]; exact ⟨lrow, hrow⟩
  · rintro ρ m3 ⟨rows, y, rfl, hl, hok, s3⟩
    refine wcons ?_
    simp [-Int.natCast_add]
    exact q rows (w0 + 1) m3 (by simp at hl; omega) (by omega) (by omega) hok s3
theorem law_keys_ok (U : SdT T) (hs : St ns rest m) {wA wB : Nat} (hA : 1 ≤ wA ∧ wA ≤ 5) (hB : 1 ≤ wB ∧ wB ≤ 5) {Q : D → Mem → Prop}
    (q : ∀ (ks : Kys) (m' : Mem), KysOk ks wA wB → St ns rest m' → Q (kyD ks) m') : (callN T g wf (n + 2) "_law_keys" [.ref 0, .int (wA : Nat), .int (wB : Nat)] m).W Q noE := by
  refine W_run U.kys rfl (wcons ?_)
  simp [d__law_keys]
  refine drawA U hs (by omega) (by omega) fun i m1 a1 b1 s1 => ?_
  obtain ⟨c, rfl⟩ := Int.eq_ofNat_of_zero_le a1
  have ew : (1 + ((c : Nat) : Int)) = ((c + 1 : Nat) : Int) := by omega
  simp only [bin_add, IsS_some, bind_one, ew]
  refine wcons ?_
  simp [-Int.natCast_add, walk_rng1n (m := m1) (n := c + 1) (by simp [big]; omega)]
  refine comp_draw (f := fun p : Nat × Nat => D.tup [.int p.1, .int p.2]) (P := fun p => p.1 < wA ∧ p.2 < wB) s1 (fun k mm sm => ?_) fun ks m4 lk hk s4 => ?_
  · simp [wipeS]
    refine drawA U sm (by omega) (by omega) fun i2 m5 a5 b5 s5 => ?_
    obtain ⟨x, rfl⟩ := Int.eq_ofNat_of_zero_le a5
    simp
    refine drawA U s5 (by omega) (by omega) fun i3 m6 a6 b6 s6 => ?_
    obtain ⟨y, rfl⟩ := Int.eq_ofNat_of_zero_le a6
    first | exact ⟨x, y, rfl, ⟨by omega, by omega⟩, s6⟩ | exact ⟨x, y, ⟨rfl, rfl⟩, ⟨by omega, by omega⟩, s6⟩ | exact ⟨x, y, by simp, ⟨by omega, by omega⟩, s6⟩
  · exact q ks m4 ⟨by omega, by omega, hk, by omega⟩ s4
theorem law_face_ok (U : SdT T) {row : Row} {ks : Kys} {s : Nat} (hs : s = 0 ∨ s = 1) (h : ∀ f ∈ ks.map (fun p => if s = 0 then p.1 else p.2), f < row.length) : callN T g wf (n + 1) "_law_face" [rowD row, kyD ks, .int (s : Nat)] m = .ok (intsT (fcOf (ks.map fun p => if s = 0 then p.1 else p.2) row)) m := by
  refine eq_of_W (W_run U.fac rfl (wcons ?_))
  simp [d__law_face, kyD]
  refine compW_map (fun p => .int (fld row (if s = 0 then p.1 else p.2))) (fun p hp => ?_) ?_
  · have := h _ (List.mem_map_of_mem hp)
    rcases hs with rfl | rfl
    · have h2 : p.1 < row.length := by simpa using this
      simp [wipeS, rowD, fld_at h2]
    · have h2 : p.2 < row.length := by simpa using this
      simp [wipeS, rowD, fld_at h2]
  · simp [intsT, fcOf, Function.comp_def]

def srtF (fs : List Nat) (rows : List Row) : List Row := rows.mergeSort fun a b => !HT.lexLt (fcOf fs b) (fcOf fs a)
theorem srtF_perm (fs : List Nat) (rows : List Row) : (srtF fs rows).Perm rows := List.mergeSort_perm _ _
theorem thawU_side (U : SdT T) (hs : St ns rest m) (hp : UM rest) {near : Int} (hn1 : 0 < near) (hn2 : near ≤ 1000) {most : Nat} (h1 : most < 1000) {Q : D → Mem → Prop}
    (q : ∀ (rows : List Row) (w : Nat) (m' : Mem), rows.length ≤ most → 1 ≤ w → w ≤ 5 → (∀ row ∈ rows, RowOk w row) → St ns rest m' → Q (.tup [rowsD rows, .int (w : Nat)]) m') : (callN T g wf (n + 2) "_law_side" [.ref 0, .int near, .int most] m).W (fun d m' => Thaw m d m' Q) noE :=
  law_side_ok U hs hn1 hn2 h1 fun rows w m' e1 e2 e3 e4 s' => thawU_st hs hp s' (by
    have h := frz_list (m := m') (k := m.length) (by rw [hs.len]; exact Nat.le_refl _) s'.at (nice_rows rows)
    have h : frz m' m.length 6 (rest.length + 1) = some (rowsD rows) := h
    show (D.ress (frz m' m.length 6) [.ref (rest.length + 1), .int (w : Nat)]).map D.tup = _
    simp only [D.ress, h, D.res, Option.map_some]) fun m0 h0 => q rows w m0 e1 e2 e3 e4 h0

theorem sort_face (U : SdT T) {ks : Kys} {s w : Nat} {R : List Row} (hs : s = 0 ∨ s = 1) (hk : 1 ≤ ks.length) (hw : ∀ row ∈ R, RowOk w row) (lt : ∀ p ∈ ks, (if s = 0 then p.1 else p.2) < w) {ρ : Sl} (h8 : ρ[8]? = some (some (kyD ks))) {x : D} (hx : x = .int (s : Nat)) :
    ∃ l, keysL m (fun v => evE ((feN T g wf (n + 3) noLf).lamb (callN T g wf (n + 1))) (Ex.call "_law_face" (Exs.cons (Ex.var 0) (Exs.cons (Ex.var 1) (Exs.cons (Ex.cst x) Exs.nil)))) (some v :: capS ρ [8]) m) (R.map rowD) = some l ∧ oneKd l = true ∧ sortKL l = (srtF (ks.map fun p => if s = 0 then p.1 else p.2) R).map rowD := by
  have ek : keysL m (fun v => evE ((feN T g wf (n + 3) noLf).lamb (callN T g wf (n + 1))) (Ex.call "_law_face" (Exs.cons (Ex.var 0) (Exs.cons (Ex.var 1) (Exs.cons (Ex.cst x) Exs.nil)))) (some v :: capS ρ [8]) m) (R.map rowD) = some (R.map fun row => (fcOf (ks.map fun p => if s = 0 then p.1 else p.2) row, rowD row)) := by
    refine keysL_map (Fm := rowD) (kf := fun row => fcOf (ks.map fun p => if s = 0 then p.1 else p.2) row) fun row hrow => eq_of_W ?_
    have hf := law_face_ok (g := g) (wf := wf) (n := n) (m := m) U (row := row) (ks := ks) hs fun f hf => by
      obtain ⟨p, hp, rfl⟩ := List.mem_map.mp hf
      rw [(hw row hrow).1]
      exact lt p hp
    simp [capS, getS, h8, hx, hf]
  refine ⟨_, ek, ?_, sortKL_map (kf := fun row => fcOf (ks.map fun p => if s = 0 then p.1 else p.2) row) (Fm := rowD)⟩
  unfold oneKd
  rw [Bool.or_eq_true]
  refine .inl (List.all_eq_true.mpr fun p hp => ?_)
  obtain ⟨row, _, rfl⟩ := List.mem_map.mp hp
  cases ks with
  | nil => simp at hk
  | cons a b => simp [fcOf]

theorem RwsB.putC {b c : Nat} {l : List D} {k : Nat} {x : D} (h : RwsB b l) (hk : k < l.length) (hc : b ≤ c) (hx : rowB c x = true) : RwsB c (l.take k ++ [x] ++ l.drop (k + 1)) := by
  have hl := h.len
  refine ⟨by simp; omega, fun r hr => ?_⟩
  rcases List.mem_append.mp hr with z | z
  · rcases List.mem_append.mp z with y | y
    · exact rowB_up (h.row r (List.mem_of_mem_take y)) hc
    · rw [List.mem_singleton.mp y]; exact hx
  · exact rowB_up (h.row r (List.mem_of_mem_drop z)) hc
theorem other_made (U : SdT T) (hs : St ns rest m) {b : Nat} {l : List D} (hb : b ≤ 100) (hr : RwsB b l) {Q : D → Mem → Prop} (q : ∀ l m', RwsB (b + 5) l → St ns rest m' → Q (.lst l) m') :
    (callN T g wf (n + 2) "_law_other" [.ref 0, .lst l] m).W Q noE := by
  have hlen := hr.len
  refine W_run U.lot rfl (wcons ?_)
  simp [d__law_other, eq_rows_nil hr]
  refine Two.mk (fun he => ?_) (fun he => ?_)
  · refine wcons ?_
    simp
    exact q _ m ⟨by simp; omega, fun r h => by rw [List.mem_singleton.mp h]; exact rowB_mk rfl (by simp)⟩ hs
  · have hne : 0 < l.length := by
      cases l with
      | nil => simp at he
      | cons a r => simp
    refine wcons ?_
    simp
    refine drawK U.dra hs (by omega) (by omega) fun i1 m1 a1 b1 s1 => ?_
    refine drawK U.dra s1 (by omega) (by omega) fun i2 m2 a2 b2 s2 => ?_
    obtain ⟨x, hx, ex⟩ := xpickM (l := [D.int i1, D.int ((l.length : Int) - 1)]) a2 (by simpa using b2)
    obtain ⟨k, rfl, hk⟩ : ∃ k : Nat, x = .int (k : Int) ∧ k < l.length := by
      simp only [List.mem_cons, List.not_mem_nil, or_false] at hx
      rcases hx with rfl | rfl
      · exact ⟨i1.toNat, by simp; omega, by omega⟩
      · exact ⟨l.length - 1, by simp; omega, by omega⟩
    have ek : atI l (k : Int) = some l[k] := by rw [atI_cast, List.getElem?_eq_getElem hk]
    simp [ex]
    refine wcons ?_
    simp
    refine drawK U.dra s2 (by omega) (by omega) fun i3 m3 a3 b3 s3 => ?_
    obtain ⟨j, hj, rfl, ej⟩ := xpick (l := l) a3 b3
    refine wcons ?_
    simp [ek]
    refine wcons ?_
    have ret1 : ∀ (N : Sl → Mem → Prop) (ρ : Sl) (mm : Mem), St ns rest mm → ρ[1]? = some (some (.lst l)) → ρ[2]? = some (some (.int (k : Int))) → ρ[3]? = some (some (.int (j : Int))) → (evSs (feN T g wf (n + 1) noLf) (Sms.cons (Sm.ret (Ex.bin Bop.add (Ex.bin Bop.add (Ex.sli (Ex.var 1) Exs.nil (Exs.cons (Ex.var 2) Exs.nil)) (Ex.lst true (Exs.cons (Ex.idx (Ex.var 1) (Ex.var 3)) Exs.nil))) (Ex.sli (Ex.var 1) (Exs.cons (Ex.bin Bop.add (Ex.var 2) (Ex.cst (D.int 1))) Exs.nil) Exs.nil))) Sms.nil) ρ mm).W N Q noE := fun N ρ mm s3 h1 h2 h3 => by
      refine wcons ?_
      have e1 := hr.putC hk (Nat.le_add_right b 5) (rowB_up (hr.row _ (List.getElem_mem hj)) (Nat.le_add_right b 5))
      rw [List.append_assoc] at e1
      simp [h1, h2, h3, ej, xcut_to (Nat.le_of_lt hk), xcut_from1 hk]
      exact ⟨fun _ => ⟨fun _ => q _ _ e1 s3, by omega⟩, by omega⟩
    rcases row_ty (hr.row _ (List.getElem_mem hk)) with ⟨ds, eds, hc, hdl⟩ | ⟨h1, h2⟩
    · rw [eds]
      have cp := cells_pure hc
      simp [eq_nilT cp.1 (by omega)]
      refine Two.mk (fun h2 => ret1 _ _ _ s3 rfl rfl rfl) (fun h2 => ?_)
      refine drawK U.dra s3 (by omega) (by omega) fun i4 m4 a4 b4 s4 => ?_
      simp
      refine ⟨fun h => ret1 _ _ _ s4 rfl rfl rfl, fun h => ?_⟩
      have hne2 : 0 < ds.length := by
        cases ds with
        | nil => simp at h2
        | cons a r => simp
      refine wcons ?_
      simp
      refine drawK U.dra s4 (by omega) (by omega) fun i5 m5 a5 b5 s5 => ?_
      refine drawK U.dra s5 (by omega) (by omega) fun i6 m6 a6 b6 s6 => ?_
      obtain ⟨y, hy, ey⟩ := xpickM (l := [D.int i5, D.int ((ds.length : Int) - 1)]) a6 (by simpa using b6)
      obtain ⟨t, rfl, htt⟩ : ∃ k : Nat, y = .int (k : Int) ∧ k < ds.length := by
        simp only [List.mem_cons, List.not_mem_nil, or_false] at hy
        rcases hy with rfl | rfl
        · exact ⟨i5.toNat, by simp; omega, by omega⟩
        · exact ⟨ds.length - 1, by simp; omega, by omega⟩
      simp [ey]
      refine wcons ?_
      simp
      refine drawK U.dra s6 (by omega) (by omega) fun i7 m7 a7 b7 s7 => ?_
      refine drawK U.dra s7 (by omega) (by omega) fun i8 m8 a8 b8 s8 => ?_
      obtain ⟨o, ho, eo⟩ := xpickM (l := [D.int (1000 + i7), D.int (-1), D.str "1", D.non, D.bl true, D.tup [], D.int 999, D.int 0]) a8 (by simpa using b8)
      have co : cellB o = true := by
        simp only [List.mem_cons, List.not_mem_nil, or_false] at ho
        rcases ho with rfl | rfl | rfl | rfl | rfl | rfl | rfl | rfl <;> rfl
      simp [eo]
      refine wcons ?_
      simp [xcut_to (Nat.le_of_lt htt), xcut_from1 htt, repL]
      refine ⟨fun _ => ⟨fun _ => ⟨fun _ => ⟨fun _ => ⟨fun _ => ?_, by omega⟩, by omega⟩, by omega⟩, by omega⟩, by omega⟩
      have c0 : [o].all cellB = true := by simp [co]
      have r0 := rowB_mk (b := b + 5) (cells_app (cells_app (cells_take (k := t) hc) c0) (cells_drop (k := t + 1) hc)) (by simp; omega)
      have r1 := rowB_mk (b := b + 5) (cells_app hc (show [D.int 0].all cellB = true from rfl)) (by simp; omega)
      have r5 := rowB_mk (b := b + 5) (cells_app hc (show [D.int 0, D.int 0, D.int 0, D.int 0, D.int 0].all cellB = true from rfl)) (by simp; omega)
      have r2 := rowB_mk (b := b + 5) (cells_app (cells_take (k := t) hc) (cells_drop (k := t + 1) hc)) (by simp; omega)
      have r3 : rowB (b + 5) (.tup []) = true := rowB_mk rfl (by simp)
      have r7 : rowB (b + 5) (.int 7) = true := rfl
      rw [List.append_assoc] at r0
      refine wcons ?_
      simp
      refine drawK U.dra s8 (by omega) (by omega) fun z m9 a9 b9 s9 => ?_
      obtain ⟨r, hrm, er⟩ := xpickM (l := [D.tup (ds.take t ++ ([o] ++ ds.drop (t + 1))), D.tup (ds ++ [D.int 0]), D.tup (ds ++ [D.int 0, D.int 0, D.int 0, D.int 0, D.int 0]), D.tup (ds.take t ++ ds.drop (t + 1)), D.int 7, D.tup []]) a9 (by simpa using b9)
      have hrr : rowB (b + 5) r = true := by
        simp only [List.mem_cons, List.not_mem_nil, or_false] at hrm
        rcases hrm with rfl | rfl | rfl | rfl | rfl | rfl
        · exact r0
        · exact r1
        · exact r5
        · exact r2
        · exact r7
        · exact r3
      have e1 := hr.putC hk (Nat.le_add_right b 5) hrr
      rw [List.append_assoc] at e1
      simp at er
      simp [er, xcut_to (Nat.le_of_lt hk), xcut_from1 hk]
      exact ⟨fun _ => ⟨fun _ => q _ _ e1 s9, by omega⟩, by omega⟩
    · simp [h1]
      exact ret1 _ _ _ s3 rfl rfl rfl
theorem ones_filter {ds : List D} {p : D → Bool} : cmpD m .eq (.lst ((ds.filter fun d => !p d).map fun _ => D.int 1)) (.lst []) = some (ds.all p) := by
  have q := ones_pure (l := ds.filter fun d => !p d)
  rw [eq_nilL q.1 q.2]
  have h := all_filter2 (ds := ds) (p := p)
  have e : ((ds.filter fun d => !p d).map fun _ => D.int 1).isEmpty = (ds.filter fun d => !p d).isEmpty := by
    cases ds.filter fun d => !p d <;> rfl
  rw [e]
  congr 1
  revert h
  cases (ds.filter fun d => !p d).isEmpty <;> cases ds.all p <;> simp
theorem is_row_ok (U : SdT T) {b : Nat} {d : D} (h : rowB b d = true) {fs : List Nat} (hf : fs ≠ []) : callN T g wf (n + 1) "_law_is_row" [d, .lst (natsD fs)] m = .ok (.bl (goodRw fs d)) m := by
  refine eq_of_W (W_run U.lir rfl (wcons ?_))
  obtain ⟨mx, emx, hmx, hlt⟩ := max_nats hf
  rcases row_ty h with ⟨ds, rfl, hc, hdl⟩ | ⟨h1, h2⟩
  · have nb : ¬ (mx < (ds.length : Int) ∧ (ds.length : Int) < 6) → goodRw fs (.tup ds) = false := fun hL => by
      cases hq : goodRw fs (.tup ds) with
      | false => rfl
      | true =>
        simp only [goodRw, Bool.and_eq_true, decide_eq_true_eq] at hq
        exact absurd ⟨(hlt ds.length).mpr hq.1.1, by omega⟩ hL
    have rt : ∀ (N : Sl → Mem → Prop), goodRw fs (.tup ds) = false → (evSs (feN T g wf n noLf) (Sms.cons (Sm.ret (Ex.cst (D.bl false))) Sms.nil) [some (.tup ds), some (.lst (natsD fs)), none] m).W N (fun x m' => x = .bl (goodRw fs (.tup ds)) ∧ m' = m) noE := fun N h => by
      refine wcons ?_
      simp [h]
    simp [d__law_is_row, emx, hmx]
    refine ⟨fun h3 => ⟨fun h4 => ?_, fun h4 => rt _ (nb (by omega))⟩, fun h3 => rt _ (nb (by omega))⟩
    have a1 := (hlt ds.length).mp h3
    refine wcons ?_
    simp
    refine compW_fmI (fun d => !okI 0 999 d) (fun _ => .int 1) ?_ ?_
    · intro x hx
      have cx := List.all_eq_true.mp hc x hx
      cases x with
      | ref k => cases cx
      | scr k => cases cx
      | int i =>
        by_cases q1 : 0 ≤ i
        · by_cases q2 : i ≤ 999
          · simp [wipeS, okI, q1, q2, show ¬ (999 : Int) < i by omega]
          · simp [wipeS, okI, q1, q2, show (999 : Int) < i by omega]
        · simp [wipeS, okI, q1, show i < 0 by omega]
      | _ => simp [wipeS, okI]
    · simp only [ones_filter, IsS_some]
      have : ds.length ≤ 5 := by omega
      simp [goodRw, a1, this]
  · simp [d__law_is_row, h1]
    refine wcons ?_
    simp [h2]
theorem first_ok (U : SdT T) {b : Nat} {rows : List D} (hr : RwsB b rows) (hb : b ≤ 900) {ks : Kys} (hk : ks ≠ []) {s : Nat} (hs : s = 0 ∨ s = 1) :
    (callN T g wf (n + 2) "_law_first" [.lst rows, kyD ks, .int (s : Nat)] m).W (fun d m' => m' = m ∧ d = dueV (dueS (ks.map fun p => if s = 0 then p.1 else p.2) rows)) noE := by
  have hlen := hr.len
  refine W_run U.lfi rfl (wcons ?_)
  simp [d__law_first, kyD]
  refine compW_map (fun p => .int ((if s = 0 then p.1 else p.2 : Nat) : Int)) (fun p hp => ?_) ?_
  · rcases hs with rfl | rfl <;> simp [wipeS]
  have eN : (ks.map fun p => D.int ((if s = 0 then p.1 else p.2 : Nat) : Int)) = natsD (ks.map fun p => if s = 0 then p.1 else p.2) := by simp [natsD, Function.comp_def]
  have eK : D.tup (ks.map fun p => .tup [.int p.1, .int p.2]) = kyD ks := rfl
  rw [eN, eK]
  have hf : (ks.map fun p => if s = 0 then p.1 else p.2) ≠ [] := by
    intro z
    exact hk (List.map_eq_nil_iff.mp z)
  have fc := fun mm {row : Row} h => law_face_ok (g := g) (wf := wf) (n := n) (m := mm) U (row := row) (ks := ks) hs h
  generalize (ks.map fun p => if s = 0 then p.1 else p.2) = fs at *
  refine wcons ?_
  simp
  rw [walk_rng1n (by simp [big]; omega)]
  simp only [IsS_some]
  refine forL_N (fun j ρ m' => m' = m ∧ (∀ i, i < j → pR fs rows i = false) ∧ ∃ y z : Option D, ρ = [some (.lst rows), some (kyD ks), some (.int (s : Nat)), some (.lst (natsD fs)), y, z]) ⟨rfl, fun i hi => absurd hi (by omega), _, _, rfl⟩ ?_ ?_
  · rintro j hj ρ m' ⟨rfl, hp, y, z, rfl⟩
    have hj' : j < rows.length := by simpa using hj
    have eg : rows.getD j .non = rows[j] := by simp [List.getD_eq_getElem?_getD, hj']
    have ej : atI rows (j : Int) = some rows[j] := by rw [atI_cast, List.getElem?_eq_getElem hj']
    have bad : pR fs rows j = true → dueS fs rows = some (("BadRows" : Str), j) := fun h => by
      simp [dueS, fsI_hit hp hj' h]
    have nxt : pR fs rows j = false → ∀ i, i < j + 1 → pR fs rows i = false := fun h i hi => by
      rcases Nat.lt_or_ge i j with q | q
      · exact hp i q
      · have : i = j := by omega
        rw [this]; exact h
    have rt : ∀ (N : Sl → Mem → Prop), pR fs rows j = true → (evSs (feN T g wf (n + 1) noLf) (Sms.cons (Sm.ret (Ex.tup (Exs.cons (Ex.cst (D.str "BadRows")) (Exs.cons (Ex.var 4) Exs.nil)))) Sms.nil) [some (.lst rows), some (kyD ks), some (.int (s : Nat)), some (.lst (natsD fs)), some (.int (j : Int)), z] m').W N (fun d m'' => m'' = m' ∧ d = dueV (dueS fs rows)) noE := fun N h => by
      refine wcons ?_
      simp [bad h, dueV]
    simp
    refine wcons ?_
    simp [ej, is_row_ok U (hr.row _ (List.getElem_mem hj')) hf]
    refine ⟨fun h => rt _ (by simp [pR]; omega), fun h60 => Two.mk (fun h => ?_) (fun h => rt _ (by simp only [pR, eg, h]; simp))⟩
    exact nxt (by simp only [pR, eg, h]; simp; omega)
  · rintro ρ m' ⟨rfl, hp, y, z, rfl⟩
    have hp : ∀ i, i < rows.length → pR fs rows i = false := by simpa using hp
    have sh : ∀ j (h : j < rows.length), ∃ r : Row, rows[j] = rowD r ∧ (∀ f ∈ fs, f < r.length) ∧ faceD fs rows[j] = fcOf fs r := fun j h => by
      have := hp j h
      simp [pR, List.getD_eq_getElem?_getD, h] at this
      obtain ⟨r, e1, _, e2, _, e3⟩ := row_shape this.2
      exact ⟨r, e1, e2, e3⟩
    refine wcons ?_
    simp
    rw [walk_rng2i (by omega) (by omega) (by omega) (by omega)]
    simp only [IsS_some]
    refine forL_N (fun j ρ m'' => m'' = m' ∧ (∀ i, i < j + 1 → pF fs rows i = false) ∧ ∃ y z : Option D, ρ = [some (.lst rows), some (kyD ks), some (.int (s : Nat)), some (.lst (natsD fs)), y, z]) ⟨rfl, fun i hi => by simp [pF]; omega, _, _, rfl⟩ ?_ ?_
    · rintro j hj ρ m'' ⟨rfl, hq, y, z, rfl⟩
      have hj' : j + 1 < rows.length := by simp at hj; omega
      obtain ⟨r1, e1, g1, k1⟩ := sh j (by omega)
      obtain ⟨r2, e2, g2, k2⟩ := sh (j + 1) hj'
      have a1 : atI rows (1 + (j : Int)) = some (rowD r2) := by rw [atI_get (k := j + 1) (by omega), List.getElem?_eq_getElem hj', e2]
      have a2 : atI rows (1 + (j : Int) - 1) = some (rowD r1) := by rw [atI_get (k := j) (by omega), List.getElem?_eq_getElem (by omega), e1]
      have f1 := fun mm => fc mm g1
      have f2 := fun mm => fc mm g2
      have hpf : pF fs rows (j + 1) = HT.lexLt (fcOf fs r2) (fcOf fs r1) := by
        have d1 : rows.getD (j + 1) .non = rows[j + 1] := by simp [List.getD_eq_getElem?_getD, hj']
        have d2 : rows.getD j .non = rows[j] := by simp [List.getD_eq_getElem?_getD, show j < rows.length by omega]
        simp only [pF, Nat.add_sub_cancel, d1, d2, k1, k2]
        simp
      simp only [List.getElem_map, List.getElem_range, bind_one, IsS_some]
      refine wcons ?_
      simp [a1, a2, f1, f2, lt_ints]
      cases hx : HT.lexLt (fcOf fs r2) (fcOf fs r1) with
      | true =>
        simp
        refine wcons ?_
        simp [dueS, fsI_none.mpr hp, fsI_hit hq hj' (by rw [hpf]; exact hx), dueV]
        omega
      | false =>
        simp
        intro i hi
        rcases Nat.lt_or_ge i (j + 1) with q | q
        · exact hq i q
        · have : i = j + 1 := by omega
          rw [this, hpf]; exact hx
    · rintro ρ m'' ⟨rfl, hq, y, z, rfl⟩
      have : dueS fs rows = none := dueS_none.mpr ⟨hp, fun i hi => hq i (by simp; omega)⟩
      refine wcons ?_
      simp [this, dueV]
end
end BrK


set_option Elab.async false
set_option linter.all false
set_option maxRecDepth 100000
set_option maxHeartbeats 1000000
set_option autoImplicit false
/-! k13: the law. -/
namespace BrK
open PySem PySem.Spec PyProof.Rows L2 Br
structure K13T (T : List (Str × Def)) (g : Str → Option D) : Prop where
  se : SdT T
  ma : MaT T g
  sta : Has T "_law_start" d__law_start
  sam : Has T "_law_same" d__law_same
  kin : Has T "_law_kind" d__law_kind
  law : Has T "law" d_law
theorem dueS_known {fs : List Nat} {rows : List D} {c : Str} {k : Nat} (h : dueS fs rows = some (c, k)) : c = "BadRows" ∨ c = "BadOrder" := by
  unfold dueS at h
  split at h
  · cases h; exact .inl rfl
  · cases hf : fsI rows.length (pF fs rows) with
    | none => rw [hf] at h; cases h
    | some j => rw [hf] at h; cases h; exact .inr rfl
theorem dueK_known {ks : Kys} {A B : List D} {c : Str} {k : Nat} (h : dueK ks A B = some (c, k)) : c = "BadRows" ∨ c = "BadOrder" := by
  unfold dueK at h
  split at h
  · rename_i q hq
    cases h
    exact dueS_known hq
  · exact dueS_known h
theorem known2 {c : Str} {k : Nat} (h : c = "BadRows" ∨ c = "BadOrder") : c ∈ excNames ∧ ([D.int (k : Int)] : List D).length = (flds c).length ∧ kindD c [.int (k : Int)] = dueV (some (c, k)) := by
  rcases h with rfl | rfl <;> exact ⟨by decide, (show 1 = (flds _).length by decide), rfl⟩
theorem rws_of {R : List Row} {w : Nat} (h : ∀ row ∈ R, RowOk w row) (hw : w ≤ 5) (hl : R.length ≤ 70) : RwsB 0 (R.map rowD) := by
  refine ⟨by simp; omega, fun r hr => ?_⟩
  obtain ⟨row, hrow, rfl⟩ := List.mem_map.mp hr
  have := (h row hrow).1
  refine rowB_mk ?_ (by simp; omega)
  simp [cellB]
theorem xcut_take {ds : List D} {k : Nat} : Br.cutD ds none (some (k : Int)) = ds.take k := by
  unfold Br.cutD
  rw [HT.sIx_nat]
  simp [HT.sIx]
theorem Two_mid {b : Bool} {F : Fe} {s1 s2 : Sms} {ρ : Sl} {m : Mem} {N M : Sl → Mem → Prop} {R : D → Mem → Prop} {E : XQ} (h : Two b ((evSs F s1 ρ m).W M R E) ((evSs F s2 ρ m).W M R E)) (q : ∀ ρ' m', M ρ' m' → N ρ' m') : Two b ((evSs F s1 ρ m).W N R E) ((evSs F s2 ρ m).W N R E) := by
  cases b with
  | true => exact Two_true.mpr ((Two_true.mp h).mono q fun _ _ z => z)
  | false => exact Two_false.mpr ((Two_false.mp h).mono q fun _ _ z => z)
section
variable {T : List (Str × Def)} {g : Str → Option D} {wf n : Nat} {m : Mem} {ns : List Int} {rest : Mem}
theorem told13 (U : K13T T g) {A B : List D} (h1 : RwsB 100 A) (h2 : RwsB 100 B) {ks : Kys} (hk : 1 ≤ ks.length ∧ ks.length ≤ 3) (h5 : ∀ p ∈ ks, p.1 ≤ 4 ∧ p.2 ≤ 4) (hwf : wf = 1000) {L : Lf} (hL : ∀ (Q : D → Mem → Prop) (E : XQ), (callN T g wf (n + 4) "matched" [.lst A, .lst B, kyD ks] m).W Q E → (L (callN T g wf (n + 4)) [] m).W Q E) :
    (runN T g wf (n + 7) "_law_kind" L [] m).W (fun d m' => (dueK ks A B ≠ none ∧ m' = m ∧ d = dueV (dueK ks A B)) ∨ (dueK ks A B = none ∧ ∃ l : List MtE, d = .ref m.length ∧ m' = XM m l)) noE := by
  refine law_kind_ok U.kin (hL _ _ ((matched_all U.ma h1 h2 (by omega) hk h5 hwf).monoE (fun d m' z => .inr z) ?_))
  rintro c ds m' ⟨rfl, k, e, rfl⟩
  obtain ⟨k1, k2, k3⟩ := known2 (k := k) (dueK_known e)
  exact ⟨k1, k2, .inl ⟨by simp [e], rfl, by rw [e]; exact k3⟩⟩
theorem told_bad (U : K13T T g) {A B : D} {L : Lf} (hL : ∀ (Q : D → Mem → Prop) (E : XQ), (∀ (m' : Mem) (d : D), St ns rest m' → keysB d = true → goodKs d = false → (callN T g wf (n + 4) "matched" [A, B, d] m').W Q E) → (L (callN T g wf (n + 4)) [] m).W Q E) :
    (runN T g wf (n + 7) "_law_kind" L [] m).W (fun d m' => d = .str "BadKeys" ∧ St ns rest m') noE := by
  refine law_kind_ok U.kin (hL _ _ fun m' d s k1 k2 => (matched_bad U.ma k1 k2).monoE (fun _ _ z => z.elim) ?_)
  rintro c ds m2 ⟨rfl, rfl, rfl⟩
  exact ⟨by decide, by decide, rfl, s⟩
def LawI (ns : List Int) (ρ : Sl) (m : Mem) : Prop := ∃ (rest : Mem) (a2 a3 a4 a5 a6 a7 a8 a9 a10 a11 a12 : Option D), UM rest ∧ St ns rest m ∧ ρ = [some (.scr ns), some (.ref 0), a2, a3, a4, a5, a6, a7, a8, a9, a10, a11, a12]
def ChI (ns : List Int) (rest : Mem) (t nr w f : Option D) (ks : Kys) (k : Nat) (ρ : Sl) (m : Mem) : Prop := ∃ (A B : List D) (a9 a10 a11 a12 : Option D), St ns rest m ∧ RwsB (5 * k) A ∧ RwsB (5 * k) B ∧ ρ = [some (.scr ns), some (.ref 0), t, nr, some (.lst A), w, some (.lst B), f, some (kyD ks), a9, a10, a11, a12]
def tail13 : Sms := (Sms.cons (Sm.asg (Tg.one 12) (Ex.lst true (Exs.cons (Ex.tup Exs.nil) (Exs.cons (Ex.bin Bop.add (Ex.var 8) (Ex.bin Bop.mul (Ex.tup (Exs.cons (Ex.tup (Exs.cons (Ex.cst (D.int 0)) (Exs.cons (Ex.cst (D.int 0)) Exs.nil))) Exs.nil)) (Ex.cst (D.int 3)))) (Exs.cons (Ex.bin Bop.add (Ex.sli (Ex.var 8) (Exs.cons (Ex.cst (D.int 1)) Exs.nil) Exs.nil) (Ex.tup (Exs.cons (Ex.tup (Exs.cons (Ex.cst (D.int 5)) (Exs.cons (Ex.cst (D.int 0)) Exs.nil))) Exs.nil))) (Exs.cons (Ex.bin Bop.add (Ex.sli (Ex.var 8) Exs.nil (Exs.cons (Ex.cst (D.int 1)) Exs.nil)) (Ex.tup (Exs.cons (Ex.tup (Exs.cons (Ex.cst (D.int 0)) (Exs.cons (Ex.bin Bop.sub (Ex.cst (D.int 0)) (Ex.cst (D.int 1))) Exs.nil))) Exs.nil))) (Exs.cons (Ex.bin Bop.add (Ex.sli (Ex.var 8) Exs.nil (Exs.cons (Ex.cst (D.int 2)) Exs.nil)) (Ex.tup (Exs.cons (Ex.tup (Exs.cons (Ex.cst (D.int 0)) Exs.nil)) Exs.nil))) Exs.nil)))))))
 (Sms.cons (Sm.asg (Tg.one 12) (Ex.bin Bop.add (Ex.var 12) (Ex.lst true (Exs.cons (Ex.tup (Exs.cons (Ex.tup (Exs.cons (Ex.cst (D.int 0)) (Exs.cons (Ex.cst (D.int 0)) (Exs.cons (Ex.cst (D.int 0)) Exs.nil)))) Exs.nil)) (Exs.cons (Ex.tup (Exs.cons (Ex.cst (D.int 0)) (Exs.cons (Ex.cst (D.int 0)) Exs.nil))) (Exs.cons (Ex.tup (Exs.cons (Ex.tup (Exs.cons (Ex.bin Bop.pow (Ex.cst (D.int 10)) (Ex.cst (D.int 20))) (Exs.cons (Ex.cst (D.int 0)) Exs.nil))) Exs.nil)) (Exs.cons (Ex.cst (D.int 0)) Exs.nil)))))))
 (Sms.cons (Sm.iff (Ex.cmp Cop.ne (Ex.hof "_law_kind" Exs.nil 0 [4, 6, 12, 1] (Ex.call "matched" (Exs.cons (Ex.var 0) (Exs.cons (Ex.var 1) (Exs.cons (Ex.idx (Ex.var 2) (Ex.call "_law_drawn" (Exs.cons (Ex.var 3) (Exs.cons (Ex.cst (D.int 9)) Exs.nil)))) Exs.nil))))) (Ex.cst (D.str "BadKeys"))) (Sms.cons (Sm.ret (Ex.cst (D.bl false)))
 Sms.nil) Sms.nil)
 Sms.nil)))
theorem kb_keys {ks : Kys} : ∀ x ∈ ks.map fun p : Nat × Nat => D.tup [D.int p.1, D.int p.2], keyB x = true := fun x hx => by
  obtain ⟨p, _, rfl⟩ := List.mem_map.mp hx
  rfl
theorem kb_mk {l : List D} (h : ∀ x ∈ l, keyB x = true) (hl : l.length ≤ 1000) : keysB (.tup l) = true := by
  simp only [keysB, Bool.and_eq_true, List.all_eq_true, decide_eq_true_eq]
  exact ⟨h, hl⟩
theorem kg_bad {l : List D} {x : D} (h : x ∈ l) (hx : goodKp x = false) : goodKs (.tup l) = false := by
  have : l.all goodKp = false := by rw [List.all_eq_false]; exact ⟨x, h, by simp [hx]⟩
  simp only [goodKs, this, Bool.and_false]
theorem tail_ok (U : K13T T g) {A B : List D} {ks : Kys} (hk : 1 ≤ ks.length ∧ ks.length ≤ 3) (hp : UM rest) (hs : St ns rest m) {a2 a3 a5 a7 a9 a10 a11 a12 : Option D} :
    (evSs (feN T g wf (n + 9) noLf) tail13 [some (.scr ns), some (.ref 0), a2, a3, some (.lst A), a5, some (.lst B), a7, some (kyD ks), a9, a10, a11, a12] m).W (fun ρ' m' => LawI ns ρ' m') (fun d _ => d = .bl true) noE := by
  have c1 : Br.cutD (ks.map fun p : Nat × Nat => D.tup [D.int p.1, D.int p.2]) (some 1) none = (ks.map fun p : Nat × Nat => D.tup [D.int p.1, D.int p.2]).drop 1 := xcut_from (k := 1) (by simp; omega)
  have c2 : Br.cutD (ks.map fun p : Nat × Nat => D.tup [D.int p.1, D.int p.2]) none (some 1) = (ks.map fun p : Nat × Nat => D.tup [D.int p.1, D.int p.2]).take 1 := xcut_take (k := 1)
  have c3 : Br.cutD (ks.map fun p : Nat × Nat => D.tup [D.int p.1, D.int p.2]) none (some 2) = (ks.map fun p : Nat × Nat => D.tup [D.int p.1, D.int p.2]).take 2 := xcut_take (k := 2)
  have kk := kb_keys (ks := ks)
  have kl : (ks.map fun p : Nat × Nat => D.tup [D.int p.1, D.int p.2]).length = ks.length := by simp
  simp only [kyD]
  generalize (ks.map fun p : Nat × Nat => D.tup [D.int p.1, D.int p.2]) = K at *
  refine wcons ?_
  simp [c1, c2, c3, repL]
  refine ⟨fun _ => ⟨fun _ => ⟨fun _ => ⟨fun _ => ?_, by omega⟩, by omega⟩, by omega⟩, by omega⟩
  refine wcons ?_
  simp
  refine wcons ?_
  simp only [Ws_iff, W_cmp, W_hof, feN_hof, W_nil]
  have bads : ∀ x ∈ [D.tup [], D.tup (K ++ [D.tup [D.int 0, D.int 0], D.tup [D.int 0, D.int 0], D.tup [D.int 0, D.int 0]]), D.tup (K.tail ++ [D.tup [D.int 5, D.int 0]]), D.tup (List.take 1 K ++ [D.tup [D.int 0, D.int (-1)]]), D.tup (List.take 2 K ++ [D.tup [D.int 0]]), D.tup [D.tup [D.int 0, D.int 0, D.int 0]], D.tup [D.int 0, D.int 0], D.tup [D.tup [D.int 100000000000000000000, D.int 0]], D.int 0], keysB x = true ∧ goodKs x = false := by
    intro x hx
    have app : ∀ (l r : List D), (∀ x ∈ l, keyB x = true) → (∀ x ∈ r, keyB x = true) → l.length ≤ 500 → r.length ≤ 500 → keysB (.tup (l ++ r)) = true := fun l r h1 h2 h3 h4 => kb_mk (fun x hx => by
      rcases List.mem_append.mp hx with z | z
      · exact h1 x z
      · exact h2 x z) (by rw [List.length_append]; omega)
    simp only [List.mem_cons, List.not_mem_nil, or_false] at hx
    rcases hx with rfl | rfl | rfl | rfl | rfl | rfl | rfl | rfl | rfl
    · exact ⟨rfl, rfl⟩
    · refine ⟨app _ _ kk (by simp [keyB, cellB]) (by omega) (by simp), ?_⟩
      have kn : K ≠ [] := by
        intro z
        rw [z] at kl
        simp at kl
        omega
      simp [goodKs, kn]
    · exact ⟨app _ _ (fun x hx => kk x (List.mem_of_mem_tail hx)) (by simp [keyB, cellB]) (by simp; omega) (by simp), kg_bad (x := D.tup [D.int 5, D.int 0]) (by simp) rfl⟩
    · exact ⟨app _ _ (fun x hx => kk x (List.mem_of_mem_take hx)) (by simp [keyB, cellB]) (by simp; omega) (by simp), kg_bad (x := D.tup [D.int 0, D.int (-1)]) (by simp) rfl⟩
    · exact ⟨app _ _ (fun x hx => kk x (List.mem_of_mem_take hx)) (by simp [keyB, cellB]) (by simp; omega) (by simp), kg_bad (x := D.tup [D.int 0]) (by simp) rfl⟩
    · exact ⟨rfl, rfl⟩
    · exact ⟨rfl, rfl⟩
    · exact ⟨rfl, rfl⟩
    · exact ⟨rfl, rfl⟩
  refine (told_bad (n := n + 2) (ns := ns) (rest := rest) (A := .lst A) (B := .lst B) U fun Q E h => ?_).mono ?_
  · simp [capS, getS]
    refine Res.W.lift (drawA (n := n + 5) U.se hs (by omega) (by omega) fun i m1 b1 b2 s1 => ?_)
    obtain ⟨x, hx, ex⟩ := pick_mem (l := [D.tup [], D.tup (K ++ [D.tup [D.int 0, D.int 0], D.tup [D.int 0, D.int 0], D.tup [D.int 0, D.int 0]]), D.tup (K.tail ++ [D.tup [D.int 5, D.int 0]]), D.tup (List.take 1 K ++ [D.tup [D.int 0, D.int (-1)]]), D.tup (List.take 2 K ++ [D.tup [D.int 0]]), D.tup [D.tup [D.int 0, D.int 0, D.int 0]], D.tup [D.int 0, D.int 0], D.tup [D.tup [D.int 100000000000000000000, D.int 0]], D.int 0]) b1 (by simpa using b2)
    simp [ex]
    exact h m1 x s1 (bads x hx).1 (bads x hx).2
  · rintro d m1 ⟨rfl, s1⟩
    simp
    exact ⟨_, _, _, _, _, _, _, _, _, _, _, _, hp, s1, rfl⟩
theorem law_okW (U : K13T T g) (ns : List Int) (hwf : wf = 1000) : ∃ m', callN T g wf (n + 10) "law" [.scr ns] [] = .ok (.bl true) m' := by
  suffices h : (callN T g wf (n + 10) "law" [.scr ns] []).W (fun d _ => d = .bl true) noE by
    obtain ⟨d, m', e, rfl⟩ := ok_of_W h
    exact ⟨m', e⟩
  refine W_run U.law rfl (wcons ?_)
  simp [d_law]
  refine (start (n := n + 8) U.sta).mono fun d m0 ⟨hd, s0⟩ => ?_
  subst hd
  refine wcons ?_
  simp [show walkD m0 .rng1 [.int 3] = some ((List.range 3).map fun (i : Nat) => D.int (i : Int)) from rfl]
  refine forL_N (fun j ρ m => LawI ns ρ m) ⟨[], none, none, none, none, none, none, none, none, none, none, none, UM.nil, s0, rfl⟩ ?_ ?_
  · rintro j hj ρ m ⟨rest, a2, a3, a4, a5, a6, a7, a8, a9, a10, a11, a12, hp, hs, rfl⟩
    simp at hj
    simp
    refine wcons ?_
    simp
    refine drawA U.se hs (by omega) (by omega) fun i1 m1 b1 b2 s1 => ?_
    obtain ⟨near, en, hn1, hn2⟩ : ∃ near : Int, atI [D.int 1, D.int 2, D.int 4] i1 = some (.int near) ∧ 0 < near ∧ near ≤ 1000 := by
      obtain ⟨x, hx, ex⟩ := pick_mem (l := [D.int 1, D.int 2, D.int 4]) b1 (by simpa using b2)
      simp only [List.mem_cons, List.not_mem_nil, or_false] at hx
      rcases hx with rfl | rfl | rfl <;> exact ⟨_, ex, by decide, by decide⟩
    simp [en]
    refine wcons ?_
    obtain ⟨most, em, hm1⟩ : ∃ most : Nat, atI [D.int 4, D.int 20, D.int 62] ((j : Nat) : Int) = some (.int (most : Nat)) ∧ most ≤ 62 := by
      rcases (by omega : j = 0 ∨ j = 1 ∨ j = 2) with rfl | rfl | rfl
      · exact ⟨4, rfl, by decide⟩
      · exact ⟨20, rfl, by decide⟩
      · exact ⟨62, rfl, by decide⟩
    simp [em]
    refine thawU_side U.se s1 hp hn1 hn2 (by omega) fun A0 wA m2 c1 c2 c3 c4 s2 => ?_
    simp
    refine wcons ?_
    obtain ⟨most2, em2, hm2⟩ : ∃ most : Nat, atI [D.int 62, D.int 4, D.int 20] ((j : Nat) : Int) = some (.int (most : Nat)) ∧ most ≤ 62 := by
      rcases (by omega : j = 0 ∨ j = 1 ∨ j = 2) with rfl | rfl | rfl
      · exact ⟨62, rfl, by decide⟩
      · exact ⟨4, rfl, by decide⟩
      · exact ⟨20, rfl, by decide⟩
    simp [em2]
    refine thawU_side U.se s2 hp hn1 hn2 (by omega) fun B0 wB m3 d1 d2 d3 d4 s3 => ?_
    simp
    refine wcons ?_
    simp
    refine law_keys_ok U.se s3 ⟨c2, c3⟩ ⟨d2, d3⟩ fun ks m4 hks s4 => ?_
    try simp
    have hk13 : 1 ≤ ks.length ∧ ks.length ≤ 3 := ⟨hks.l1, hks.l3⟩
    have h5 : ∀ p ∈ ks, p.1 ≤ 4 ∧ p.2 ≤ 4 := fun p hp => by
      have := hks.lt p hp
      omega
    have low : (feN T g wf (n + 9) noLf).low = some (callN T g wf (n + 7)) := rfl
    have eA : (ks.map fun p : Nat × Nat => if (0 : Nat) = 0 then p.1 else p.2) = ks.map (·.1) := by simp
    have eB : (ks.map fun p : Nat × Nat => if (1 : Nat) = 0 then p.1 else p.2) = ks.map (·.2) := by simp
    have rA0 := rws_of c4 c3 (by omega)
    have rB0 := rws_of d4 d3 (by omega)
    refine wcons ?_
    simp only [Ws_iff]
    simp only [W_cmp, W_call, W_cons, W_var, W_cst, W_nil, List.getElem?_cons_succ, List.getElem?_cons_zero, IsS_some]
    refine drawA U.se s4 (by omega) (by omega) fun i5 m5 b5 b6 s5 => ?_
    rw [show cmpD m5 .gt (.int i5) (.int 0) = some (decide (i5 > 0)) from rfl]
    simp only [IsS_some]
    show Two (decide (i5 > 0)) _ _
    refine Two_mid (M := fun ρ' m' => ∃ A B : List D, RwsB 0 A ∧ RwsB 0 B ∧ St ns rest m' ∧ ρ' = [some (.scr ns), some (.ref 0), some (.int (j : Nat)), some (.int near), some (.lst A), some (.int (wA : Nat)), some (.lst B), some (.int (wB : Nat)), some (kyD ks), a9, a10, a11, a12]) (Two.mk (fun _ => ?_) (fun _ => ?_)) ?_
    · obtain ⟨l1, q1, q2, q3⟩ := sort_face (g := g) (wf := wf) (n := n + 6) (m := m5) U.se (s := 0) (.inl rfl) hks.l1 c4 (fun p hp => (hks.lt p hp).1) (ρ := [some (.scr ns), some (.ref 0), some (.int (j : Nat)), some (.int near), some (rowsD A0), some (.int (wA : Nat)), some (rowsD B0), some (.int (wB : Nat)), some (kyD ks), a9, a10, a11, a12]) rfl (x := D.int 0) rfl
      rw [eA] at q3
      have lr : ∀ mm (R : List Row), lstD mm (rowsD R) = some (R.map rowD) := fun mm R => rfl
      refine wcons ?_
      simp only [Ws_asg, W_sortK, W_var, List.getElem?_cons_succ, List.getElem?_cons_zero, IsS_some, low, lr, q1, q2, q3, true_and, bind_one, List.set_cons_succ, List.set_cons_zero]
      refine wcons ?_
      generalize eA1 : srtF (ks.map (·.1)) A0 = A1
      have hA1 : RwsB 0 (A1.map rowD) := by
        have hp := srtF_perm (ks.map (·.1)) A0
        rw [eA1] at hp
        exact rws_of (fun row h => c4 row (hp.mem_iff.mp h)) c3 (by rw [hp.length_eq]; omega)
      obtain ⟨l2, r1, r2, r3⟩ := sort_face (g := g) (wf := wf) (n := n + 6) (m := m5) U.se (s := 1) (.inr rfl) hks.l1 d4 (fun p hp => (hks.lt p hp).2) (ρ := [some (.scr ns), some (.ref 0), some (.int (j : Nat)), some (.int near), some (.lst (A1.map rowD)), some (.int (wA : Nat)), some (rowsD B0), some (.int (wB : Nat)), some (kyD ks), a9, a10, a11, a12]) rfl (x := D.int 1) rfl
      rw [eB] at r3
      simp only [Ws_asg, W_sortK, W_var, List.getElem?_cons_succ, List.getElem?_cons_zero, IsS_some, low, lr, r1, r2, r3, true_and, bind_one, List.set_cons_succ, List.set_cons_zero]
      generalize eB1 : srtF (ks.map (·.2)) B0 = B1
      have hB1 : RwsB 0 (B1.map rowD) := by
        have hp := srtF_perm (ks.map (·.2)) B0
        rw [eB1] at hp
        exact rws_of (fun row h => d4 row (hp.mem_iff.mp h)) d3 (by rw [hp.length_eq]; omega)
      simp
      exact ⟨_, hA1, _, hB1, s5, rfl, rfl⟩
    · simp
      exact ⟨_, rA0, _, rB0, s5, rfl, rfl⟩
    rintro ρ' m' ⟨A, B, hA, hB, s6, rfl⟩
    refine wcons ?_
    simp
    refine drawA U.se s6 (by omega) (by omega) fun c4 m7 a7 b7 s7 => ?_
    rw [walk_rng1i a7 (by simp [big]; omega)]
    simp only [IsS_some]
    refine forL_N (fun k ρ m => ChI ns rest (some (.int (j : Nat))) (some (.int near)) (some (.int (wA : Nat))) (some (.int (wB : Nat))) ks k ρ m) ⟨A, B, _, _, _, _, s7, hA, hB, rfl⟩ ?_ ?_
    · rintro k hk ρ m ⟨A, B, a9, a10, a11, a12, s8, hA, hB, rfl⟩
      have hk2 : k < 3 := by simp at hk; omega
      simp
      refine wcons ?_
      simp
      refine drawA U.se s8 (by omega) (by omega) fun c5 m9 a9 b9 s9 => ?_
      simp
      refine ⟨fun _ => ?_, fun _ => ?_⟩
      · refine wcons ?_
        simp
        refine other_made U.se s9 (by omega) hA fun l m' z1 z3 => ?_
        try simp
        exact ⟨l, B, _, _, _, _, z3, z1.up (by omega), hB.up (by omega), rfl⟩
      · refine wcons ?_
        simp
        refine other_made U.se s9 (by omega) hB fun l m' z1 z3 => ?_
        try simp
        exact ⟨A, l, _, _, _, _, z3, hA.up (by omega), z1.up (by omega), rfl⟩
    · rintro ρ m ⟨A, B, a9, a10, a11, a12, s8, hA, hB, rfl⟩
      simp at hA hB
      have hA := hA.up (show 5 * c4.toNat ≤ 100 by omega)
      have hB := hB.up (show 5 * c4.toNat ≤ 100 by omega)
      have hkn : ks ≠ [] := by intro z; subst z; simp at hk13
      have fA := fun mm => first_ok (g := g) (wf := wf) (n := n + 7) (m := mm) U.se hA (by omega) hkn (s := 0) (.inl rfl)
      have fB := fun mm => first_ok (g := g) (wf := wf) (n := n + 7) (m := mm) U.se hB (by omega) hkn (s := 1) (.inr rfl)
      rw [eA] at fA
      rw [eB] at fB
      refine wcons ?_
      simp
      refine (fA _).mono ?_
      rintro d m' ⟨em, rfl⟩
      subst em
      refine wcons ?_
      have dueE : ∀ (Q : D → Mem → Prop) (E : XQ), Q (dueV (dueK ks A B)) m' → IsS (cmpD m' .isn (dueV (dueS (ks.map (·.1)) A)) .non) fun d => IsB (.bl d) fun t => Two t ((evE (feN T g wf (n + 9) noLf) (Ex.call "_law_first" (Exs.cons (Ex.var 6) (Exs.cons (Ex.var 8) (Exs.cons (Ex.cst (D.int 1)) Exs.nil)))) [some (.scr ns), some (.ref 0), some (.int (j : Nat)), some (.int near), some (.lst A), some (.int (wA : Nat)), some (.lst B), some (.int (wB : Nat)), some (kyD ks), a9, some (dueV (dueS (ks.map (·.1)) A)), a11, a12] m').W Q E) (Q (dueV (dueS (ks.map (·.1)) A)) m') := by
        intro Q E hq
        cases hd : dueS (ks.map (·.1)) A with
        | none =>
          simp [dueV]
          refine Res.W.lift ((fB m').mono ?_)
          rintro d m2 ⟨rfl, rfl⟩
          simpa [dueK, hd] using hq
        | some q =>
          simp [dueV]
          simpa [dueK, hd, dueV] using hq
      simp only [Ws_asg, W_ite, W_cmp, W_var, W_cst, List.getElem?_cons_succ, List.getElem?_cons_zero, IsS_some, List.set_cons_succ, List.set_cons_zero, bind_one]
      refine dueE _ _ ?_
      refine wcons ?_
      simp only [Ws_asg, W_hof, feN_hof, W_nil]
      refine (told13 (n := n + 2) U hA hB hk13 h5 hwf fun Q E h => by simpa [capS, getS] using h).mono ?_
      have s8 : St ns rest m' := s8
      have fin : ∀ (a11 : D) (m2 : Mem) (rest2 : Mem), UM rest2 → St ns rest2 m2 → True := fun _ _ _ _ _ => trivial
      rintro d m2 (⟨hne, rfl, rfl⟩ | ⟨hnn, L, rfl, rfl⟩)
      · obtain ⟨⟨c, k⟩, hq⟩ := Option.ne_none_iff_exists'.mp hne
        rw [hq]
        have sm := same_frz (g := g) (wf := wf) (m := m2) (k := n + 8) (d := dueV (some (c, k))) (d' := dueV (some (c, k))) U.sam (frz_pure rfl) rfl (by simp [dueV, wid, wids]) (by simp [dueV, D.dep, D.deps])
        simp only [dueV] at sm
        simp only [dueV, bind_one, IsS_some, List.set_cons_succ, List.set_cons_zero]
        refine wcons ?_
        simp [sm]
        exact tail_ok U hk13 hp s8
      · have e0 := XM_0 (m := m') (L := L)
        rw [hnn]
        simp only [dueV, bind_one, IsS_some, List.set_cons_succ, List.set_cons_zero]
        refine wcons ?_
        simp [ty_refL e0]
        obtain ⟨u, v, w, h0, rfl⟩ := s8
        exact tail_ok U hk13 (hp.told rfl L) ⟨u, v, w, h0, rfl⟩
  · rintro ρ m ⟨rest, a2, a3, a4, a5, a6, a7, a8, a9, a10, a11, a12, hp, hs, rfl⟩
    refine wcons ?_
    simp
theorem law_ok (U : K13T T g) (ns : List Int) : ∃ m', callN T g 1000 (n + 10) "law" [.scr ns] [] = .ok (.bl true) m' := law_okW U ns rfl
end
end BrK


set_option Elab.async false
set_option linter.all false
set_option maxRecDepth 100000
set_option maxHeartbeats 1000000
set_option autoImplicit false
namespace BrK
open PySem PySem.Spec PyProof.Rows L2 Br
def topS (i : Nat) : Stmt := PySem.Challenge.pw_breakreports_k13_sides_refused_anywhere.main.body.getD i (.Pass ⟨0, 0, 0, 0⟩)
def e_is_number : Ent := ⟨"is_number", d_is_number, ["thing", "low", "high"], ["thing", "low", "high"], topS 16, false, false, false⟩

def e_need_keys : Ent := ⟨"need_keys", d_need_keys, ["keys", "pair", "field"], ["keys"], topS 18, false, false, true⟩

def e_need_side : Ent := ⟨"need_side", d_need_side, ["rows", "fields", "number", "row", "one"], ["rows", "fields"], topS 19, false, false, true⟩

def e_face : Ent := ⟨"face", d_face, ["row", "fields", "field"], ["row", "fields"], topS 20, false, false, false⟩

def e_matched : Ent := ⟨"matched", d_matched, ["one", "other", "keys", "sides", "found", "at", "to", "heads", "key", "mine", "others", "side", "pair"], ["one", "other", "keys"], topS 21, false, false, false⟩

def e__law_start : Ent := ⟨"_law_start", d__law_start, ["_law_script", "_law_mixed", "_law_cell"], ["_law_script"], topS 23, false, false, false⟩

def e__law_drawn : Ent := ⟨"_law_drawn", d__law_drawn, ["_law_state", "_law_many", "_law_found", "_law_cell"], ["_law_state", "_law_many"], topS 24, false, false, false⟩

def e__law_same : Ent := ⟨"_law_same", d__law_same, ["_law_found", "_law_due", "_law_alike", "_law_k"], ["_law_found", "_law_due"], topS 25, false, false, false⟩

def e__law_kind : Ent := ⟨"_law_kind", d__law_kind, ["_law_work", "e", "_law_kinds", "_law_words", "_law_word"], ["_law_work"], topS 26, true, false, true⟩

def e__law_side : Ent := ⟨"_law_side", d__law_side, ["_law_state", "_law_near", "_law_most", "_law_wide", "_law_found", "_law_k", "_law_at"], ["_law_state", "_law_near", "_law_most"], topS 27, false, false, false⟩

def e__law_keys : Ent := ⟨"_law_keys", d__law_keys, ["_law_state", "_law_wide", "_law_far", "_law_many", "_law_k"], ["_law_state", "_law_wide", "_law_far"], topS 28, false, false, false⟩

def e__law_face : Ent := ⟨"_law_face", d__law_face, ["_law_row", "_law_keys_here", "_law_side_here", "_law_pair"], ["_law_row", "_law_keys_here", "_law_side_here"], topS 29, false, false, false⟩

def e__law_other : Ent := ⟨"_law_other", d__law_other, ["_law_state", "_law_rows", "_law_k", "_law_j", "_law_row", "_law_at", "_law_odd", "_law_some"], ["_law_state", "_law_rows"], topS 30, false, false, false⟩

def e__law_is_row : Ent := ⟨"_law_is_row", d__law_is_row, ["_law_row", "_law_fields", "_law_one"], ["_law_row", "_law_fields"], topS 31, false, false, false⟩

def e__law_first : Ent := ⟨"_law_first", d__law_first, ["_law_rows", "_law_keys_here", "_law_side_here", "_law_fields", "_law_k", "_law_pair"], ["_law_rows", "_law_keys_here", "_law_side_here"], topS 32, false, false, false⟩

def e_law : Ent := ⟨"law", d_law, ["_law_script", "_law_state", "_law_turn", "_law_near", "_law_one", "_law_wide", "_law_other_here", "_law_far", "_law_keys_here", "_law_change", "_law_due", "_law_told", "_law_bad"], ["_law_script"], topS 33, false, true, false⟩

def ents : List Ent := [e_is_number, e_need_keys, e_need_side, e_face, e_matched, e__law_start, e__law_drawn, e__law_same, e__law_kind, e__law_side, e__law_keys, e__law_face, e__law_other, e__law_is_row, e__law_first, e_law]
def gl : List (Str × D) := [("MOST_FIELDS", (D.int 5)), ("MOST_KEYS", (D.int 3)), ("MOST_ROWS", (D.int 60)), ("MOST_WORTH", (D.int 999))]
def xl : List (Str × Stmt) := [("BadReport", inClass (topS 2) 0), ("BadRows", inClass (topS 6) 0), ("BadOrder", inClass (topS 7) 0), ("BadPlan", inClass (topS 8) 0), ("BadMoves", inClass (topS 9) 0), ("BadText", inClass (topS 10) 0)]
theorem ents_ok : ents.all (entB ents) = true := by decide +kernel
theorem ents_nd : (ents.map (·.name)).Nodup := by decide +kernel
theorem gl_ok : gl.all gloB = true := by decide +kernel
theorem xl_ok : xlB ents xl = true := by decide +kernel
theorem bo_is_number : BindOk e_is_number := fun _ _ _ _ _ _ us hl => match us, hl with | [_, _, _], _ => rfl
theorem bo_need_keys : BindOk e_need_keys := fun _ _ _ _ _ _ us hl => match us, hl with | [_], _ => rfl
theorem bo_need_side : BindOk e_need_side := fun _ _ _ _ _ _ us hl => match us, hl with | [_, _], _ => rfl
theorem bo_face : BindOk e_face := fun _ _ _ _ _ _ us hl => match us, hl with | [_, _], _ => rfl
theorem bo_matched : BindOk e_matched := fun _ _ _ _ _ _ us hl => match us, hl with | [_, _, _], _ => rfl
theorem bo__law_start : BindOk e__law_start := fun _ _ _ _ _ _ us hl => match us, hl with | [_], _ => rfl
theorem bo__law_drawn : BindOk e__law_drawn := fun _ _ _ _ _ _ us hl => match us, hl with | [_, _], _ => rfl
theorem bo__law_same : BindOk e__law_same := fun _ _ _ _ _ _ us hl => match us, hl with | [_, _], _ => rfl
theorem bo__law_kind : BindOk e__law_kind := fun _ _ _ _ _ _ us hl => match us, hl with | [_], _ => rfl
theorem bo__law_side : BindOk e__law_side := fun _ _ _ _ _ _ us hl => match us, hl with | [_, _, _], _ => rfl
theorem bo__law_keys : BindOk e__law_keys := fun _ _ _ _ _ _ us hl => match us, hl with | [_, _, _], _ => rfl
theorem bo__law_face : BindOk e__law_face := fun _ _ _ _ _ _ us hl => match us, hl with | [_, _, _], _ => rfl
theorem bo__law_other : BindOk e__law_other := fun _ _ _ _ _ _ us hl => match us, hl with | [_, _], _ => rfl
theorem bo__law_is_row : BindOk e__law_is_row := fun _ _ _ _ _ _ us hl => match us, hl with | [_, _], _ => rfl
theorem bo__law_first : BindOk e__law_first := fun _ _ _ _ _ _ us hl => match us, hl with | [_, _, _], _ => rfl
theorem bo_law : BindOk e_law := fun _ _ _ _ _ _ us hl => match us, hl with | [_], _ => rfl
theorem bo : ∀ e ∈ ents, BindOk e := by
  intro e he
  simp only [ents, List.mem_cons, List.not_mem_nil, or_false] at he
  rcases he with rfl | rfl | rfl | rfl | rfl | rfl | rfl | rfl | rfl | rfl | rfl | rfl | rfl | rfl | rfl | rfl
  · exact bo_is_number
  · exact bo_need_keys
  · exact bo_need_side
  · exact bo_face
  · exact bo_matched
  · exact bo__law_start
  · exact bo__law_drawn
  · exact bo__law_same
  · exact bo__law_kind
  · exact bo__law_side
  · exact bo__law_keys
  · exact bo__law_face
  · exact bo__law_other
  · exact bo__law_is_row
  · exact bo__law_first
  · exact bo_law
theorem bi_BadReport : BindI "BadReport" (inClass (topS 2) 0) := fun _ _ _ _ _ _ us hl => match us, hl with | [_, _, _], _ => rfl
theorem bi_BadRows : BindI "BadRows" (inClass (topS 6) 0) := fun _ _ _ _ _ _ us hl => match us, hl with | [_, _], _ => rfl
theorem bi_BadOrder : BindI "BadOrder" (inClass (topS 7) 0) := fun _ _ _ _ _ _ us hl => match us, hl with | [_, _], _ => rfl
theorem bi_BadPlan : BindI "BadPlan" (inClass (topS 8) 0) := fun _ _ _ _ _ _ us hl => match us, hl with | [_, _], _ => rfl
theorem bi_BadMoves : BindI "BadMoves" (inClass (topS 9) 0) := fun _ _ _ _ _ _ us hl => match us, hl with | [_, _], _ => rfl
theorem bi_BadText : BindI "BadText" (inClass (topS 10) 0) := fun _ _ _ _ _ _ us hl => match us, hl with | [_, _], _ => rfl
theorem bi : ∀ q ∈ xl, BindI q.1 q.2 := by
  intro q hq
  simp only [xl, List.mem_cons, List.not_mem_nil, or_false] at hq
  rcases hq with rfl | rfl | rfl | rfl | rfl | rfl
  · exact bi_BadReport
  · exact bi_BadRows
  · exact bi_BadOrder
  · exact bi_BadPlan
  · exact bi_BadMoves
  · exact bi_BadText
abbrev R : PySem.W.OpenRow := PySem.W.OpenLaw.row PySem.Challenge.rw_breakreports_k13_sides_refused_anywhere
abbrev hk : PySem.W.Hook := hookY 6 (faOf ents gl) (dfOf ents xl) (tfOf ents) (exOf ents gl)
def ob (s : PySem.W.SharedT) : He.AlX := obsY 6 (faOf ents gl) (dfOf ents xl) (tfOf ents) (exOf ents gl) (HandSHeadRun.getT s)
theorem ob_eq (s : PySem.W.SharedT) : ob s = hk.obs s.abs := obsY_eq (HandSHeadRun.getT_eq s)
def loose : List Str := [("ReportError" : Str), ("BadReport" : Str), ("BadSize" : Str), ("BadAgain" : Str), ("BadKeys" : Str), ("BadRows" : Str), ("BadOrder" : Str), ("BadPlan" : Str), ("BadMoves" : Str), ("BadText" : Str), ("MOST_FIELDS" : Str), ("MOST_KEYS" : Str), ("MOST_ROWS" : Str), ("MOST_WORTH" : Str), ("is_number" : Str), ("need_keys" : Str), ("need_side" : Str), ("face" : Str), ("matched" : Str), ("_law_start" : Str), ("_law_drawn" : Str), ("_law_same" : Str), ("_law_kind" : Str), ("_law_side" : Str), ("_law_keys" : Str), ("_law_face" : Str), ("_law_other" : Str), ("_law_is_row" : Str), ("_law_first" : Str)]
theorem run (w : World) : HandSHeadRun.RunEq R (PySem.W.view R.prog [33]) hk ob 4000 loose w := by
  intro os
  kernel_rfl
end BrK
open PySem PySem.W PySem.Calls PyProof.Rows
theorem BrK.holds_of (hlaw : ∀ ns : List Int, ns.length ≤ 63 → ∃ m', Br.callN (Br.tab BrK.ents) (fun x => BrK.gl.lookup x) 1000 24 (Br.Ent.name BrK.e_law) [.scr ns] [] = .ok (.bl true) m') : PySem.Challenge.rw_breakreports_k13_sides_refused_anywhere.Holds := by
  w_on; o_law
  refine HandSHeadRun.head_any (r := BrK.R) (q := view BrK.R.prog [33]) (H := BrK.hk) (ob := BrK.ob) (M := 4000) (loose := BrK.loose) (d := HandSHeadRun.topDef BrK.R.prog 33) (kwd := []) BrK.ob_eq (by kernel_rfl) (fun s => by kernel_rfl) BrK.run (by kernel_rfl) (by kernel_rfl) (by kernel_rfl) (by rfl) (by first | assumption | decide +kernel) (by decide +kernel) ⟨rfl, rfl, rfl, rfl, rfl, by decide +kernel⟩ ?hw ?hc
  case hw => w_witness2
  case hc =>
    exact Br.end_of (l := PySem.Challenge.rw_breakreports_k13_sides_refused_anywhere) (x := "_law_script") (e := BrK.e_law) rfl (by kernel_rfl) ⟨rfl, by decide, by decide⟩ (by kernel_rfl) (by simp [BrK.ents]) rfl rfl BrK.ents_ok BrK.ents_nd BrK.bo BrK.gl_ok BrK.xl_ok BrK.bi hlaw

theorem BrK.has {e : Br.Ent} (he : e ∈ BrK.ents) : BrK.Has (Br.tab BrK.ents) e.name e.d := @Br.tab_look ⟨[]⟩ _ _ BrK.ents_nd he
theorem BrK.maT : BrK.MaT (Br.tab BrK.ents) (fun x => BrK.gl.lookup x) where
  isn := BrK.has (e := BrK.e_is_number) (by simp [BrK.ents])
  nke := BrK.has (e := BrK.e_need_keys) (by simp [BrK.ents])
  nsi := BrK.has (e := BrK.e_need_side) (by simp [BrK.ents])
  fac := BrK.has (e := BrK.e_face) (by simp [BrK.ents])
  mat := BrK.has (e := BrK.e_matched) (by simp [BrK.ents])
  gKeys := by decide +kernel
  gFields := by decide +kernel
  gRows := by decide +kernel
  gWorth := by decide +kernel
theorem BrK.seT : BrK.SdT (Br.tab BrK.ents) where
  dra := BrK.has (e := BrK.e__law_drawn) (by simp [BrK.ents])
  sid := BrK.has (e := BrK.e__law_side) (by simp [BrK.ents])
  kys := BrK.has (e := BrK.e__law_keys) (by simp [BrK.ents])
  fac := BrK.has (e := BrK.e__law_face) (by simp [BrK.ents])
  lot := BrK.has (e := BrK.e__law_other) (by simp [BrK.ents])
  lir := BrK.has (e := BrK.e__law_is_row) (by simp [BrK.ents])
  lfi := BrK.has (e := BrK.e__law_first) (by simp [BrK.ents])
theorem BrK.lawT : BrK.K13T (Br.tab BrK.ents) (fun x => BrK.gl.lookup x) where
  ma := BrK.maT
  se := BrK.seT
  sta := BrK.has (e := BrK.e__law_start) (by simp [BrK.ents])
  sam := BrK.has (e := BrK.e__law_same) (by simp [BrK.ents])
  kin := BrK.has (e := BrK.e__law_kind) (by simp [BrK.ents])
  law := BrK.has (e := BrK.e_law) (by simp [BrK.ents])
theorem PySem.Challenge.cw_breakreports_k13_sides_refused_anywhere_holds : PySem.Challenge.rw_breakreports_k13_sides_refused_anywhere.Holds := by
  exact BrK.holds_of fun ns _ => BrK.law_ok (n := 14) BrK.lawT ns

