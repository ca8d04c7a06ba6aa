import PyProof.Rows.All
import Wide.All
import OpenK.AllK
import Wide.FinOn
import HandS.ForMost
import HandS.ForExc
import HandS.IsInst
import HandS.SortInts
import HandS.TupAny
import HandS.More
import HandS.Strs
import HandS.SetFor
import HandS.Defaults
import HandS.HeadEnd
import HandS.Head2
import HandS.HeadHook4
import PySem.Challenge.RW_breakreports_k17_whole_moves_cut_anywher
set_option Elab.async false
set_option linter.all false
set_option maxRecDepth 100000
set_option autoImplicit false
/-! Br: a small interpreter for the Python that stands here; data, store, evaluator. -/
namespace Br
open PySem PySem.Spec PyProof.Rows L2

/-- data: lst is a list that nobody changes any more, ref a thing of the store -/
inductive D where
  | non | bl (b : Bool) | int (i : Int) | str (s : Str) | tup (ds : List D) | lst (ds : List D) | scr (ns : List Int) | ref (n : Nat)
/-- what stands in the store -/
inductive O where
  | lst (ds : List D) | dct (kvs : List (Key × D)) | ins (c : Str) (fs : List (Str × D))
abbrev Mem := List O
inductive Res (α : Type) where
  | ok (a : α) (m : Mem) | ex (c : Str) (ds : List D) (m : Mem) | bad
def Res.bind {α β : Type} (r : Res α) (f : α → Mem → Res β) : Res β := match r with
  | .ok a m => f a m
  | .ex c ds m => .ex c ds m
  | .bad => .bad

mutual
def D.beq : D → D → Bool
  | .non, .non => true
  | .bl a, .bl b => a == b
  | .int a, .int b => a == b
  | .str a, .str b => a == b
  | .tup a, .tup b => D.beqs a b
  | .lst a, .lst b => D.beqs a b
  | .ref a, .ref b => a == b
  | .scr a, .scr b => a == b
  | _, _ => false
def D.beqs : List D → List D → Bool
  | [], [] => true
  | a :: r, b :: s => D.beq a b && D.beqs r s
  | _, _ => false
end
mutual
theorem D.beq_iff : ∀ a b : D, D.beq a b = true ↔ a = b
  | .non, b => by cases b <;> simp [D.beq]
  | .bl _, b => by cases b <;> simp [D.beq]
  | .int _, b => by cases b <;> simp [D.beq]
  | .str _, b => by cases b <;> simp [D.beq]
  | .ref _, b => by cases b <;> simp [D.beq]
  | .scr _, b => by cases b <;> simp [D.beq]
  | .tup x, b => by cases b <;> simp [D.beq, D.beqs_iff x]
  | .lst x, b => by cases b <;> simp [D.beq, D.beqs_iff x]
theorem D.beqs_iff : ∀ a b : List D, D.beqs a b = true ↔ a = b
  | [], b => by cases b <;> simp [D.beqs]
  | x :: r, b => by cases b <;> simp [D.beqs, D.beq_iff x, D.beqs_iff r]
end
instance : DecidableEq D := fun a b => decidable_of_iff _ (D.beq_iff a b)

/-! ### == -/
mutual
def toPy : D → PyData
  | .non => .none
  | .bl b => .bool b
  | .int i => .int i
  | .str s => .str s
  | .tup ds => .tuple (toPys ds)
  | .lst ds => .list (toPys ds)
  | .ref _ => .none
  | .scr _ => .none
def toPys : List D → List PyData
  | [] => []
  | d :: r => toPy d :: toPys r
end
mutual
/-- no thing of the store within -/
def D.pure : D → Bool
  | .tup ds => D.pures ds
  | .lst ds => D.pures ds
  | .ref _ => false
  | .scr _ => false
  | _ => true
def D.pures : List D → Bool
  | [] => true
  | d :: r => D.pure d && D.pures r
end
mutual
def D.dep : D → Nat
  | .tup ds => D.deps ds + 1
  | .lst ds => D.deps ds + 1
  | _ => 0
def D.deps : List D → Nat
  | [] => 0
  | d :: r => max (D.dep d) (D.deps r)
end
mutual
/-- things of the store told by g -/
def D.res (g : Nat → Option D) : D → Option D
  | .tup ds => (D.ress g ds).map .tup
  | .lst ds => (D.ress g ds).map .lst
  | .ref n => g n
  | d => some d
def D.ress (g : Nat → Option D) : List D → Option (List D)
  | [] => some []
  | d :: r => match D.res g d, D.ress g r with
    | some d', some r' => some (d' :: r')
    | _, _ => none
end
/-- the things of the store from k on, told as lists that stay; n: how deep -/
def frz (m : Mem) (k : Nat) : Nat → Nat → Option D
  | 0, i => if i < k then some (.ref i) else none
  | n + 1, i => if i < k then some (.ref i) else match m[i]? with
    | some (.lst ds) => (D.ress (frz m k n) ds).map .lst
    | _ => none
def frzD (m : Mem) (k : Nat) (d : D) : Option D := D.res (frz m k 6) d

/-! ### the language -/
inductive Bop where | add | sub | mul | fdiv | mod | pow
  deriving DecidableEq
inductive Cop where | eq | ne | lt | le | gt | ge | isn | notn | inn | nin
  deriving DecidableEq
inductive Ty where | int | bool | str | list | tuple
  deriving DecidableEq
inductive Fn where | len | list | tuple | sorted | min | max | sum | str | int | dict | min2 | max2 | sortedSet
  deriving DecidableEq
/-- what a comprehension or a for goes through -/
inductive Wk where | seq | rng1 | rng2 | enum | str
  deriving DecidableEq
/-- where its items go -/
inductive Tg where | one (i : Nat) | tup (is : List Nat)
  deriving DecidableEq
mutual
inductive Ex where
  | var (i : Nat)
  | glo (x : Str)
  | cst (d : D)
  | bin (o : Bop) (a b : Ex)
  | cmp (o : Cop) (a b : Ex)
  | chain (o o' : Cop) (a b c : Ex)
  | and (a b : Ex)
  | or (a b : Ex)
  | not (a : Ex)
  | ite (c a b : Ex)
  | fn (f : Fn) (es : Exs)
  | isin (a : Ex) (ts : List Ty)
  | call (f : Str) (es : Exs)
  | idx (a b : Ex)
  | sli (a : Ex) (lo hi : Exs)
  | tup (es : Exs)
  | lst (fr : Bool) (es : Exs)
  | comp (own : List (Str × Nat)) (tg : Tg) (k : Wk) (it : Exs) (c : Exs) (e : Ex)
  | scope (a : Ex)
inductive Exs where
  | nil
  | cons (e : Ex) (r : Exs)
end

/-! ### values and data -/
/-- where the store's things stand; hd: lists that are just being made -/
structure Ad where
  st : List Addr
  hd : List Addr
def Ad.no (a : Ad) (p : Addr) : Prop := p ∉ a.st ∧ p ∉ a.hd
section
variable (K : PySem.W.Frag)
def KT (p : Addr) (xs : List V) : Prop := ∃ (o : Obj) (its : Array Value) (n : Nat), K.lookup p = some o ∧ o.cls = .type "tuple" ∧ o.data = .seq its n ∧ its.size ≤ sizeLine ∧ Vals xs its.toList
def KL (p : Addr) (xs : List V) : Prop := ∃ (o : Obj) (its : Array Value) (n : Nat), K.lookup p = some o ∧ o.cls = .type "list" ∧ o.dict = none ∧ o.data = .seq its n ∧ its.size ≤ sizeLine ∧ Vals xs its.toList
def TT (H : Hp) (a : Ad) (p : Addr) (xs : List V) : Prop := (Rd H p (.tup xs) ∧ a.no p) ∨ KT K p xs
def SC (H : Hp) (a : Ad) (p : Addr) (xs : List V) : Prop := ((∃ o, H p = some (.frz o (.lst xs))) ∧ a.no p) ∨ KL K p xs
mutual
inductive RepV (H : Hp) (a : Ad) : D → V → Prop
  | non : RepV H a .non .non
  | bl (b : Bool) : RepV H a (.bl b) (.bl b)
  | int (i : Int) : RepV H a (.int i) (.int i)
  | str (s : Str) (h : PySem.PyData.strOk s = true) : RepV H a (.str s) (.str s)
  | tup {ds : List D} {p : Addr} {xs : List V} (h : TT K H a p xs) (hl : ds.length ≤ sizeLine) (r : RepVs H a ds xs) : RepV H a (.tup ds) (.ref p)
  | lst {ds : List D} {p : Addr} {xs : List V} (h : H p = some (.lst xs)) (hn : a.no p) (hl : ds.length ≤ sizeLine) (r : RepVs H a ds xs) : RepV H a (.lst ds) (.ref p)
  | scr {ns : List Int} {p : Addr} (h : SC K H a p (ns.map V.int)) (hl : ns.length ≤ sizeLine) : RepV H a (.scr ns) (.ref p)
  | ref {n : Nat} {p : Addr} (h : a.st[n]? = some p) : RepV H a (.ref n) (.ref p)
inductive RepVs (H : Hp) (a : Ad) : List D → List V → Prop
  | nil : RepVs H a [] []
  | cons {d : D} {v : V} {ds : List D} {xs : List V} (h : RepV H a d v) (r : RepVs H a ds xs) : RepVs H a (d :: ds) (v :: xs)
end
inductive RepK (H : Hp) (a : Ad) : List (Key × D) → List (Key × V) → Prop
  | nil : RepK H a [] []
  | cons {k : Key} {d : D} {v : V} {r : List (Key × D)} {q : List (Key × V)} (h : RepV K H a d v) (t : RepK H a r q) : RepK H a ((k, d) :: r) ((k, v) :: q)
inductive RepO (H : Hp) (a : Ad) : O → HO → Prop
  | lst {ds : List D} {xs : List V} (hl : ds.length ≤ sizeLine) (r : RepVs K H a ds xs) : RepO H a (.lst ds) (.lst xs)
  | dct {kvs : List (Key × D)} {ks : List (Key × V)} (hl : kvs.length ≤ sizeLine) (r : RepK K H a kvs ks) : RepO H a (.dct kvs) (.dK ks)
/-- the store stands at a -/
structure MRel (a : Ad) (m : Mem) (H : Hp) : Prop where
  nd : a.st.Nodup
  len : a.st.length = m.length
  sep : ∀ p ∈ a.st, p ∉ a.hd
  at_ : ∀ (n : Nat) (p : Addr) (o : O), a.st[n]? = some p → m[n]? = some o → ∃ ho, H p = some ho ∧ RepO K H a o ho
  hid : ∀ p ∈ a.hd, ∃ xs, H p = some (.lst xs)
structure Ext (a : Ad) (H : Hp) (a' : Ad) (H' : Hp) : Prop where
  hd : a'.hd = a.hd
  pre : ∃ new, a'.st = a.st ++ new ∧ ∀ p ∈ new, H p = none
  keep : ∀ p o, H p = some o → p ∉ a.st → (∀ ps, o ≠ .tbl ps) → H' p = some o
  dom : ∀ p, H' p = none → H p = none
structure SRel (a : Ad) (H : Hp) (ρ : List (Option D)) (σ : L2.St) : Prop where
  len : ρ.length = σ.length
  at_ : ∀ (i : Nat) (d : D), ρ[i]? = some (some d) → ∃ v, σ[i]? = some (some v) ∧ RepV K H a d v
end
section
variable {K : PySem.W.Frag} {H H' H1 H2 : Hp} {a a' a1 a2 : Ad}
theorem Ext.refl : Ext a H a H := ⟨rfl, ⟨[], by simp, by simp⟩, fun _ _ h _ _ => h, fun _ h => h⟩
theorem Ext.trans (x : Ext a H a1 H1) (b : Ext a1 H1 a2 H2) : Ext a H a2 H2 := by
  obtain ⟨n1, e1, f1⟩ := x.pre
  obtain ⟨n2, e2, f2⟩ := b.pre
  refine ⟨b.hd.trans x.hd, ⟨n1 ++ n2, by rw [e2, e1, List.append_assoc], fun p hp => ?_⟩, fun p o h hp ht => ?_, fun p h => x.dom p (b.dom p h)⟩
  · rcases List.mem_append.mp hp with h | h
    · exact f1 p h
    · exact x.dom p (f2 p h)
  · refine b.keep p o (x.keep p o h hp ht) ?_ ht
    rw [e1]
    intro z
    rcases List.mem_append.mp z with z | z
    · exact hp z
    · rw [f1 p z] at h
      cases h
theorem Ext.outS (e : Ext a H a' H') {p : Addr} {o : HO} (h : H p = some o) (hp : p ∉ a.st) : p ∉ a'.st := by
  obtain ⟨n, e1, f⟩ := e.pre
  rw [e1]
  intro z
  rcases List.mem_append.mp z with z | z
  · exact hp z
  · rw [f p z] at h
    cases h
theorem Ext.out (e : Ext a H a' H') {p : Addr} {o : HO} (h : H p = some o) (hp : a.no p) : a'.no p := ⟨e.outS h hp.1, by rw [e.hd]; exact hp.2⟩
theorem Ext.old (e : Ext a H a' H') {n : Nat} {p : Addr} (h : a.st[n]? = some p) : a'.st[n]? = some p := by
  obtain ⟨x, e1, _⟩ := e.pre
  rw [e1, List.getElem?_append_left (List.getElem?_eq_some_iff.mp h).1]
  exact h
theorem upd_no {p q : Addr} {o : HO} (e : upd H p o q = none) : H q = none := by
  unfold upd at e
  split at e
  · cases e
  · exact e
theorem Ext.new {p : Addr} {o : HO} (h : H p = none) : Ext a H a (upd H p o) :=
  ⟨rfl, ⟨[], by simp, by simp⟩, fun q u e _ _ => by rw [upd_ne (ne_of_none e h)]; exact e, fun q e => upd_no e⟩
theorem TT.mono (e : Ext a H a' H') {p : Addr} {xs : List V} (h : TT K H a p xs) : TT K H' a' p xs := by
  rcases h with ⟨h | ⟨o, h⟩, hp⟩ | h
  · exact .inl ⟨.inl (e.keep _ _ h hp.1 (by intro _ z; cases z)), e.out h hp⟩
  · exact .inl ⟨.inr ⟨o, e.keep _ _ h hp.1 (by intro _ z; cases z)⟩, e.out h hp⟩
  · exact .inr h
theorem TT.sq {p : Addr} {xs : List V} (h : TT K H a p xs) : SqT K H p xs := h.imp (·.1) id
theorem SC.sq {p : Addr} {xs : List V} (h : SC K H a p xs) : SqL K H p xs := h.imp (fun z => .inr z.1) id
theorem SC.mono (e : Ext a H a' H') {p : Addr} {xs : List V} (h : SC K H a p xs) : SC K H' a' p xs := by
  rcases h with ⟨⟨o, h⟩, hp⟩ | h
  · exact .inl ⟨⟨o, e.keep _ _ h hp.1 (by intro _ z; cases z)⟩, e.out h hp⟩
  · exact .inr h
mutual
theorem RepV.mono (e : Ext a H a' H') : ∀ {d : D} {v : V}, RepV K H a d v → RepV K H' a' d v
  | _, _, .non => .non
  | _, _, .bl b => .bl b
  | _, _, .int b => .int b
  | _, _, .str b h => .str b h
  | _, _, .tup h hl r => .tup (h.mono e) hl (RepVs.mono e r)
  | _, _, .lst h hn hl r => .lst (e.keep _ _ h hn.1 (by intro _ z; cases z)) (e.out h hn) hl (RepVs.mono e r)
  | _, _, .scr h hl => .scr (h.mono e) hl
  | _, _, .ref h => .ref (e.old h)
theorem RepVs.mono (e : Ext a H a' H') : ∀ {ds : List D} {xs : List V}, RepVs K H a ds xs → RepVs K H' a' ds xs
  | _, _, .nil => .nil
  | _, _, .cons h r => .cons (RepV.mono e h) (RepVs.mono e r)
end
/-- a list that is being made comes to be, and is one like others -/
theorem Ad.no_in {st hd : List Addr} {p q : Addr} {o : HO} (h : Ad.no ⟨st, hd⟩ p) (hq : H q = none) (hp : H p = some o) : Ad.no ⟨st, q :: hd⟩ p :=
  ⟨h.1, fun z => by
    rcases List.mem_cons.mp z with z | z
    · rw [z, hq] at hp; cases hp
    · exact h.2 z⟩
theorem Ad.no_out {st hd : List Addr} {p q : Addr} (h : Ad.no ⟨st, q :: hd⟩ p) : Ad.no ⟨st, hd⟩ p := ⟨h.1, fun z => h.2 (List.mem_cons_of_mem _ z)⟩
mutual
/-- the new list at q lies hidden -/
theorem RepV.hide {st hd : List Addr} {q : Addr} (hq : H q = none) (o : HO) : ∀ {d : D} {v : V}, RepV K H ⟨st, hd⟩ d v → RepV K (upd H q o) ⟨st, q :: hd⟩ d v
  | _, _, .non => .non
  | _, _, .bl b => .bl b
  | _, _, .int b => .int b
  | _, _, .str b h => .str b h
  | _, _, .tup h hl r => .tup (by
      rcases h with ⟨h | ⟨o, h⟩, hp⟩ | h
      · exact .inl ⟨.inl (by rw [upd_ne (ne_of_none h hq)]; exact h), Ad.no_in hp hq h⟩
      · exact .inl ⟨.inr ⟨o, by rw [upd_ne (ne_of_none h hq)]; exact h⟩, Ad.no_in hp hq h⟩
      · exact .inr h) hl (RepVs.hide hq o r)
  | _, _, .lst h hn hl r => .lst (by rw [upd_ne (ne_of_none h hq)]; exact h) (Ad.no_in hn hq h) hl (RepVs.hide hq o r)
  | _, _, .scr h hl => .scr (by
      rcases h with ⟨⟨o, h⟩, hp⟩ | h
      · exact .inl ⟨⟨o, by rw [upd_ne (ne_of_none h hq)]; exact h⟩, Ad.no_in hp hq h⟩
      · exact .inr h) hl
  | _, _, .ref h => .ref h
theorem RepVs.hide {st hd : List Addr} {q : Addr} (hq : H q = none) (o : HO) : ∀ {ds : List D} {xs : List V}, RepVs K H ⟨st, hd⟩ ds xs → RepVs K (upd H q o) ⟨st, q :: hd⟩ ds xs
  | _, _, .nil => .nil
  | _, _, .cons h r => .cons (RepV.hide hq o h) (RepVs.hide hq o r)
end
mutual
/-- what is hidden at q may change -/
theorem RepV.hid {st hd : List Addr} {q : Addr} (o : HO) : ∀ {d : D} {v : V}, RepV K H ⟨st, q :: hd⟩ d v → RepV K (upd H q o) ⟨st, q :: hd⟩ d v
  | _, _, .non => .non
  | _, _, .bl b => .bl b
  | _, _, .int b => .int b
  | _, _, .str b h => .str b h
  | _, _, .tup h hl r => .tup (by
      rcases h with ⟨h | ⟨o, h⟩, hp⟩ | h
      · exact .inl ⟨.inl (by rw [upd_ne (fun z => hp.2 (by rw [z]; exact List.mem_cons_self))]; exact h), hp⟩
      · exact .inl ⟨.inr ⟨o, by rw [upd_ne (fun z => hp.2 (by rw [z]; exact List.mem_cons_self))]; exact h⟩, hp⟩
      · exact .inr h) hl (RepVs.hid o r)
  | _, _, .lst h hn hl r => .lst (by rw [upd_ne (fun z => hn.2 (by rw [z]; exact List.mem_cons_self))]; exact h) hn hl (RepVs.hid o r)
  | _, _, .scr h hl => .scr (by
      rcases h with ⟨⟨o, h⟩, hp⟩ | h
      · exact .inl ⟨⟨o, by rw [upd_ne (fun z => hp.2 (by rw [z]; exact List.mem_cons_self))]; exact h⟩, hp⟩
      · exact .inr h) hl
  | _, _, .ref h => .ref h
theorem RepVs.hid {st hd : List Addr} {q : Addr} (o : HO) : ∀ {ds : List D} {xs : List V}, RepVs K H ⟨st, q :: hd⟩ ds xs → RepVs K (upd H q o) ⟨st, q :: hd⟩ ds xs
  | _, _, .nil => .nil
  | _, _, .cons h r => .cons (RepV.hid o h) (RepVs.hid o r)
end
mutual
theorem RepV.show {st hd : List Addr} {q : Addr} : ∀ {d : D} {v : V}, RepV K H ⟨st, q :: hd⟩ d v → RepV K H ⟨st, hd⟩ d v
  | _, _, .non => .non
  | _, _, .bl b => .bl b
  | _, _, .int b => .int b
  | _, _, .str b h => .str b h
  | _, _, .tup h hl r => .tup (h.imp (fun z => ⟨z.1, Ad.no_out z.2⟩) id) hl (RepVs.show r)
  | _, _, .lst h hn hl r => .lst h (Ad.no_out hn) hl (RepVs.show r)
  | _, _, .scr h hl => .scr (h.imp (fun z => ⟨z.1, Ad.no_out z.2⟩) id) hl
  | _, _, .ref h => .ref h
theorem RepVs.show {st hd : List Addr} {q : Addr} : ∀ {ds : List D} {xs : List V}, RepVs K H ⟨st, q :: hd⟩ ds xs → RepVs K H ⟨st, hd⟩ ds xs
  | _, _, .nil => .nil
  | _, _, .cons h r => .cons (RepV.show h) (RepVs.show r)
end
theorem RepVs.length : ∀ {ds : List D} {xs : List V}, RepVs K H a ds xs → ds.length = xs.length
  | _, _, .nil => rfl
  | _, _, .cons _ r => by simp [RepVs.length r]
theorem RepVs.get : ∀ {ds : List D} {xs : List V} {i : Nat} {d : D}, RepVs K H a ds xs → ds[i]? = some d → ∃ v, xs[i]? = some v ∧ RepV K H a d v
  | _, _, _, _, .nil, e => by simp at e
  | _, _, 0, _, .cons h _, e => by simp at e; subst e; exact ⟨_, rfl, h⟩
  | _, _, i + 1, d, .cons _ r, e => by
    obtain ⟨v, h1, h2⟩ := RepVs.get (i := i) (d := d) r (by simpa using e)
    exact ⟨v, by simpa using h1, h2⟩
theorem RepVs.get' : ∀ {ds : List D} {xs : List V} {i : Nat} {v : V}, RepVs K H a ds xs → xs[i]? = some v → ∃ d, ds[i]? = some d ∧ RepV K H a d v
  | _, _, _, _, .nil, e => by simp at e
  | _, _, 0, _, .cons h _, e => by simp at e; subst e; exact ⟨_, rfl, h⟩
  | _, _, i + 1, v, .cons _ r, e => by
    obtain ⟨d, h1, h2⟩ := RepVs.get' (i := i) (v := v) r (by simpa using e)
    exact ⟨d, by simpa using h1, h2⟩
theorem RepVs.append : ∀ {ds es : List D} {xs ys : List V}, RepVs K H a ds xs → RepVs K H a es ys → RepVs K H a (ds ++ es) (xs ++ ys)
  | _, _, _, _, .nil, s => s
  | _, _, _, _, .cons h r, s => .cons h (RepVs.append r s)
theorem RepVs.take : ∀ {ds : List D} {xs : List V} (n : Nat), RepVs K H a ds xs → RepVs K H a (ds.take n) (xs.take n)
  | _, _, 0, _ => by simp; exact .nil
  | _, _, _ + 1, .nil => .nil
  | _, _, n + 1, .cons h r => .cons h (RepVs.take n r)
theorem RepVs.drop : ∀ {ds : List D} {xs : List V} (n : Nat), RepVs K H a ds xs → RepVs K H a (ds.drop n) (xs.drop n)
  | _, _, 0, r => r
  | _, _, _ + 1, .nil => .nil
  | _, _, n + 1, .cons _ r => RepVs.drop n r
theorem RepVs.set {d : D} {v : V} (h : RepV K H a d v) : ∀ {ds : List D} {xs : List V} (n : Nat), RepVs K H a ds xs → RepVs K H a (ds.set n d) (xs.set n v)
  | _, _, _, .nil => .nil
  | _, _, 0, .cons _ r => .cons h r
  | _, _, n + 1, .cons h' r => .cons h' (RepVs.set h n r)
theorem RepVs.reverse : ∀ {ds : List D} {xs : List V}, RepVs K H a ds xs → RepVs K H a ds.reverse xs.reverse
  | _, _, .nil => .nil
  | _, _, .cons h r => by simp only [List.reverse_cons]; exact (RepVs.reverse r).append (.cons h .nil)
theorem RepVs.ints : ∀ {ns : List Int} {xs : List V}, RepVs K H a (ns.map .int) xs → xs = ns.map .int
  | [], _, .nil => rfl
  | _ :: _, _, .cons (.int _) r => by rw [RepVs.ints r]; rfl
theorem RepVs.of_ints : ∀ (ns : List Int), RepVs K H a (ns.map .int) (ns.map .int)
  | [] => .nil
  | n :: r => .cons (.int n) (RepVs.of_ints r)
theorem RepK.mono (e : Ext a H a' H') : ∀ {kvs : List (Key × D)} {ks : List (Key × V)}, RepK K H a kvs ks → RepK K H' a' kvs ks
  | _, _, .nil => .nil
  | _, _, .cons h t => .cons (h.mono e) (RepK.mono e t)
theorem RepK.length : ∀ {kvs : List (Key × D)} {ks : List (Key × V)}, RepK K H a kvs ks → kvs.length = ks.length
  | _, _, .nil => rfl
  | _, _, .cons _ r => by simp [RepK.length r]
theorem RepK.keys : ∀ {kvs : List (Key × D)} {ks : List (Key × V)}, RepK K H a kvs ks → ks.map (·.1) = kvs.map (·.1)
  | _, _, .nil => rfl
  | _, _, .cons _ r => by simp [RepK.keys r]
theorem RepO.mono (e : Ext a H a' H') {o : O} {ho : HO} (h : RepO K H a o ho) : RepO K H' a' o ho := by
  cases h with
  | lst hl r => exact .lst hl (r.mono e)
  | dct hl r => exact .dct hl (r.mono e)
theorem SRel.mono (e : Ext a H a' H') {ρ : List (Option D)} {σ : L2.St} (h : SRel K a H ρ σ) : SRel K a' H' ρ σ :=
  ⟨h.len, fun i d q => let ⟨v, h1, h2⟩ := h.at_ i d q; ⟨v, h1, h2.mono e⟩⟩
/-- a new thing, not of the store -/
theorem MRel.fresh {m : Mem} (r : MRel K a m H) {p : Addr} {o : HO} (h : H p = none) : MRel K a m (upd H p o) :=
  ⟨r.nd, r.len, r.sep, fun n q u h1 h2 => by
    obtain ⟨ho, h3, h4⟩ := r.at_ n q u h1 h2
    exact ⟨ho, by rw [upd_ne (ne_of_none h3 h)]; exact h3, h4.mono (Ext.new h)⟩, fun q hq => by
    obtain ⟨xs, e⟩ := r.hid q hq
    exact ⟨xs, by rw [upd_ne (ne_of_none e h)]; exact e⟩⟩
theorem MRel.there {m : Mem} (r : MRel K a m H) {p : Addr} (h : p ∈ a.st) : ∃ o, H p = some o := by
  obtain ⟨n, hn⟩ := List.getElem?_of_mem h
  have hl := (List.getElem?_eq_some_iff.mp hn).1
  rw [r.len] at hl
  obtain ⟨ho, h3, _⟩ := r.at_ n p m[n] hn (List.getElem?_eq_getElem hl)
  exact ⟨ho, h3⟩
theorem MRel.out {m : Mem} (r : MRel K a m H) {p : Addr} (h : H p = none) : a.no p := by
  refine ⟨fun z => ?_, fun z => ?_⟩
  · obtain ⟨o, e⟩ := r.there z
    rw [h] at e
    cases e
  · obtain ⟨o, e⟩ := r.hid p z
    rw [h] at e
    cases e
/-- a new thing of the store -/
theorem MRel.push {m : Mem} (r : MRel K a m H) {p : Addr} {o : O} {ho : HO} (h : H p = none) (q : RepO K H a o ho) : MRel K ⟨a.st ++ [p], a.hd⟩ (m ++ [o]) (upd H p ho) ∧ Ext a H ⟨a.st ++ [p], a.hd⟩ (upd H p ho) := by
  have hp := r.out h
  have e : Ext a H ⟨a.st ++ [p], a.hd⟩ (upd H p ho) := ⟨rfl, ⟨[p], rfl, fun q hq => by rw [List.mem_singleton.mp hq]; exact h⟩, fun q u e _ _ => by rw [upd_ne (ne_of_none e h)]; exact e, fun q e => upd_no e⟩
  refine ⟨⟨?_, by simp [r.len], fun q hq => ?_, fun n q u h1 h2 => ?_, fun q hq => ?_⟩, e⟩
  · show (a.st ++ [p]).Nodup
    rw [List.nodup_append]
    exact ⟨r.nd, by simp, fun x hx y hy z => hp.1 (by rw [← List.mem_singleton.mp hy, ← z]; exact hx)⟩
  · rcases List.mem_append.mp hq with z | z
    · exact r.sep q z
    · rw [List.mem_singleton.mp z]; exact hp.2
  · have h1 : (a.st ++ [p])[n]? = some q := h1
    by_cases hn : n < a.st.length
    · rw [List.getElem?_append_left hn] at h1
      rw [List.getElem?_append_left (by rw [← r.len]; exact hn)] at h2
      obtain ⟨hu, h3, h4⟩ := r.at_ n q u h1 h2
      exact ⟨hu, by rw [upd_ne (ne_of_none h3 h)]; exact h3, h4.mono e⟩
    · have hl := (List.getElem?_eq_some_iff.mp h1).1
      simp only [List.length_append, List.length_singleton] at hl
      have en : n = a.st.length := by omega
      subst en
      rw [List.getElem?_append_right (Nat.le_refl _)] at h1
      rw [r.len, List.getElem?_append_right (Nat.le_refl _)] at h2
      simp at h1 h2
      subst h1 h2
      exact ⟨ho, upd_same, q.mono e⟩
  · obtain ⟨xs, e⟩ := r.hid q hq
    exact ⟨xs, by rw [upd_ne (ne_of_none e h)]; exact e⟩
/-- a thing of the store changes -/
theorem Ext.put {n : Nat} {p : Addr} {o' : HO} (h : a.st[n]? = some p) : Ext a H a (upd H p o') :=
  ⟨rfl, ⟨[], by simp, by simp⟩, fun q u e hq _ => by rw [upd_ne (fun z => hq (by rw [z]; exact List.mem_of_getElem? h))]; exact e, fun q e => upd_no e⟩
theorem MRel.put {m : Mem} (r : MRel K a m H) {n : Nat} {p : Addr} {o : O} {ho : HO} (h : a.st[n]? = some p) (q : RepO K H a o ho) : MRel K a (m.set n o) (upd H p ho) := by
  have e : Ext a H a (upd H p ho) := Ext.put h
  refine ⟨r.nd, by simp [r.len], r.sep, fun k q' u h1 h2 => ?_, fun q' hq => ?_⟩
  · by_cases hk : k = n
    · subst hk
      rw [h] at h1
      cases h1
      have hl := (List.getElem?_eq_some_iff.mp h).1
      rw [List.getElem?_set_self (by rw [← r.len]; exact hl)] at h2
      cases h2
      exact ⟨ho, upd_same, q.mono e⟩
    · rw [List.getElem?_set_ne (Ne.symm hk)] at h2
      obtain ⟨hu, h3, h4⟩ := r.at_ k q' u h1 h2
      have ne : q' ≠ p := fun z => hk ((List.getElem?_inj (List.getElem?_eq_some_iff.mp h1).1 r.nd).mp (by rw [h1, z, h]))
      exact ⟨hu, by rw [upd_ne ne]; exact h3, h4.mono e⟩
  · obtain ⟨xs, e2⟩ := r.hid q' hq
    have ne : q' ≠ p := fun z => r.sep p (List.mem_of_getElem? h) (by rw [← z]; exact hq)
    exact ⟨xs, by rw [upd_ne ne]; exact e2⟩
end
end Br


set_option Elab.async false
set_option linter.all false
set_option maxRecDepth 100000
set_option autoImplicit false
/-! Br: the evaluator. -/
namespace Br
open PySem PySem.Spec PyProof.Rows L2

abbrev Sl := List (Option D)
def big : Nat := 1000000
def intsD : List D → Option (List Int)
  | [] => some []
  | .int i :: r => (intsD r).map (i :: ·)
  | _ :: _ => none
def binD : Bop → D → D → Option D
  | .add, .int i, .int j => some (.int (i + j))
  | .add, .str s, .str t => if s.length + t.length ≤ big then some (.str (s ++ t)) else none
  | .add, .lst a, .lst b => if a.length + b.length ≤ big then some (.lst (a ++ b)) else none
  | .add, .tup a, .tup b => if a.length + b.length ≤ big then some (.tup (a ++ b)) else none
  | .sub, .int i, .int j => some (.int (i - j))
  | .mul, .int i, .int j => if (-(2 ^ 64) < i ∧ i < 2 ^ 64) ∨ (-(2 ^ 64) < j ∧ j < 2 ^ 64) then some (.int (i * j)) else none
  | .fdiv, .int i, .int j => if j ≠ 0 ∧ j.natAbs < 1073741824 then some (.int (i.fdiv j)) else none
  | .mod, .int i, .int j => if j ≠ 0 then some (.int (i.fmod j)) else none
  | .pow, .int i, .int j => if 0 ≤ j ∧ j ≤ 1000000 ∧ i.natAbs < 2 ^ 64 then some (.int (i ^ j.toNat)) else none
  | _, _, _ => none
def eqD (m : Mem) (a b : D) : Option Bool := match frzD m 0 a, frzD m 0 b with
  | some a', some b' => if a'.pure = true ∧ b'.pure = true ∧ a'.dep ≤ 64 ∧ b'.dep ≤ 64 then some (PyData.eqv (toPy a') (toPy b')) else none
  | _, _ => none
def flatD : D → Bool
  | .non => true
  | .bl _ => true
  | .int _ => true
  | .str _ => true
  | _ => false
def eqF : D → D → Bool
  | .non, .non => true
  | .bl a, .bl b => a == b
  | .bl a, .int b => (if a then 1 else 0) == b
  | .int a, .bl b => a == (if b then 1 else 0)
  | .int a, .int b => a == b
  | .str a, .str b => a == b
  | _, _ => false
def keyD : D → Option Key
  | .int i => some (.inl i)
  | .str s => some (.inr s)
  | _ => none
/-- the value of a key, none: it isn't there -/
def lookK (kvs : List (Key × D)) (k : Key) : Option D := (kvs.find? fun p => decide (p.1 = k)).map (·.2)
def inD (m : Mem) (a : D) : D → Option Bool
  | .tup ds => if flatD a = true ∧ ds.all flatD = true then some (ds.any fun y => eqF y a) else none
  | .lst ds => if flatD a = true ∧ ds.all flatD = true then some (ds.any fun y => eqF y a) else none
  | .ref n => match m[n]?, keyD a with
    | some (.dct kvs), some k => some (lookK kvs k).isSome
    | _, _ => none
  | .str t => match a with
    | .str s => some (!(Builtin.Str.occurrences t s 0 t.length 1).isEmpty)
    | _ => none
  | _ => none
def cmpD (m : Mem) : Cop → D → D → Option Bool
  | .eq, a, b => eqD m a b
  | .ne, a, b => (eqD m a b).map (!·)
  | .lt, .int i, .int j => some (decide (i < j))
  | .le, .int i, .int j => some (decide (i ≤ j))
  | .gt, .int i, .int j => some (decide (j < i))
  | .ge, .int i, .int j => some (decide (j ≤ i))
  | .lt, .tup a, .tup b => match intsD a, intsD b with
    | some x, some y => some (HT.lexLt x y)
    | _, _ => none
  | .isn, a, .non => some (decide (a = .non))
  | .notn, a, .non => some (!decide (a = .non))
  | .inn, a, b => inD m a b
  | .nin, a, b => (inD m a b).map (!·)
  | _, _, _ => none
/-- is it of the type -/
def isTy (m : Mem) : D → Ty → Option Bool
  | .non, _ => some false
  | .bl _, t => some (t == .bool || t == .int)
  | .int _, t => some (t == .int)
  | .str _, t => some (t == .str)
  | .tup _, t => some (t == .tuple)
  | .lst _, t => some (t == .list)
  | .scr _, t => some (t == .list)
  | .ref n, t => match m[n]? with
    | some (.lst _) => some (t == .list)
    | _ => none
def anyTy (m : Mem) (d : D) : List Ty → Option Bool
  | [] => some false
  | t :: r => match isTy m d t, anyTy m d r with
    | some a, some b => some (a || b)
    | _, _ => none
/-- the items of a thing that is gone through -/
def itemsD (m : Mem) : D → Option (List D)
  | .tup ds => some ds
  | .lst ds => some ds
  | .scr ns => some (ns.map .int)
  | .ref n => match m[n]? with
    | some (.lst ds) => some ds
    | _ => none
  | _ => none
/-- the items of a list -/
def lstD (m : Mem) : D → Option (List D)
  | .lst ds => some ds
  | .scr ns => some (ns.map .int)
  | .ref n => match m[n]? with
    | some (.lst ds) => some ds
    | _ => none
  | _ => none
def lenD (m : Mem) : D → Option Nat
  | .str s => if s.length ≤ big then some s.length else none
  | .ref n => match m[n]? with
    | some (.lst ds) => some ds.length
    | some (.dct kvs) => some kvs.length
    | _ => none
  | d => (itemsD m d).map (·.length)
def sortI (ns : List Int) : List Int := ns.mergeSort (fun a b => decide (a ≤ b))
def dedI : List Int → List Int
  | [] => []
  | a :: r => if a ∈ r then dedI r else a :: dedI r
def minI : List Int → Option Int
  | [] => none
  | a :: r => some (r.foldl min a)
def maxI : List Int → Option Int
  | [] => none
  | a :: r => some (r.foldl max a)
/-- later pairs win, first places stay -/
def putK (kvs : List (Key × D)) (k : Key) (v : D) : List (Key × D) :=
  if (kvs.any fun p => decide (p.1 = k)) = true then kvs.map (fun p => if p.1 = k then (p.1, v) else p) else kvs ++ [(k, v)]
def dropK (kvs : List (Key × D)) (k : Key) : List (Key × D) := kvs.filter fun p => decide (p.1 ≠ k)
def pairsD : List D → Option (List (Key × D))
  | [] => some []
  | .tup [a, b] :: r => match keyD a, pairsD r with
    | some k, some q => some ((k, b) :: q)
    | _, _ => none
  | _ :: _ => none
/-- as itemsD, of a dict its keys -/
def keysD (m : Mem) : D → Option (List D)
  | .ref n => match m[n]? with
    | some (.lst ds) => some ds
    | some (.dct kvs) => some (kvs.map fun p => match p.1 with
      | .inl i => .int i
      | .inr s => .str s)
    | _ => none
  | d => lstD m d
def fnD (m : Mem) : Fn → List D → Res D
  | .len, [d] => match lenD m d with
    | some n => .ok (.int n) m
    | none => .bad
  | .list, [d] => match itemsD m d with
    | some ds => .ok (.lst ds) m
    | none => .bad
  | .tuple, [d] => match itemsD m d with
    | some ds => .ok (.tup ds) m
    | none => .bad
  | .sorted, [d] => match (keysD m d).bind intsD with
    | some ns => .ok (.lst ((sortI ns).map .int)) m
    | none => .bad
  | .sortedSet, [d] => match (lstD m d).bind intsD with
    | some ns => if ns.length ≤ 4000 then .ok (.lst ((sortI (dedI ns)).map .int)) m else .bad
    | none => .bad
  | .min, [d] => match ((lstD m d).bind intsD).bind minI with
    | some n => .ok (.int n) m
    | none => .bad
  | .max, [d] => match ((lstD m d).bind intsD).bind maxI with
    | some n => .ok (.int n) m
    | none => .bad
  | .sum, [d] => match (lstD m d).bind intsD with
    | some ns => .ok (.int ns.sum) m
    | none => .bad
  | .min2, [.int i, .int j] => .ok (.int (if j < i then j else i)) m
  | .max2, [.int i, .int j] => .ok (.int (if j > i then j else i)) m
  | .str, [.int i] => if i.natAbs.log2 < 1920 then .ok (.str (toString i)) m else .bad
  | .int, [.bl b] => .ok (.int (if b then 1 else 0)) m
  | .int, [.int i] => .ok (.int i) m
  | .dict, [d] => match (lstD m d).bind pairsD with
    | some ps => .ok (.ref m.length) (m ++ [.dct (ps.foldl (fun a p => putK a p.1 p.2) [])])
    | none => .bad
  | _, _ => .bad
def idxD (m : Mem) : D → D → Option D
  | .ref n, k => match m[n]? with
    | some (.lst ds) => match k with
      | .int i => atI ds i
      | _ => none
    | some (.dct kvs) => (keyD k).bind (lookK kvs)
    | _ => none
  | .str s, .int i => if s.length ≤ big then (atI s.cps.toList i).map fun c => .str ⟨#[c]⟩ else none
  | d, .int i => (itemsD m d).bind fun ds => atI ds i
  | _, _ => none
def cutD (ds : List D) (lo hi : Option Int) : List D := (ds.drop (HT.sIx ds.length 0 lo)).take (HT.sIx ds.length ds.length hi - HT.sIx ds.length 0 lo)
def sliD (m : Mem) : D → Option Int → Option Int → Option D
  | .tup ds, lo, hi => some (.tup (cutD ds lo hi))
  | .lst ds, lo, hi => some (.lst (cutD ds lo hi))
  | .ref n, lo, hi => match m[n]? with
    | some (.lst ds) => some (.lst (cutD ds lo hi))
    | _ => none
  | _, _, _ => none
mutual
/-- all things of the store within are below k -/
def D.und (k : Nat) : D → Bool
  | .tup ds => D.unds k ds
  | .lst ds => D.unds k ds
  | .ref n => decide (n < k)
  | _ => true
def D.unds (k : Nat) : List D → Bool
  | [] => true
  | d :: r => D.und k d && D.unds k r
end
def O.und (k : Nat) : O → Bool
  | .lst ds => D.unds k ds
  | .dct kvs => D.unds k (kvs.map (·.2))
  | .ins _ _ => false
def wipeS (ρ : Sl) : List Nat → Sl
  | [] => ρ
  | v :: vs => (wipeS ρ vs).set v none
def bindIs : List Nat → List D → Sl → Option Sl
  | [], [], ρ => some ρ
  | i :: is, d :: ds, ρ => bindIs is ds (ρ.set i (some d))
  | _, _, _ => none
def bindT (m : Mem) : Tg → D → Sl → Option Sl
  | .one i, d, ρ => some (ρ.set i (some d))
  | .tup is, .tup ds, ρ => if ds.length = is.length then bindIs is ds ρ else none
  | .tup is, .lst ds, ρ => if ds.length = is.length then bindIs is ds ρ else none
  | .tup _, _, _ => none
/-- the items gone through, and the thing of the store that must stand still meanwhile -/
def walkD (m : Mem) : Wk → List D → Option (List D)
  | .seq, [d] => match d with
    | .ref _ => none
    | _ => itemsD m d
  | .rng1, [.int j] => if -(2 ^ 62) ≤ j ∧ j ≤ big then some ((List.range j.toNat).map fun (i : Nat) => D.int (i : Int)) else none
  | .rng2, [.int i, .int j] => if -(2 ^ 62) ≤ i ∧ i < 2 ^ 62 ∧ -(2 ^ 62) ≤ j ∧ j < 2 ^ 62 ∧ (j - i).toNat ≤ big then some ((List.range (j - i).toNat).map fun (n : Nat) => D.int (i + (n : Int))) else none
  | .enum, [.lst ds] => some (ds.zipIdx.map fun p => .tup [.int p.2, p.1])
  | .str, [.str s] => if s.length ≤ big then some (s.cps.toList.map fun c => .str ⟨#[c]⟩) else none
  | _, _ => none
def compL (tg : Tg) (ρ0 : Sl) (c : Sl → Mem → Res D) (e : Sl → Mem → Res D) : List D → Mem → Res (List D)
  | [], m => .ok [] m
  | d :: ds, m => match bindT m tg d ρ0 with
    | none => .bad
    | some ρ => match c ρ m with
      | .ok (.bl true) m1 => match e ρ m1 with
        | .ok v m2 => match compL tg ρ0 c e ds m2 with
          | .ok vs m3 => .ok (v :: vs) m3
          | _ => .bad
        | _ => .bad
      | .ok (.bl false) m1 => compL tg ρ0 c e ds m1
      | _ => .bad

structure Fe where
  call : Str → List D → Mem → Res D
  glo : Str → Option D
  wf : Nat
def optR (o : Option D) (m : Mem) : Res D := match o with
  | some d => .ok d m
  | none => .bad
def optB (o : Option Bool) (m : Mem) : Res D := match o with
  | some d => .ok (.bl d) m
  | none => .bad
def onB (r : Res D) (f : Bool → Mem → Res D) : Res D := r.bind fun d m => match d with
  | .bl b => f b m
  | _ => .bad
def partOf : List D → Option (Option Int)
  | [] => some none
  | [.int i] => some (some i)
  | _ => none
mutual
def evE (F : Fe) : Ex → Sl → Mem → Res D
  | .var i, ρ, m => match ρ[i]? with
    | some (some d) => .ok d m
    | _ => .bad
  | .glo x, _, m => optR (F.glo x) m
  | .cst d, _, m => .ok d m
  | .bin o a b, ρ, m => (evE F a ρ m).bind fun x m1 => (evE F b ρ m1).bind fun y m2 => optR (binD o x y) m2
  | .cmp o a b, ρ, m => (evE F a ρ m).bind fun x m1 => (evE F b ρ m1).bind fun y m2 => optB (cmpD m2 o x y) m2
  | .chain o o' a b c, ρ, m => (evE F a ρ m).bind fun x m1 => (evE F b ρ m1).bind fun y m2 => match cmpD m2 o x y with
    | some true => (evE F c ρ m2).bind fun z m3 => optB (cmpD m3 o' y z) m3
    | some false => .ok (.bl false) m2
    | none => .bad
  | .and a b, ρ, m => onB (evE F a ρ m) fun x m1 => if x then evE F b ρ m1 else .ok (.bl false) m1
  | .or a b, ρ, m => onB (evE F a ρ m) fun x m1 => if x then .ok (.bl true) m1 else evE F b ρ m1
  | .not a, ρ, m => onB (evE F a ρ m) fun x m1 => .ok (.bl (!x)) m1
  | .ite c a b, ρ, m => onB (evE F c ρ m) fun x m1 => if x then evE F a ρ m1 else evE F b ρ m1
  | .fn f es, ρ, m => (evEs F es ρ m).bind fun ds m1 => fnD m1 f ds
  | .isin a ts, ρ, m => (evE F a ρ m).bind fun x m1 => optB (anyTy m1 x ts) m1
  | .call f es, ρ, m => (evEs F es ρ m).bind fun ds m1 => F.call f ds m1
  | .idx a b, ρ, m => (evE F a ρ m).bind fun x m1 => (evE F b ρ m1).bind fun y m2 => optR (idxD m2 x y) m2
  | .sli a lo hi, ρ, m => (evE F a ρ m).bind fun x m1 => (evEs F lo ρ m1).bind fun l m2 => (evEs F hi ρ m2).bind fun h m3 => match partOf l, partOf h with
    | some l', some h' => optR (sliD m3 x l' h') m3
    | _, _ => .bad
  | .tup es, ρ, m => (evEs F es ρ m).bind fun ds m1 => if ds.length ≤ big then .ok (.tup ds) m1 else .bad
  | .lst fr es, ρ, m => (evEs F es ρ m).bind fun ds m1 => if ds.length ≤ big then (if fr then .ok (.lst ds) m1 else .ok (.ref m1.length) (m1 ++ [.lst ds])) else .bad
  | .comp own tg k it c e, ρ, m => (evEs F it ρ m).bind fun ds m1 => match walkD m1 k ds with
    | none => .bad
    | some xs => match compL tg (wipeS ρ (own.map (·.2))) (fun ρ' m' => evC F c ρ' m') (fun ρ' m' => evE F e ρ' m') xs m1 with
      | .ok vs m2 => .ok (.lst vs) m2
      | _ => .bad
  | .scope a, ρ, m => match evE F a ρ m with
    | .ok d m' => match frzD m' m.length d with
      | some d' => if (m'.take m.length).all (O.und m.length) = true then .ok d' (m'.take m.length) else .bad
      | none => .bad
    | r => r
def evEs (F : Fe) : Exs → Sl → Mem → Res (List D)
  | .nil, _, m => .ok [] m
  | .cons e r, ρ, m => (evE F e ρ m).bind fun d m1 => (evEs F r ρ m1).bind fun ds m2 => .ok (d :: ds) m2
/-- a comprehension's tests: none, or one -/
def evC (F : Fe) : Exs → Sl → Mem → Res D
  | .nil, _, m => .ok (.bl true) m
  | .cons e _, ρ, m => evE F e ρ m
end

/-! ### statements -/
inductive Lm where | append | extend | reverse | clear
  deriving DecidableEq
mutual
inductive Sm where
  | asg (tg : Tg) (e : Ex)
  | par (i j : Nat) (a b : Ex)
  | put (o i e : Ex)
  | expr (e : Ex)
  | lm (f : Lm) (o : Ex) (es : Exs)
  | dpop (o : Ex) (k : Ex)
  | ret (e : Ex)
  | iff (c : Ex) (a b : Sms)
  | whil (c : Ex) (b : Sms)
  | for (tg : Tg) (k : Wk) (it : Exs) (b : Sms)
  | pass
  | never
inductive Sms where
  | nil
  | cons (s : Sm) (r : Sms)
end
inductive Rs where
  | nx (ρ : Sl) (m : Mem) | rt (d : D) (m : Mem) | ex (c : Str) (ds : List D) (m : Mem) | bad
def Res.go {α : Type} (r : Res α) (f : α → Mem → Rs) : Rs := match r with
  | .ok a m => f a m
  | .ex c ds m => .ex c ds m
  | .bad => .bad
def Rs.thn (r : Rs) (f : Sl → Mem → Rs) : Rs := match r with
  | .nx ρ m => f ρ m
  | r => r
def whileL (c : Sl → Mem → Res D) (b : Sl → Mem → Rs) : Nat → Sl → Mem → Rs
  | 0, _, _ => .bad
  | n + 1, ρ, m => (c ρ m).go fun d m1 => match d with
    | .bl true => (b ρ m1).thn fun ρ' m' => whileL c b n ρ' m'
    | .bl false => .nx ρ m1
    | _ => .bad
def forL (tg : Tg) (b : Sl → Mem → Rs) : List D → Sl → Mem → Rs
  | [], ρ, m => .nx ρ m
  | d :: ds, ρ, m => match bindT m tg d ρ with
    | none => .bad
    | some ρ1 => (b ρ1 m).thn fun ρ' m' => forL tg b ds ρ' m'
def putD (m : Mem) : D → D → D → Option Mem
  | .ref n, k, v => match m[n]? with
    | some (.lst ds) => match k with
      | .int i => (ixN ds.length i).map fun j => m.set n (.lst (ds.set j v))
      | _ => none
    | some (.dct kvs) => match keyD k with
      | some q => if kvs.length < big then some (m.set n (.dct (putK kvs q v))) else none
      | none => none
    | _ => none
  | _, _, _ => none
/-- a list of the store, a dict of it -/
def refL (m : Mem) : D → Bool
  | .ref n => match m[n]? with
    | some (.lst _) => true
    | _ => false
  | _ => false
def refK (m : Mem) : D → Bool
  | .ref n => match m[n]? with
    | some (.dct _) => true
    | _ => false
  | _ => false
/-- what a list is extended by -/
def extD (m : Mem) : D → Option (List D)
  | .lst es => some es
  | .ref n => match m[n]? with
    | some (.lst es) => some es
    | _ => none
  | _ => none
def lmD (m : Mem) (f : Lm) (d : D) (vs : List D) : Option Mem := match d with
  | .ref n => match m[n]? with
    | some (.lst ds) => match f, vs with
      | .append, [v] => if ds.length < big then some (m.set n (.lst (ds ++ [v]))) else none
      | .extend, [v] => match extD m v with
        | some es => if ds.length + es.length ≤ big then some (m.set n (.lst (ds ++ es))) else none
        | none => none
      | .reverse, [] => some (m.set n (.lst ds.reverse))
      | .clear, [] => some (m.set n (.lst []))
      | _, _ => none
    | _ => none
  | _ => none
def dpopD (m : Mem) : D → D → Option Mem
  | .ref n, k => match m[n]?, keyD k with
    | some (.dct kvs), some q => if (lookK kvs q).isSome then some (m.set n (.dct (dropK kvs q))) else none
    | _, _ => none
  | _, _ => none
mutual
def evS (F : Fe) : Sm → Sl → Mem → Rs
  | .asg tg e, ρ, m => (evE F e ρ m).go fun d m1 => match bindT m1 tg d ρ with
    | some ρ' => .nx ρ' m1
    | none => .bad
  | .par i j a b, ρ, m => (evE F a ρ m).go fun x m1 => (evE F b ρ m1).go fun y m2 => .nx ((ρ.set i (some x)).set j (some y)) m2
  | .put o i e, ρ, m => (evE F e ρ m).go fun v m1 => (evE F o ρ m1).go fun x m2 => (evE F i ρ m2).go fun k m3 => match putD m3 x k v with
    | some m' => .nx ρ m'
    | none => .bad
  | .expr e, ρ, m => (evE F e ρ m).go fun _ m1 => .nx ρ m1
  | .lm f o es, ρ, m => (evE F o ρ m).go fun x m1 => if refL m1 x then (evEs F es ρ m1).go fun vs m2 => match lmD m2 f x vs with
    | some m' => .nx ρ m'
    | none => .bad
    else .bad
  | .dpop o k, ρ, m => (evE F o ρ m).go fun x m1 => if refK m1 x then (evE F k ρ m1).go fun y m2 => match dpopD m2 x y with
    | some m' => .nx ρ m'
    | none => .bad
    else .bad
  | .ret e, ρ, m => (evE F e ρ m).go fun d m1 => .rt d m1
  | .iff c a b, ρ, m => (evE F c ρ m).go fun d m1 => match d with
    | .bl true => evSs F a ρ m1
    | .bl false => evSs F b ρ m1
    | _ => .bad
  | .whil c b, ρ, m => whileL (fun ρ' m' => evE F c ρ' m') (fun ρ' m' => evSs F b ρ' m') F.wf ρ m
  | .for tg k it b, ρ, m => (evEs F it ρ m).go fun ds m1 => match walkD m1 k ds with
    | some xs => forL tg (fun ρ' m' => evSs F b ρ' m') xs ρ m1
    | none => .bad
  | .pass, ρ, m => .nx ρ m
  | .never, _, _ => .bad
def evSs (F : Fe) : Sms → Sl → Mem → Rs
  | .nil, ρ, m => .nx ρ m
  | .cons s r, ρ, m => (evS F s ρ m).thn fun ρ' m' => evSs F r ρ' m'
end

/-! ### defs -/
structure Def where
  np : Nat
  ns : Nat
  body : Sms
def runDef (F : Fe) (d : Def) (ds : List D) (m : Mem) : Res D :=
  if ds.length = d.np then match evSs F d.body (ds.map some ++ List.replicate (d.ns - d.np) none) m with
    | .nx _ m' => .ok .non m'
    | .rt v m' => .ok v m'
    | .ex c es m' => .ex c es m'
    | .bad => .bad
  else .bad
/-- the def of a name, by so many calls within one another -/
def callN (T : List (Str × Def)) (g : Str → Option D) (wf : Nat) : Nat → Str → List D → Mem → Res D
  | 0, _, _, _ => .bad
  | n + 1, f, ds, m => match T.lookup f with
    | some d => runDef ⟨callN T g wf n, g, wf⟩ d ds m
    | none => .bad
end Br


set_option Elab.async false
set_option linter.all false
set_option maxRecDepth 100000
set_option autoImplicit false
/-! Br: what the operations do. -/
namespace Br
open PySem PySem.Spec PyProof.Rows L2
section
variable {K : PySem.W.Frag} {H : Hp} {a b : Ad} {m : Mem}
mutual
theorem res_rep {g : Nat → Option D} (hg : ∀ (i : Nat) (p : Addr) (d' : D), a.st[i]? = some p → g i = some d' → RepV K H b d' (.ref p)) (hb : ∀ p, a.no p → b.no p) :
    ∀ {d : D} {v : V} {d' : D}, RepV K H a d v → D.res g d = some d' → RepV K H b d' v
  | _, _, _, .non, e => by simp [D.res] at e; subst e; exact .non
  | _, _, _, .bl _, e => by simp [D.res] at e; subst e; exact .bl _
  | _, _, _, .int _, e => by simp [D.res] at e; subst e; exact .int _
  | _, _, _, .str _ h, e => by simp [D.res] at e; subst e; exact .str _ h
  | _, _, _, .scr h hl, e => by simp [D.res] at e; subst e; exact .scr (h.imp (fun z => ⟨z.1, hb _ z.2⟩) id) hl
  | _, _, _, .ref h, e => hg _ _ _ h (by simpa [D.res] using e)
  | .tup ds, _, _, .tup h hl r, e => by
    simp only [D.res, Option.map_eq_some_iff] at e
    obtain ⟨ds', e1, rfl⟩ := e
    have r' := ress_rep hg hb r e1
    exact .tup (h.imp (fun z => ⟨z.1, hb _ z.2⟩) id) (by rw [r'.length, ← r.length]; exact hl) r'
  | .lst ds, _, _, .lst h hn hl r, e => by
    simp only [D.res, Option.map_eq_some_iff] at e
    obtain ⟨ds', e1, rfl⟩ := e
    have r' := ress_rep hg hb r e1
    exact .lst h (hb _ hn) (by rw [r'.length, ← r.length]; exact hl) r'
theorem ress_rep {g : Nat → Option D} (hg : ∀ (i : Nat) (p : Addr) (d' : D), a.st[i]? = some p → g i = some d' → RepV K H b d' (.ref p)) (hb : ∀ p, a.no p → b.no p) :
    ∀ {ds : List D} {xs : List V} {ds' : List D}, RepVs K H a ds xs → D.ress g ds = some ds' → RepVs K H b ds' xs
  | _, _, _, .nil, e => by simp [D.ress] at e; subst e; exact .nil
  | _, _, _, .cons h r, e => by
    simp only [D.ress] at e
    split at e
    · rename_i d' r' e1 e2
      cases e
      exact .cons (res_rep hg hb h e1) (ress_rep hg hb r e2)
    · cases e
end
theorem frz_rep (st : MRel K a m H) (k : Nat) : ∀ (n : Nat) (i : Nat) (p : Addr) (d' : D), a.st[i]? = some p → frz m k n i = some d' → RepV K H ⟨a.st.take k, a.hd⟩ d' (.ref p)
  | 0, i, p, d', h, e => by
    unfold frz at e
    split at e
    · rename_i hk
      cases e
      exact .ref (by show (a.st.take k)[i]? = _; rw [List.getElem?_take, if_pos hk]; exact h)
    · cases e
  | n + 1, i, p, d', h, e => by
    unfold frz at e
    split at e
    · rename_i hk
      cases e
      exact .ref (by show (a.st.take k)[i]? = _; rw [List.getElem?_take, if_pos hk]; exact h)
    · rename_i hk
      split at e
      · rename_i ds hd
        rw [Option.map_eq_some_iff] at e
        obtain ⟨ds', e1, rfl⟩ := e
        obtain ⟨ho, h1, h2⟩ := st.at_ i p _ h hd
        cases h2 with
        | lst hl r =>
          have r' := ress_rep (b := ⟨a.st.take k, a.hd⟩) (fun i p d' => frz_rep st k n i p d') (fun p hp => ⟨fun z => hp.1 (List.mem_of_mem_take z), hp.2⟩) r e1
          refine .lst h1 ⟨fun z => ?_, st.sep p (List.mem_of_getElem? h)⟩ (by rw [r'.length, ← r.length]; exact hl) r'
          obtain ⟨j, hj⟩ := List.getElem?_of_mem (show p ∈ a.st.take k from z)
          rw [List.getElem?_take] at hj
          split at hj
          · rename_i hjk
            have := (List.getElem?_inj (List.getElem?_eq_some_iff.mp hj).1 st.nd).mp (hj.trans h.symm)
            omega
          · cases hj
      · cases e
theorem frzD_rep (st : MRel K a m H) {k : Nat} {d d' : D} {v : V} (h : RepV K H a d v) (e : frzD m k d = some d') : RepV K H ⟨a.st.take k, a.hd⟩ d' v :=
  res_rep (b := ⟨a.st.take k, a.hd⟩) (fun i p d' => frz_rep st k 6 i p d') (fun p hp => ⟨fun z => hp.1 (List.mem_of_mem_take z), hp.2⟩) h e
mutual
theorem dp_of : ∀ {d : D} {v : V}, RepV K H a d v → d.pure = true → Dp K H v (toPy d)
  | _, _, .non, _ => by rw [toPy]; exact .non
  | _, _, .bl _, _ => by rw [toPy]; exact .bl _
  | _, _, .int _, _ => by rw [toPy]; exact .int _
  | _, _, .str _ _, _ => by rw [toPy]; exact .str _
  | _, _, .tup h _ r, e => by rw [toPy]; exact .tup h.sq (dps_of r (by simpa [D.pure] using e))
  | _, _, .lst h _ _ r, e => by rw [toPy]; exact .lst (SqL.of h) (dps_of r (by simpa [D.pure] using e))
  | _, _, .scr _ _, e => by simp [D.pure] at e
  | _, _, .ref _, e => by simp [D.pure] at e
theorem dps_of : ∀ {ds : List D} {xs : List V}, RepVs K H a ds xs → D.pures ds = true → DpAll K H xs (toPys ds)
  | _, _, .nil, _ => by rw [toPys]; exact .nil
  | _, _, .cons h r, e => by
    rw [toPys]
    simp only [D.pures, Bool.and_eq_true] at e
    exact .cons (dp_of h e.1) (dps_of r e.2)
end
mutual
theorem lay_of : ∀ {d : D} {v : V}, RepV K H a d v → (toPy d).canLay0 = true
  | _, _, .non => by simp [toPy, PyData.canLay0]
  | _, _, .bl _ => by simp [toPy, PyData.canLay0]
  | _, _, .int _ => by simp [toPy, PyData.canLay0]
  | _, _, .str _ h => by simpa [toPy, PyData.canLay0] using h
  | _, _, .tup h _ r => by simpa [toPy, PyData.canLay0] using lays_of r
  | _, _, .lst h _ _ r => by simpa [toPy, PyData.canLay0] using lays_of r
  | _, _, .scr _ _ => by simp [toPy, PyData.canLay0]
  | _, _, .ref _ => by simp [toPy, PyData.canLay0]
theorem lays_of : ∀ {ds : List D} {xs : List V}, RepVs K H a ds xs → PyData.canLayAll0 (toPys ds) = true
  | _, _, .nil => by simp [toPys, PyData.canLayAll0]
  | _, _, .cons h r => by simp only [toPys, PyData.canLayAll0, lay_of h, lays_of r]; rfl
end
mutual
theorem dep_of : ∀ d : D, (toPy d).depth = d.dep
  | .non => by simp [toPy, PyData.depth, D.dep]
  | .bl _ => by simp [toPy, PyData.depth, D.dep]
  | .int _ => by simp [toPy, PyData.depth, D.dep]
  | .str _ => by simp [toPy, PyData.depth, D.dep]
  | .tup ds => by simp only [toPy, PyData.depth, D.dep, deps_of ds]
  | .lst ds => by simp only [toPy, PyData.depth, D.dep, deps_of ds]
  | .scr _ => by simp [toPy, PyData.depth, D.dep]
  | .ref _ => by simp [toPy, PyData.depth, D.dep]
theorem deps_of : ∀ ds : List D, PyData.depthAll (toPys ds) = D.deps ds
  | [] => by simp [toPys, PyData.depthAll, D.deps]
  | d :: r => by simp only [toPys, PyData.depthAll, D.deps, dep_of d, deps_of r]
end
theorem shaped_of {d : D} {v : V} (h : RepV K H a d v) (hd : d.dep ≤ 64) : SeqAt.shaped (toPy d) = true := by
  show ((toPy d).canLay0 && decide ((toPy d).depth ≤ 64)) = true
  rw [lay_of h, dep_of, decide_eq_true hd]
  rfl
theorem big_line {n : Nat} (h : n ≤ big) : n ≤ sizeLine := by
  have : big ≤ sizeLine := by rw [sizeLine_eq]; decide
  omega
theorem strOk_app {s t : Str} (h1 : PyData.strOk s = true) (h2 : PyData.strOk t = true) : PyData.strOk (s ++ t) = true := by
  unfold PyData.strOk at *
  show (s.cps ++ t.cps).all _ = true
  rw [Array.all_append, h1, h2]
  rfl
theorem intsD_map : ∀ {ds : List D} {ns : List Int}, intsD ds = some ns → ds = ns.map .int
  | [], ns, e => by simp [intsD] at e; subst e; rfl
  | .int i :: r, ns, e => by
    simp only [intsD, Option.map_eq_some_iff] at e
    obtain ⟨q, e1, rfl⟩ := e
    rw [intsD_map e1]
    rfl
  | .non :: r, ns, e => by simp [intsD] at e
  | .bl _ :: r, ns, e => by simp [intsD] at e
  | .str _ :: r, ns, e => by simp [intsD] at e
  | .tup _ :: r, ns, e => by simp [intsD] at e
  | .lst _ :: r, ns, e => by simp [intsD] at e
  | .scr _ :: r, ns, e => by simp [intsD] at e
  | .ref _ :: r, ns, e => by simp [intsD] at e
/-- what is wanted behind a result: it stands somewhere -/
def Tr (K : PySem.W.Frag) (a : Ad) (H : Hp) (r : Res D) (Q : VK) : Prop := match r with
  | .ok d m' => ∀ a' H' v, Ext a H a' H' → MRel K a' m' H' → RepV K H' a' d v → Q v H'
  | _ => False
theorem Tr.mono {a' : Ad} {H' : Hp} {r : Res D} {Q : VK} (h : Tr K a H r Q) (e : Ext a H a' H') : Tr K a' H' r Q := by
  cases r with
  | ok d m' => exact fun a2 H2 v x => h a2 H2 v (e.trans x)
  | ex c ds m' => exact h
  | bad => exact h
/-- a value, the heap as it is -/
theorem Tr.val {d : D} {v : V} {Q : VK} (st : MRel K a m H) (h : Tr K a H (.ok d m) Q) (r : RepV K H a d v) : Q v H := h a H v Ext.refl st r
/-- a new tuple, a new list -/
theorem Tr.tup {ds : List D} {xs : List V} {Q : VK} (st : MRel K a m H) (h : Tr K a H (.ok (.tup ds) m) Q) (r : RepVs K H a ds xs) (hl : ds.length ≤ sizeLine) {p : Addr} (hp : H p = none) : Q (.ref p) (upd H p (.tup xs)) :=
  h a _ _ (Ext.new hp) (st.fresh hp) (.tup (.inl ⟨.inl upd_same, st.out hp⟩) hl (r.mono (Ext.new hp)))
theorem Tr.lst {ds : List D} {xs : List V} {Q : VK} (st : MRel K a m H) (h : Tr K a H (.ok (.lst ds) m) Q) (r : RepVs K H a ds xs) (hl : ds.length ≤ sizeLine) {p : Addr} (hp : H p = none) : Q (.ref p) (upd H p (.lst xs)) :=
  h a _ _ (Ext.new hp) (st.fresh hp) (.lst upd_same (st.out hp) hl (r.mono (Ext.new hp)))
/-- an operation on two values, by data -/
def rD2 (K : PySem.W.Frag) (f : Mem → D → D → Res D) : R2 := fun x y H Q => ∃ a m d e, MRel K a m H ∧ RepV K H a d x ∧ RepV K H a e y ∧ Tr K a H (f m d e) Q
/-- a call on values, by data -/
def rDs (K : PySem.W.Frag) (f : Mem → List D → Res D) : List V → Hp → VK → Prop := fun xs H Q => ∃ a m ds, MRel K a m H ∧ RepVs K H a ds xs ∧ Tr K a H (f m ds) Q
end
section
variable {X : Cx}
theorem opD_add : OpR X (binaryOp .Add) (rD2 X.K fun m x y => optR (binD .add x y) m) := by
  intro pins s σ H x y v u Q I rx ry h
  obtain ⟨a, m, d, e, st, r1, r2, q⟩ := h
  cases r1 <;> cases r2 <;> first | exact False.elim q | skip
  case int.int i j => exact op_add pins s σ H _ _ v u Q I rx ry ⟨i, j, rfl, rfl, q.val st (.int _)⟩
  case str.str s1 h1 s2 h2 =>
    simp only [binD] at q
    split at q
    · rename_i hl
      exact op_add_str pins s σ H _ _ v u Q I rx ry ⟨s1, s2, rfl, rfl, big_line hl, q.val st (.str _ (strOk_app h1 h2))⟩
    · exact False.elim q
  case tup.tup ds p xs h hl r es p2 ys h' hl' r' =>
    simp only [binD] at q
    split at q
    · rename_i hz
      have hz' := big_line hz
      refine op_catA pins s σ H _ _ v u Q I rx ry ⟨p, p2, xs, ys, rfl, rfl, h.sq, h'.sq, by rw [← r.length, ← r'.length]; exact hz', ?_⟩
      refine ⟨fun e => ?_, fun e1 e2 => ?_, fun e1 e2 z hz => q.tup st (r.append r') (by rw [List.length_append]; exact hz') hz⟩
      · have e' : ds = [] := List.eq_nil_of_length_eq_zero (by rw [r.length, e]; rfl)
        subst e'
        exact q.val st (.tup h' hl' r')
      · have e' : es = [] := List.eq_nil_of_length_eq_zero (by rw [r'.length, e2]; rfl)
        subst e'
        rw [List.append_nil] at q
        exact q.val st (.tup h hl r)
    · exact False.elim q
  case lst.lst ds p xs h hn hl r es p2 ys h' hn' hl' r' =>
    simp only [binD] at q
    split at q
    · rename_i hz
      have hz' := big_line hz
      exact op_cat pins s σ H _ _ v u Q I rx ry ⟨p, p2, xs, ys, rfl, rfl, h, h', by rw [← r.length, ← r'.length]; exact hz', fun z hz => q.lst st (r.append r') (by rw [List.length_append]; exact hz') hz⟩
    · exact False.elim q
theorem opD_sub : OpR X (binaryOp .Sub) (rD2 X.K fun m x y => optR (binD .sub x y) m) := by
  intro pins s σ H x y v u Q I rx ry h
  obtain ⟨a, m, d, e, st, r1, r2, q⟩ := h
  cases r1 <;> cases r2 <;> first | exact False.elim q | skip
  case int.int i j => exact op_sub pins s σ H _ _ v u Q I rx ry ⟨i, j, rfl, rfl, q.val st (.int _)⟩
theorem opD_mul : OpR X (binaryOp .Mult) (rD2 X.K fun m x y => optR (binD .mul x y) m) := by
  intro pins s σ H x y v u Q I rx ry h
  obtain ⟨a, m, d, e, st, r1, r2, q⟩ := h
  cases r1 <;> cases r2 <;> first | exact False.elim q | skip
  case int.int i j =>
    simp only [binD] at q
    split at q
    · rename_i hz
      exact op_mul pins s σ H _ _ v u Q I rx ry ⟨i, j, rfl, rfl, hz, q.val st (.int _)⟩
    · exact False.elim q
theorem opD_fdiv : OpR X (binaryOp .FloorDiv) (rD2 X.K fun m x y => optR (binD .fdiv x y) m) := by
  intro pins s σ H x y v u Q I rx ry h
  obtain ⟨a, m, d, e, st, r1, r2, q⟩ := h
  cases r1 <;> cases r2 <;> first | exact False.elim q | skip
  case int.int i j =>
    simp only [binD] at q
    split at q
    · rename_i hz
      exact op_fdivN pins s σ H _ _ v u Q I rx ry ⟨i, j, rfl, rfl, hz, q.val st (.int _)⟩
    · exact False.elim q
theorem opD_mod : OpR X (binaryOp .Mod) (rD2 X.K fun m x y => optR (binD .mod x y) m) := by
  intro pins s σ H x y v u Q I rx ry h
  obtain ⟨a, m, d, e, st, r1, r2, q⟩ := h
  cases r1 <;> cases r2 <;> first | exact False.elim q | skip
  case int.int i j =>
    simp only [binD] at q
    split at q
    · rename_i hz
      exact op_modN pins s σ H _ _ v u Q I rx ry ⟨i, j, rfl, rfl, hz, q.val st (.int _)⟩
    · exact False.elim q
theorem opD_pow : OpR X (binaryOp .Pow) (rD2 X.K fun m x y => optR (binD .pow x y) m) := by
  intro pins s σ H x y v u Q I rx ry h
  obtain ⟨a, m, d, e, st, r1, r2, q⟩ := h
  cases r1 <;> cases r2 <;> first | exact False.elim q | skip
  case int.int i j =>
    simp only [binD] at q
    split at q
    · rename_i hz
      exact op_pow pins s σ H _ _ v u Q I rx ry ⟨i, j, rfl, rfl, hz, q.val st (.int _)⟩
    · exact False.elim q
/-! ### comparisons -/
abbrev rCmp (K : PySem.W.Frag) (o : Cop) : R2 := rD2 K fun m x y => optB (cmpD m o x y) m
theorem eqD_some {m : Mem} {x y : D} {b : Bool} (h : eqD m x y = some b) : ∃ x' y', frzD m 0 x = some x' ∧ frzD m 0 y = some y' ∧ x'.pure = true ∧ y'.pure = true ∧ x'.dep ≤ 64 ∧ y'.dep ≤ 64 ∧ b = PyData.eqv (toPy x') (toPy y') := by
  unfold eqD at h
  split at h
  · rename_i x' y' h1 h2
    split at h
    · rename_i hc
      exact ⟨x', y', h1, h2, hc.1, hc.2.1, hc.2.2.1, hc.2.2.2, (Option.some.inj h).symm⟩
    · cases h
  · cases h
theorem opD_eq (hu : X.A.units + 64 < cLine) : OpR X (compareOp .Eq) (rCmp X.K .eq) := by
  intro pins s σ H x y v u Q I rx ry h
  obtain ⟨a, m, d, e, st, r1, r2, q⟩ := h
  have q : Tr X.K a H (optB (cmpD m .eq d e) m) Q := q
  cases hb : eqD m d e with
  | none => rw [show cmpD m .eq d e = eqD m d e by simp only [cmpD], hb] at q; exact False.elim q
  | some b =>
    rw [show cmpD m .eq d e = eqD m d e by simp only [cmpD], hb] at q
    obtain ⟨x', y', h1, h2, p1, p2, z1, z2, rfl⟩ := eqD_some hb
    have f1 := frzD_rep st r1 h1
    have f2 := frzD_rep st r2 h2
    exact op_eqD hu pins s σ H x y v u Q I rx ry ⟨_, _, dp_of f1 p1, dp_of f2 p2, shaped_of f1 z1, shaped_of f2 z2, q.val st (.bl _)⟩
theorem opD_ne (hu : X.A.units + 64 < cLine) : OpR X (compareOp .NotEq) (rCmp X.K .ne) := by
  intro pins s σ H x y v u Q I rx ry h
  obtain ⟨a, m, d, e, st, r1, r2, q⟩ := h
  have q : Tr X.K a H (optB (cmpD m .ne d e) m) Q := q
  cases hb : eqD m d e with
  | none => rw [show cmpD m .ne d e = (eqD m d e).map (!·) by simp only [cmpD], hb] at q; exact False.elim q
  | some b =>
    rw [show cmpD m .ne d e = (eqD m d e).map (!·) by simp only [cmpD], hb] at q
    obtain ⟨x', y', h1, h2, p1, p2, z1, z2, rfl⟩ := eqD_some hb
    have f1 := frzD_rep st r1 h1
    have f2 := frzD_rep st r2 h2
    exact op_neD hu pins s σ H x y v u Q I rx ry ⟨_, _, dp_of f1 p1, dp_of f2 p2, shaped_of f1 z1, shaped_of f2 z2, q.val st (.bl _)⟩
theorem opD_lt (hu : X.A.units < cLine) : OpR X (compareOp .Lt) (rCmp X.K .lt) := by
  intro pins s σ H x y v u Q I rx ry h
  obtain ⟨a, m, d, e, st, r1, r2, q⟩ := h
  cases r1 <;> cases r2 <;> first | exact False.elim q | skip
  case int.int i j => exact op_lt pins s σ H _ _ v u Q I rx ry ⟨i, j, rfl, rfl, q.val st (.bl _)⟩
  case tup.tup ds p xs h hl r es p2 ys h' hl' r' =>
    simp only [cmpD] at q
    split at q
    · rename_i x y e1 e2
      have e1' := intsD_map e1
      have e2' := intsD_map e2
      subst e1' e2'
      have g1 := r.ints
      have g2 := r'.ints
      subst g1 g2
      exact op_ltT hu pins s σ H _ _ v u Q I rx ry ⟨p, p2, x, y, rfl, rfl, h.sq, h'.sq, q.val st (.bl _)⟩
    · exact False.elim q
theorem opD_le : OpR X (compareOp .LtE) (rCmp X.K .le) := by
  intro pins s σ H x y v u Q I rx ry h
  obtain ⟨a, m, d, e, st, r1, r2, q⟩ := h
  cases r1 <;> cases r2 <;> first | exact False.elim q | skip
  case int.int i j => exact op_le pins s σ H _ _ v u Q I rx ry ⟨i, j, rfl, rfl, q.val st (.bl _)⟩
theorem opD_gt : OpR X (compareOp .Gt) (rCmp X.K .gt) := by
  intro pins s σ H x y v u Q I rx ry h
  obtain ⟨a, m, d, e, st, r1, r2, q⟩ := h
  cases r1 <;> cases r2 <;> first | exact False.elim q | skip
  case int.int i j => exact op_gt pins s σ H _ _ v u Q I rx ry ⟨i, j, rfl, rfl, q.val st (.bl _)⟩
theorem opD_ge : OpR X (compareOp .GtE) (rCmp X.K .ge) := by
  intro pins s σ H x y v u Q I rx ry h
  obtain ⟨a, m, d, e, st, r1, r2, q⟩ := h
  cases r1 <;> cases r2 <;> first | exact False.elim q | skip
  case int.int i j => exact op_ge pins s σ H _ _ v u Q I rx ry ⟨i, j, rfl, rfl, q.val st (.bl _)⟩
theorem non_iff {K : PySem.W.Frag} {H : Hp} {a : Ad} {d : D} {x : V} (r : RepV K H a d x) : decide (x = V.non) = decide (d = D.non) := by
  cases r <;> simp
theorem opD_is : OpR X (compareOp .Is) (rCmp X.K .isn) := by
  intro pins s σ H x y v u Q I rx ry h
  obtain ⟨a, m, d, e, st, r1, r2, q⟩ := h
  cases r2 <;> simp only [cmpD] at q <;> first | exact False.elim q | skip
  refine op_isN pins s σ H _ _ v u Q I rx ry ⟨rfl, ?_⟩
  rw [non_iff r1]
  exact q.val st (.bl _)
theorem opD_isnot : OpR X (compareOp .IsNot) (rCmp X.K .notn) := by
  intro pins s σ H x y v u Q I rx ry h
  obtain ⟨a, m, d, e, st, r1, r2, q⟩ := h
  cases r2 <;> simp only [cmpD] at q <;> first | exact False.elim q | skip
  refine op_notN pins s σ H _ _ v u Q I rx ry ⟨rfl, ?_⟩
  rw [non_iff r1]
  exact q.val st (.bl _)
/-! ### in -/
theorem flat_rep {K : PySem.W.Frag} {H : Hp} {a : Ad} {d : D} {x : V} (r : RepV K H a d x) (h : flatD d = true) : flatV x = true := by
  cases r <;> first | rfl | (simp [flatD] at h)
theorem eqF_rep {K : PySem.W.Frag} {H : Hp} {a : Ad} {d e : D} {x y : V} (r : RepV K H a d x) (q : RepV K H a e y) (h : flatD d = true) (h' : flatD e = true) : eqV x y = eqF d e := by
  cases r <;> cases q <;> first | rfl | (simp [flatD] at h) | (simp [flatD] at h')
theorem any_rep {K : PySem.W.Frag} {H : Hp} {a : Ad} {d : D} {x : V} (r : RepV K H a d x) (h : flatD d = true) : ∀ {ds : List D} {xs : List V}, RepVs K H a ds xs → ds.all flatD = true → xs.all flatV = true ∧ inV x xs = ds.any fun y => eqF y d
  | _, _, .nil, _ => ⟨rfl, rfl⟩
  | _, _, .cons q t, h' => by
    simp only [List.all_cons, Bool.and_eq_true] at h'
    obtain ⟨i1, i2⟩ := any_rep r h t h'.2
    refine ⟨by simp [flat_rep q h'.1, i1], ?_⟩
    show (eqV _ x || inV x _) = _
    rw [eqF_rep q r h'.1 h, i2, List.any_cons]
theorem key_rep {K : PySem.W.Frag} {H : Hp} {a : Ad} {d : D} {x : V} {k : Key} (r : RepV K H a d x) (h : keyD d = some k) : x = kV k := by
  cases r <;> simp [keyD] at h <;> subst h <;> rfl
theorem look_rep {K : PySem.W.Frag} {H : Hp} {a : Ad} (k : Key) : ∀ {kvs : List (Key × D)} {ks : List (Key × V)}, RepK K H a kvs ks → (lookK kvs k = none ∧ valV ks k = none) ∨ ∃ d v, lookK kvs k = some d ∧ valV ks k = some v ∧ RepV K H a d v
  | _, _, .nil => .inl ⟨rfl, rfl⟩
  | _, _, .cons (k := j) (d := d) (v := v) (r := r) h t => by
    by_cases e : j = k
    · exact .inr ⟨d, v, by simp [lookK, e], valV_pos e, h⟩
    · have e1 : lookK ((j, d) :: r) k = lookK r k := by simp [lookK, e]
      rw [e1, valV_neg (p := (j, v)) e]
      exact look_rep k t
theorem put_rep {K : PySem.W.Frag} {H : Hp} {a : Ad} (k : Key) {d : D} {v : V} (h : RepV K H a d v) {kvs : List (Key × D)} {ks : List (Key × V)} (r : RepK K H a kvs ks) : RepK K H a (putK kvs k d) (L2.putK ks k v) := by
  have hany : ∀ {kvs : List (Key × D)} {ks : List (Key × V)}, RepK K H a kvs ks → (kvs.any fun p => decide (p.1 = k)) = (ks.any fun p => decide (p.1 = k)) := fun {kvs ks} r => by
    induction r with
    | nil => rfl
    | cons _ _ ih => simp only [List.any_cons, ih]
  have hmap : ∀ {kvs : List (Key × D)} {ks : List (Key × V)}, RepK K H a kvs ks → RepK K H a (kvs.map fun p => if p.1 = k then (p.1, d) else p) (ks.map fun p => if p.1 = k then (p.1, v) else p) := fun {kvs ks} r => by
    induction r with
    | nil => exact .nil
    | @cons j d' v' _ _ h' _ ih =>
      simp only [List.map_cons]
      by_cases e : j = k
      · rw [if_pos e, if_pos e]; exact .cons h ih
      · rw [if_neg e, if_neg e]; exact .cons h' ih
  have happ : ∀ {kvs : List (Key × D)} {ks : List (Key × V)}, RepK K H a kvs ks → RepK K H a (kvs ++ [(k, d)]) (ks ++ [(k, v)]) := fun {kvs ks} r => by
    induction r with
    | nil => exact .cons h .nil
    | cons h' _ ih => exact .cons h' ih
  unfold putK L2.putK
  rw [← hany r]
  split
  · exact hmap r
  · exact happ r
theorem drop_rep {K : PySem.W.Frag} {H : Hp} {a : Ad} (k : Key) : ∀ {kvs : List (Key × D)} {ks : List (Key × V)}, RepK K H a kvs ks → RepK K H a (dropK kvs k) (L2.dropK ks k)
  | _, _, .nil => .nil
  | _, _, .cons (k := j) h t => by
    unfold dropK L2.dropK
    simp only [List.filter_cons]
    by_cases e : j = k
    · simp only [e, ne_eq, not_true_eq_false, decide_false, Bool.false_eq_true, if_false]; exact drop_rep k t
    · simp only [e, ne_eq, not_false_eq_true, decide_true, if_true]; exact .cons h (drop_rep k t)
theorem look_rep' {K : PySem.W.Frag} {H : Hp} {a : Ad} {k : Key} {kvs : List (Key × D)} {ks : List (Key × V)} (r : RepK K H a kvs ks) : (lookK kvs k).isSome = (valV ks k).isSome := by
  rcases look_rep k r with ⟨h1, h2⟩ | ⟨d, v, h1, h2, _⟩ <;> rw [h1, h2] <;> rfl
theorem opD_in (hu : X.A.units + 1 < cLine) : OpR X (compareOp .In) (rCmp X.K .inn) := by
  intro pins s σ H x y v u Q I rx ry h
  obtain ⟨a, m, d, e, st, r1, r2, q⟩ := h
  cases r2 <;> simp only [cmpD, inD] at q <;> first | exact False.elim q | skip
  case tup ds p xs h hl r =>
    split at q
    · rename_i hf
      obtain ⟨i1, i2⟩ := any_rep r1 hf.1 r hf.2
      refine op_in_seq pins s σ H _ _ v u Q I rx ry ⟨p, xs, rfl, .inr h.sq, flat_rep r1 hf.1, i1, ?_⟩
      rw [i2]
      exact q.val st (.bl _)
    · exact False.elim q
  case lst ds p xs h hn hl r =>
    split at q
    · rename_i hf
      obtain ⟨i1, i2⟩ := any_rep r1 hf.1 r hf.2
      refine op_in_seq pins s σ H _ _ v u Q I rx ry ⟨p, xs, rfl, .inl (SqL.of h), flat_rep r1 hf.1, i1, ?_⟩
      rw [i2]
      exact q.val st (.bl _)
    · exact False.elim q
  case str s2 h2 =>
    cases r1 <;> simp only at q <;> first | exact False.elim q | skip
    exact op_in_str pins s σ H _ _ v u Q I rx ry ⟨_, _, rfl, rfl, q.val st (.bl _)⟩
  case ref n p h =>
    split at q
    · rename_i kvs k h1 h2
      obtain ⟨ho, g1, g2⟩ := st.at_ n p _ h h1
      cases g2 with
      | dct hl r =>
        have ek := key_rep r1 h2
        subst ek
        have ep := (show u = Value.ref p from ry)
        subst ep
        refine L2.d_in (A := X.A) (E := X.xe) hu I (DGet.k g1 (k := k)) rx fun s' I' => ?_
        rw [look_rep' r] at q
        exact ⟨.bl _, H, I', rfl, q.val st (.bl _)⟩
    · exact False.elim q
theorem opD_nin (hu : X.A.units + 1 < cLine) : OpR X (compareOp .NotIn) (rCmp X.K .nin) := by
  intro pins s σ H x y v u Q I rx ry h
  obtain ⟨a, m, d, e, st, r1, r2, q⟩ := h
  cases r2 <;> simp only [cmpD, inD] at q <;> first | exact False.elim q | skip
  case tup ds p xs h hl r =>
    split at q
    · rename_i hf
      obtain ⟨i1, i2⟩ := any_rep r1 hf.1 r hf.2
      refine op_notIn_seq pins s σ H _ _ v u Q I rx ry ⟨p, xs, rfl, .inr h.sq, flat_rep r1 hf.1, i1, ?_⟩
      rw [i2]
      exact q.val st (.bl _)
    · exact False.elim q
  case lst ds p xs h hn hl r =>
    split at q
    · rename_i hf
      obtain ⟨i1, i2⟩ := any_rep r1 hf.1 r hf.2
      refine op_notIn_seq pins s σ H _ _ v u Q I rx ry ⟨p, xs, rfl, .inl (SqL.of h), flat_rep r1 hf.1, i1, ?_⟩
      rw [i2]
      exact q.val st (.bl _)
    · exact False.elim q
  case str s2 h2 =>
    cases r1 <;> simp only at q <;> first | exact False.elim q | skip
    exact op_notin_str pins s σ H _ _ v u Q I rx ry ⟨_, _, rfl, rfl, q.val st (.bl _)⟩
  case ref n p h =>
    split at q
    · rename_i kvs k h1 h2
      obtain ⟨ho, g1, g2⟩ := st.at_ n p _ h h1
      cases g2 with
      | dct hl r =>
        have ek := key_rep r1 h2
        subst ek
        have ep := (show u = Value.ref p from ry)
        subst ep
        refine L2.d_notIn (A := X.A) (E := X.xe) hu I (DGet.k g1 (k := k)) rx fun s' I' => ?_
        rw [Option.map_some, look_rep' r] at q
        exact ⟨.bl _, H, I', rfl, q.val st (.bl _)⟩
    · exact False.elim q
end
end Br


set_option Elab.async false
set_option linter.all false
set_option maxRecDepth 100000
set_option autoImplicit false
/-! Br: built-in functions, items, slices. -/
namespace Br
open PySem PySem.Spec PyProof.Rows L2
section
variable {X : Cx}
abbrev rFn (K : PySem.W.Frag) (f : Fn) : List V → Hp → VK → Prop := rDs K fun m ds => fnD m f ds
/-- one argument -/
theorem one_of {K : PySem.W.Frag} {H : Hp} {a : Ad} {ds : List D} {xs : List V} (r : RepVs K H a ds xs) (h : ds.length = 1) : ∃ d x, ds = [d] ∧ xs = [x] ∧ RepV K H a d x := by
  cases r with
  | nil => simp at h
  | cons h1 t =>
    cases t with
    | nil => exact ⟨_, _, rfl, rfl, h1⟩
    | cons _ _ => simp at h
/-- the items of a thing: a list or a tuple stands there -/
theorem items_rep {K : PySem.W.Frag} {H : Hp} {a : Ad} {m : Mem} (st : MRel K a m H) {d : D} {x : V} {ds : List D} (r : RepV K H a d x) (h : itemsD m d = some ds) :
    ∃ p xs, x = .ref p ∧ (SqL K H p xs ∨ SqT K H p xs) ∧ RepVs K H a ds xs ∧ ds.length ≤ sizeLine := by
  cases r <;> simp only [itemsD] at h <;> first | (cases h; done) | skip
  case tup ds' p xs h1 hl r => cases h; exact ⟨p, xs, rfl, .inr h1.sq, r, hl⟩
  case lst ds' p xs h1 hn hl r => cases h; exact ⟨p, xs, rfl, .inl (SqL.of h1), r, hl⟩
  case scr ns p h1 hl => cases h; exact ⟨p, _, rfl, .inl h1.sq, RepVs.of_ints ns, by rw [List.length_map]; exact hl⟩
  case ref n p h1 =>
    split at h
    · rename_i ds' h2
      cases h
      obtain ⟨ho, g1, g2⟩ := st.at_ n p _ h1 h2
      cases g2 with
      | lst hl r => exact ⟨p, _, rfl, .inl (SqL.of g1), r, hl⟩
    · cases h
/-- .. a list -/
theorem fnD_one {m : Mem} {f : Fn} {ds : List D} (hf : f ≠ .min2) (hf2 : f ≠ .max2) (hf3 : f ≠ .str) (hf4 : f ≠ .int) (h : ds.length ≠ 1) : fnD m f ds = .bad := by
  match ds, h with
  | [], _ => cases f <;> rfl
  | [_], h => exact absurd rfl h
  | _ :: _ :: _, _ => cases f <;> first | rfl | exact (hf rfl).elim | exact (hf2 rfl).elim | exact (hf3 rfl).elim | exact (hf4 rfl).elim
theorem cr_one {c : Value} {f : Fn} (g : Mem → D → Res D) (hf : ∀ m d, fnD m f [d] = g m d) (h0 : ∀ (m : Mem) (ds : List D), ds.length ≠ 1 → fnD m f ds = .bad)
    (rule : ∀ (pins : List (Addr × Obj)) (s : Shared) (σ : L2.St) (H : Hp) (x : V) (us : List Value) (Q : VK) (a : Ad) (m : Mem) (d : D), Inv X pins σ H s → Vals [x] us → MRel X.K a m H → RepV X.K H a d x → Tr X.K a H (g m d) Q →
      wpAny (model X.prog X.w) X.A (call c us) (EP X pins σ Q) X.xe s) : CallR X c (rFn X.K f) := by
  intro pins s σ H xs us Q I r h
  obtain ⟨a, m, ds, st, rr, q⟩ := h
  have q : Tr X.K a H (fnD m f ds) Q := q
  by_cases h1 : ds.length = 1
  · obtain ⟨d, x, rfl, rfl, rd⟩ := one_of rr h1
    rw [hf] at q
    exact rule pins s σ H x us Q a m d I r st rd q
  · rw [h0 m ds h1] at q
    exact False.elim q
theorem cD_len : CallR X (.builtin "len") (rFn X.K .len) := by
  refine cr_one (fun m d => match lenD m d with | some n => .ok (.int n) m | none => .bad) (fun _ _ => rfl) (fun m ds h => fnD_one (by decide) (by decide) (by decide) (by decide) h) ?_
  intro pins s σ H x us Q a m d I r st rd q
  replace q : Tr X.K a H (match lenD m d with | some n => .ok (.int n) m | none => .bad) Q := q
  cases hl : lenD m d with
  | none => rw [hl] at q; exact False.elim q
  | some n =>
    rw [hl] at q
    have key : ∀ ds, itemsD m d = some ds → ds.length = n → wpAny (model X.prog X.w) X.A (call (.builtin "len") us) (EP X pins σ Q) X.xe s := fun ds h2 h3 => by
      obtain ⟨p, xs, rfl, hs, r2, _⟩ := items_rep st rd h2
      refine call_len_seq pins s σ H _ us Q I r ⟨p, xs, rfl, hs, ?_⟩
      rw [← r2.length, h3]
      exact q.val st (.int _)
    cases rd <;> simp only [lenD, itemsD, Option.map_some, Option.map_none] at hl <;> first | (cases hl; done) | skip
    case str z hz =>
      split at hl
      · rename_i hb
        cases hl
        exact call_len_str pins s σ H _ us Q I r ⟨z, rfl, big_line hb, q.val st (.int _)⟩
      · cases hl
    case tup ds p xs h2 hl' r2 => exact key ds rfl (Option.some.inj hl)
    case lst ds p xs h2 hn hl' r2 => exact key ds rfl (Option.some.inj hl)
    case scr ns p h2 hl' => exact key _ rfl (Option.some.inj hl)
    case ref k p h2 =>
      split at hl
      · rename_i ds h3
        exact key ds (by simp only [itemsD, h3]) (Option.some.inj hl)
      · rename_i kvs h3
        cases hl
        obtain ⟨ho, g1, g2⟩ := st.at_ k p _ h2 h3
        cases g2 with
        | dct hl r2 =>
          obtain ⟨u, rfl, rx⟩ := vals1 r
          cases rx
          refine d_len (A := X.A) (E := X.xe) I (.inl g1) fun t s' I' => ⟨.int _, H, I', ⟨t, rfl⟩, ?_⟩
          rw [← r2.length]
          exact q.val st (.int _)
      · cases hl
theorem cD_list : CallR X (.type "list") (rFn X.K .list) := by
  refine cr_one (fun m d => match itemsD m d with | some ds => .ok (.lst ds) m | none => .bad) (fun _ _ => rfl) (fun m ds h => fnD_one (by decide) (by decide) (by decide) (by decide) h) ?_
  intro pins s σ H x us Q a m d I r st rd q
  replace q : Tr X.K a H (match itemsD m d with | some ds => .ok (.lst ds) m | none => .bad) Q := q
  cases hl : itemsD m d with
  | none => rw [hl] at q; exact False.elim q
  | some ds =>
    rw [hl] at q
    obtain ⟨p, xs, rfl, hs, r2, hz⟩ := items_rep st rd hl
    exact call_list_of pins s σ H _ us Q I r ⟨p, xs, rfl, hs, fun l hl => q.lst st r2 hz hl⟩
theorem cD_tuple : CallR X (.type "tuple") (rFn X.K .tuple) := by
  refine cr_one (fun m d => match itemsD m d with | some ds => .ok (.tup ds) m | none => .bad) (fun _ _ => rfl) (fun m ds h => fnD_one (by decide) (by decide) (by decide) (by decide) h) ?_
  intro pins s σ H x us Q a m d I r st rd q
  replace q : Tr X.K a H (match itemsD m d with | some ds => .ok (.tup ds) m | none => .bad) Q := q
  cases hl : itemsD m d with
  | none => rw [hl] at q; exact False.elim q
  | some ds =>
    rw [hl] at q
    cases rd <;> simp only [itemsD] at hl <;> first | (cases hl; done) | skip
    case tup ds' p xs h2 hl' r2 =>
      cases hl
      exact call_tuple_of pins s σ H _ us Q I r ⟨p, xs, rfl, .inr ⟨h2.sq, q.val st (.tup h2 hl' r2)⟩⟩
    case lst ds' p xs h2 hn hl' r2 =>
      cases hl
      exact call_tuple_of pins s σ H _ us Q I r ⟨p, xs, rfl, .inl ⟨SqL.of h2, fun l hl => q.tup st r2 hl' hl⟩⟩
    case scr ns p h2 hl' =>
      cases hl
      exact call_tuple_of pins s σ H _ us Q I r ⟨p, _, rfl, .inl ⟨h2.sq, fun l hl => q.tup st (RepVs.of_ints ns) (by rw [List.length_map]; exact hl') hl⟩⟩
    case ref k p h2 =>
      split at hl
      · rename_i ds' h3
        cases hl
        obtain ⟨ho, g1, g2⟩ := st.at_ k p _ h2 h3
        cases g2 with
        | lst hl r2 => exact call_tuple_of pins s σ H _ us Q I r ⟨p, _, rfl, .inl ⟨SqL.of g1, fun l hl' => q.tup st r2 hl hl'⟩⟩
      · cases hl
/-! ### orders -/
theorem sortI_perm (ns : List Int) : (sortI ns).Perm ns := List.mergeSort_perm ns _
theorem sortI_sorted (ns : List Int) : (sortI ns).Pairwise (· ≤ ·) := by
  have h := List.pairwise_mergeSort (le := fun a b : Int => decide (a ≤ b)) (fun a b c h1 h2 => by simp at *; omega) (fun a b => by simp; omega) ns
  exact h.imp (fun h => by simpa using h)
theorem sortI_eq {ns ns' : List Int} (hp : ns'.Perm ns) (hs : ns'.Pairwise (· ≤ ·)) : ns' = sortI ns :=
  (hp.trans (sortI_perm ns).symm).eq_of_pairwise (fun x y _ _ h1 h2 => Int.le_antisymm h1 h2) hs (sortI_sorted ns)
theorem min_fold : ∀ (r : List Int) (a : Int), (r.foldl min a ∈ a :: r) ∧ ∀ y ∈ a :: r, r.foldl min a ≤ y
  | [], a => by simp
  | b :: r, a => by
    obtain ⟨h1, h2⟩ := min_fold r (min a b)
    simp only [List.foldl_cons]
    refine ⟨?_, fun y hy => ?_⟩
    · rcases List.mem_cons.mp h1 with h | h
      · rw [h]
        by_cases e : a ≤ b
        · rw [Int.min_eq_left e]; exact List.mem_cons_self
        · rw [Int.min_eq_right (by omega)]; exact List.mem_cons_of_mem _ List.mem_cons_self
      · exact List.mem_cons_of_mem _ (List.mem_cons_of_mem _ h)
    · have h3 := h2 (min a b) List.mem_cons_self
      rcases List.mem_cons.mp hy with h | h
      · omega
      · rcases List.mem_cons.mp h with h | h
        · omega
        · exact h2 y (List.mem_cons_of_mem _ h)
theorem max_fold : ∀ (r : List Int) (a : Int), (r.foldl max a ∈ a :: r) ∧ ∀ y ∈ a :: r, y ≤ r.foldl max a
  | [], a => by simp
  | b :: r, a => by
    obtain ⟨h1, h2⟩ := max_fold r (max a b)
    simp only [List.foldl_cons]
    refine ⟨?_, fun y hy => ?_⟩
    · rcases List.mem_cons.mp h1 with h | h
      · rw [h]
        by_cases e : a ≤ b
        · rw [Int.max_eq_right e]; exact List.mem_cons_of_mem _ List.mem_cons_self
        · rw [Int.max_eq_left (by omega)]; exact List.mem_cons_self
      · exact List.mem_cons_of_mem _ (List.mem_cons_of_mem _ h)
    · have h3 := h2 (max a b) List.mem_cons_self
      rcases List.mem_cons.mp hy with h | h
      · omega
      · rcases List.mem_cons.mp h with h | h
        · omega
        · exact h2 y (List.mem_cons_of_mem _ h)
theorem minI_spec {ns : List Int} {k : Int} (h : minI ns = some k) : 0 < ns.length ∧ k ∈ ns ∧ ∀ y ∈ ns, k ≤ y := by
  cases ns with
  | nil => cases h
  | cons a r =>
    cases h
    obtain ⟨h1, h2⟩ := min_fold r a
    exact ⟨by simp, h1, h2⟩
theorem maxI_spec {ns : List Int} {k : Int} (h : maxI ns = some k) : 0 < ns.length ∧ k ∈ ns ∧ ∀ y ∈ ns, y ≤ k := by
  cases ns with
  | nil => cases h
  | cons a r =>
    cases h
    obtain ⟨h1, h2⟩ := max_fold r a
    exact ⟨by simp, h1, h2⟩
/-- the ints of a list -/
theorem ints_rep {K : PySem.W.Frag} {H : Hp} {a : Ad} {m : Mem} (st : MRel K a m H) {d : D} {x : V} {ns : List Int} (r : RepV K H a d x) (h : (lstD m d).bind intsD = some ns) :
    ∃ p, x = .ref p ∧ SqL K H p (ns.map V.int) ∧ ns.length ≤ sizeLine := by
  obtain ⟨ds, h1, h2⟩ := Option.bind_eq_some_iff.mp h
  have e := intsD_map h2
  subst e
  cases r <;> simp only [lstD] at h1 <;> first | (cases h1; done) | skip
  case lst ds' p xs h2 hn hl' r2 =>
    cases h1
    rw [r2.ints] at h2
    exact ⟨p, rfl, SqL.of h2, by simpa using hl'⟩
  case scr ns' p h4 hl' =>
    have e : ns'.map D.int = ns.map D.int := Option.some.inj h1
    have e2 : ns' = ns := by
      have := congrArg (List.map fun d => match d with | D.int i => i | _ => 0) e
      simpa [List.map_map, Function.comp_def] using this
    subst e2
    exact ⟨p, rfl, h4.sq, hl'⟩
  case ref k p h2 =>
    split at h1
    · rename_i ds' h3
      cases h1
      obtain ⟨ho, g1, g2⟩ := st.at_ k p _ h2 h3
      cases g2 with
      | lst hl r2 =>
        rw [r2.ints] at g1
        exact ⟨p, rfl, SqL.of g1, by simpa using hl⟩
    · cases h1
theorem cD_sum (hc : X.calm = true) : CallR X (.builtin "sum") (rFn X.K .sum) := by
  refine cr_one (fun m d => match (lstD m d).bind intsD with | some ns => .ok (.int ns.sum) m | none => .bad) (fun _ _ => rfl) (fun m ds h => fnD_one (by decide) (by decide) (by decide) (by decide) h) ?_
  intro pins s σ H x us Q a m d I r st rd q
  replace q : Tr X.K a H (match (lstD m d).bind intsD with | some ns => .ok (.int ns.sum) m | none => .bad) Q := q
  cases hl : (lstD m d).bind intsD with
  | none => rw [hl] at q; exact False.elim q
  | some ns =>
    rw [hl] at q
    obtain ⟨p, rfl, hs, _⟩ := ints_rep st rd hl
    exact cr_sum hc pins s σ H _ us Q I r ⟨p, ns, rfl, hs, q.val st (.int _)⟩
theorem cD_min (hc : X.calm = true) : CallR X (.builtin "min") (rFn X.K .min) := by
  refine cr_one (fun m d => match ((lstD m d).bind intsD).bind minI with | some n => .ok (.int n) m | none => .bad) (fun _ _ => rfl) (fun m ds h => fnD_one (by decide) (by decide) (by decide) (by decide) h) ?_
  intro pins s σ H x us Q a m d I r st rd q
  replace q : Tr X.K a H (match ((lstD m d).bind intsD).bind minI with | some n => .ok (.int n) m | none => .bad) Q := q
  cases hl : (lstD m d).bind intsD with
  | none => rw [hl] at q; exact False.elim q
  | some ns =>
    rw [hl, Option.bind_some] at q
    cases hm : minI ns with
    | none => rw [hm] at q; exact False.elim q
    | some k =>
      rw [hm] at q
      obtain ⟨p, rfl, hs, _⟩ := ints_rep st rd hl
      obtain ⟨z1, z2, z3⟩ := minI_spec hm
      refine cr_min hc pins s σ H _ us Q I r ⟨p, ns, rfl, hs, z1, fun k' h1 h2 => ?_⟩
      rw [show k' = k from Int.le_antisymm (h2 k z2) (z3 k' h1)]
      exact q.val st (.int _)
theorem cD_max (hc : X.calm = true) : CallR X (.builtin "max") (rFn X.K .max) := by
  refine cr_one (fun m d => match ((lstD m d).bind intsD).bind maxI with | some n => .ok (.int n) m | none => .bad) (fun _ _ => rfl) (fun m ds h => fnD_one (by decide) (by decide) (by decide) (by decide) h) ?_
  intro pins s σ H x us Q a m d I r st rd q
  replace q : Tr X.K a H (match ((lstD m d).bind intsD).bind maxI with | some n => .ok (.int n) m | none => .bad) Q := q
  cases hl : (lstD m d).bind intsD with
  | none => rw [hl] at q; exact False.elim q
  | some ns =>
    rw [hl, Option.bind_some] at q
    cases hm : maxI ns with
    | none => rw [hm] at q; exact False.elim q
    | some k =>
      rw [hm] at q
      obtain ⟨p, rfl, hs, _⟩ := ints_rep st rd hl
      obtain ⟨z1, z2, z3⟩ := maxI_spec hm
      refine cr_max hc pins s σ H _ us Q I r ⟨p, ns, rfl, hs, z1, fun k' h1 h2 => ?_⟩
      rw [show k' = k from Int.le_antisymm (z3 k' h1) (h2 k z2)]
      exact q.val st (.int _)
theorem two_of {K : PySem.W.Frag} {H : Hp} {a : Ad} {d e : D} {xs : List V} (r : RepVs K H a [d, e] xs) : ∃ x y, xs = [x, y] ∧ RepV K H a d x ∧ RepV K H a e y := by
  cases r with
  | cons h t =>
    cases t with
    | cons h2 t2 => cases t2; exact ⟨_, _, rfl, h, h2⟩
theorem cD_min2 (hc : X.calm = true) : CallR X (.builtin "min") (rFn X.K .min2) := by
  intro pins s σ H xs us Q I r h
  obtain ⟨a, m, ds, st, rr, q⟩ := h
  replace q : Tr X.K a H (fnD m .min2 ds) Q := q
  match ds, q, rr with
  | [.int i, .int j], q, rr =>
    obtain ⟨x, y, rfl, r1, r2⟩ := two_of rr
    cases r1
    cases r2
    exact call_min2 hc pins s σ H _ us Q I r ⟨i, j, rfl, q.val st (.int _)⟩
theorem cD_max2 (hc : X.calm = true) : CallR X (.builtin "max") (rFn X.K .max2) := by
  intro pins s σ H xs us Q I r h
  obtain ⟨a, m, ds, st, rr, q⟩ := h
  replace q : Tr X.K a H (fnD m .max2 ds) Q := q
  match ds, q, rr with
  | [.int i, .int j], q, rr =>
    obtain ⟨x, y, rfl, r1, r2⟩ := two_of rr
    cases r1
    cases r2
    exact call_max2 hc pins s σ H _ us Q I r ⟨i, j, rfl, q.val st (.int _)⟩
theorem cD_int : CallR X (.type "int") (rFn X.K .int) := by
  intro pins s σ H xs us Q I r h
  obtain ⟨a, m, ds, st, rr, q⟩ := h
  replace q : Tr X.K a H (fnD m .int ds) Q := q
  match ds, q, rr with
  | [.int i], q, rr =>
    cases rr with
    | cons h t =>
      cases t
      cases h
      exact call_int1 pins s σ H _ us Q I r (.inl ⟨i, rfl, q.val st (.int _)⟩)
  | [.bl b], q, rr =>
    cases rr with
    | cons h t =>
      cases t
      cases h
      exact call_int1 pins s σ H _ us Q I r (.inr ⟨b, rfl, q.val st (.int _)⟩)
end
end Br


set_option Elab.async false
set_option linter.all false
set_option maxRecDepth 100000
set_option autoImplicit false
/-! Br: sorted of dicts and sets, dict(..), items, slices, isinstance. -/
namespace Br
open PySem PySem.Spec PyProof.Rows L2
section
variable {X : Cx}
/-- sorted(d), d a dict whose keys are ints, any number of them -/
theorem sorted_dict_ints (hcalm : X.calm = true) {pins : List (Addr × Obj)} {s : Shared} {σ : L2.St} {H : Hp} {Q : VK} {a : Addr} {kvs : List (Key × V)} {ks : List Int} (I : Inv X pins σ H s)
    (hd : Rd H a (.dK kvs)) (hks : kvs.map (·.1) = ks.map Sum.inl)
    (q : ∀ (ys : List Int) (p : Addr), ys.Perm ks → ys.Pairwise (· ≤ ·) → H p = none → Q (.ref p) (upd H p (.lst (ys.map V.int)))) :
    wpAny (model X.prog X.w) X.A (call (.builtin "sorted") [.ref a]) (EP X pins σ Q) X.xe s := by
  obtain ⟨hz, hsys, vs, rel, dd⟩ := dk_rd I.hok hd
  obtain ⟨ep, hat⟩ := dd.dictAt
  have kk : vs.map (·.1) = ks.map Sum.inl := rel.keys.symm.trans hks
  have hvl : vs.length = ks.length := by simpa using congrArg List.length kk
  have hvz : vs.length ≤ sizeLine := by rw [← KV.length rel]; exact hz
  refine Calls.call_function_entry PyProof.Rows.kind_sorted PyProof.Rows.plain_sorted PyProof.Rows.entry_sorted (PyProof.Rows.args_sorted1 _) ?_
  unfold Builtin.«sorted»
  refine wpAny_bind (m := checkCount "sorted" 1 1 _) (wpAny_pure ?_)
  refine wpAny_bind (PySem.W.kdu_collect (A := X.A.in1) (PySem.W.kdl_dict (knd := mixKind X.prog X.w) (kvs := vs) (ep := ep) hsys) (I.ok.hd hcalm) hat hvz fun h1 tk got kept hgot => ?_)
  have gl : got.toList.length = ks.length := by rw [Array.length_toList, hgot.1, hvl]
  have gints : IntsAre got.toList ks := ints_each gl fun j v e => by
    obtain ⟨k, x, e1, e2⟩ := hgot.2 j v (by rw [← Array.getElem?_toList]; exact e)
    have e3 : (ks.map Sum.inl)[j]? = some k := by rw [← kk, List.getElem?_map, e1]; rfl
    rw [List.getElem?_map, Option.map_eq_some_iff] at e3
    obtain ⟨y, e4, rfl⟩ := e3
    rcases keyIs_shape (show keyIs (Sum.inl y) v = true from e2) with ⟨i, t, ek, ev⟩ | ⟨z, t, ek, ev⟩
    · cases ek; exact ⟨y, t, e4, ev⟩
    · cases ek
  have I1 : Inv X pins σ H { s with heap := h1, toks := tk } := I.kept kept
  have gz : got.toList.length ≤ sizeLine := by rw [gl, ← hvl]; exact hvz
  refine wpAny_bind (wpAny_newList ?_ gz)
  have at1 : (h1.push (seqObj "list" got.toList.toArray 0)).get? h1.objs.size = some (seqObj "list" got.toList.toArray 0) := Heap.get?_push_size _ rfl
  show wpAny _ _ _ _ _ { s with heap := h1.push (seqObj "list" got.toList.toArray 0), toks := tk }
  refine wpAny_bind (wpAny_holding (wpAny_call_entry PyProof.Rows.slot_list_sort ⟨_, at1, rfl⟩ PyProof.Rows.entry_list_sort
    (SrtO.list_sort_ord (s := { s with heap := h1.push (seqObj "list" got.toList.toArray 0), toks := tk }) SrtO.swo_int at1 gz (fun h2 => SrtO.ints_sortable gints h2) fun out g1 g2 => ⟨_, rfl, ?_⟩) (PyProof.Rows.args_list_sort _)))
  obtain ⟨k1, k2, k3⟩ := SrtO.ints_out gints g1 g2
  obtain ⟨e', he'⟩ := PyProof.Rows.sortedHeap_at (vs := got.toList) (out := out.toArray) at1
  have hlen : ((out.map SrtO.iv).map V.int).length ≤ sizeLine := by rw [List.length_map, k2.length_eq, ← gl]; exact gz
  refine wpAny_pure ⟨_, rfl, .ref h1.objs.size, upd H h1.objs.size (.lst ((out.map SrtO.iv).map V.int)), I1.laid (t' := tk) (fun b u e => ?_) (Nat.le_refl _)
    (show ObjOk X.prog X.w _ _ _ (.lst ((out.map SrtO.iv).map V.int)) from ⟨hlen, out, e', vals_of_ints k1, he'⟩), rfl, q _ _ k2 k3 (I1.hok.fresh (Nat.le_refl _))⟩
  have hb : b < h1.objs.size := Heap.lt_size e
  rw [PyProof.Rows.sortedHeap_old (Nat.ne_of_lt hb) (by rw [size_push']; exact Nat.lt_succ_of_lt hb)]
  exact Heap.get?_push_of_some _ e
theorem keys_ints : ∀ {kvs : List (Key × D)} {ns : List Int}, (kvs.map fun p => match p.1 with | .inl i => D.int i | .inr s => D.str s) = ns.map D.int → kvs.map (·.1) = ns.map Sum.inl
  | [], [], _ => rfl
  | [], _ :: _, e => by simp at e
  | _ :: _, [], e => by simp at e
  | (.inl i, _) :: r, n :: ns, e => by
    simp only [List.map_cons, List.cons.injEq, D.int.injEq] at e ⊢
    exact ⟨by rw [e.1], keys_ints e.2⟩
  | (.inr i, _) :: r, n :: ns, e => by simp at e
theorem cD_sorted (hc : X.calm = true) : CallR X (.builtin "sorted") (rFn X.K .sorted) := by
  refine cr_one (fun m d => match (keysD m d).bind intsD with | some ns => .ok (.lst ((sortI ns).map .int)) m | none => .bad) (fun _ _ => rfl) (fun m ds h => fnD_one (by decide) (by decide) (by decide) (by decide) h) ?_
  intro pins s σ H x us Q a m d I r st rd q
  replace q : Tr X.K a H (match (keysD m d).bind intsD with | some ns => .ok (.lst ((sortI ns).map .int)) m | none => .bad) Q := q
  cases hl : (keysD m d).bind intsD with
  | none => rw [hl] at q; exact False.elim q
  | some ns =>
    rw [hl] at q
    have done : ∀ ns' : List Int, ns'.Perm ns → ns'.Pairwise (· ≤ ·) → ns.length ≤ sizeLine → ∀ p, H p = none → Q (.ref p) (upd H p (.lst (ns'.map V.int))) := fun ns' h1 h2 hz p hp => by
      rw [sortI_eq h1 h2]
      exact q.lst st (RepVs.of_ints _) (by rw [List.length_map, (sortI_perm ns).length_eq]; exact hz) hp
    by_cases hd : (lstD m d).bind intsD = some ns
    · obtain ⟨p, rfl, hs, hz⟩ := ints_rep st rd hd
      exact cr_sortedI pins s σ H _ us Q I r ⟨p, ns, rfl, hs, fun ns' p' h1 h2 h3 => done ns' h1 h2 hz p' h3⟩
    · cases rd with
      | @ref k p h2 =>
        simp only [keysD] at hl
        split at hl
        · rename_i ds' h3
          exact absurd (by simp only [lstD, h3]; exact hl) hd
        · rename_i kvs h3
          obtain ⟨ho, g1, g2⟩ := st.at_ k p _ h2 h3
          cases g2 with
          | @dct _ ks hl' r2 =>
            have e := intsD_map (by simpa using hl)
            obtain ⟨u, rfl, rx⟩ := vals1 r
            cases rx
            have ek := keys_ints e
            have hz : ns.length ≤ sizeLine := by
              have := congrArg List.length ek
              simp only [List.length_map] at this
              omega
            exact sorted_dict_ints hc I (.inl g1) (by rw [r2.keys]; exact ek) fun ys p h1 h2 h3 => done ys h1 h2 hz p h3
        · cases hl
      | _ => exact absurd hl hd
/-! ### items -/
theorem atI_rep {K : PySem.W.Frag} {H : Hp} {a : Ad} {ds : List D} {xs : List V} {i : Int} {d : D} (r : RepVs K H a ds xs) (h : atI ds i = some d) : ∃ v, atI xs i = some v ∧ RepV K H a d v := by
  unfold atI at h ⊢
  rw [← r.length]
  obtain ⟨j, h1, h2⟩ := Option.bind_eq_some_iff.mp h
  obtain ⟨v, h3, h4⟩ := r.get h2
  exact ⟨v, by rw [h1]; exact h3, h4⟩
/-- not of a dict -/
def notDct (m : Mem) : D → Bool
  | .ref n => match m[n]? with
    | some (.dct _) => false
    | _ => true
  | _ => true
theorem strOk_one {s : Str} (h : PyData.strOk s = true) {i : Int} {c : Nat} (e : atI s.cps.toList i = some c) : PyData.strOk ⟨#[c]⟩ = true := by
  obtain ⟨j, h1, h2⟩ := Option.bind_eq_some_iff.mp e
  unfold PyData.strOk at h ⊢
  have hm := List.mem_of_getElem? h2
  rw [Array.all_eq_true'] at h
  have := h c (by simpa using hm)
  simpa using this
theorem ixD_seq : IxR X (fun x y H Q => ∃ a m d e, MRel X.K a m H ∧ RepV X.K H a d x ∧ RepV X.K H a e y ∧ notDct m d = true ∧ Tr X.K a H (optR (idxD m d e) m) Q) := by
  intro value slice pins s σ H x y v u Q I rx ry h hs
  obtain ⟨a, m, d, e, st, r1, r2, nd, q⟩ := h
  cases r1
  case str z hz =>
    cases r2 <;> first | exact False.elim q | skip
    rename_i i
    simp only [idxD] at q
    split at q
    · rename_i hb
      cases hc : atI z.cps.toList i with
      | none => rw [hc] at q; exact False.elim q
      | some c =>
        rw [hc] at q
        exact ix_str value slice pins s σ H _ _ v u Q I rx ry ⟨z, i, c, rfl, rfl, big_line hb, hc, q.val st (.str _ (strOk_one hz hc))⟩ hs
    · exact False.elim q
  case tup ds p xs h1 hl r =>
    cases r2 <;> first | exact False.elim q | skip
    rename_i i
    simp only [idxD, itemsD, Option.bind_some] at q
    cases hc : atI ds i with
    | none => rw [hc] at q; exact False.elim q
    | some c =>
      rw [hc] at q
      obtain ⟨w, h3, h4⟩ := atI_rep r hc
      exact ix_tup value slice pins s σ H _ _ v u Q I rx ry ⟨p, xs, i, w, rfl, rfl, h1.sq, h3, q.val st h4⟩ hs
  case lst ds p xs h1 hn hl r =>
    cases r2 <;> first | exact False.elim q | skip
    rename_i i
    simp only [idxD, itemsD, Option.bind_some] at q
    cases hc : atI ds i with
    | none => rw [hc] at q; exact False.elim q
    | some c =>
      rw [hc] at q
      obtain ⟨w, h3, h4⟩ := atI_rep r hc
      exact ix_list value slice pins s σ H _ _ v u Q I rx ry ⟨p, xs, i, w, rfl, rfl, SqL.of h1, h3, q.val st h4⟩ hs
  case scr ns p h1 hl =>
    cases r2 <;> first | exact False.elim q | skip
    rename_i i
    simp only [idxD, itemsD, Option.bind_some] at q
    cases hc : atI (ns.map D.int) i with
    | none => rw [hc] at q; exact False.elim q
    | some c =>
      rw [hc] at q
      obtain ⟨w, h3, h4⟩ := atI_rep (RepVs.of_ints ns) hc
      exact ix_list value slice pins s σ H _ _ v u Q I rx ry ⟨p, _, i, w, rfl, rfl, h1.sq, h3, q.val st h4⟩ hs
  case ref n p h1 =>
    simp only [notDct] at nd
    simp only [idxD] at q
    split at q
    · rename_i ds h2
      obtain ⟨ho, g1, g2⟩ := st.at_ n p _ h1 h2
      cases g2 with
      | @lst _ xs hl r =>
        cases r2 <;> first | exact False.elim q | skip
        rename_i i
        simp only at q
        cases hc : atI ds i with
        | none => rw [hc] at q; exact False.elim q
        | some c =>
          rw [hc] at q
          obtain ⟨w, h3, h4⟩ := atI_rep r hc
          exact ix_list value slice pins s σ H _ _ v u Q I rx ry ⟨p, xs, i, w, rfl, rfl, SqL.of g1, h3, q.val st h4⟩ hs
    · rename_i kvs h2
      rw [h2] at nd
      cases nd
    · exact False.elim q
  case non => cases r2 <;> exact False.elim q
  case bl => cases r2 <;> exact False.elim q
  case int => cases r2 <;> exact False.elim q
/-! ### slices -/
theorem cut_rep {K : PySem.W.Frag} {H : Hp} {a : Ad} {ds : List D} {xs : List V} (r : RepVs K H a ds xs) (lo hi : Option Int) : RepVs K H a (cutD ds lo hi) (cutV xs lo hi) := by
  unfold cutD cutV
  rw [← r.length]
  exact (r.drop _).take _
theorem cut_len {ds : List D} {lo hi : Option Int} : (cutD ds lo hi).length ≤ ds.length := by
  unfold cutD
  rw [List.length_take, List.length_drop]
  omega
theorem cut_all {ds : List D} {lo hi : Option Int} (h : HT.sIx ds.length 0 lo = 0 ∧ HT.sIx ds.length ds.length hi = ds.length) : cutD ds lo hi = ds := by
  unfold cutD
  rw [h.1, h.2]
  simp
theorem slD : SlR X (fun x lo hi H Q => ∃ a m d, MRel X.K a m H ∧ RepV X.K H a d x ∧ Tr X.K a H (optR (sliD m d lo hi) m) Q) := by
  intro pins s σ H x v vl vu lo hi sl Q I rx hs pl pu h
  obtain ⟨a, m, d, st, r1, q⟩ := h
  cases r1 <;> simp only [sliD] at q <;> first | exact False.elim q | skip
  case tup ds p xs h1 hl r =>
    refine sl_tupA pins s σ H _ v vl vu lo hi sl Q I rx hs pl pu ⟨p, xs, rfl, h1.sq, fun e => ?_, fun e z hz => q.tup st (cut_rep r lo hi) (Nat.le_trans cut_len hl) hz⟩
    rw [← r.length] at e
    rw [cut_all e] at q
    exact q.val st (.tup h1 hl r)
  case lst ds p xs h1 hn hl r =>
    exact sl_list pins s σ H _ v vl vu lo hi sl Q I rx hs pl pu ⟨p, xs, rfl, SqL.of h1, fun z hz => q.lst st (cut_rep r lo hi) (Nat.le_trans cut_len hl) hz⟩
  case ref n p h1 =>
    split at q
    · rename_i ds h2
      obtain ⟨ho, g1, g2⟩ := st.at_ n p _ h1 h2
      cases g2 with
      | @lst _ xs hl r =>
        exact sl_list pins s σ H _ v vl vu lo hi sl Q I rx hs pl pu ⟨p, xs, rfl, SqL.of g1, fun z hz => q.lst st (cut_rep r lo hi) (Nat.le_trans cut_len hl) hz⟩
    · exact False.elim q
/-! ### isinstance -/
def Ty.name : Ty → String
  | .int => "int"
  | .bool => "bool"
  | .str => "str"
  | .list => "list"
  | .tuple => "tuple"
/-- the built-in type of a thing -/
def tyName (m : Mem) : D → Option String
  | .non => some "NoneType"
  | .bl _ => some "bool"
  | .int _ => some "int"
  | .str _ => some "str"
  | .tup _ => some "tuple"
  | .lst _ => some "list"
  | .scr _ => some "list"
  | .ref n => match m[n]? with
    | some (.lst _) => some "list"
    | _ => none
theorem kitB_all : ∀ t : Ty, kitB "NoneType" t.name = some false ∧ kitB "bool" t.name = some (t == .bool || t == .int) ∧ kitB "int" t.name = some (t == .int) ∧ kitB "str" t.name = some (t == .str) ∧ kitB "tuple" t.name = some (t == .tuple) ∧ kitB "list" t.name = some (t == .list) := by
  intro t
  cases t <;> decide +kernel
theorem isTy_kit {K : PySem.W.Frag} {m : Mem} {d : D} {t : Ty} {n : String} {b : Bool} (h : tyName m d = some n) (e : isTy m d t = some b) : PySem.W.kitOne K (.type n) (.type t.name) = some b := by
  obtain ⟨k1, k2, k3, k4, k5, k6⟩ := kitB_all t
  refine kit_ty ?_
  cases d <;> simp only [tyName, isTy] at h e
  case ref k =>
    split at h
    · rename_i ds h2
      rw [h2] at e
      cases h
      rw [k6, ← e]
    · cases h
  all_goals (cases h; rw [← e]; assumption)
theorem tyX_of {K : PySem.W.Frag} {H : Hp} {a : Ad} {m : Mem} (st : MRel K a m H) {d : D} {x : V} {n : String} (r : RepV K H a d x) (h : tyName m d = some n) : TyX K H x (.type n) := by
  cases r <;> simp only [tyName] at h
  case non => cases h; exact .base .non
  case bl b => cases h; exact .base (.bl b)
  case int b => cases h; exact .base (.int b)
  case str b _ => cases h; exact .base (.str b)
  case tup ds p xs h1 hl r =>
    cases h
    rcases h1 with ⟨h1 | ⟨o, h1⟩, _⟩ | ⟨o, its, n, h1, h2, _⟩
    · exact .base (.tup h1)
    · exact .fTuple h1
    · exact .kTuple h1 h2
  case lst ds p xs h1 hn hl r => cases h; exact .base (.lst h1)
  case scr ns p h1 hl =>
    cases h
    rcases h1 with ⟨⟨o, h1⟩, _⟩ | ⟨o, its, n, h1, h2, _⟩
    · exact .base (.frz h1)
    · exact .kList h1 h2
  case ref k p h1 =>
    split at h
    · rename_i ds h2
      cases h
      obtain ⟨ho, g1, g2⟩ := st.at_ k p _ h1 h2
      cases g2 with
      | lst hl r => exact .base (.lst g1)
    · cases h
theorem anyTy_name {m : Mem} {d : D} : ∀ {ts : List Ty} {b : Bool}, ts ≠ [] → anyTy m d ts = some b → ∃ n, tyName m d = some n
  | [], _, h, _ => absurd rfl h
  | t :: r, b, _, e => by
    simp only [anyTy] at e
    cases d <;> first | exact ⟨_, rfl⟩ | skip
    rename_i k
    simp only [isTy] at e
    simp only [tyName]
    cases hk : m[k]? with
    | none => rw [hk] at e; simp at e
    | some o =>
      rw [hk] at e
      cases o <;> first | exact ⟨_, rfl⟩ | (simp at e)
theorem anyTy_kit {K : PySem.W.Frag} {m : Mem} {d : D} {n : String} (h : tyName m d = some n) : ∀ {ts : List Ty} {b : Bool}, anyTy m d ts = some b → PySem.W.kitAny K (.type n) (ts.map fun t => .type t.name) = some b
  | [], b, e => e
  | t :: r, b, e => by
    simp only [anyTy] at e
    split at e
    · rename_i b1 b2 e1 e2
      refine kitAny_cons (isTy_kit h e1) (fun z => ?_) (fun z => ?_)
      · rw [z, Bool.false_or] at e
        rw [← e]
        exact anyTy_kit h e2
      · rw [z, Bool.true_or] at e
        exact (Option.some.inj e).symm
    · cases e
end
end Br


set_option autoImplicit false
namespace Br
open PySem PySem.Spec PyProof.Rows L2
theorem strOk_of (s : String) : PyData.strOk (Str.ofString s) = true := by
  rw [Str.ofString_eq_toList]
  unfold PyData.strOk
  simp only [List.all_toArray, List.all_map, List.all_eq_true, Function.comp_apply, decide_eq_true_eq]
  intro c _
  have h := c.valid
  unfold Char.toNat
  rcases h with h | h
  · exact Nat.lt_trans h (by decide)
  · exact h.2
theorem strOk_int (i : Int) : PyData.strOk (toString i : Str) = true := strOk_of _
theorem cD_str {X : Cx} : CallR X (.type "str") (rFn X.K .str) := by
  intro pins s σ H xs us Q I r h
  obtain ⟨a, m, ds, st, rr, q⟩ := h
  replace q : Tr X.K a H (fnD m .str ds) Q := q
  match ds, q, rr with
  | [.int i], q, rr =>
    cases rr with
    | cons h t =>
      cases t
      cases h
      simp only [fnD] at q
      split at q
      · rename_i hz
        exact call_str_int pins s σ H _ us Q I r ⟨i, rfl, hz, q.val st (.str _ (strOk_int i))⟩
      · exact False.elim q
theorem pairs_rep {K : PySem.W.Frag} {H : Hp} {a : Ad} : ∀ {ds : List D} {xs : List V} {ps : List (Key × D)}, RepVs K H a ds xs → pairsD ds = some ps →
    ∃ (qs : List Addr) (kvs : List (Key × V)), xs = qs.map V.ref ∧ Paired (fun p kv => SqT K H p [kV kv.1, kv.2]) qs kvs ∧ RepK K H a ps kvs
  | _, _, _, .nil, e => by
    simp only [pairsD, Option.some.injEq] at e
    subst e
    exact ⟨[], [], rfl, .nil, .nil⟩
  | d :: ds, _, ps, .cons h t, e => by
    cases h <;> first | (simp [pairsD] at e; done) | skip
    rename_i es p ys h1 hl r
    match es, e, r with
    | [x, y], e, r =>
      simp only [pairsD] at e
      split at e
      · rename_i k q e1 e2
        cases e
        obtain ⟨v, w, rfl, r1, r2⟩ := two_of r
        obtain ⟨qs, kvs, g1, g2, g3⟩ := pairs_rep t e2
        have ek := key_rep r1 e1
        subst ek
        exact ⟨p :: qs, (k, w) :: kvs, by rw [g1]; rfl, .cons h1.sq g2, .cons r2 g3⟩
      · cases e
    | [], e, r => simp [pairsD] at e
    | [_], e, r => simp [pairsD] at e
    | _ :: _ :: _ :: _, e, r => simp [pairsD] at e
theorem merge_rep {K : PySem.W.Frag} {H : Hp} {a : Ad} : ∀ {ps : List (Key × D)} {kvs : List (Key × V)} {b : List (Key × D)} {c : List (Key × V)}, RepK K H a ps kvs → RepK K H a b c → RepK K H a (ps.foldl (fun a p => putK a p.1 p.2) b) (L2.mergeK c kvs)
  | _, _, _, _, .nil, r => r
  | _, _, b, c, .cons (k := k) (d := d) (v := v) (r := r) (q := q) h t, z => by
    show RepK K H a (r.foldl (fun a p => putK a p.1 p.2) (putK b k d)) (L2.mergeK (L2.putK c k v) q)
    exact merge_rep t (put_rep k h z)
theorem Tr.new {K : PySem.W.Frag} {H : Hp} {a : Ad} {m : Mem} {o : O} {ho : HO} {Q : VK} (st : MRel K a m H) (h : Tr K a H (.ok (.ref m.length) (m ++ [o])) Q) (r : RepO K H a o ho) {p : Addr} (hp : H p = none) : Q (.ref p) (upd H p ho) := by
  obtain ⟨h1, h2⟩ := st.push hp r
  refine h _ _ _ h2 h1 (.ref ?_)
  show (a.st ++ [p])[m.length]? = some p
  rw [← st.len, List.getElem?_append_right (Nat.le_refl _)]
  simp
theorem cD_dict {X : Cx} (hc : X.calm = true) : CallR X (.type "dict") (rFn X.K .dict) := by
  refine cr_one (fun m d => match (lstD m d).bind pairsD with | some ps => .ok (.ref m.length) (m ++ [.dct (ps.foldl (fun a p => putK a p.1 p.2) [])]) | none => .bad) (fun _ _ => rfl) (fun m ds h => fnD_one (by decide) (by decide) (by decide) (by decide) h) ?_
  intro pins s σ H x us Q a m d I r st rd q
  replace q : Tr X.K a H (match (lstD m d).bind pairsD with | some ps => .ok (.ref m.length) (m ++ [.dct (ps.foldl (fun a p => putK a p.1 p.2) [])]) | none => .bad) Q := q
  cases hl : (lstD m d).bind pairsD with
  | none => rw [hl] at q; exact False.elim q
  | some ps =>
    rw [hl] at q
    obtain ⟨ds, h1, h2⟩ := Option.bind_eq_some_iff.mp hl
    have key : ∀ (p : Addr) (xs : List V), x = .ref p → SqL X.K H p xs → RepVs X.K H a ds xs → ds.length ≤ sizeLine → wpAny (model X.prog X.w) X.A (call (.type "dict") us) (EP X pins σ Q) X.xe s := fun p xs ex hs r2 hz => by
      subst ex
      obtain ⟨qs, kvs, g1, g2, g3⟩ := pairs_rep r2 h2
      subst g1
      refine call_dictP hc pins s σ H _ us Q I r ⟨p, qs, kvs, rfl, hs, g2, fun z hz' => ?_⟩
      have r3 := merge_rep g3 (.nil (K := X.K) (H := H) (a := a))
      refine Tr.new st q (.dct ?_ r3) hz'
      have e1 := length_mergeK kvs []
      have e2 := r3.length
      have e3 := g3.length
      have e4 := r2.length
      have e5 := Paired.length g2
      simp only [List.length_map, List.length_nil] at *
      omega
    cases rd <;> simp only [lstD] at h1 <;> first | (cases h1; done) | skip
    case lst ds' p xs h3 hn hz r2 => cases h1; exact key p xs rfl (SqL.of h3) r2 hz
    case scr ns p h3 hz => cases h1; exact key p _ rfl h3.sq (RepVs.of_ints ns) (by rw [List.length_map]; exact hz)
    case ref k p h3 =>
      split at h1
      · rename_i ds' h4
        cases h1
        obtain ⟨ho, g1, g2⟩ := st.at_ k p _ h3 h4
        cases g2 with
        | lst hz r2 => exact key p _ rfl (SqL.of g1) r2 hz
      · cases h1
end Br


set_option Elab.async false
set_option linter.all false
set_option autoImplicit false
set_option maxRecDepth 100000
namespace Br
open PySem PySem.Spec PyProof.Rows L2
/-- the set that is begun -/
abbrev set0 (w : World) : Obj := { cls := .type "set", dict := none, data := .set #[] 0 (.fresh 0 0 (!w.params.followText "set-order")) }
section
variable {P : Program} {w : World} {A : Around} {E : Value → Shared → Prop} {s : Shared}
set_option maxHeartbeats 3200000 in
/-- set(xs), xs a list of ints: what it holds, and that it can be put in order -/
theorem set_of_ints {l : Addr} {items : Array Value} (ns : List Int) {Q : Value → Shared → Prop} (hh : A.handled = none) (hl : s.heap.IsList l items) (hit : IntsAre items.toList ns) (hb : ns.length + 1 < scanBound)
    (h : ∀ (h' : Heap) (tk c : Nat), SetR w h' s.heap.objs.size (fun j => decide (j ∈ ns)) c → c ≤ ns.length → (∀ b o, s.heap.get? b = some o → h'.get? b = some o) → Q (.ref s.heap.objs.size) { s with heap := h', toks := tk }) :
    wpAny (model P w) A (call (.type "set") [.ref l]) Q E s := by
  have hn : items.size = ns.length := by simpa using IntsAre.length hit
  obtain ⟨c, tl, hmro⟩ := F.called_set.mro
  have k1 := F.called_set.made
  have k2 := F.called_set.sub
  have k3 := F.called_set.notType
  have k4 := F.called_set.canCreate
  have k5 := F.typeCall_set_1 (.ref l)
  refine wpAny_call (codeAny_of_tree ?_)
  show wpAny _ _ (callAny (.type "set") _) _ _ _
  refine wpAny_pure ⟨Code.quiet_builtin _ (by decide +kernel), codeAny_builtin F.entry_type_call ?_⟩
  rw [Around.under_plain (weight_type_call_type "set" [.ref l] []) rfl]
  repeat (any_goals (first | assumption | wp_step))
  refine codeAny_mono (code_set_led1 (.ref l) (E := E) (Q₁ := fun x s₁ => x = .ref s.heap.objs.size ∧ s₁ = { s with heap := s.heap.push (set0 w) }) ⟨rfl, rfl⟩) fun r s₁ hr => ?_
  match r, hr with
  | .error e, hr => exact hr
  | .ok .next, hr => exact hr.elim
  | .ok .brk, hr => exact hr.elim
  | .ok .cont, hr => exact hr.elim
  | .ok (.ret x), hr =>
    obtain ⟨rfl, rfl⟩ := hr
    have g0 : (s.heap.push (set0 w)).get? s.heap.objs.size = some (set0 w) := Heap.get?_push_size _ rfl
    have gT : Shared.TypeIs { s with heap := s.heap.push (set0 w) } (.ref s.heap.objs.size) "set" := ⟨_, g0, rfl⟩
    have k6 := F.called_set.init.lookup
    have k7 := F.called_set.init.bind (.ref s.heap.objs.size)
    repeat (any_goals (first | assumption | wp_step))
    refine codeAny_mono (codeAny_call_builtin (R := wants (fun v s₂ => v = .none ∧ ∃ h' tk c, s₂ = { s with heap := h', toks := tk } ∧ SetR w h' s.heap.objs.size (fun j => decide (j ∈ ns)) c ∧ c ≤ ns.length ∧
        (∀ b o, s.heap.get? b = some o → h'.get? b = some o)) E) F.called_set.init.plain F.entry_set_init (check_set_init_1 gT ?_)) fun r₂ s₂ hr₂ => ?_
    · obtain ⟨⟨ocls, odict, odata, oslots⟩, hol, hcl, nl, hdl⟩ := hl
      simp only at hcl hdl
      subst hcl hdl
      have gl : (s.heap.push (set0 w)).get? l = some { cls := .type "list", dict := odict, data := .seq items nl, slots := oslots } := Heap.get?_push_of_some _ hol
      have k8 := F.sub_list_set
      have k9 := F.sub_list_frozenset
      have kd : (Value.type "list" == Value.type "dict") = false := by decide
      have gL : (s.heap.push (set0 w)).IsList l items := ⟨_, gl, rfl, nl, rfl⟩
      unfold Builtin.«set.__init__» noKeywords Builtin.Frozenset.updateFrom
      generalize hPI : pyIter = PI
      wp_walk
      subst hPI
      refine wpAny_pyIter_list gL (wpAny_bind (wpAny_runValue ?_))
      have lt : l < s.heap.objs.size := Heap.lt_size hol
      have sz : (s.heap.push (set0 w)).objs.size = s.heap.objs.size + 1 := Heap.size_push ..
      have hh3 : A.in1.in1.in1.handled = none := by simp [hh]
      have n1 : l ≠ (s.heap.push (set0 w)).objs.size := by rw [sz]; exact Nat.ne_of_lt (Nat.lt_succ_of_lt lt)
      have n2 : s.heap.objs.size ∉ [(s.heap.push (set0 w)).objs.size, l] := by
        simp only [List.mem_cons, List.not_mem_nil, or_false, not_or]
        exact ⟨by rw [sz]; exact Nat.ne_of_lt (Nat.lt_succ_self _), Nat.ne_of_gt lt⟩
      have hval : ∀ (i : Nat) (v : Value), items[i]? = some v → ∃ k t, ns[i]? = some k ∧ v = .int k t := fun i v hv => by
        have hi : i < ns.length := by rw [← hn]; exact (Array.getElem?_eq_some_iff.mp hv).1
        obtain ⟨t, e⟩ := PyProof.Rows.IntsAre.int_at hit i v (by rw [Array.getElem?_toList]; exact hv)
        exact ⟨ns[i], t, List.getElem?_eq_getElem hi, by rw [e, List.getD_eq_getElem?_getD, List.getElem?_eq_getElem hi]; rfl⟩
      refine set_update_ints ((PySem.Walks.list hh3 _ l n1 items).toS) s.heap.objs.size n2 ns hn hb hval (items.size - 0) 0 _ (by omega) (Nat.zero_le _) ⟨⟨_, Heap.get?_push_size _ rfl, rfl, rfl⟩, gL.push _⟩
        ⟨0, Nat.le_refl 0, setR_new_at (Heap.get?_push_of_some _ g0)⟩ fun s' c' hm hc' hS' => ?_
      obtain ⟨h', g2, d', tk', os'⟩ := s'
      obtain rfl : g2 = s.gens := hm.gens
      obtain rfl : d' = s.drawn := hm.drawn
      obtain rfl : os' = s.os := hm.os
      show wpAny _ _ _ _ _ _
      refine wpAny_pure ?_
      show wpAny _ _ (ret Value.none) _ _ _
      refine wpAny_pure ⟨rfl, h', tk', c', rfl, hS', by rw [hn] at hc'; exact hc', fun b o e => ?_⟩
      have hb0 : b < s.heap.objs.size := Heap.lt_size e
      refine hm.heap b o ?_ (Heap.get?_push_of_some _ (Heap.get?_push_of_some _ e))
      simp only [List.mem_cons, List.not_mem_nil, or_false, not_or]
      exact ⟨Nat.ne_of_lt hb0, by rw [sz]; exact Nat.ne_of_lt (Nat.lt_succ_of_lt hb0)⟩
    · match r₂, hr₂ with
      | .error e, hr₂ => exact hr₂
      | .ok .next, hr₂ => exact hr₂.elim
      | .ok .brk, hr₂ => exact hr₂.elim
      | .ok .cont, hr₂ => exact hr₂.elim
      | .ok (.ret v), hr₂ =>
        obtain ⟨rfl, h', tk, c, rfl, hS', hc', hk'⟩ := hr₂
        repeat (any_goals (first | assumption | wp_step))
        exact h _ _ _ hS' hc' hk'
end
section
variable {P : Program} {w : World} {A : Around} {E : Value → Shared → Prop} {s : Shared}
/-- sorted(s), s a set of ints, any number of them -/
theorem sorted_set_any {a : Addr} {S : Int → Bool} {n : Nat} {Q : Value → Shared → Prop} (R : SetR w s.heap a S n) (hh : A.handled = none) (hz : n ≤ 4000)
    (done : ∀ (s2 : Shared) (p : Addr) (out : Array Value) (c : Nat) (ys : List Int), (∀ b o, s.heap.get? b = some o → s2.heap.get? b = some o) → s2.gens = s.gens → s2.os = s.os → s.heap.objs.size ≤ p →
      s2.heap.get? p = some (seqObj "list" out c) → IntsAre out.toList ys → ys.Pairwise (· < ·) → (∀ k, k ∈ ys ↔ S k = true) → ys.length = n → Q (.ref p) s2) :
    wpAny (model P w) A (call (.builtin "sorted") [.ref a]) Q E s := by
  obtain ⟨so, es, ep, t, e1, e2, e3, e4, e5, e6, e7, e8, e9, e10, e11⟩ := R
  refine Calls.call_function_entry PyProof.Rows.kind_sorted PyProof.Rows.plain_sorted PyProof.Rows.entry_sorted (PyProof.Rows.args_sorted1 _) ?_
  unfold Builtin.«sorted»
  refine wpAny_bind (m := checkCount "sorted" 1 1 _) (wpAny_pure ?_)
  refine wpAny_bind (collect_set (A := A.in1) hh ⟨so, e1, e2.1, e3⟩ e8 e7 e10 e11 fun s1 got kk hz1 g1 o1 perm => ?_)
  have gl : got.length = n := by rw [perm.length_eq, List.length_map, Array.length_toList]; exact e9
  have gi : IntsAre got (got.map Builtin.Re.reRawOf) := ints_of got fun v hv => by
    obtain ⟨x, hx, q⟩ := List.mem_map.mp (perm.mem_iff.mp hv)
    obtain ⟨k, tk, h1, _⟩ := e4 x hx
    exact ⟨k, tk, q ▸ h1⟩
  have kp : (got.map Builtin.Re.reRawOf).Perm (es.toList.map keyOf) := by
    have q := perm.map Builtin.Re.reRawOf
    rw [List.map_map] at q
    exact q
  have gz : got.length ≤ sizeLine := by rw [gl, sizeLine_eq]; omega
  refine wpAny_bind (wpAny_newList ?_ gz)
  have at1 : (s1.heap.push (seqObj "list" got.toArray 0)).get? s1.heap.objs.size = some (seqObj "list" got.toArray 0) := Heap.get?_push_size _ rfl
  refine wpAny_bind (wpAny_holding (wpAny_call_entry PyProof.Rows.slot_list_sort ⟨_, at1, rfl⟩ PyProof.Rows.entry_list_sort
    (SrtO.list_sort_ord (s := { s1 with heap := s1.heap.push (seqObj "list" got.toArray 0) }) SrtO.swo_int at1 gz (fun h2 => SrtO.ints_sortable gi h2) fun out f1 f2 => ⟨_, rfl, ?_⟩) (PyProof.Rows.args_list_sort _)))
  obtain ⟨k1, k2, k3⟩ := SrtO.ints_out gi f1 f2
  obtain ⟨c', hc'⟩ := PyProof.Rows.sortedHeap_at (vs := got) (out := out.toArray) at1
  have pn : (out.map SrtO.iv).Perm (es.toList.map keyOf) := k2.trans kp
  refine wpAny_pure ⟨_, rfl, done _ s1.heap.objs.size out.toArray c' (out.map SrtO.iv) (fun b u e => ?_) g1 o1 hz1 hc' (by simpa using k1) (lt_of_le_nodup _ k3 (pn.nodup_iff.mpr e5)) (fun k => by rw [pn.mem_iff, ← e6 k]) ?_⟩
  · have q := kk b u e
    have hb : b < s1.heap.objs.size := Heap.lt_size q
    show (PyProof.Rows.sortedHeap (s1.heap.push (seqObj "list" got.toArray 0)) s1.heap.objs.size got out.toArray).get? b = some u
    rw [PyProof.Rows.sortedHeap_old (Nat.ne_of_lt hb) (by rw [size_push']; exact Nat.lt_succ_of_lt hb)]
    exact Heap.get?_push_of_some _ q
  · rw [pn.length_eq, List.length_map, Array.length_toList]
    exact e9
end
section
variable {X : Cx}
def rSortSet (w : World) : List V → Hp → VK → Prop := fun vs H Q => ∃ (a : Addr) (S : Int → Bool) (n : Nat), vs = [V.ref a] ∧ H a = some (SetO w a S n) ∧ n ≤ 4000 ∧
  ∀ (ns : List Int) (p : Addr), ns.Pairwise (· < ·) → (∀ k : Int, k ∈ ns ↔ S k = true) → ns.length = n → H p = none → Q (.ref p) (upd H p (.lst (ns.map V.int)))
theorem cr_sortSet (hc : X.calm = true) : CallR X (.builtin "sorted") (rSortSet X.w) := by
  intro pins s σ H vs us Q I r h
  obtain ⟨a, S, n, rfl, ha, hz, q⟩ := h
  rw [Vals.ref1 r]
  refine sorted_set_any (setO_get I ha) (I.ok.hd hc) hz fun s2 p out c ys k g o hp hg hi hs hm hl => ?_
  have hn : H p = none := I.hok.fresh hp
  have hy : (ys.map V.int).length ≤ sizeLine := by rw [List.length_map, hl, sizeLine_eq]; omega
  obtain ⟨h2, g2, d2, t2, o2⟩ := s2
  obtain rfl : o2 = s.os := o
  exact ⟨.ref p, upd H p (.lst (ys.map V.int)), I.call (ch := []) (Un.laid k hp hn) (I.hok.laid k hp ⟨hy, out.toList, c, vals_of_ints hi, hg⟩) (by rw [show g2 = s.gens from g]; exact I.bare) (fun _ z => nomatch z), rfl, q ys p hs hm hl hn⟩
end
section
variable {X : Cx}
/-- set(xs) -/
def rSetI (K : PySem.W.Frag) (w : World) : List V → Hp → VK → Prop := fun xs H Q => ∃ (a : Addr) (ns : List Int), xs = [.ref a] ∧ SqL K H a (ns.map V.int) ∧ ns.length ≤ 4000 ∧ ∀ p c, H p = none → c ≤ ns.length → Q (.ref p) (upd H p (SetO w p (fun j => decide (j ∈ ns)) c))
theorem cr_setI (hc : X.calm = true) : CallR X (.type "set") (rSetI X.K X.w) := by
  intro pins s σ H xs us Q I r h
  obtain ⟨a, ns, rfl, hs, hz, q⟩ := h
  rw [Vals.ref1 r]
  obtain ⟨its, rv, hl, _⟩ := I.list hs
  refine set_of_ints ns (I.ok.hd hc) hl.isList (by simpa using rv.ints) (by unfold scanBound; omega) fun h' tk c R hcn k => ?_
  have hn : H s.heap.objs.size = none := I.hok.fresh (Nat.le_refl _)
  exact ⟨.ref _, _, I.laid (t' := tk) k (Nat.le_refl _) (setO_new R), rfl, q _ c hn hcn⟩
end
theorem dedI_nodup : ∀ ns : List Int, (dedI ns).Nodup ∧ ∀ k, k ∈ dedI ns ↔ k ∈ ns
  | [] => ⟨by simp [dedI], by simp [dedI]⟩
  | a :: r => by
    obtain ⟨h1, h2⟩ := dedI_nodup r
    simp only [dedI]
    split
    · rename_i ha
      exact ⟨h1, fun k => by rw [h2]; simp; intro e; rw [e]; exact ha⟩
    · rename_i ha
      exact ⟨List.nodup_cons.mpr ⟨fun z => ha ((h2 a).mp z), h1⟩, fun k => by simp [h2]⟩
theorem ded_len : ∀ ns : List Int, (dedI ns).length ≤ ns.length
  | [] => Nat.le_refl _
  | a :: r => by
    have := ded_len r
    simp only [dedI]
    split
    · simp; omega
    · simp; omega
theorem sortDed_eq {ns ms : List Int} (h1 : ms.Pairwise (· < ·)) (h2 : ∀ k : Int, k ∈ ms ↔ k ∈ ns) : ms = sortI (dedI ns) := by
  obtain ⟨d1, d2⟩ := dedI_nodup ns
  have nd : ms.Nodup := h1.imp (fun h => Int.ne_of_lt h)
  refine sortI_eq ?_ (h1.imp (fun h => Int.le_of_lt h))
  exact (List.perm_ext_iff_of_nodup nd d1).mpr fun k => by rw [h2, d2]
/-- sorted(set(xs)) -/
theorem pe_sset {X : Cx} {ta : TA} {e : Expr} {p q r s : Pos} (hc : X.calm = true) (h1 : X.mg "sorted" = none) (h2 : X.mg "set" = none) (g1 : Gl X "sorted") (g2 : Gl X "set") (hs : starEach [e] X.env = (false, eval e X.env) :: starEach [] X.env) (h : PA X [e] ta) :
    PE X (.Call (.Name "sorted" p) [.Call (.Name "set" q) [e] [] r] [] s) (tCB (rSortSet X.w) (tCons (tCB (rSetI X.K X.w) ta) tNil)) :=
  pe_callB (cr_sortSet hc) g1 h1 PyProof.Rows.boot_sorted (pa_cons (pe_callTy (cr_setI hc) g2 h2 PyProof.Rows.boot_set h (by decide) (by decide) hs rfl) pa_nil)
theorem sset_read {K : PySem.W.Frag} {w : World} {H : Hp} {a : Ad} {m : Mem} {ds : List D} {xs : List V} {Q : VK} (st : MRel K a m H) (r : RepVs K H a ds xs) (q : Tr K a H (fnD m .sortedSet ds) Q) :
    rSetI K w xs H fun v H1 => rSortSet w [v] H1 Q := by
  by_cases h1 : ds.length = 1
  · obtain ⟨d, x, rfl, rfl, rd⟩ := one_of r h1
    replace q : Tr K a H (match (lstD m d).bind intsD with | some ns => if ns.length ≤ 4000 then .ok (.lst ((sortI (dedI ns)).map .int)) m else .bad | none => .bad) Q := q
    cases hl : (lstD m d).bind intsD with
    | none => rw [hl] at q; exact False.elim q
    | some ns =>
      rw [hl] at q
      simp only at q
      split at q
      · rename_i hz
        obtain ⟨p, rfl, hs, _⟩ := ints_rep st rd hl
        refine ⟨p, ns, rfl, hs, hz, fun z c hz' hc => ⟨z, _, c, rfl, upd_same, by omega, fun ns' y g1 g2 _ hy => ?_⟩⟩
        have hy0 := upd_no hy
        rw [sortDed_eq (ns := ns) g1 (fun k => by rw [g2]; simp)]
        have e1 : Ext a H a (upd H z (SetO w z (fun j => decide (j ∈ ns)) c)) := Ext.new hz'
        exact Tr.lst (st.fresh hz') (Tr.mono q e1) (RepVs.of_ints _) (by rw [List.length_map, (sortI_perm _).length_eq]; exact Nat.le_trans (ded_len ns) (Nat.le_trans hz (by decide))) hy
      · exact False.elim q
  · rw [show fnD m .sortedSet ds = .bad from fnD_one (by decide) (by decide) (by decide) (by decide) h1] at q
    exact False.elim q
end Br


set_option Elab.async false
set_option linter.all false
set_option maxRecDepth 100000
set_option autoImplicit false
/-! Br: readings by the evaluator; targets; walks; comprehensions. -/
namespace Br
open PySem PySem.Spec PyProof.Rows L2
/-! ### what stays -/
structure Kp (a : Ad) (H : Hp) (a' : Ad) (H' : Hp) : Prop where
  pre : ∃ new, a'.st = a.st ++ new
  keep : ∀ p o, H p = some o → a.no p → (∀ ps, o ≠ .tbl ps) → H' p = some o ∧ a'.no p
section
variable {K : PySem.W.Frag} {H H' H1 H2 : Hp} {a a' a1 a2 : Ad} {m : Mem}
theorem Kp.refl : Kp a H a H := ⟨⟨[], by simp⟩, fun _ _ h hn _ => ⟨h, hn⟩⟩
theorem Kp.trans (x : Kp a H a1 H1) (y : Kp a1 H1 a2 H2) : Kp a H a2 H2 := by
  obtain ⟨n1, e1⟩ := x.pre
  obtain ⟨n2, e2⟩ := y.pre
  refine ⟨⟨n1 ++ n2, by rw [e2, e1, List.append_assoc]⟩, fun p o h hn ht => ?_⟩
  obtain ⟨h1, h2⟩ := x.keep p o h hn ht
  exact y.keep p o h1 h2 ht
theorem Ext.kp (e : Ext a H a' H') : Kp a H a' H' := by
  obtain ⟨n, e1, _⟩ := e.pre
  exact ⟨⟨n, e1⟩, fun p o h hn ht => ⟨e.keep p o h hn.1 ht, e.out h hn⟩⟩
theorem Kp.hide {st hd : List Addr} {q : Addr} {o : HO} (hq : H q = none) : Kp ⟨st, hd⟩ H ⟨st, q :: hd⟩ (upd H q o) :=
  ⟨⟨[], by simp⟩, fun p o h hn _ => ⟨by rw [upd_ne (ne_of_none h hq)]; exact h, Ad.no_in hn hq h⟩⟩
theorem Kp.hid {st hd : List Addr} {q : Addr} {o : HO} : Kp ⟨st, q :: hd⟩ H ⟨st, q :: hd⟩ (upd H q o) :=
  ⟨⟨[], by simp⟩, fun p o h hn _ => ⟨by rw [upd_ne (fun z => hn.2 (by rw [z]; exact List.mem_cons_self))]; exact h, hn⟩⟩
theorem TT.kp (e : Kp a H a' H') {p : Addr} {xs : List V} (h : TT K H a p xs) : TT K H' a' p xs := by
  rcases h with ⟨h | ⟨o, h⟩, hp⟩ | h
  · obtain ⟨h1, h2⟩ := e.keep _ _ h hp (by intro _ z; cases z)
    exact .inl ⟨.inl h1, h2⟩
  · obtain ⟨h1, h2⟩ := e.keep _ _ h hp (by intro _ z; cases z)
    exact .inl ⟨.inr ⟨o, h1⟩, h2⟩
  · exact .inr h
theorem SC.kp (e : Kp a H a' H') {p : Addr} {xs : List V} (h : SC K H a p xs) : SC K H' a' p xs := by
  rcases h with ⟨⟨o, h⟩, hp⟩ | h
  · obtain ⟨h1, h2⟩ := e.keep _ _ h hp (by intro _ z; cases z)
    exact .inl ⟨⟨o, h1⟩, h2⟩
  · exact .inr h
theorem Kp.old (e : Kp a H a' H') {n : Nat} {p : Addr} (h : a.st[n]? = some p) : a'.st[n]? = some p := by
  obtain ⟨x, e1⟩ := e.pre
  rw [e1, List.getElem?_append_left (List.getElem?_eq_some_iff.mp h).1]
  exact h
mutual
theorem RepV.kp (e : Kp a H a' H') : ∀ {d : D} {v : V}, RepV K H a d v → RepV K H' a' d v
  | _, _, .non => .non
  | _, _, .bl b => .bl b
  | _, _, .int b => .int b
  | _, _, .str b h => .str b h
  | _, _, .tup h hl r => .tup (h.kp e) hl (RepVs.kp e r)
  | _, _, .lst h hn hl r => .lst (e.keep _ _ h hn (by intro _ z; cases z)).1 (e.keep _ _ h hn (by intro _ z; cases z)).2 hl (RepVs.kp e r)
  | _, _, .scr h hl => .scr (h.kp e) hl
  | _, _, .ref h => .ref (e.old h)
theorem RepVs.kp (e : Kp a H a' H') : ∀ {ds : List D} {xs : List V}, RepVs K H a ds xs → RepVs K H' a' ds xs
  | _, _, .nil => .nil
  | _, _, .cons h r => .cons (RepV.kp e h) (RepVs.kp e r)
end
theorem RepK.kp (e : Kp a H a' H') : ∀ {kvs : List (Key × D)} {ks : List (Key × V)}, RepK K H a kvs ks → RepK K H' a' kvs ks
  | _, _, .nil => .nil
  | _, _, .cons h t => .cons (h.kp e) (RepK.kp e t)
theorem RepO.kp (e : Kp a H a' H') {o : O} {ho : HO} (h : RepO K H a o ho) : RepO K H' a' o ho := by
  cases h with
  | lst hl r => exact .lst hl (r.kp e)
  | dct hl r => exact .dct hl (r.kp e)
theorem SRel.kp (e : Kp a H a' H') {ρ : List (Option D)} {σ : L2.St} (h : SRel K a H ρ σ) : SRel K a' H' ρ σ :=
  ⟨h.len, fun i d q => let ⟨v, h1, h2⟩ := h.at_ i d q; ⟨v, h1, h2.kp e⟩⟩
/-- the new list q lies hidden -/
theorem MRel.hide {st hd : List Addr} {q : Addr} (r : MRel K ⟨st, hd⟩ m H) (hq : H q = none) : MRel K ⟨st, q :: hd⟩ m (upd H q (.lst [])) := by
  refine ⟨r.nd, r.len, fun p hp z => ?_, fun n p o h1 h2 => ?_, fun p hp => ?_⟩
  · rcases List.mem_cons.mp z with z | z
    · obtain ⟨o, e⟩ := r.there hp
      rw [z, hq] at e
      cases e
    · exact r.sep p hp z
  · obtain ⟨ho, h3, h4⟩ := r.at_ n p o h1 h2
    exact ⟨ho, by rw [upd_ne (ne_of_none h3 hq)]; exact h3, h4.kp (Kp.hide hq)⟩
  · rcases List.mem_cons.mp hp with z | z
    · rw [z]; exact ⟨[], upd_same⟩
    · obtain ⟨xs, e⟩ := r.hid p z
      exact ⟨xs, by rw [upd_ne (ne_of_none e hq)]; exact e⟩
theorem MRel.hidden {st hd : List Addr} {q : Addr} (r : MRel K ⟨st, q :: hd⟩ m H) (hq : q ∉ hd) (xs : List V) : MRel K ⟨st, q :: hd⟩ m (upd H q (.lst xs)) := by
  have ns : ∀ p, p ∈ st → p ≠ q := fun p hp z => r.sep p hp (by rw [z]; exact List.mem_cons_self)
  refine ⟨r.nd, r.len, r.sep, fun n p o h1 h2 => ?_, fun p hp => ?_⟩
  · obtain ⟨ho, h3, h4⟩ := r.at_ n p o h1 h2
    exact ⟨ho, by rw [upd_ne (ns p (List.mem_of_getElem? h1))]; exact h3, h4.kp Kp.hid⟩
  · rcases List.mem_cons.mp hp with z | z
    · rw [z]; exact ⟨xs, upd_same⟩
    · obtain ⟨ys, e⟩ := r.hid p (List.mem_cons_of_mem _ z)
      exact ⟨ys, by rw [upd_ne (fun w => hq (by rw [← w]; exact z))]; exact e⟩
theorem Kp.show {st hd : List Addr} {q : Addr} : Kp ⟨st, q :: hd⟩ H ⟨st, hd⟩ H := ⟨⟨[], by simp⟩, fun p o h hn _ => ⟨h, Ad.no_out hn⟩⟩
theorem MRel.show {st hd : List Addr} {q : Addr} (r : MRel K ⟨st, q :: hd⟩ m H) : MRel K ⟨st, hd⟩ m H :=
  ⟨r.nd, r.len, fun p hp z => r.sep p hp (List.mem_cons_of_mem _ z), fun n p o h1 h2 => let ⟨ho, h3, h4⟩ := r.at_ n p o h1 h2; ⟨ho, h3, h4.kp Kp.show⟩, fun p hp => r.hid p (List.mem_cons_of_mem _ hp)⟩
end

/-! ### readings -/
def tS (K : PySem.W.Frag) (ev : Sl → Mem → Res D) : TE := fun σ H Q => ∃ a ρ m, MRel K a m H ∧ SRel K a H ρ σ ∧ Tr K a H (ev ρ m) Q
def TrA (K : PySem.W.Frag) (a : Ad) (H : Hp) (r : Res (List D)) (Q : List V → Hp → Prop) : Prop := match r with
  | .ok ds m' => ∀ a' H' vs, Ext a H a' H' → MRel K a' m' H' → RepVs K H' a' ds vs → Q vs H'
  | _ => False
def tA (K : PySem.W.Frag) (ev : Sl → Mem → Res (List D)) : TA := fun σ H Q => ∃ a ρ m, MRel K a m H ∧ SRel K a H ρ σ ∧ TrA K a H (ev ρ m) Q
def TrB (K : PySem.W.Frag) (a : Ad) (H : Hp) (r : Res D) (Q : Bool → Hp → Prop) : Prop := match r with
  | .ok (.bl b) m' => ∀ a' H', Ext a H a' H' → MRel K a' m' H' → Q b H'
  | _ => False
def tT (K : PySem.W.Frag) (ev : Sl → Mem → Res D) : L2.TT := fun σ H Q => ∃ a ρ m, MRel K a m H ∧ SRel K a H ρ σ ∧ TrB K a H (ev ρ m) Q
section
variable {K : PySem.W.Frag} {H H' : Hp} {a a' : Ad} {m : Mem} {ρ : Sl} {σ : L2.St}
theorem TrA.mono {r : Res (List D)} {Q : List V → Hp → Prop} (h : TrA K a H r Q) (e : Ext a H a' H') : TrA K a' H' r Q := by
  cases r with
  | ok d m' => exact fun a2 H2 v x => h a2 H2 v (e.trans x)
  | ex c ds m' => exact h
  | bad => exact h
theorem TrB.mono {r : Res D} {Q : Bool → Hp → Prop} (h : TrB K a H r Q) (e : Ext a H a' H') : TrB K a' H' r Q := by
  cases r with
  | ok d m' => cases d <;> first | exact h | exact fun a2 H2 x => h a2 H2 (e.trans x)
  | ex c ds m' => exact h
  | bad => exact h
theorem tS_bind {ev : Sl → Mem → Res D} {f : D → Mem → Res D} {Q Q' : VK} (st : MRel K a m H) (sl : SRel K a H ρ σ) (q : Tr K a H ((ev ρ m).bind f) Q)
    (k : ∀ d m1 a1 H1 v, MRel K a1 m1 H1 → SRel K a1 H1 ρ σ → RepV K H1 a1 d v → Ext a H a1 H1 → Tr K a1 H1 (f d m1) Q → Q' v H1) : tS K ev σ H Q' := by
  refine ⟨a, ρ, m, st, sl, ?_⟩
  cases e : ev ρ m with
  | ok d m1 =>
    rw [e] at q
    exact fun a1 H1 v x r rv => k d m1 a1 H1 v r (sl.mono x) rv x (Tr.mono (r := f d m1) q x)
  | ex c ds m' => rw [e] at q; exact q
  | bad => rw [e] at q; exact q
theorem tS_bindA {ev : Sl → Mem → Res D} {f : D → Mem → Res (List D)} {Q : List V → Hp → Prop} {Q' : VK} (st : MRel K a m H) (sl : SRel K a H ρ σ) (q : TrA K a H ((ev ρ m).bind f) Q)
    (k : ∀ d m1 a1 H1 v, MRel K a1 m1 H1 → SRel K a1 H1 ρ σ → RepV K H1 a1 d v → Ext a H a1 H1 → TrA K a1 H1 (f d m1) Q → Q' v H1) : tS K ev σ H Q' := by
  refine ⟨a, ρ, m, st, sl, ?_⟩
  cases e : ev ρ m with
  | ok d m1 =>
    rw [e] at q
    exact fun a1 H1 v x r rv => k d m1 a1 H1 v r (sl.mono x) rv x (TrA.mono (r := f d m1) q x)
  | ex c ds m' => rw [e] at q; exact q
  | bad => rw [e] at q; exact q
theorem tA_bind {ev : Sl → Mem → Res (List D)} {f : List D → Mem → Res D} {Q : VK} {Q' : List V → Hp → Prop} (st : MRel K a m H) (sl : SRel K a H ρ σ) (q : Tr K a H ((ev ρ m).bind f) Q)
    (k : ∀ ds m1 a1 H1 vs, MRel K a1 m1 H1 → SRel K a1 H1 ρ σ → RepVs K H1 a1 ds vs → Ext a H a1 H1 → Tr K a1 H1 (f ds m1) Q → Q' vs H1) : tA K ev σ H Q' := by
  refine ⟨a, ρ, m, st, sl, ?_⟩
  cases e : ev ρ m with
  | ok d m1 =>
    rw [e] at q
    exact fun a1 H1 v x r rv => k d m1 a1 H1 v r (sl.mono x) rv x (Tr.mono (r := f d m1) q x)
  | ex c ds m' => rw [e] at q; exact q
  | bad => rw [e] at q; exact q
theorem tA_bindA {ev : Sl → Mem → Res (List D)} {f : List D → Mem → Res (List D)} {Q : List V → Hp → Prop} {Q' : List V → Hp → Prop} (st : MRel K a m H) (sl : SRel K a H ρ σ) (q : TrA K a H ((ev ρ m).bind f) Q)
    (k : ∀ ds m1 a1 H1 vs, MRel K a1 m1 H1 → SRel K a1 H1 ρ σ → RepVs K H1 a1 ds vs → Ext a H a1 H1 → TrA K a1 H1 (f ds m1) Q → Q' vs H1) : tA K ev σ H Q' := by
  refine ⟨a, ρ, m, st, sl, ?_⟩
  cases e : ev ρ m with
  | ok d m1 =>
    rw [e] at q
    exact fun a1 H1 v x r rv => k d m1 a1 H1 v r (sl.mono x) rv x (TrA.mono (r := f d m1) q x)
  | ex c ds m' => rw [e] at q; exact q
  | bad => rw [e] at q; exact q
/-- a test, then what its answer leads to -/
theorem tT_on {ev : Sl → Mem → Res D} {f : Bool → Mem → Res D} {Q : VK} {Q' : Bool → Hp → Prop} (st : MRel K a m H) (sl : SRel K a H ρ σ) (q : Tr K a H (onB (ev ρ m) f) Q)
    (k : ∀ b m1 a1 H1, MRel K a1 m1 H1 → SRel K a1 H1 ρ σ → Ext a H a1 H1 → Tr K a1 H1 (f b m1) Q → Q' b H1) : tT K ev σ H Q' := by
  refine ⟨a, ρ, m, st, sl, ?_⟩
  cases e : ev ρ m with
  | ok d m1 =>
    rw [e] at q
    cases d <;> first | exact False.elim q | skip
    rename_i b
    exact fun a1 H1 x r => k b m1 a1 H1 r (sl.mono x) x (Tr.mono (r := f b m1) q x)
  | ex c ds m' => rw [e] at q; exact q
  | bad => rw [e] at q; exact q
theorem tT_onB {ev : Sl → Mem → Res D} {f : Bool → Mem → Res D} {Q Q' : Bool → Hp → Prop} (st : MRel K a m H) (sl : SRel K a H ρ σ) (q : TrB K a H (onB (ev ρ m) f) Q)
    (k : ∀ b m1 a1 H1, MRel K a1 m1 H1 → SRel K a1 H1 ρ σ → Ext a H a1 H1 → TrB K a1 H1 (f b m1) Q → Q' b H1) : tT K ev σ H Q' := by
  refine ⟨a, ρ, m, st, sl, ?_⟩
  cases e : ev ρ m with
  | ok d m1 =>
    rw [e] at q
    cases d <;> first | exact False.elim q | skip
    rename_i b
    exact fun a1 H1 x r => k b m1 a1 H1 r (sl.mono x) x (TrB.mono (r := f b m1) q x)
  | ex c ds m' => rw [e] at q; exact q
  | bad => rw [e] at q; exact q
theorem tS_onV {ev : Sl → Mem → Res D} {f : Bool → Mem → Res D} {Q Q' : VK} (st : MRel K a m H) (sl : SRel K a H ρ σ) (q : Tr K a H (onB (ev ρ m) f) Q)
    (k : ∀ b m1 a1 H1, MRel K a1 m1 H1 → SRel K a1 H1 ρ σ → Ext a H a1 H1 → Tr K a1 H1 (f b m1) Q → Q' (.bl b) H1) : tS K ev σ H Q' := by
  refine ⟨a, ρ, m, st, sl, ?_⟩
  cases e : ev ρ m with
  | ok d m1 =>
    rw [e] at q
    cases d <;> first | exact False.elim q | skip
    rename_i b
    refine fun a1 H1 v x r rv => ?_
    cases rv
    exact k b m1 a1 H1 r (sl.mono x) x (Tr.mono (r := f b m1) q x)
  | ex c ds m' => rw [e] at q; exact q
  | bad => rw [e] at q; exact q
end
theorem weakE {X : Cx} {e : Expr} {t t' : TE} (h : PE X e t) (w : ∀ σ H Q, t' σ H Q → t σ H Q) : PE X e t' := ⟨fun pins s σ H Q I q => h.run pins s σ H Q I (w _ _ _ q)⟩
theorem weakT {X : Cx} {e : Expr} {t t' : L2.TT} (h : PT X e t) (w : ∀ σ H Q, t' σ H Q → t σ H Q) : PT X e t' := ⟨fun pins s σ H Q I q => h.run pins s σ H Q I (w _ _ _ q)⟩
theorem weakW {X : Cx} {e : Expr} {t t' : L2.TT} (h : PW X e t) (w : ∀ σ H Q, t' σ H Q → t σ H Q) : PW X e t' := ⟨fun wh pins s σ H Q I q => h.run wh pins s σ H Q I (w _ _ _ q)⟩
theorem weakA {X : Cx} {es : List Expr} {t t' : TA} (h : PA X es t) (w : ∀ σ H Q, t' σ H Q → t σ H Q) : PA X es t' := ⟨fun pos pins s σ H Q I q => h.run pos pins s σ H Q I (w _ _ _ q)⟩
theorem weakI {X : Cx} {tg e : Expr} {t t' : TI} (h : PI X tg e t) (w : ∀ σ H R, t' σ H R → t σ H R) : PI X tg e t' := ⟨fun pins s σ H R I q => h.run pins s σ H R I (w _ _ _ q)⟩
theorem weakG {X : Cx} {e : Expr} {t t' : TG} (h : PG X e t) (w : ∀ v σ H Q, t' v σ H Q → t v σ H Q) : PG X e t' := ⟨fun pins s σ H v u Q I r q => h.run pins s σ H v u Q I r (w _ _ _ _ q)⟩
theorem eitherG {X : Cx} {e : Expr} {t t1 t2 : TG} (h1 : PG X e t1) (h2 : PG X e t2) (w : ∀ v σ H Q, t v σ H Q → t1 v σ H Q ∨ t2 v σ H Q) : PG X e t := ⟨fun pins s σ H v u Q I r q => (w _ _ _ _ q).elim (h1.run pins s σ H v u Q I r) (h2.run pins s σ H v u Q I r)⟩
theorem weakS {X : Cx} {e : Stmt} {t t' : TS} (h : PS X e t) (w : ∀ D σ H, t' D σ H → t D σ H) : PS X e t' := ⟨fun pins s σ H D I q => h.run pins s σ H D I (w _ _ _ q)⟩
theorem weakSs {X : Cx} {e : List Stmt} {t t' : TS} (h : PSs X e t) (w : ∀ D σ H, t' D σ H → t D σ H) : PSs X e t' := ⟨fun pins s σ H D I q => h.run pins s σ H D I (w _ _ _ q)⟩
theorem eitherE {X : Cx} {e : Expr} {t t1 t2 : TE} (h1 : PE X e t1) (h2 : PE X e t2) (w : ∀ σ H Q, t σ H Q → t1 σ H Q ∨ t2 σ H Q) : PE X e t := ⟨fun pins s σ H Q I q => (w _ _ _ q).elim (h1.run pins s σ H Q I) (h2.run pins s σ H Q I)⟩
theorem eitherI {X : Cx} {tg e : Expr} {t t1 t2 : TI} (h1 : PI X tg e t1) (h2 : PI X tg e t2) (w : ∀ σ H Q, t σ H Q → t1 σ H Q ∨ t2 σ H Q) : PI X tg e t := ⟨fun pins s σ H Q I q => (w _ _ _ q).elim (h1.run pins s σ H Q I) (h2.run pins s σ H Q I)⟩
theorem eitherS {X : Cx} {e : Stmt} {t t1 t2 : TS} (h1 : PS X e t1) (h2 : PS X e t2) (w : ∀ D σ H, t D σ H → t1 D σ H ∨ t2 D σ H) : PS X e t := ⟨fun pins s σ H D I q => (w _ _ _ q).elim (h1.run pins s σ H D I) (h2.run pins s σ H D I)⟩

/-! ### targets -/
/-- but for the slots is the same -/
structure But (is : List Nat) (σ σ' : L2.St) : Prop where
  len : σ'.length = σ.length
  at_ : ∀ j, j ∉ is → σ'[j]? = σ[j]?
theorem But.refl {is : List Nat} {σ : L2.St} : But is σ σ := ⟨rfl, fun _ _ => rfl⟩
def Tg.slots : Tg → List Nat
  | .one i => [i]
  | .tup is => is
def gD (K : PySem.W.Frag) (tg : Tg) : TG := fun v σ H Q => ∃ a m d ρ ρ', MRel K a m H ∧ RepV K H a d v ∧ SRel K a H ρ σ ∧ bindT m tg d ρ = some ρ' ∧ ∀ σ', SRel K a H ρ' σ' → But tg.slots σ σ' → Q σ' H
theorem SRel.set {K : PySem.W.Frag} {H : Hp} {a : Ad} {ρ : Sl} {σ : L2.St} (h : SRel K a H ρ σ) (i : Nat) {d : D} {v : V} (r : RepV K H a d v) : SRel K a H (ρ.set i (some d)) (σ.set i (some v)) := by
  refine ⟨by simp [h.len], fun j e q => ?_⟩
  by_cases hj : i = j
  · subst hj
    have hl := (List.getElem?_eq_some_iff.mp q).1
    rw [List.length_set] at hl
    rw [List.getElem?_set_self hl] at q
    cases q
    exact ⟨v, by rw [List.getElem?_set_self (by rw [← h.len]; exact hl)], r⟩
  · rw [List.getElem?_set_ne hj] at q ⊢
    exact h.at_ j e q
theorem But.set {is : List Nat} {σ σ' : L2.St} (b : But is σ σ') {i : Nat} (hi : i ∈ is) (v : Option V) : But is σ (σ'.set i v) :=
  ⟨by rw [List.length_set]; exact b.len, fun j hj => by rw [List.getElem?_set_ne (fun z => hj (by rw [← z]; exact hi))]; exact b.at_ j hj⟩
/-- the reading of several names -/
def gIs : List Nat → TGs
  | [] => gNil
  | i :: r => gCons (gName i) (gIs r)
theorem gIs_go {K : PySem.W.Frag} {H : Hp} {a : Ad} {Q : L2.St → Hp → Prop} {all : List Nat} {σ0 : L2.St} : ∀ {is : List Nat} {ds : List D} {xs : List V} {ρ ρ' : Sl} {σ : L2.St}, RepVs K H a ds xs → SRel K a H ρ σ → bindIs is ds ρ = some ρ' → (∀ i ∈ is, i ∈ all) → But all σ0 σ →
    (∀ σ', SRel K a H ρ' σ' → But all σ0 σ' → Q σ' H) → gIs is xs σ H Q
  | [], _, _, ρ, ρ', σ, .nil, sl, e, _, b, q => by
    simp [bindIs] at e
    subst e
    exact ⟨rfl, q σ sl b⟩
  | [], _, _, _, _, _, .cons _ _, _, e, _, _, _ => by simp [bindIs] at e
  | _ :: _, _, _, _, _, _, .nil, _, e, _, _, _ => by simp [bindIs] at e
  | i :: r, _, _, ρ, ρ', σ, .cons (v := v) (xs := xs) h t, sl, e, hi, b, q => by
    simp only [bindIs] at e
    exact ⟨v, xs, rfl, gIs_go t (sl.set i h) e (fun j hj => hi j (List.mem_cons_of_mem _ hj)) (b.set (hi i List.mem_cons_self) _) q⟩
def tgB (loc : Str → Bool) (N : List Str) : Tg → Expr → Bool
  | .one i, .Name x _ => decide (N[i]? = some x) && loc x
  | .tup is, .Tuple es _ _ => go is es
  | _, _ => false
where go : List Nat → List Expr → Bool
  | [], [] => true
  | i :: is, .Name x _ :: es => decide (N[i]? = some x) && loc x && go is es
  | _, _ => false
section
variable {X : Cx} {loc : Str → Bool} (hl : ∀ x, loc x = true → Loc X.env.scope x ∧ (X.fn x = true ∨ X.env.scope.names.lookup x = some .local))
include hl
theorem tgB_go (hnd : X.N.Nodup) : ∀ {is : List Nat} {es : List Expr}, tgB.go loc X.N is es = true → PGs X es (gIs is) ∧ es.length = is.length ∧ (assignEach es X.env).length = es.length ∧ List.findIdx? (·.1) (assignEach es X.env) = none
  | [], [], _ => ⟨pgs_nil, rfl, rfl, rfl⟩
  | [], _ :: _, h => by simp [tgB.go] at h
  | i :: is, [], h => by simp [tgB.go] at h
  | i :: is, e :: es, h => by
    cases e <;> first | (simp [tgB.go] at h; done) | skip
    rename_i x pos
    simp only [tgB.go, Bool.and_eq_true, decide_eq_true_eq] at h
    obtain ⟨⟨h1, h2⟩, h3⟩ := h
    obtain ⟨k1, k2, k3, k4⟩ := tgB_go hnd h3
    obtain ⟨l1, l2⟩ := hl x h2
    refine ⟨pgs_cons (pg_name (i := i) hnd h1 l1 l2) k1, by simp [k2], ?_, ?_⟩
    · show (assignEach es X.env).length + 1 = es.length + 1
      rw [k3]
    · show List.findIdx? (·.1) ((false, assign (.Name x pos) X.env) :: assignEach es X.env) = none
      rw [List.findIdx?_cons, k4]
      rfl
theorem sound_tg (hc : X.calm = true) (hnd : X.N.Nodup) {tg : Tg} {e : Expr} (h : tgB loc X.N tg e = true) : PG X e (gD X.K tg) := by
  cases tg with
  | one i =>
    cases e <;> first | (simp [tgB] at h; done) | skip
    rename_i x pos
    simp only [tgB, Bool.and_eq_true, decide_eq_true_eq] at h
    obtain ⟨l1, l2⟩ := hl x h.2
    refine weakG (pg_name (i := i) hnd h.1 l1 l2) ?_
    rintro v σ H Q ⟨a, m, d, ρ, ρ', st, r, sl, e, q⟩
    simp only [bindT, Option.some.injEq] at e
    subst e
    exact q _ (sl.set i r) (But.refl.set (by simp [Tg.slots]) _)
  | tup is =>
    cases e <;> first | (simp [tgB] at h; done) | skip
    rename_i es k pos
    simp only [tgB] at h
    obtain ⟨k1, k2, k3, k4⟩ := tgB_go hl hnd h
    refine eitherG (pg_tup (n := es.length) hc k1 k3 k4) (pg_lst (n := es.length) hc k1 k3 k4) ?_
    rintro v σ H Q ⟨a, m, d, ρ, ρ', st, r, sl, e, q⟩
    cases d <;> simp only [bindT] at e <;> first | (cases e; done) | skip
    case tup ds =>
      split at e
      · rename_i hlen
        cases r with
        | @tup _ p xs h1 hl2 r2 => exact .inl ⟨p, xs, rfl, h1.sq, by rw [← r2.length, hlen, k2], gIs_go r2 sl e (fun _ h => h) But.refl q⟩
      · cases e
    case lst ds =>
      split at e
      · rename_i hlen
        cases r with
        | @lst _ p xs h1 hn hl2 r2 => exact .inr ⟨p, xs, rfl, SqL.of h1, by rw [← r2.length, hlen, k2], gIs_go r2 sl e (fun _ h => h) But.refl q⟩
      · cases e
end
end Br


set_option Elab.async false
set_option linter.all false
set_option maxRecDepth 100000
set_option autoImplicit false
/-! Br: the language against the written syntax: the look. -/
namespace Br
open PySem PySem.Spec PyProof.Rows L2

def plainE : Expr → Bool
  | .Starred .. => false
  | .Slice .. => false
  | .Set .. => false
  | .SetComp .. => false
  | .DictComp .. => false
  | .NamedExpr .. => false
  | _ => true
theorem star_plain {e : Expr} (h : plainE e = true) (es : List Expr) (env : Env) : starEach (e :: es) env = (false, eval e env) :: starEach es env := by
  cases e <;> first | rfl | (simp [plainE] at h)
theorem plain_ix {e : Expr} (h : plainE e = true) : PlainIx e := by
  intro o i
  cases e <;> first | rfl | (simp [plainE] at h)
theorem plain_set {e : Expr} (h : plainE e = true) (env : Env) : ∀ x, foldedSetIterable e env x = pure x := by
  intro x
  cases e <;> first | rfl | (simp [plainE] at h)
theorem plain_marks {e : Expr} (h : plainE e = true) (op : CmpOp) : behindInMarks op e = false := by
  cases e <;> first | rfl | (simp [plainE] at h)
def okN (x : Str) : Bool := !(x == ("__debug__" : Str)) && !(x == ("__classdict__" : Str)) && !(x == ("__name__" : Str))
theorem okN_d {x : Str} (h : okN x = true) : (x == ("__debug__" : Str)) = false ∧ (x == ("__classdict__" : Str)) = false ∧ x ≠ "__name__" := by
  simp only [okN, Bool.and_eq_true, Bool.not_eq_true'] at h
  exact ⟨h.1.1, h.1.2, by simpa using h.2⟩
def visB (sc : Scope) (x : Str) : Bool := match sc.names.lookup x with
  | some .local => true
  | some .cell => true
  | some .free => true
  | _ => false
theorem visB_of {sc : Scope} {x : Str} (h : visB sc x = true) : Vis sc x := by
  unfold visB at h
  split at h
  · rename_i e; exact .inl e
  · rename_i e; exact .inr (.inl e)
  · rename_i e; exact .inr (.inr e)
  · cases h
def glB (sc : Scope) (x : Str) : Bool := match sc.names.lookup x with
  | some .globalImplicit => true
  | _ => false
theorem glB_of {X : Cx} {x : Str} (h : glB X.env.scope x = true) : Gl X x := by
  unfold glB at h
  split at h
  · rename_i e; exact e
  · cases h
def locB (sc : Scope) (x : Str) : Bool := match sc.names.lookup x with
  | some .local => true
  | some .cell => true
  | _ => false
def cstB : D → Const → Bool
  | .non, .none => true
  | .bl a, .bool b => a == b
  | .int a, .int b => a == b
  | .str a, .str b => decide (a = b) && PyData.strOk a
  | _, _ => false
def Bop.py : Bop → Operator
  | .add => .Add
  | .sub => .Sub
  | .mul => .Mult
  | .fdiv => .FloorDiv
  | .mod => .Mod
  | .pow => .Pow
def Cop.py : Cop → CmpOp
  | .eq => .Eq
  | .ne => .NotEq
  | .lt => .Lt
  | .le => .LtE
  | .gt => .Gt
  | .ge => .GtE
  | .isn => .Is
  | .notn => .IsNot
  | .inn => .In
  | .nin => .NotIn
def Fn.name : Fn → Str
  | .len => "len"
  | .list => "list"
  | .tuple => "tuple"
  | .sorted => "sorted"
  | .min => "min"
  | .max => "max"
  | .sum => "sum"
  | .str => "str"
  | .int => "int"
  | .dict => "dict"
  | .min2 => "min"
  | .max2 => "max"
  | .sortedSet => "sorted"
def tailB (op : BoolOp) (b : Expr) (r : List Expr) (pos : Pos) : Expr := match r with
  | [] => b
  | c :: r => .BoolOp op (b :: c :: r) pos
def tyB1 (sc : Scope) : Ty → Expr → Bool
  | t, .Name x _ => decide (x = Str.ofString t.name) && glB sc x
  | _, _ => false
def tysB (sc : Scope) : List Ty → List Expr → Bool
  | [], [] => true
  | t :: r, e :: es => tyB1 sc t e && tysB sc r es
  | _, _ => false
def tyB (sc : Scope) : List Ty → Expr → Bool
  | [t], .Name x p => tyB1 sc t (.Name x p)
  | ts, .Tuple es _ _ => tysB sc ts es && !ts.isEmpty && decide (ts.length ≤ 20)
  | _, _ => false
/-- the scope within a comprehension -/
def inSc (scope sc : Scope) : Scope := relS scope sc
/-- which target goes with which walk -/
def wkTg : Wk → Expr → Bool
  | .enum, .Tuple .. => true
  | .enum, _ => false
  | _, _ => true
def arity : Fn → Nat → Bool
  | .min2, n => n == 2
  | .max2, n => n == 2
  | _, n => n == 1
/-- what a walk reckons ahead -/
def wkArgs : Wk → Expr → List Expr
  | .seq, e => [e]
  | .str, e => [e]
  | _, .Call _ es _ _ => es
  | _, _ => []
def wkB (sc : Scope) : Wk → Expr → Bool
  | .seq, _ => true
  | .str, _ => true
  | .rng1, .Call (.Name x _) [_] [] _ => decide (x = "range") && glB sc x
  | .rng2, .Call (.Name x _) [_, _] [] _ => decide (x = "range") && glB sc x
  | .enum, .Call (.Name x _) [_] [] _ => decide (x = "enumerate") && glB sc x
  | _, _ => false
mutual
def chkE (fs : List Str) (N : List Str) (sc : Scope) : Ex → Expr → Bool
  | .var i, e => match e with
    | .Name x _ => decide (N[i]? = some x) && visB sc x && okN x
    | _ => false
  | .glo g, e => match e with
    | .Name x _ => decide (g = x) && glB sc x && okN x
    | _ => false
  | .cst d, e => match e with
    | .Constant c _ _ => cstB d c
    | .UnaryOp .USub (.Constant (.int j) _ _) _ => decide (d = .int (-j))
    | _ => false
  | .bin o a b, e => match e with
    | .BinOp a' o' b' _ => decide (o' = o.py) && chkE fs N sc a a' && chkE fs N sc b b'
    | _ => false
  | .cmp o a b, e => match e with
    | .Compare a' [o'] [b'] _ => decide (o' = o.py) && plainE b' && chkE fs N sc a a' && chkE fs N sc b b'
    | _ => false
  | .chain o o2 a b c, e => match e with
    | .Compare a' [o', o2'] [b', c'] _ => decide (o' = o.py) && decide (o2' = o2.py) && decide (o ≠ .inn ∧ o ≠ .nin ∧ o2 ≠ .inn ∧ o2 ≠ .nin) && chkE fs N sc a a' && chkE fs N sc b b' && chkE fs N sc c c'
    | _ => false
  | .and a b, e => match e with
    | .BoolOp .And (a' :: b' :: r) pos => chkE fs N sc a a' && chkE fs N sc b (tailB .And b' r pos)
    | _ => false
  | .or a b, e => match e with
    | .BoolOp .Or (a' :: b' :: r) pos => chkE fs N sc a a' && chkE fs N sc b (tailB .Or b' r pos)
    | _ => false
  | .not a, e => match e with
    | .UnaryOp .Not a' _ => chkE fs N sc a a'
    | _ => false
  | .ite c a b, e => match e with
    | .IfExp c' a' b' _ => chkE fs N sc c c' && chkE fs N sc a a' && chkE fs N sc b b'
    | _ => false
  | .fn f es, e => match f with
    | .sortedSet => match e with
      | .Call (.Name x _) [.Call (.Name y _) es' [] _] [] _ => decide (x = "sorted") && decide (y = "set") && glB sc x && glB sc y && decide (es'.length = 1) && chkEs fs N sc es es'
      | _ => false
    | f => match e with
      | .Call (.Name x _) es' [] _ => decide (x = f.name) && glB sc x && arity f es'.length && chkEs fs N sc es es'
      | _ => false
  | .isin a ts, e => match e with
    | .Call (.Name x _) [a', t] [] _ => decide (x = "isinstance") && glB sc x && plainE t && plainE a' && chkE fs N sc a a' && tyB sc ts t
    | _ => false
  | .call f es, e => match e with
    | .Call (.Name x _) (e' :: es') [] _ => decide (f = x) && fs.contains f && glB sc x && okN x && chkEs fs N sc es (e' :: es')
    | _ => false
  | .idx a b, e => match e with
    | .Subscript a' b' _ => plainE b' && chkE fs N sc a a' && chkE fs N sc b b'
    | _ => false
  | .sli a lo hi, e => match e with
    | .Subscript a' (.Slice lo' hi' none _) _ => chkE fs N sc a a' && chkEs fs N sc lo lo'.toList && chkEs fs N sc hi hi'.toList
    | _ => false
  | .tup es, e => match e with
    | .Tuple es' _ _ => chkEs fs N sc es es'
    | _ => false
  | .lst _ es, e => match e with
    | .List es' _ => chkEs fs N sc es es'
    | _ => false
  | .comp own tg k it c el, e => match e with
    | .ListComp elt [⟨tg', iter, ifs, 0⟩] scope _ => blkC N sc scope own && tgB (locB scope) N tg tg' && tg.slots.all (fun i => decide (i ∈ own.map (·.2))) && plainE iter && wkTg k tg' &&
        wkB sc k iter && chkEs fs N sc it (wkArgs k iter) && decide (ifs.length ≤ 1) && chkEs fs N (inSc scope sc) c ifs && chkE fs N (inSc scope sc) el elt
    | _ => false
  | .scope a, e => chkE fs N sc a e
def chkEs (fs : List Str) (N : List Str) (sc : Scope) : Exs → List Expr → Bool
  | .nil, [] => true
  | .cons e r, e' :: r' => plainE e' && chkE fs N sc e e' && chkEs fs N sc r r'
  | _, _ => false
end
end Br


set_option Elab.async false
set_option linter.all false
set_option maxRecDepth 100000
set_option autoImplicit false
/-! Br: walks, comprehensions. -/
namespace Br
open PySem PySem.Spec PyProof.Rows L2
def Walks (K : PySem.W.Frag) (J : It) (xs : List D) (a1 : Ad) (H1 : Hp) : Prop := ∀ a' m H', Kp a1 H1 a' H' → MRel K a' m H' →
  (∀ i, i < xs.length → J.go i H' ∧ ∀ x H'', J.yld i H' x H'' → ∃ d, xs[i]? = some d ∧ Ext a' H' a' H'' ∧ MRel K a' m H'' ∧ RepV K H'' a' d x) ∧ (∀ i, xs.length ≤ i → J.stop i H')
def tW (K : PySem.W.Frag) (k : Wk) (ev : Sl → Mem → Res (List D)) : TI := fun σ H R => ∃ a ρ m ds m1 xs, MRel K a m H ∧ SRel K a H ρ σ ∧ ev ρ m = .ok ds m1 ∧ walkD m1 k ds = some xs ∧
  ∀ J a1 H1, Ext a H a1 H1 → MRel K a1 m1 H1 → Walks K J xs a1 H1 → xs.length ≤ sizeLine → R J H1
section
variable {K : PySem.W.Frag} {H H1 : Hp} {a a1 : Ad} {m : Mem}
theorem walks_list {p : Addr} {ds : List D} {xs : List V} (h : ∀ a' H', Kp a1 H1 a' H' → SqL K H' p xs ∧ RepVs K H' a' ds xs) : Walks K (Itl K p) ds a1 H1 := by
  intro a' m H' kp st
  obtain ⟨hs, hr⟩ := h a' H' kp
  refine ⟨fun i hi => ?_, fun i hi => ⟨xs, hs, by rw [← hr.length]; exact hi⟩⟩
  have hx : i < xs.length := by rw [← hr.length]; exact hi
  refine ⟨⟨xs, xs[i], hs, List.getElem?_eq_getElem hx⟩, ?_⟩
  rintro x H'' ⟨rfl, hy⟩
  obtain ⟨d, h1, h2⟩ := hr.get' (hy xs hs)
  exact ⟨d, h1, Ext.refl, st, h2⟩
theorem walks_tup {p : Addr} {ds : List D} {xs : List V} (h : ∀ a' H', Kp a1 H1 a' H' → SqT K H' p xs ∧ RepVs K H' a' ds xs) : Walks K (Itt K p) ds a1 H1 := by
  intro a' m H' kp st
  obtain ⟨hs, hr⟩ := h a' H' kp
  refine ⟨fun i hi => ?_, fun i hi => ⟨xs, hs, by rw [← hr.length]; exact hi⟩⟩
  have hx : i < xs.length := by rw [← hr.length]; exact hi
  refine ⟨⟨xs, xs[i], hs, List.getElem?_eq_getElem hx⟩, ?_⟩
  rintro x H'' ⟨rfl, hy⟩
  obtain ⟨d, h1, h2⟩ := hr.get' (hy xs hs)
  exact ⟨d, h1, Ext.refl, st, h2⟩
theorem walks_enum {p : Addr} {ds : List D} {xs : List V} (h : ∀ a' H', Kp a1 H1 a' H' → SqL K H' p xs ∧ RepVs K H' a' ds xs) : Walks K (Ite K p) (ds.zipIdx.map fun q => .tup [.int q.2, q.1]) a1 H1 := by
  intro a' m H' kp st
  obtain ⟨hs, hr⟩ := h a' H' kp
  have hl : (ds.zipIdx.map fun q => D.tup [.int q.2, q.1]).length = ds.length := by simp
  rw [hl]
  refine ⟨fun i hi => ?_, fun i hi => ⟨xs, hs, by rw [← hr.length]; exact hi⟩⟩
  have hx : i < xs.length := by rw [← hr.length]; exact hi
  refine ⟨⟨xs, xs[i], hs, List.getElem?_eq_getElem hx⟩, ?_⟩
  rintro x H'' ⟨T, y, rfl, hT, rfl, hy⟩
  obtain ⟨d, h1, h2⟩ := hr.get' (hy xs hs)
  refine ⟨.tup [.int i, d], ?_, Ext.new hT, st.fresh hT, .tup (.inl ⟨.inl upd_same, st.out hT⟩) (by show 2 ≤ sizeLine; decide) (.cons (.int _) (.cons (h2.mono (Ext.new hT)) .nil))⟩
  rw [List.getElem?_map, List.getElem?_zipIdx, h1]
  simp
theorem walks_rng {lo : Int} {n : Nat} {ds : List D} (hl : ds.length = n) (h : ∀ i, i < n → ds[i]? = some (.int (lo + (i : Nat)))) : Walks K (Itr lo n) ds a1 H1 := by
  intro a' m H' kp st
  rw [hl]
  refine ⟨fun i hi => ⟨hi, ?_⟩, fun i hi => hi⟩
  rintro x H'' ⟨rfl, rfl⟩
  exact ⟨_, h i hi, Ext.refl, st, .int _⟩
theorem walks_str {s : Str} (hs : PyData.strOk s = true) : Walks K (Its s) (s.cps.toList.map fun c => .str ⟨#[c]⟩) a1 H1 := by
  intro a' m H' kp st
  have hl : (s.cps.toList.map fun c => D.str ⟨#[c]⟩).length = s.cps.size := by simp
  rw [hl]
  refine ⟨fun i hi => ⟨hi, ?_⟩, fun i hi => hi⟩
  rintro x H'' ⟨rfl, c, hc, rfl⟩
  refine ⟨_, by rw [List.getElem?_map, Array.getElem?_toList, hc]; rfl, Ext.refl, st, .str _ ?_⟩
  unfold PyData.strOk at hs ⊢
  rw [Array.all_eq_true'] at hs
  have := hs c (Array.mem_of_getElem? hc)
  simpa using this
end
section
variable {X : Cx} {F : Fe} {tg it : Expr}
theorem evEs_one {x : Ex} {ρ : Sl} {m m1 : Mem} {ds : List D} (h : evEs F (.cons x .nil) ρ m = .ok ds m1) : ∃ d, ds = [d] ∧ evE F x ρ m = .ok d m1 := by
  simp only [evEs] at h
  cases e : evE F x ρ m with
  | ok d m2 =>
    rw [e] at h
    simp only [Res.bind, Res.ok.injEq] at h
    exact ⟨d, h.1.symm, by rw [h.2]⟩
  | ex c ds m' => rw [e] at h; simp [Res.bind] at h
  | bad => rw [e] at h; simp [Res.bind] at h
theorem sound_seq {x : Ex} (h : PE X it (tS X.K (evE F x))) : PI X tg it (tW X.K .seq (evEs F (.cons x .nil))) := by
  refine eitherI (pi_list h) (pi_tup h) ?_
  rintro σ H R ⟨a, ρ, m, ds, m1, xs, st, sl, e1, e2, q⟩
  obtain ⟨d, rfl, e3⟩ := evEs_one e1
  cases d <;> simp only [walkD, itemsD] at e2 <;> first | (cases e2; done) | skip
  case tup ds =>
    cases e2
    refine .inr ⟨a, ρ, m, st, sl, ?_⟩
    rw [e3]
    intro a1 H1 v x1 st1 r
    cases r with
    | @tup _ p xs h1 hl r =>
      exact ⟨p, rfl, ⟨xs, h1.sq⟩, q _ _ _ x1 st1 (walks_tup fun a' H' kp => ⟨(h1.kp kp).sq, r.kp kp⟩) hl⟩
  case lst ds =>
    cases e2
    refine .inl ⟨a, ρ, m, st, sl, ?_⟩
    rw [e3]
    intro a1 H1 v x1 st1 r
    cases r with
    | @lst _ p xs h1 hn hl r =>
      exact ⟨p, rfl, ⟨xs, SqL.of h1⟩, q _ _ _ x1 st1 (walks_list fun a' H' kp => ⟨SqL.of (kp.keep _ _ h1 hn (by intro _ z; cases z)).1, r.kp kp⟩) hl⟩
  case scr ns =>
    cases e2
    refine .inl ⟨a, ρ, m, st, sl, ?_⟩
    rw [e3]
    intro a1 H1 v x1 st1 r
    cases r with
    | @scr _ p h1 hl =>
      exact ⟨p, rfl, ⟨_, h1.sq⟩, q _ _ _ x1 st1 (walks_list fun a' H' kp => ⟨(h1.kp kp).sq, RepVs.of_ints ns⟩) (by rw [List.length_map]; exact hl)⟩
theorem sound_str {x : Ex} (h : PE X it (tS X.K (evE F x))) : PI X tg it (tW X.K .str (evEs F (.cons x .nil))) := by
  refine weakI (pi_str h) ?_
  rintro σ H R ⟨a, ρ, m, ds, m1, xs, st, sl, e1, e2, q⟩
  obtain ⟨d, rfl, e3⟩ := evEs_one e1
  cases d <;> simp only [walkD] at e2 <;> first | (cases e2; done) | skip
  rename_i s
  split at e2
  · cases e2
    refine ⟨a, ρ, m, st, sl, ?_⟩
    rw [e3]
    intro a1 H1 v x1 st1 r
    cases r with
    | str _ hs => exact ⟨s, rfl, q _ _ _ x1 st1 (walks_str hs) (by simp; exact big_line (by assumption))⟩
  · cases e2
theorem sound_rng1 {es : Exs} {e : Expr} {p pos : Pos} (hg : Gl X "range") (hm : X.mg "range" = none) (hp : plainE e = true) (h : PA X [e] (tA X.K (evEs F es))) : PI X tg (.Call (.Name "range" p) [e] [] pos) (tW X.K .rng1 (evEs F es)) := by
  refine weakI (pi_range1 hg hm h (star_plain hp _ _)) ?_
  rintro σ H R ⟨a, ρ, m, ds, m1, xs, st, sl, e1, e2, q⟩
  refine ⟨a, ρ, m, st, sl, ?_⟩
  rw [e1]
  intro a1 H1 vs x1 st1 r
  match ds, e2, r with
  | [.int j], e2, r =>
    cases r with
    | cons h1 t =>
      cases t
      cases h1
      simp only [walkD] at e2
      split at e2
      · rename_i hj
        cases e2
        refine ⟨j, rfl, hj.1, ?_, q _ _ _ x1 st1 (walks_rng (by simp) fun i hi => ?_) ?_⟩
        · have := hj.2
          unfold big at this
          omega
        · rw [List.getElem?_map, List.getElem?_range hi]
          simp
        · simp only [List.length_map, List.length_range]
          have := hj.2
          exact big_line (by omega)
      · cases e2
theorem sound_rng2 {es : Exs} {e e' : Expr} {p pos : Pos} (hg : Gl X "range") (hm : X.mg "range" = none) (hp : plainE e = true) (hp' : plainE e' = true) (h : PA X [e, e'] (tA X.K (evEs F es))) :
    PI X tg (.Call (.Name "range" p) [e, e'] [] pos) (tW X.K .rng2 (evEs F es)) := by
  refine weakI (pi_range2 hg hm h (by rw [star_plain hp, star_plain hp']; rfl) (star_plain hp' _ _)) ?_
  rintro σ H R ⟨a, ρ, m, ds, m1, xs, st, sl, e1, e2, q⟩
  refine ⟨a, ρ, m, st, sl, ?_⟩
  rw [e1]
  intro a1 H1 vs x1 st1 r
  match ds, e2, r with
  | [.int i, .int j], e2, r =>
    obtain ⟨x, y, rfl, r1, r2⟩ := two_of r
    cases r1
    cases r2
    simp only [walkD] at e2
    split at e2
    · rename_i hj
      cases e2
      refine ⟨i, j, rfl, ⟨hj.1, hj.2.1, hj.2.2.1, hj.2.2.2.1⟩, q _ _ _ x1 st1 (walks_rng (by simp) fun k hk => ?_) (by simp only [List.length_map, List.length_range]; exact big_line hj.2.2.2.2)⟩
      rw [List.getElem?_map, List.getElem?_range hk]
      simp
    · cases e2
theorem sound_enum {es : Exs} {e : Expr} {p pos tpos : Pos} {elts : List Expr} {kk : Nat} (hg : Gl X "enumerate") (hm : X.mg "enumerate" = none) (hp : plainE e = true) (h : PA X [e] (tA X.K (evEs F es))) :
    PI X (.Tuple elts kk tpos) (.Call (.Name "enumerate" p) [e] [] pos) (tW X.K .enum (evEs F es)) := by
  refine weakI (pi_enum hg hm h (star_plain hp _ _)) ?_
  rintro σ H R ⟨a, ρ, m, ds, m1, xs, st, sl, e1, e2, q⟩
  refine ⟨a, ρ, m, st, sl, ?_⟩
  rw [e1]
  intro a1 H1 vs x1 st1 r
  match ds, e2, r with
  | [.lst ds], e2, r =>
    cases r with
    | cons h1 t =>
      cases t
      cases h1 with
      | @lst _ p ys h1 hn hl r5 =>
        cases e2
        exact ⟨p, ys, rfl, SqL.of h1, q _ _ _ x1 st1 (walks_enum fun a' H' kp => ⟨SqL.of (kp.keep _ _ h1 hn (by intro _ z; cases z)).1, r5.kp kp⟩) (by simp; exact hl)⟩
end

/-! ### comprehensions -/
theorem wipe_get (σ : L2.St) (j : Nat) : ∀ vs : List Nat, (L2.wipe σ vs)[j]? = if j ∈ vs then (if j < σ.length then some none else none) else σ[j]?
  | [] => by simp [L2.wipe]
  | v :: vs => by
    unfold L2.wipe
    by_cases hj : v = j
    · subst hj
      rw [if_pos List.mem_cons_self]
      by_cases hl : v < σ.length
      · rw [if_pos hl, List.getElem?_set_self (by rw [L2.wipe_length]; exact hl)]
      · rw [if_neg hl, List.getElem?_eq_none (by simpa [L2.wipe_length] using hl)]
    · rw [List.getElem?_set_ne hj, wipe_get σ j vs]
      simp only [List.mem_cons, Ne.symm hj, false_or, eq_comm]
theorem wipe_but {is vs : List Nat} {σ σ' : L2.St} (b : But is (L2.wipe σ vs) σ') (h : ∀ i ∈ is, i ∈ vs) : L2.wipe σ' vs = L2.wipe σ vs := by
  refine List.ext_getElem? fun j => ?_
  have hl : σ'.length = σ.length := b.len.trans (L2.wipe_length σ vs)
  rw [wipe_get, wipe_get, hl]
  by_cases hj : j ∈ vs
  · rw [if_pos hj, if_pos hj]
  · rw [if_neg hj, if_neg hj, b.at_ j (fun z => hj (h j z)), wipe_get, if_neg hj]
theorem SRel.wipe {K : PySem.W.Frag} {H : Hp} {a : Ad} {ρ : Sl} {σ : L2.St} (h : SRel K a H ρ σ) : ∀ vs : List Nat, SRel K a H (wipeS ρ vs) (L2.wipe σ vs)
  | [] => h
  | v :: vs => by
    have ih := SRel.wipe h vs
    unfold wipeS L2.wipe
    refine ⟨by simp [ih.len], fun i d e => ?_⟩
    by_cases hj : v = i
    · subst hj
      have hl := (List.getElem?_eq_some_iff.mp e).1
      rw [List.length_set] at hl
      rw [List.getElem?_set_self hl] at e
      cases e
    · rw [List.getElem?_set_ne hj] at e ⊢
      exact ih.at_ i d e
theorem compL_nil {tg : Tg} {ρ0 : Sl} {c e : Sl → Mem → Res D} {m m2 : Mem} {vs : List D} (h : compL tg ρ0 c e [] m = .ok vs m2) : vs = [] ∧ m = m2 := by
  simp only [compL, Res.ok.injEq] at h
  exact ⟨h.1.symm, h.2⟩
theorem Ext.hdx {s s' h1 : List Addr} {H H' : Hp} (e : Ext ⟨s, h1⟩ H ⟨s', h1⟩ H') (h2 : List Addr) : Ext ⟨s, h2⟩ H ⟨s', h2⟩ H' := ⟨rfl, e.pre, e.keep, e.dom⟩
/-- one turn of a comprehension -/
theorem compL_cons {tg : Tg} {ρ0 : Sl} {c e : Sl → Mem → Res D} {d : D} {ds : List D} {m m2 : Mem} {vs : List D} (h : compL tg ρ0 c e (d :: ds) m = .ok vs m2) :
    ∃ ρ, bindT m tg d ρ0 = some ρ ∧ ((∃ m1, c ρ m = .ok (.bl false) m1 ∧ compL tg ρ0 c e ds m1 = .ok vs m2) ∨
      ∃ m1 v m3 vs', c ρ m = .ok (.bl true) m1 ∧ e ρ m1 = .ok v m3 ∧ compL tg ρ0 c e ds m3 = .ok vs' m2 ∧ vs = v :: vs') := by
  simp only [compL] at h
  split at h
  · cases h
  · rename_i ρ h1
    refine ⟨ρ, h1, ?_⟩
    split at h
    · rename_i m1 h2
      split at h
      · rename_i v m3 h3
        split at h
        · rename_i vs' m4 h4
          simp only [Res.ok.injEq] at h
          exact .inr ⟨m1, v, m3, vs', h2, h3, by rw [← h.2]; exact h4, h.1.symm⟩
        · cases h
      · cases h
    · rename_i m1 h2
      exact .inl ⟨m1, h2, h⟩
    · cases h
theorem comp_read {K : PySem.W.Frag} {k : Wk} {evs : Sl → Mem → Res (List D)} {tg : Tg} {c e : Sl → Mem → Res D} {vs : List Nat} (hsub : ∀ i ∈ tg.slots, i ∈ vs) {σ : L2.St} {H : Hp} {Q : VK} {a : Ad} {ρ : Sl} {m m1 m2 : Mem} {ds xs out : List D}
    (st : MRel K a m H) (sl : SRel K a H ρ σ) (e1 : evs ρ m = .ok ds m1) (e2 : walkD m1 k ds = some xs) (e3 : compL tg (wipeS ρ vs) c e xs m1 = .ok out m2) (q : Tr K a H (.ok (.lst out) m2) Q) :
    tLc (tW K k evs) (gD K tg) (tT K c) (tS K e) vs σ H Q := by
  refine ⟨a, ρ, m, ds, m1, xs, st, sl, e1, e2, fun J a1 H1 x1 st1 wk hz D0 hD => ?_⟩
  obtain ⟨st1', hd1⟩ := a1
  have kp0 : Kp ⟨st1', hd1⟩ H1 ⟨st1', D0 :: hd1⟩ (upd H1 D0 (.lst [])) := Kp.hide hD
  have hDn : D0 ∉ hd1 := fun z => by
    obtain ⟨ys, e⟩ := st1.hid D0 z
    rw [hD] at e
    cases e
  refine ⟨fun i n H' => n = xs.length - i ∧ i ≤ xs.length ∧ ∃ (s' : List Addr) (m' : Mem) (acc : List D) (accV : List V) (rest : List D), Kp ⟨st1', hd1⟩ H1 ⟨s', D0 :: hd1⟩ H' ∧ Ext ⟨st1', hd1⟩ H1 ⟨s', hd1⟩ H' ∧ MRel K ⟨s', D0 :: hd1⟩ m' H' ∧
      H' D0 = some (.lst accV) ∧ RepVs K H' ⟨s', D0 :: hd1⟩ acc accV ∧ acc.length ≤ i ∧ compL tg (wipeS ρ vs) c e (xs.drop i) m' = .ok rest m2 ∧ out = acc ++ rest, ?_, ?_⟩
  · exact ⟨xs.length, by simp, Nat.zero_le _, st1', m1, [], [], out, kp0, Ext.new hD, st1.hide hD, upd_same, .nil, Nat.le_refl _, by simpa using e3, by simp⟩
  · rintro i n H' ⟨rfl, hi, s', m', acc, accV, rest, kp, ex, stm, hDl, hacc, hal, hc, hout⟩
    obtain ⟨w1, w2⟩ := wk _ m' H' kp stm
    by_cases hlt : i < xs.length
    · refine .inr ⟨(w1 i hlt).1, fun H'' => ∃ n', n' < xs.length - i ∧ (n' = xs.length - (i + 1) ∧ i + 1 ≤ xs.length ∧ ∃ (s' : List Addr) (m' : Mem) (acc : List D) (accV : List V) (rest : List D), Kp ⟨st1', hd1⟩ H1 ⟨s', D0 :: hd1⟩ H'' ∧ Ext ⟨st1', hd1⟩ H1 ⟨s', hd1⟩ H'' ∧ MRel K ⟨s', D0 :: hd1⟩ m' H'' ∧
        H'' D0 = some (.lst accV) ∧ RepVs K H'' ⟨s', D0 :: hd1⟩ acc accV ∧ acc.length ≤ i + 1 ∧ compL tg (wipeS ρ vs) c e (xs.drop (i + 1)) m' = .ok rest m2 ∧ out = acc ++ rest), fun H'' z => z, fun x H'' hy => ?_⟩
      obtain ⟨d, hd, xe, stm2, rd⟩ := (w1 i hlt).2 x H'' hy
      have hdrop : xs.drop i = d :: xs.drop (i + 1) := by
        rw [List.drop_eq_getElem_cons hlt]
        have : xs[i] = d := by
          rw [List.getElem?_eq_getElem hlt] at hd
          exact Option.some.inj hd
        rw [this]
      rw [hdrop] at hc
      obtain ⟨ρ1, hb, hrest⟩ := compL_cons hc
      have sl1 : SRel K ⟨s', D0 :: hd1⟩ H'' (wipeS ρ vs) (L2.wipe σ vs) := (SRel.wipe (sl.kp (x1.kp.trans (kp.trans xe.kp))) vs)
      have nDs : ∀ {s2 : List Addr} {m2 : Mem} {H2 : Hp}, MRel K ⟨s2, D0 :: hd1⟩ m2 H2 → D0 ∉ s2 := fun r z => r.sep D0 z List.mem_cons_self
      have ex2 : Ext ⟨st1', hd1⟩ H1 ⟨s', hd1⟩ H'' := ex.trans (xe.hdx hd1)
      refine ⟨_, m', d, _, ρ1, stm2, rd, sl1, hb, fun σ2 sl2 b2 => ⟨wipe_but b2 hsub, ?_⟩⟩
      refine ⟨_, ρ1, m', stm2, sl2, ?_⟩
      rcases hrest with ⟨m3, hc1, hc2⟩ | ⟨m3, v, m4, rest', hc1, he1, hc2, hv⟩
      · rw [hc1]
        intro a3 H3 x3 st3
        obtain ⟨s3, hd3⟩ := a3
        have ehd : hd3 = D0 :: hd1 := x3.hd
        subst ehd
        show if false = true then _ else _
        rw [if_neg Bool.false_ne_true]
        refine ⟨_, by omega, rfl, hlt, s3, m3, acc, accV, rest, kp.trans (xe.kp.trans x3.kp), ?_, st3, x3.keep _ _ (xe.keep _ _ hDl (nDs stm) (by intro _ z; cases z)) (nDs stm2) (by intro _ z; cases z), (hacc.mono xe).mono x3, by omega, hc2, hout⟩
        exact ex2.trans (x3.hdx hd1)
      · rw [hc1]
        intro a3 H3 x3 st3
        obtain ⟨s3, hd3⟩ := a3
        have ehd : hd3 = D0 :: hd1 := x3.hd
        subst ehd
        show if true = true then _ else _
        rw [if_pos rfl]
        refine ⟨_, ρ1, m3, st3, sl2.mono x3, ?_⟩
        rw [he1]
        intro a4 H4 y x4 st4 ry
        obtain ⟨s4, hd4⟩ := a4
        have ehd : hd4 = D0 :: hd1 := x4.hd
        subst ehd
        have hD4 : H4 D0 = some (.lst accV) := x4.keep _ _ (x3.keep _ _ (xe.keep _ _ hDl (nDs stm) (by intro _ z; cases z)) (nDs stm2) (by intro _ z; cases z)) (nDs st3) (by intro _ z; cases z)
        have hacc4 := (((hacc.mono xe).mono x3).mono x4)
        have ex4 : Ext ⟨st1', hd1⟩ H1 ⟨s4, hd1⟩ H4 := (ex2.trans (x3.hdx hd1)).trans (x4.hdx hd1)
        refine ⟨accV, hD4, by rw [← hacc4.length]; omega, _, by omega, rfl, hlt, s4, m4, acc ++ [v], accV ++ [y], rest', ?_, ?_, st4.hidden hDn _, upd_same, (hacc4.append (.cons ry .nil)).kp Kp.hid, by simp; omega, hc2, by rw [hout, hv]; simp⟩
        · exact (kp.trans (xe.kp.trans (x3.kp.trans x4.kp))).trans Kp.hid
        · refine ⟨ex4.hd, ex4.pre, fun p o h hp ht => ?_, fun p z => ex4.dom p (upd_no z)⟩
          rw [upd_ne (ne_of_none h hD)]
          exact ex4.keep p o h hp ht
    · have e : i = xs.length := by omega
      subst e
      rw [List.drop_length] at hc
      obtain ⟨hr, hm⟩ := compL_nil hc
      subst hr hm
      rw [List.append_nil] at hout
      subst hout
      refine .inl ⟨w2 _ (Nat.le_refl _), ?_⟩
      refine q ⟨s', hd1⟩ H' (.ref D0) (x1.trans ex) stm.show (.lst hDl ⟨fun z => stm.sep D0 z List.mem_cons_self, hDn⟩ (by omega) (hacc.kp Kp.show))
end Br


set_option Elab.async false
set_option linter.all false
set_option maxRecDepth 100000
set_option autoImplicit false
/-! Br: expressions do what the evaluator tells. -/
namespace Br
open PySem PySem.Spec PyProof.Rows L2
/-- a def's promise: what the evaluator's call tells -/
def spS (K : PySem.W.Frag) (n : Nat) (c : List D → Mem → Res D) : Sp := fun vs H Q _ => ∃ a m ds, MRel K a m H ∧ RepVs K H a ds vs ∧ ds.length = n ∧ Tr K a H (c ds m) Q
def blts : List Str := ["len", "list", "tuple", "sorted", "min", "max", "sum", "str", "int", "dict", "set", "isinstance", "range", "enumerate", "bool"]
structure Good (X : Cx) (F : Fe) (k : Nat) (fs : List Str) : Prop where
  calm : X.calm = true
  nd : X.N.Nodup
  room : Room k X.A
  fn : ∀ f ∈ fs, ∃ (p : Addr) (fd : FuncData) (ps : List Str), X.mg f = some (.ref p) ∧ PySem.W.keepIn X.K (.ref p) = true ∧ Binds X.K fd ps [] ∧ FnOk X.prog X.w X.K X.mg X.base (L2.CX X.prog X.w) k p fd ps (spS X.K ps.length (F.call f)) ∧
    ∀ ds m, ds.length ≠ ps.length → F.call f ds m = .bad
  blt : ∀ x ∈ blts, X.mg x = none
  glo : ∀ x d, F.glo x = some d → ∃ v u, X.mg x = some u ∧ RelV v u ∧ ∀ H a, RepV X.K H a d v
theorem Good.blk {X : Cx} {F : Fe} {k : Nat} {fs : List Str} (g : Good X F k fs) (s : Shared) (H : Hp) (scope : Scope) (cenv : Env) (fp : List Addr) : Good (X.blk s H scope cenv fp) F k fs :=
  ⟨g.calm, g.nd, g.room, g.fn, g.blt, g.glo⟩
section
variable {X : Cx} {F : Fe} {k : Nat} {fs : List Str}
theorem PA.nil' : PA X [] (tA X.K (evEs F .nil)) := weakA pa_nil fun σ H Q ⟨a, ρ, m, st, sl, q⟩ => q a H [] Ext.refl st .nil
theorem PA.cons' {x : Ex} {r : Exs} {e : Expr} {es : List Expr} (hp : plainE e = true) (h : PE X e (tS X.K (evE F x))) (t : PA X es (tA X.K (evEs F r))) : PA X (e :: es) (tA X.K (evEs F (.cons x r))) := by
  refine weakA (pa_cons h t (star_plain hp _ _)) ?_
  rintro σ H Q ⟨a, ρ, m, st, sl, q⟩
  refine tS_bindA (f := fun d m1 => (evEs F r ρ m1).bind fun ds m2 => .ok (d :: ds) m2) st sl q fun d m1 a1 H1 v st1 sl1 rv x1 q1 => ?_
  refine tA_bindA (f := fun ds m2 => .ok (d :: ds) m2) st1 sl1 q1 fun ds m2 a2 H2 vs st2 sl2 rvs x2 q2 => ?_
  exact q2 a2 H2 _ Ext.refl st2 (.cons (rv.mono x2) rvs)
/-- a built-in's call -/
theorem fn_read {f : Fn} {es : Exs} {c : Value} {σ : L2.St} {H : Hp} {Q : VK} (h : tS X.K (evE F (.fn f es)) σ H Q) : tCB (rFn X.K f) (tA X.K (evEs F es)) σ H Q := by
  obtain ⟨a, ρ, m, st, sl, q⟩ := h
  exact tA_bind (f := fun ds m1 => fnD m1 f ds) st sl q fun ds m1 a1 H1 vs st1 sl1 rv x1 q1 => ⟨a1, m1, ds, st1, rv, q1⟩
theorem star_any : ∀ {es : List Expr} {xs : Exs} {N : List Str} {sc : Scope}, chkEs fs N sc xs es = true → ∀ (pos : Pos) (env : Env), (backTo pos (starEach es env)).any (·.1) = false
  | [], _, _, _, _, _, _ => rfl
  | e :: es, .nil, _, _, h, _, _ => by simp [chkEs] at h
  | e :: es, .cons x r, N, sc, h, pos, env => by
    simp only [chkEs, Bool.and_eq_true] at h
    rw [star_plain h.1.1]
    show (false || (backTo pos (starEach es env)).any (·.1)) = false
    rw [star_any h.2]
    rfl
theorem bin_read {o : Bop} {a b : Ex} {r : R2} (hr : ∀ x y H Q, rD2 X.K (fun m x y => optR (binD o x y) m) x y H Q → r x y H Q) {σ : L2.St} {H : Hp} {Q : VK} (h : tS X.K (evE F (.bin o a b)) σ H Q) : tOp r (tS X.K (evE F a)) (tS X.K (evE F b)) σ H Q := by
  obtain ⟨a', ρ, m, st, sl, q⟩ := h
  refine tS_bind (f := fun x m1 => (evE F b ρ m1).bind fun y m2 => optR (binD o x y) m2) st sl q fun d m1 a1 H1 v st1 sl1 rv x1 q1 => ?_
  refine tS_bind (f := fun y m2 => optR (binD o d y) m2) st1 sl1 q1 fun e m2 a2 H2 w st2 sl2 rw x2 q2 => ?_
  exact hr _ _ _ _ ⟨a2, m2, d, e, st2, rv.mono x2, rw, q2⟩
theorem cmp_read {o : Cop} {a b : Ex} {σ : L2.St} {H : Hp} {Q : VK} (h : tS X.K (evE F (.cmp o a b)) σ H Q) : tOp (rCmp X.K o) (tS X.K (evE F a)) (tS X.K (evE F b)) σ H Q := by
  obtain ⟨a', ρ, m, st, sl, q⟩ := h
  refine tS_bind (f := fun x m1 => (evE F b ρ m1).bind fun y m2 => optB (cmpD m2 o x y) m2) st sl q fun d m1 a1 H1 v st1 sl1 rv x1 q1 => ?_
  refine tS_bind (f := fun y m2 => optB (cmpD m2 o d y) m2) st1 sl1 q1 fun e m2 a2 H2 w st2 sl2 rw x2 q2 => ?_
  exact ⟨a2, m2, d, e, st2, rv.mono x2, rw, q2⟩
theorem cop_ok (g : Good X F k fs) : ∀ o : Cop, OpR X (compareOp o.py) (rCmp X.K o)
  | .eq => opD_eq g.room.units
  | .ne => opD_ne g.room.units
  | .lt => opD_lt g.room.units0
  | .le => opD_le
  | .gt => opD_gt
  | .ge => opD_ge
  | .isn => opD_is
  | .notn => opD_isnot
  | .inn => opD_in (hu_of g.room)
  | .nin => opD_nin (hu_of g.room)
theorem bop_ok : ∀ o : Bop, OpR X (binaryOp o.py) (rD2 X.K fun m x y => optR (binD o x y) m)
  | .add => opD_add
  | .sub => opD_sub
  | .mul => opD_mul
  | .fdiv => opD_fdiv
  | .mod => opD_mod
  | .pow => opD_pow
/-- a test of a value -/
theorem tT_val {ev : Sl → Mem → Res D} {σ : L2.St} {H : Hp} {Q : Bool → Hp → Prop} (h : tT X.K ev σ H Q) : tB (tS X.K ev) σ H Q := by
  obtain ⟨a, ρ, m, st, sl, q⟩ := h
  refine ⟨a, ρ, m, st, sl, ?_⟩
  cases e : ev ρ m with
  | ok d m1 =>
    rw [e] at q
    cases d <;> first | exact False.elim q | skip
    intro a1 H1 v x1 st1 rv
    cases rv
    exact ⟨_, rfl, q a1 H1 x1 st1⟩
  | ex c ds m' => rw [e] at q; exact q
  | bad => rw [e] at q; exact q
theorem PT_of {e : Expr} {x : Ex} (h : PE X e (tS X.K (evE F x))) (he : ∀ whole, isTrue e X.env whole = (do let v ← whole; standAt e.pos; holding [v] (truthy v)) := by intro _; rfl) : PT X e (tT X.K (evE F x)) := weakT (pt_val h he) fun _ _ _ => tT_val
theorem optB_ok {m : Mem} {o : Option Bool} {K : PySem.W.Frag} {a : Ad} {H : Hp} {Q : Bool → Hp → Prop} (h : TrB K a H (optB o m) Q) : Tr K a H (optB o m) fun v H' => ∃ b, v = .bl b ∧ Q b H' := by
  cases o with
  | none => exact h
  | some b =>
    intro a' H' v x st rv
    cases rv
    exact ⟨b, rfl, h a' H' x st⟩
/-- the chain's reading -/
theorem chain_read {o o2 : Cop} {a b c : Ex} {σ : L2.St} {H : Hp} {Q : VK} (h : tS X.K (evE F (.chain o o2 a b c)) σ H Q) : tChain (rCmp X.K o) (rCmp X.K o2) (tS X.K (evE F a)) (tS X.K (evE F b)) (tS X.K (evE F c)) σ H Q := by
  obtain ⟨a', ρ, m, st, sl, q⟩ := h
  simp only [evE] at q
  refine tS_bind (f := _) st sl q fun d m1 a1 H1 v st1 sl1 rv x1 q1 => ?_
  refine tS_bind (f := _) st1 sl1 q1 fun e m2 a2 H2 w st2 sl2 rw x2 q2 => ?_
  refine ⟨a2, m2, d, e, st2, rv.mono x2, rw, ?_⟩
  cases hc : cmpD m2 o d e with
  | none => rw [hc] at q2; exact False.elim q2
  | some t =>
    rw [hc] at q2
    show Tr X.K a2 H2 (optB (cmpD m2 o d e) m2) _
    rw [hc]
    intro a3 H3 z x3 st3 rz
    cases rz
    cases t with
    | false => exact ⟨false, rfl, q2 a3 H3 _ x3 st3 (.bl _)⟩
    | true =>
      refine ⟨true, rfl, ?_⟩
      have q3 : Tr X.K a3 H3 ((evE F c ρ m2).bind fun z m3 => optB (cmpD m3 o2 e z) m3) Q := Tr.mono q2 x3
      refine tS_bind (f := _) st3 (sl2.mono x3) q3 fun z m4 a4 H4 u st4 sl4 ru x4 q4 => ?_
      exact ⟨a4, m4, e, z, st4, (rw.mono x3).mono x4, ru, q4⟩
/-- expressions: as a value; a list of them; the one of a list -/
structure SndE (F : Fe) (fs : List Str) (x : Ex) : Prop where
  val : ∀ (e : Expr) (N : List Str) (sc : Scope), chkE fs N sc x e = true → ∀ (X : Cx) (k : Nat), Good X F k fs → X.N = N → X.env.scope = sc → PE X e (tS X.K (evE F x))
  tst : ∀ (e : Expr) (N : List Str) (sc : Scope), chkE fs N sc x e = true → ∀ (X : Cx) (k : Nat), Good X F k fs → X.N = N → X.env.scope = sc → PT X e (tT X.K (evE F x))
  whl : ∀ (op : BoolOp) (es : List Expr) (pos : Pos) (N : List Str) (sc : Scope), chkE fs N sc x (.BoolOp op es pos) = true → ∀ (X : Cx) (k : Nat), Good X F k fs → X.N = N → X.env.scope = sc → PW X (.BoolOp op es pos) (tT X.K (evE F x))
structure SndEs (F : Fe) (fs : List Str) (xs : Exs) : Prop where
  args : ∀ (es : List Expr) (N : List Str) (sc : Scope), chkEs fs N sc xs es = true → ∀ (X : Cx) (k : Nat), Good X F k fs → X.N = N → X.env.scope = sc → PA X es (tA X.K (evEs F xs))
  one : ∀ (e : Expr) (N : List Str) (sc : Scope), chkEs fs N sc xs [e] = true → ∀ (X : Cx) (k : Nat), Good X F k fs → X.N = N → X.env.scope = sc → ∃ x, xs = .cons x .nil ∧ PE X e (tS X.K (evE F x)) ∧ PT X e (tT X.K (evE F x))
/-- where the expression is no and, or -/
theorem SndE.of {x : Ex} (hv : ∀ (e : Expr) (N : List Str) (sc : Scope), chkE fs N sc x e = true → ∀ (X : Cx) (k : Nat), Good X F k fs → X.N = N → X.env.scope = sc → PE X e (tS X.K (evE F x)))
    (hn : ∀ (e : Expr) (N : List Str) (sc : Scope), chkE fs N sc x e = true → (∀ whole env, isTrue e env whole = (do let v ← whole; standAt e.pos; holding [v] (truthy v))) ∧ ∀ op es pos, e ≠ .BoolOp op es pos) {x' : Ex} (hx : x' = x) : SndE F fs x' := by
  subst hx
  exact ⟨hv, fun e N sc h X k g h1 h2 => PT_of (hv e N sc h X k g h1 h2) fun w => (hn e N sc h).1 w _, fun op es pos N sc h => absurd rfl ((hn _ N sc h).2 op es pos)⟩
end
end Br


set_option Elab.async false
set_option linter.all false
set_option maxRecDepth 100000
set_option maxHeartbeats 1000000
set_option autoImplicit false
/-! Br: expressions, all of them. -/
namespace Br
open PySem PySem.Spec PyProof.Rows L2
section
variable {F : Fe} {fs : List Str}
theorem blt_of {X : Cx} {k : Nat} (g : Good X F k fs) (x : Str) (h : x ∈ blts := by decide) : X.mg x = none := g.blt x h
theorem one_list {α : Type} {l : List α} (h : l.length = 1) : ∃ x, l = [x] := by
  match l, h with
  | [x], _ => exact ⟨x, rfl⟩
theorem two_list {α : Type} {l : List α} (h : l.length = 2) : ∃ x y, l = [x, y] := by
  match l, h with
  | [x, y], _ => exact ⟨x, y, rfl⟩
theorem plain_head {xs : Exs} {e : Expr} {es : List Expr} {N : List Str} {sc : Scope} (h : chkEs fs N sc xs (e :: es) = true) : plainE e = true := by
  cases xs with
  | nil => simp [chkEs] at h
  | cons x r => simp only [chkEs, Bool.and_eq_true] at h; exact h.1.1
/-- the built-in function or type of a name, the look at it -/
inductive FnB (X : Cx) : Fn → Prop where
  | fn {f : Fn} {id : String} (hb : f.name ∈ blts) (hv : bootBuiltins f.name = some (.builtin id)) (cr : CallR X (.builtin id) (rFn X.K f)) : FnB X f
  | ty {f : Fn} {T : String} (hb : f.name ∈ blts) (hv : bootBuiltins f.name = some (.type T)) (cr : CallR X (.type T) (rFn X.K f)) : FnB X f
theorem boot_min : bootBuiltins "min" = some (.builtin "min") := by decide +kernel
theorem boot_max : bootBuiltins "max" = some (.builtin "max") := by decide +kernel
theorem boot_sum : bootBuiltins "sum" = some (.builtin "sum") := by decide +kernel
theorem fnB_all {X : Cx} (hc : X.calm = true) : ∀ f : Fn, f ≠ .sortedSet → FnB X f
  | .len, _ => .fn (by decide) PySem.boot_len cD_len
  | .list, _ => .ty (by decide) PyProof.Rows.boot_list cD_list
  | .tuple, _ => .ty (by decide) PyProof.Rows.boot_tuple cD_tuple
  | .sorted, _ => .fn (by decide) PyProof.Rows.boot_sorted (cD_sorted hc)
  | .min, _ => .fn (by decide) boot_min (cD_min hc)
  | .max, _ => .fn (by decide) boot_max (cD_max hc)
  | .sum, _ => .fn (by decide) boot_sum (cD_sum hc)
  | .str, _ => .ty (by decide) PyProof.Rows.boot_str cD_str
  | .int, _ => .ty (by decide) PyProof.Rows.boot_int cD_int
  | .dict, _ => .ty (by decide) PyProof.Rows.boot_dict (cD_dict hc)
  | .min2, _ => .fn (by decide) boot_min (cD_min2 hc)
  | .max2, _ => .fn (by decide) boot_max (cD_max2 hc)
  | .sortedSet, h => absurd rfl h
theorem blts_ok : ∀ x ∈ blts, okN x = true := by decide
theorem fn_ok {f : Fn} {es : Exs} (ih : SndEs F fs es) {e : Expr} {N : List Str} {sc : Scope} (h : chkE fs N sc (.fn f es) e = true) {X : Cx} {k : Nat} (g : Good X F k fs) (hN : X.N = N) (hS : X.env.scope = sc) : PE X e (tS X.K (evE F (.fn f es))) := by
  subst hN hS
  by_cases hs : f = .sortedSet
  · subst hs
    simp only [chkE] at h
    split at h
    · rename_i x p y q es' r s
      simp only [Bool.and_eq_true, decide_eq_true_eq] at h
      obtain ⟨⟨⟨⟨⟨rfl, rfl⟩, h3⟩, h4⟩, h5⟩, h6⟩ := h
      obtain ⟨e', rfl⟩ := one_list h5
      refine weakE (pe_sset g.calm (blt_of g _) (blt_of g _) (glB_of h3) (glB_of h4) (star_plain (plain_head h6) _ _) (ih.args _ _ _ h6 X k g rfl rfl)) ?_
      rintro σ H Q ⟨a, ρ, m, st, sl, q⟩
      refine tA_bind (f := fun ds m1 => fnD m1 .sortedSet ds) st sl q fun ds m1 a1 H1 vs st1 sl1 rv x1 q1 => sset_read st1 rv q1
    · cases h
  · have key : ∃ x p es' pos, e = .Call (.Name x p) es' [] pos ∧ x = f.name ∧ glB X.env.scope x = true ∧ es' ≠ [] ∧ chkEs fs X.N X.env.scope es es' = true := by
      cases f <;> first | exact absurd rfl hs | (simp only [chkE] at h; split at h <;> first | (cases h; done) | (simp only [Bool.and_eq_true, decide_eq_true_eq] at h; exact ⟨_, _, _, _, rfl, h.1.1.1, h.1.1.2, (by intro z; rw [z] at h; simp [arity] at h), h.2⟩))
    obtain ⟨x, p, es', pos, rfl, rfl, hg, har, hc⟩ := key
    have gl := glB_of hg
    have pa := ih.args _ _ _ hc X k g rfl rfl
    match es', har with
    | e' :: r, _ =>
      have s1 := star_plain (plain_head hc) r X.env
      have s2 : (backTo pos (starEach r X.env)).any (·.1) = false := by
        cases es with
        | nil => simp [chkEs] at hc
        | cons x t =>
          simp only [chkEs, Bool.and_eq_true] at hc
          exact star_any hc.2 _ _
      cases fnB_all (X := X) g.calm f hs with
      | fn hb hv cr => exact weakE (pe_callB cr gl (blt_of g _ hb) hv pa (okN_d (blts_ok _ hb)).2.2 (okN_d (blts_ok _ hb)).1 s1 s2) fun _ _ _ => fn_read (c := .none)
      | ty hb hv cr => exact weakE (pe_callTy cr gl (blt_of g _ hb) hv pa (okN_d (blts_ok _ hb)).2.2 (okN_d (blts_ok _ hb)).1 s1 s2) fun _ _ _ => fn_read (c := .none)
/-! ### isinstance -/
theorem boot_ty : ∀ t : Ty, bootBuiltins (Str.ofString t.name) = some (.type t.name)
  | .int => PyProof.Rows.boot_int
  | .bool => PyProof.Rows.boot_bool
  | .str => PyProof.Rows.boot_str
  | .list => PyProof.Rows.boot_list
  | .tuple => PyProof.Rows.boot_tuple
theorem ty_blt : ∀ t : Ty, Str.ofString t.name ∈ blts := by intro t; cases t <;> decide
theorem pe_ty {X : Cx} {k : Nat} (g : Good X F k fs) {t : Ty} {e : Expr} (h : tyB1 X.env.scope t e = true) : PE X e (tC (.ty t.name)) ∧ plainE e = true := by
  cases e <;> first | (simp [tyB1] at h; done) | skip
  rename_i x p
  simp only [tyB1, Bool.and_eq_true, decide_eq_true_eq] at h
  obtain ⟨rfl, hg⟩ := h
  have ok := okN_d (blts_ok _ (ty_blt t))
  exact ⟨pe_bltn (glB_of hg) (blt_of g _ (ty_blt t)) (boot_ty t) rfl ok.2.2 ok.1, rfl⟩
def tyTs : List Ty → TA
  | [] => tNil
  | t :: r => tCons (tC (.ty t.name)) (tyTs r)
theorem tyTs_go : ∀ (ts : List Ty) (σ : L2.St) (H : Hp) (Q : List V → Hp → Prop), Q (ts.map fun t => V.ty t.name) H → tyTs ts σ H Q
  | [], _, _, _, q => q
  | t :: r, σ, H, Q, q => tyTs_go r σ H (fun xs H2 => Q (V.ty t.name :: xs) H2) q
theorem pe_tys {X : Cx} {k : Nat} (g : Good X F k fs) : ∀ {ts : List Ty} {es : List Expr}, tysB X.env.scope ts es = true → PA X es (tyTs ts)
  | [], [], _ => pa_nil
  | [], _ :: _, h => by simp [tysB] at h
  | _ :: _, [], h => by simp [tysB] at h
  | t :: r, e :: es, h => by
    simp only [tysB, Bool.and_eq_true] at h
    obtain ⟨h1, h2⟩ := pe_ty g h.1
    exact pa_cons h1 (pe_tys g h.2) (star_plain h2 _ _)
theorem clsVs (ts : List Ty) : Paired ClsV (ts.map fun t => V.ty t.name) (ts.map fun t => Value.type t.name) := by
  induction ts with
  | nil => exact .nil
  | cons t r ih => exact .cons (.ty _) ih
theorem isin_ok {a : Ex} {ts : List Ty} (ih : SndE F fs a) {e : Expr} {N : List Str} {sc : Scope} (h : chkE fs N sc (.isin a ts) e = true) {X : Cx} {k : Nat} (g : Good X F k fs) (hN : X.N = N) (hS : X.env.scope = sc) : PE X e (tS X.K (evE F (.isin a ts))) := by
  subst hN hS
  simp only [chkE] at h
  split at h
  · rename_i x p a' t pos
    simp only [Bool.and_eq_true, decide_eq_true_eq] at h
    obtain ⟨⟨⟨⟨⟨rfl, h2⟩, h3⟩, h4⟩, h5⟩, h6⟩ := h
    have pa := ih.val _ _ _ h5 X k g rfl rfl
    have s1 : starEach [a', t] X.env = (false, eval a' X.env) :: starEach [t] X.env := star_plain h4 _ _
    have s2 : (backTo pos (starEach [t] X.env)).any (·.1) = false := by rw [star_plain h3]; rfl
    unfold tyB at h6
    split at h6
    · rename_i t1 x2 p2
      obtain ⟨q1, _⟩ := pe_ty g h6
      refine weakE (pe_callB call_isi (glB_of h2) (blt_of g _) PyProof.Rows.boot_isinstance (pa_cons pa (pa_cons q1 pa_nil (star_plain h3 _ _)) s1) (by decide) (by decide) s1 s2) ?_
      rintro σ H Q ⟨a, ρ, m, st, sl, q⟩
      refine tS_bind (f := fun x m1 => optB (anyTy m1 x [t1]) m1) st sl q fun d m1 a1 H1 v st1 sl1 rv x1 q1 => ?_
      cases hb : anyTy m1 d [t1] with
      | none => rw [hb] at q1; exact False.elim q1
      | some b =>
        rw [hb] at q1
        obtain ⟨n, hn⟩ := anyTy_name (by simp) hb
        have hk := anyTy_kit (K := X.K) hn hb
        have hk1 : PySem.W.kitOne X.K (.type n) (.type t1.name) = some b := by
          simp only [List.map_cons, List.map_nil, PySem.W.kitAny] at hk
          split at hk
          · rename_i e; rw [e]; exact hk
          · rename_i e; rw [e]; exact hk
          · cases hk
        exact ⟨v, .ty t1.name, .type n, .type t1.name, b, rfl, .ty _, tyX_of st1 rv hn, hk1, q1.val st1 (.bl _)⟩
    · rename_i es2 k2 p2
      simp only [Bool.and_eq_true, Bool.not_eq_true', List.isEmpty_eq_false_iff, decide_eq_true_eq] at h6
      have q1 := pe_tup (x1 := k2) (pos := p2) (pe_tys g h6.1.1)
      refine weakE (pe_callB call_isiT (glB_of h2) (blt_of g _) PyProof.Rows.boot_isinstance (pa_cons pa (pa_cons q1 pa_nil (star_plain h3 _ _)) s1) (by decide) (by decide) s1 s2) ?_
      rintro σ H Q ⟨a, ρ, m, st, sl, q⟩
      refine tS_bind (f := fun x m1 => optB (anyTy m1 x ts) m1) st sl q fun d m1 a1 H1 v st1 sl1 rv x1 q1 => ?_
      cases hb : anyTy m1 d ts with
      | none => rw [hb] at q1; exact False.elim q1
      | some b =>
        rw [hb] at q1
        obtain ⟨n, hn⟩ := anyTy_name h6.1.2 hb
        have hk := anyTy_kit (K := X.K) hn hb
        refine tyTs_go ts σ H1 _ ⟨?_, fun p hp => ?_⟩
        · rw [List.length_map]
          exact Nat.le_trans h6.2 (by decide)
        · have e1 : Ext a1 H1 a1 (upd H1 p (.tup (ts.map fun t => V.ty t.name))) := Ext.new hp
          exact ⟨v, p, _, .type n, _, b, rfl, upd_same, clsVs ts, tyX_of (st1.fresh hp) (rv.mono e1) hn, hk, Tr.val (st1.fresh hp) (Tr.mono q1 e1) (.bl _)⟩
    · cases h6
  · cases h
end
end Br


set_option Elab.async false
set_option linter.all false
set_option maxRecDepth 100000
set_option maxHeartbeats 1000000
set_option autoImplicit false
/-! Br: every expression does what the evaluator tells. -/
namespace Br
open PySem PySem.Spec PyProof.Rows L2
section
variable {K : PySem.W.Frag} {H : Hp} {a : Ad} {n : Nat}
mutual
theorem und_rep : ∀ {d : D} {v : V}, RepV K H a d v → D.und n d = true → RepV K H ⟨a.st.take n, a.hd⟩ d v
  | _, _, .non, _ => .non
  | _, _, .bl b, _ => .bl b
  | _, _, .int b, _ => .int b
  | _, _, .str b h, _ => .str b h
  | _, _, .tup h hl r, e => .tup (h.imp (fun z => ⟨z.1, ⟨fun y => z.2.1 (List.mem_of_mem_take y), z.2.2⟩⟩) id) hl (unds_rep r (by simpa [D.und] using e))
  | _, _, .lst h hn hl r, e => .lst h ⟨fun y => hn.1 (List.mem_of_mem_take y), hn.2⟩ hl (unds_rep r (by simpa [D.und] using e))
  | _, _, .scr h hl, _ => .scr (h.imp (fun z => ⟨z.1, ⟨fun y => z.2.1 (List.mem_of_mem_take y), z.2.2⟩⟩) id) hl
  | _, _, .ref (n := i) h, e => .ref (by
      simp only [D.und, decide_eq_true_eq] at e
      show (a.st.take n)[i]? = _
      rw [List.getElem?_take, if_pos e]
      exact h)
theorem unds_rep : ∀ {ds : List D} {xs : List V}, RepVs K H a ds xs → D.unds n ds = true → RepVs K H ⟨a.st.take n, a.hd⟩ ds xs
  | _, _, .nil, _ => .nil
  | _, _, .cons h r, e => by
    simp only [D.unds, Bool.and_eq_true] at e
    exact .cons (und_rep h e.1) (unds_rep r e.2)
end
theorem undK_rep : ∀ {kvs : List (Key × D)} {ks : List (Key × V)}, RepK K H a kvs ks → D.unds n (kvs.map (·.2)) = true → RepK K H ⟨a.st.take n, a.hd⟩ kvs ks
  | _, _, .nil, _ => .nil
  | _, _, .cons h t, e => by
    simp only [List.map_cons, D.unds, Bool.and_eq_true] at e
    exact .cons (und_rep h e.1) (undK_rep t e.2)
theorem undO_rep {o : O} {ho : HO} (r : RepO K H a o ho) (e : O.und n o = true) : RepO K H ⟨a.st.take n, a.hd⟩ o ho := by
  cases r with
  | lst hl r => exact .lst hl (unds_rep r e)
  | dct hl r => exact .dct hl (undK_rep r e)
end
/-- behind a scope: the store is as long as it was -/
theorem scope_read {K : PySem.W.Frag} {H : Hp} {a : Ad} {m m' : Mem} {d d' : D} {Q : VK} (st : MRel K a m H) (hf : frzD m' m.length d = some d') (hu : (m'.take m.length).all (O.und m.length) = true)
    (q : Tr K a H (.ok d' (m'.take m.length)) Q) : Tr K a H (.ok d m') Q := by
  intro a' H' v x1 st' rv
  obtain ⟨new, e1, fr⟩ := x1.pre
  have et : (⟨a'.st.take m.length, a'.hd⟩ : Ad) = a := by
    rw [e1, ← st.len, List.take_left, x1.hd]
  have ex : Ext a H a H' := ⟨rfl, ⟨[], by simp, by simp⟩, x1.keep, x1.dom⟩
  have hl : m.length ≤ m'.length := by
    rw [← st'.len, ← st.len, e1, List.length_append]
    omega
  refine q a H' v ex ⟨st.nd, by rw [List.length_take, Nat.min_eq_left hl]; exact st.len, st.sep, fun i p o h1 h2 => ?_, fun p hp => st'.hid p (by rw [x1.hd]; exact hp)⟩ (by rw [← et]; exact frzD_rep st' rv hf)
  have h3 : a'.st[i]? = some p := x1.old h1
  have h4 : m'[i]? = some o := by
    rw [List.getElem?_take] at h2
    split at h2
    · exact h2
    · cases h2
  obtain ⟨ho, g1, g2⟩ := st'.at_ i p o h3 h4
  have hm := List.mem_of_getElem? h2
  exact ⟨ho, g1, by rw [← et]; exact undO_rep g2 (List.all_eq_true.mp hu o hm)⟩
theorem pt_ifExp {X : Cx} {c a b : Expr} {tc ta tb : L2.TT} {pos : Pos} (hc : PT X c tc) (ha : PT X a ta) (hb : PT X b tb) : PT X (.IfExp c a b pos) (fun σ H Q => tc σ H fun d H1 => if d = true then ta σ H1 Q else tb σ H1 Q) := by
  refine ⟨fun pins s σ H Q I h => ?_⟩
  unfold PySem.isTrue
  refine wpAny_bind (thn (hc.run pins s σ H _ I h) fun d s1 ⟨H1, I1, q1⟩ => ?_)
  cases d with
  | true =>
    rw [if_pos rfl] at q1 ⊢
    exact ha.run pins s1 σ H1 Q I1 q1
  | false =>
    rw [if_neg Bool.false_ne_true] at q1 ⊢
    exact hb.run pins s1 σ H1 Q I1 q1
section
variable {F : Fe} {fs : List Str}
/-- an expression that is no and, or, not, comparison, if: its test is its value -/
def isPl : Expr → Bool
  | .UnaryOp .Not .. => false
  | .BoolOp .. => false
  | .IfExp .. => false
  | .Compare .. => false
  | _ => true
theorem isPl_true {e : Expr} (h : isPl e = true) : (∀ whole env, isTrue e env whole = (do let v ← whole; standAt e.pos; holding [v] (truthy v))) ∧ ∀ op es pos, e ≠ .BoolOp op es pos := by
  cases e <;> first | exact ⟨fun _ _ => rfl, fun _ _ _ z => nomatch z⟩ | skip
  case UnaryOp op x p => cases op <;> first | exact ⟨fun _ _ => rfl, fun _ _ _ z => nomatch z⟩ | (simp [isPl] at h)
  all_goals simp [isPl] at h
theorem SndE.pl {x : Ex} (hv : ∀ (e : Expr) (N : List Str) (sc : Scope), chkE fs N sc x e = true → isPl e = true ∧ ∀ (X : Cx) (k : Nat), Good X F k fs → X.N = N → X.env.scope = sc → PE X e (tS X.K (evE F x))) : SndE F fs x :=
  SndE.of (fun e N sc h => (hv e N sc h).2) (fun e N sc h => isPl_true (hv e N sc h).1) rfl
theorem s_var (i : Nat) : SndE F fs (.var i) := SndE.pl fun e N sc h => by
  simp only [chkE] at h
  split at h
  · rename_i x p
    simp only [Bool.and_eq_true, decide_eq_true_eq] at h
    refine ⟨rfl, fun X k g hN hS => ?_⟩
    subst hN hS
    obtain ⟨d1, d2, _⟩ := okN_d h.2
    refine weakE (pe_var h.1.1 (visB_of h.1.2) d1 d2) ?_
    rintro σ H Q ⟨a, ρ, m, st, sl, q⟩
    simp only [evE] at q
    split at q
    · rename_i d hd
      obtain ⟨v, h1, h2⟩ := sl.at_ i d hd
      exact ⟨v, h1, q.val st h2⟩
    · exact False.elim q
  · cases h
theorem s_glo (x : Str) : SndE F fs (.glo x) := SndE.pl fun e N sc h => by
  simp only [chkE] at h
  split at h
  · rename_i y p
    simp only [Bool.and_eq_true, decide_eq_true_eq] at h
    refine ⟨rfl, fun X k g hN hS => ?_⟩
    subst hN hS
    obtain ⟨⟨rfl, h2⟩, h3⟩ := h
    obtain ⟨d1, d2, _⟩ := okN_d h3
    cases hg : F.glo x with
    | none =>
      refine ⟨fun pins s σ H Q I ⟨a, ρ, m, st, sl, q⟩ => ?_⟩
      simp only [evE, hg] at q
      exact False.elim q
    | some d =>
      obtain ⟨v, u, h4, h5, h6⟩ := g.glo x d hg
      refine weakE (pe_glob (glB_of h2) h4 h5 d1) ?_
      rintro σ H Q ⟨a, ρ, m, st, sl, q⟩
      simp only [evE, hg] at q
      exact q.val st (h6 H a)
  · cases h
theorem s_cst (d : D) : SndE F fs (.cst d) := SndE.pl fun e N sc h => by
  simp only [chkE] at h
  split at h
  · rename_i c k p
    refine ⟨rfl, fun X k g hN hS => ?_⟩
    cases d <;> cases c <;> first | (simp [cstB] at h; done) | skip
    case non.none =>
      refine weakE pe_non ?_
      rintro σ H Q ⟨a, ρ, m, st, sl, q⟩
      exact q.val st .non
    case bl.bool b c =>
      simp only [cstB, beq_iff_eq] at h
      subst h
      refine weakE pe_bl ?_
      rintro σ H Q ⟨a, ρ, m, st, sl, q⟩
      exact q.val st (.bl _)
    case int.int b c =>
      simp only [cstB, beq_iff_eq] at h
      subst h
      refine weakE pe_int ?_
      rintro σ H Q ⟨a, ρ, m, st, sl, q⟩
      exact q.val st (.int _)
    case str.str b c =>
      simp only [cstB, Bool.and_eq_true, decide_eq_true_eq] at h
      obtain ⟨rfl, h2⟩ := h
      refine weakE pe_str ?_
      rintro σ H Q ⟨a, ρ, m, st, sl, q⟩
      exact q.val st (.str _ h2)
  · rename_i j p q r
    simp only [decide_eq_true_eq] at h
    subst h
    refine ⟨rfl, fun X k g hN hS => weakE (pe_un un_neg pe_int) ?_⟩
    rintro σ H Q ⟨a, ρ, m, st, sl, q⟩
    exact ⟨j, rfl, q.val st (.int _)⟩
  · cases h
theorem s_bin (o : Bop) {a b : Ex} (ha : SndE F fs a) (hb : SndE F fs b) : SndE F fs (.bin o a b) := SndE.pl fun e N sc h => by
  simp only [chkE] at h
  split at h
  · simp only [Bool.and_eq_true, decide_eq_true_eq] at h
    obtain ⟨⟨rfl, h2⟩, h3⟩ := h
    exact ⟨rfl, fun X k g hN hS => weakE (pe_op (bop_ok o) (ha.val _ _ _ h2 X k g hN hS) (hb.val _ _ _ h3 X k g hN hS)) fun σ H Q => bin_read fun _ _ _ _ z => z⟩
  · cases h
theorem s_cmp (o : Cop) {a b : Ex} (ha : SndE F fs a) (hb : SndE F fs b) : SndE F fs (.cmp o a b) := by
  have key : ∀ (e : Expr) (N : List Str) (sc : Scope), chkE fs N sc (.cmp o a b) e = true → ∃ a' b' p, e = .Compare a' [o.py] [b'] p ∧ plainE b' = true ∧ chkE fs N sc a a' = true ∧ chkE fs N sc b b' = true := fun e N sc h => by
    simp only [chkE] at h
    split at h
    · simp only [Bool.and_eq_true, decide_eq_true_eq] at h
      obtain ⟨⟨⟨rfl, h1⟩, h2⟩, h3⟩ := h
      exact ⟨_, _, _, rfl, h1, h2, h3⟩
    · cases h
  refine ⟨fun e N sc h X k g hN hS => ?_, fun e N sc h X k g hN hS => ?_, fun op es pos N sc h => ?_⟩
  · obtain ⟨a', b', p, rfl, h1, h2, h3⟩ := key e N sc h
    exact weakE (pe_cmpR (cop_ok g o) (ha.val _ _ _ h2 X k g hN hS) (hb.val _ _ _ h3 X k g hN hS) (plain_marks h1 _)) fun σ H Q => cmp_read
  · obtain ⟨a', b', p, rfl, h1, h2, h3⟩ := key e N sc h
    exact weakT (pt_cmpR (cop_ok g o) (ha.val _ _ _ h2 X k g hN hS) (hb.val _ _ _ h3 X k g hN hS) (plain_marks h1 _)) fun σ H Q z => cmp_read (tT_val z)
  · obtain ⟨a', b', p, e, _⟩ := key _ N sc h
    cases e
theorem s_chain (o o2 : Cop) {a b c : Ex} (ha : SndE F fs a) (hb : SndE F fs b) (hc : SndE F fs c) : SndE F fs (.chain o o2 a b c) := by
  have key : ∀ (e : Expr) (N : List Str) (sc : Scope), chkE fs N sc (.chain o o2 a b c) e = true → ∃ a' b' c' p, e = .Compare a' [o.py, o2.py] [b', c'] p ∧ (o2 ≠ .inn ∧ o2 ≠ .nin) ∧ chkE fs N sc a a' = true ∧ chkE fs N sc b b' = true ∧ chkE fs N sc c c' = true := fun e N sc h => by
    simp only [chkE] at h
    split at h
    · simp only [Bool.and_eq_true, decide_eq_true_eq] at h
      obtain ⟨⟨⟨⟨⟨rfl, rfl⟩, h0⟩, h1⟩, h2⟩, h3⟩ := h
      exact ⟨_, _, _, _, rfl, h0.2.2, h1, h2, h3⟩
    · cases h
  have mk : ∀ (b c : Expr), (o2 ≠ .inn ∧ o2 ≠ .nin) → lastMarks [o.py, o2.py] [b, c] = false := fun b c h => by
    show behindInMarks o2.py c = false
    refine nomark c ?_ ?_
    · cases o2 <;> simp [Cop.py] at h ⊢
    · cases o2 <;> simp [Cop.py] at h ⊢
  refine ⟨fun e N sc h X k g hN hS => ?_, fun e N sc h X k g hN hS => ?_, fun op es pos N sc h => ?_⟩
  · obtain ⟨a', b', c', p, rfl, h0, h1, h2, h3⟩ := key e N sc h
    exact weakE (pe_chain (cop_ok g o) (cop_ok g o2) (ha.val _ _ _ h1 X k g hN hS) (hb.val _ _ _ h2 X k g hN hS) (hc.val _ _ _ h3 X k g hN hS) (mk _ _ h0)) fun σ H Q => chain_read
  · obtain ⟨a', b', c', p, rfl, h0, h1, h2, h3⟩ := key e N sc h
    exact weakT (pt_chain (cop_ok g o) (cop_ok g o2) (ha.val _ _ _ h1 X k g hN hS) (hb.val _ _ _ h2 X k g hN hS) (hc.val _ _ _ h3 X k g hN hS) (mk _ _ h0)) fun σ H Q z => chain_read (tT_val z)
  · obtain ⟨a', b', c', p, e, _⟩ := key _ N sc h
    cases e
/-! ### and, or, not, if -/
theorem s_and {a b : Ex} (ha : SndE F fs a) (hb : SndE F fs b) : SndE F fs (.and a b) := by
  have key : ∀ (e : Expr) (N : List Str) (sc : Scope), chkE fs N sc (.and a b) e = true → ∃ a' b' r p, e = .BoolOp .And (a' :: b' :: r) p ∧ chkE fs N sc a a' = true ∧ chkE fs N sc b (tailB .And b' r p) = true := fun e N sc h => by
    simp only [chkE] at h
    split at h
    · simp only [Bool.and_eq_true] at h
      exact ⟨_, _, _, _, rfl, h.1, h.2⟩
    · cases h
  have hw : ∀ (op : BoolOp) (es : List Expr) (pos : Pos) (N : List Str) (sc : Scope), chkE fs N sc (.and a b) (.BoolOp op es pos) = true → ∀ (X : Cx) (k : Nat), Good X F k fs → X.N = N → X.env.scope = sc → PW X (.BoolOp op es pos) (tT X.K (evE F (.and a b))) := fun op es pos N sc h X k g hN hS => by
    obtain ⟨a', b', r, p, e, h1, h2⟩ := key _ N sc h
    cases e
    have hbt : PW X (.BoolOp .And (b' :: r) pos) (tT X.K (evE F b)) := by
      cases r with
      | nil => exact pw_and1 (hb.tst _ _ _ h2 X k g hN hS)
      | cons c r => exact hb.whl _ _ _ _ _ h2 X k g hN hS
    refine weakW (pw_and (ha.tst _ _ _ h1 X k g hN hS) hbt) ?_
    rintro σ H Q ⟨a1, ρ, m, st, sl, q⟩
    refine tT_onB (f := fun x m1 => if x then evE F b ρ m1 else .ok (.bl false) m1) st sl q fun d m1 a1 H1 st1 sl1 x1 q1 => ?_
    cases d with
    | true =>
      rw [if_pos rfl]
      exact ⟨a1, ρ, m1, st1, sl1, q1⟩
    | false =>
      rw [if_neg Bool.false_ne_true]
      exact q1 a1 H1 Ext.refl st1
  refine ⟨fun e N sc h X k g hN hS => ?_, fun e N sc h X k g hN hS => ?_, hw⟩
  · obtain ⟨a', b', r, p, rfl, h1, h2⟩ := key e N sc h
    have hbv : PE X (.BoolOp .And (b' :: r) p) (tS X.K (evE F b)) := by
      cases r with
      | nil => exact pe_one (hb.val _ _ _ h2 X k g hN hS)
      | cons c r => exact hb.val _ _ _ h2 X k g hN hS
    refine weakE (pe_and (ha.val _ _ _ h1 X k g hN hS) hbv) ?_
    rintro σ H Q ⟨a1, ρ, m, st, sl, q⟩
    refine tS_onV (f := fun x m1 => if x then evE F b ρ m1 else .ok (.bl false) m1) st sl q fun d m1 a1 H1 st1 sl1 x1 q1 => ⟨d, rfl, ?_⟩
    cases d with
    | true =>
      rw [if_pos rfl]
      exact ⟨a1, ρ, m1, st1, sl1, q1⟩
    | false =>
      rw [if_neg Bool.false_ne_true]
      exact q1 a1 H1 _ Ext.refl st1 (.bl _)
  · obtain ⟨a', b', r, p, rfl, h1, h2⟩ := key e N sc h
    exact (hw _ _ _ _ _ h X k g hN hS).pt
theorem s_or {a b : Ex} (ha : SndE F fs a) (hb : SndE F fs b) : SndE F fs (.or a b) := by
  have key : ∀ (e : Expr) (N : List Str) (sc : Scope), chkE fs N sc (.or a b) e = true → ∃ a' b' r p, e = .BoolOp .Or (a' :: b' :: r) p ∧ chkE fs N sc a a' = true ∧ chkE fs N sc b (tailB .Or b' r p) = true := fun e N sc h => by
    simp only [chkE] at h
    split at h
    · simp only [Bool.and_eq_true] at h
      exact ⟨_, _, _, _, rfl, h.1, h.2⟩
    · cases h
  have hw : ∀ (op : BoolOp) (es : List Expr) (pos : Pos) (N : List Str) (sc : Scope), chkE fs N sc (.or a b) (.BoolOp op es pos) = true → ∀ (X : Cx) (k : Nat), Good X F k fs → X.N = N → X.env.scope = sc → PW X (.BoolOp op es pos) (tT X.K (evE F (.or a b))) := fun op es pos N sc h X k g hN hS => by
    obtain ⟨a', b', r, p, e, h1, h2⟩ := key _ N sc h
    cases e
    have hbt : PW X (.BoolOp .Or (b' :: r) pos) (tT X.K (evE F b)) := by
      cases r with
      | nil => exact pw_or1 (hb.tst _ _ _ h2 X k g hN hS)
      | cons c r => exact hb.whl _ _ _ _ _ h2 X k g hN hS
    refine weakW (pw_or (ha.tst _ _ _ h1 X k g hN hS) hbt) ?_
    rintro σ H Q ⟨a1, ρ, m, st, sl, q⟩
    refine tT_onB (f := fun x m1 => if x then .ok (.bl true) m1 else evE F b ρ m1) st sl q fun d m1 a1 H1 st1 sl1 x1 q1 => ?_
    cases d with
    | true =>
      rw [if_pos rfl]
      exact q1 a1 H1 Ext.refl st1
    | false =>
      rw [if_neg Bool.false_ne_true]
      exact ⟨a1, ρ, m1, st1, sl1, q1⟩
  refine ⟨fun e N sc h X k g hN hS => ?_, fun e N sc h X k g hN hS => ?_, hw⟩
  · obtain ⟨a', b', r, p, rfl, h1, h2⟩ := key e N sc h
    have hbv : PE X (.BoolOp .Or (b' :: r) p) (tS X.K (evE F b)) := by
      cases r with
      | nil => exact pe_one (hb.val _ _ _ h2 X k g hN hS)
      | cons c r => exact hb.val _ _ _ h2 X k g hN hS
    refine weakE (pe_or (ha.val _ _ _ h1 X k g hN hS) hbv) ?_
    rintro σ H Q ⟨a1, ρ, m, st, sl, q⟩
    refine tS_onV (f := fun x m1 => if x then .ok (.bl true) m1 else evE F b ρ m1) st sl q fun d m1 a1 H1 st1 sl1 x1 q1 => ⟨d, rfl, ?_⟩
    cases d with
    | true =>
      rw [if_pos rfl]
      exact q1 a1 H1 _ Ext.refl st1 (.bl _)
    | false =>
      rw [if_neg Bool.false_ne_true]
      exact ⟨a1, ρ, m1, st1, sl1, q1⟩
  · obtain ⟨a', b', r, p, rfl, h1, h2⟩ := key e N sc h
    exact (hw _ _ _ _ _ h X k g hN hS).pt
theorem s_not {a : Ex} (ha : SndE F fs a) : SndE F fs (.not a) := by
  have key : ∀ (e : Expr) (N : List Str) (sc : Scope), chkE fs N sc (.not a) e = true → ∃ a' p, e = .UnaryOp .Not a' p ∧ chkE fs N sc a a' = true := fun e N sc h => by
    simp only [chkE] at h
    split at h
    · exact ⟨_, _, rfl, h⟩
    · cases h
  refine ⟨fun e N sc h X k g hN hS => ?_, fun e N sc h X k g hN hS => ?_, fun op es pos N sc h => ?_⟩
  · obtain ⟨a', p, rfl, h1⟩ := key e N sc h
    refine weakE (pe_not (ha.val _ _ _ h1 X k g hN hS)) ?_
    rintro σ H Q ⟨a1, ρ, m, st, sl, q⟩
    exact tS_onV (f := fun x m1 => .ok (.bl (!x)) m1) st sl q fun d m1 a1 H1 st1 sl1 x1 q1 => ⟨d, rfl, q1.val st1 (.bl _)⟩
  · obtain ⟨a', p, rfl, h1⟩ := key e N sc h
    refine weakT (pt_not (ha.tst _ _ _ h1 X k g hN hS)) ?_
    rintro σ H Q ⟨a1, ρ, m, st, sl, q⟩
    exact tT_onB (f := fun x m1 => .ok (.bl (!x)) m1) st sl q fun d m1 a1 H1 st1 sl1 x1 q1 => q1 a1 H1 Ext.refl st1
  · obtain ⟨a', p, e, _⟩ := key _ N sc h
    cases e
theorem s_ite {c a b : Ex} (hc : SndE F fs c) (ha : SndE F fs a) (hb : SndE F fs b) : SndE F fs (.ite c a b) := by
  have key : ∀ (e : Expr) (N : List Str) (sc : Scope), chkE fs N sc (.ite c a b) e = true → ∃ c' a' b' p, e = .IfExp c' a' b' p ∧ chkE fs N sc c c' = true ∧ chkE fs N sc a a' = true ∧ chkE fs N sc b b' = true := fun e N sc h => by
    simp only [chkE] at h
    split at h
    · simp only [Bool.and_eq_true] at h
      exact ⟨_, _, _, _, rfl, h.1.1, h.1.2, h.2⟩
    · cases h
  refine ⟨fun e N sc h X k g hN hS => ?_, fun e N sc h X k g hN hS => ?_, fun op es pos N sc h => ?_⟩
  · obtain ⟨c', a', b', p, rfl, h1, h2, h3⟩ := key e N sc h
    refine weakE (pe_ifExp (hc.tst _ _ _ h1 X k g hN hS) (ha.val _ _ _ h2 X k g hN hS) (hb.val _ _ _ h3 X k g hN hS)) ?_
    rintro σ H Q ⟨a1, ρ, m, st, sl, q⟩
    refine tT_on (f := fun x m1 => if x then evE F a ρ m1 else evE F b ρ m1) st sl q fun d m1 a1 H1 st1 sl1 x1 q1 => ?_
    cases d with
    | true => exact iteT ⟨a1, ρ, m1, st1, sl1, q1⟩
    | false => exact iteF ⟨a1, ρ, m1, st1, sl1, q1⟩
  · obtain ⟨c', a', b', p, rfl, h1, h2, h3⟩ := key e N sc h
    refine weakT (pt_ifExp (hc.tst _ _ _ h1 X k g hN hS) (ha.tst _ _ _ h2 X k g hN hS) (hb.tst _ _ _ h3 X k g hN hS)) ?_
    rintro σ H Q ⟨a1, ρ, m, st, sl, q⟩
    refine tT_onB (f := fun x m1 => if x then evE F a ρ m1 else evE F b ρ m1) st sl q fun d m1 a1 H1 st1 sl1 x1 q1 => ?_
    cases d with
    | true => exact iteT ⟨a1, ρ, m1, st1, sl1, q1⟩
    | false => exact iteF ⟨a1, ρ, m1, st1, sl1, q1⟩
  · obtain ⟨c', a', b', p, e, _⟩ := key _ N sc h
    cases e
end
end Br


set_option Elab.async false
set_option linter.all false
set_option maxRecDepth 100000
set_option maxHeartbeats 1000000
set_option autoImplicit false
/-! Br: every expression does what the evaluator tells: calls, items, lists, comprehensions, scopes. -/
namespace Br
open PySem PySem.Spec PyProof.Rows L2
section
variable {F : Fe} {fs : List Str}
theorem s_fn (f : Fn) {es : Exs} (ih : SndEs F fs es) : SndE F fs (.fn f es) := SndE.pl fun e N sc h => by
  refine ⟨?_, fun X k g hN hS => fn_ok ih h g hN hS⟩
  simp only [chkE] at h
  split at h
  · split at h
    · rfl
    · cases h
  · split at h
    · rfl
    · cases h
theorem s_isin {a : Ex} (ts : List Ty) (ih : SndE F fs a) : SndE F fs (.isin a ts) := SndE.pl fun e N sc h => by
  refine ⟨?_, fun X k g hN hS => isin_ok ih h g hN hS⟩
  simp only [chkE] at h
  split at h
  · rfl
  · cases h
theorem s_call (f : Str) {es : Exs} (ih : SndEs F fs es) : SndE F fs (.call f es) := SndE.pl fun e N sc h => by
  simp only [chkE] at h
  split at h
  · rename_i x p e' es' pos
    simp only [Bool.and_eq_true, decide_eq_true_eq] at h
    obtain ⟨⟨⟨⟨rfl, h2⟩, h3⟩, h4⟩, h5⟩ := h
    refine ⟨rfl, fun X k g hN hS => ?_⟩
    subst hN hS
    obtain ⟨q, fd, ps, g1, g2, g3, g4, g5⟩ := g.fn f (by simpa using h2)
    have pa := ih.args _ _ _ h5 X k g rfl rfl
    have s2 : (backTo pos (starEach es' X.env)).any (·.1) = false := by
      cases es with
      | nil => simp [chkEs] at h5
      | cons x t =>
        simp only [chkEs, Bool.and_eq_true] at h5
        exact star_any h5.2 _ _
    refine weakE (pe_call g4 g.room (glB_of h3) g1 g2 g3 .nil passL pa (okN_d h4).1 (star_plain (plain_head h5) _ _) s2) ?_
    rintro σ H Q ⟨a, ρ, m, st, sl, q⟩
    refine tA_bind (f := fun ds m1 => F.call f ds m1) st sl q fun ds m1 a1 H1 vs st1 sl1 rv x1 q1 => ?_
    rw [List.append_nil]
    refine ⟨a1, m1, ds, st1, rv, ?_, q1⟩
    by_cases hl : ds.length = ps.length
    · exact hl
    · rw [g5 ds m1 hl] at q1
      exact False.elim q1
  · cases h
theorem tS_bindE {K : PySem.W.Frag} {H : Hp} {a : Ad} {m : Mem} {ρ : Sl} {σ : L2.St} {ev : Sl → Mem → Res D} {f : D → Mem → Res D} {Q Q' : VK} (st : MRel K a m H) (sl : SRel K a H ρ σ) (q : Tr K a H ((ev ρ m).bind f) Q)
    (k : ∀ d m1 a1 H1 v, ev ρ m = .ok d m1 → MRel K a1 m1 H1 → SRel K a1 H1 ρ σ → RepV K H1 a1 d v → Ext a H a1 H1 → Tr K a1 H1 (f d m1) Q → Q' v H1) : tS K ev σ H Q' := by
  refine ⟨a, ρ, m, st, sl, ?_⟩
  cases e : ev ρ m with
  | ok d m1 =>
    rw [e] at q
    exact fun a1 H1 v x r rv => k d m1 a1 H1 v e r (sl.mono x) rv x (Tr.mono (r := f d m1) q x)
  | ex c ds m' => rw [e] at q; exact q
  | bad => rw [e] at q; exact q
theorem s_idx {a b : Ex} (ha : SndE F fs a) (hb : SndE F fs b) : SndE F fs (.idx a b) := SndE.pl fun e N sc h => by
  simp only [chkE] at h
  split at h
  · rename_i a' b' p
    simp only [Bool.and_eq_true] at h
    obtain ⟨⟨h1, h2⟩, h3⟩ := h
    refine ⟨rfl, fun X k g hN hS => ?_⟩
    have pa := ha.val _ _ _ h2 X k g hN hS
    have pb := hb.val _ _ _ h3 X k g hN hS
    refine eitherE (pe_ix ixD_seq pa pb (plain_ix h1)) (pe_dget (hu_of g.room) pa pb (plain_ix h1)) ?_
    rintro σ H Q ⟨a1, ρ, m, st, sl, q⟩
    by_cases hd : ∃ x m1 y m2, evE F a ρ m = .ok x m1 ∧ evE F b ρ m1 = .ok y m2 ∧ notDct m2 x = false
    · refine .inr ?_
      obtain ⟨x, m1, y, m2, e1, e2, e3⟩ := hd
      refine ⟨a1, ρ, m, st, sl, ?_⟩
      have q0 : Tr X.K a1 H (optR (idxD m2 x y) m2) Q := by
        have := q
        simp only [evE, e1, e2, Res.bind] at this
        exact this
      rw [e1]
      intro a2 H2 v x1 st1 rv
      refine ⟨a2, ρ, m1, st1, sl.mono x1, ?_⟩
      rw [e2]
      intro a3 H3 w x2 st2 rw
      have q1 := Tr.mono (Tr.mono q0 x1) x2
      have rv3 := rv.mono x2
      cases rv3 <;> first | (simp [notDct] at e3; done) | skip
      rename_i n p2 h5
      simp only [notDct] at e3
      split at e3
      · rename_i kvs h6
        obtain ⟨ho, g1, g2⟩ := st2.at_ n p2 _ h5 h6
        cases g2 with
        | @dct _ ks hl r =>
          simp only [idxD, h6] at q1
          cases hk : keyD y with
          | none => rw [hk] at q1; exact False.elim q1
          | some kk =>
            rw [hk, Option.bind_some] at q1
            rcases look_rep kk r with ⟨l1, l2⟩ | ⟨d, u, l1, l2, l3⟩
            · rw [l1] at q1; exact False.elim q1
            · rw [l1] at q1
              have ek := key_rep rw hk
              subst ek
              exact ⟨p2, u, rfl, by rw [← l2]; exact DGet.k g1, q1.val st2 l3⟩
      · cases e3
    · refine .inl ?_
      refine tS_bindE (f := fun x m1 => (evE F b ρ m1).bind fun y m2 => optR (idxD m2 x y) m2) st sl q fun d m1 a2 H2 v e1 st1 sl1 rv x1 q1 => ?_
      refine tS_bindE (f := fun y m2 => optR (idxD m2 d y) m2) st1 sl1 q1 fun y m2 a3 H3 w e2 st2 sl2 rw x2 q2 => ?_
      refine ⟨a3, m2, d, y, st2, rv.mono x2, rw, ?_, q2⟩
      cases hn : notDct m2 d with
      | true => rfl
      | false => exact absurd ⟨d, m1, y, m2, e1, e2, hn⟩ hd
  · cases h
/-! ### slices -/
def tO (K : PySem.W.Frag) (ev : Sl → Mem → Res (List D)) : TO := fun σ H Q => ∃ a ρ m ds m1 o, MRel K a m H ∧ SRel K a H ρ σ ∧ ev ρ m = .ok ds m1 ∧ partOf ds = some o ∧ ∀ a' H', Ext a H a' H' → MRel K a' m1 H' → Q o H'
theorem po_of {X : Cx} {k : Nat} (g : Good X F k fs) {es : Exs} (ih : SndEs F fs es) {o : Option Expr} (h : chkEs fs X.N X.env.scope es o.toList = true) : PO X o (tO X.K (evEs F es)) := by
  cases o with
  | none =>
    cases es with
    | cons _ _ => simp [chkEs] at h
    | nil =>
      refine ⟨fun pins s σ H Q I h => po_none.run pins s σ H Q I ?_⟩
      obtain ⟨a, ρ, m, ds, m1, o, st, sl, e1, e2, q⟩ := h
      simp only [evEs, Res.ok.injEq] at e1
      obtain ⟨rfl, rfl⟩ := e1
      simp only [partOf, Option.some.injEq] at e2
      subst e2
      exact q a H Ext.refl st
  | some e =>
    obtain ⟨x, rfl, hx, _⟩ := ih.one e _ _ h X k g rfl rfl
    refine ⟨fun pins s σ H Q I h => (po_some hx).run pins s σ H Q I ?_⟩
    obtain ⟨a, ρ, m, ds, m1, o, st, sl, e1, e2, q⟩ := h
    obtain ⟨d, rfl, e3⟩ := evEs_one e1
    refine ⟨a, ρ, m, st, sl, ?_⟩
    rw [e3]
    intro a1 H1 v x1 st1 rv
    cases rv <;> simp only [partOf] at e2 <;> first | (cases e2; done) | skip
    cases e2
    exact ⟨_, rfl, q a1 H1 x1 st1⟩
theorem tO_bind {K : PySem.W.Frag} {H : Hp} {a : Ad} {m : Mem} {ρ : Sl} {σ : L2.St} {ev : Sl → Mem → Res (List D)} {f : Option Int → Mem → Res D} {Q : VK} {Q' : Option Int → Hp → Prop} (st : MRel K a m H) (sl : SRel K a H ρ σ)
    (q : Tr K a H ((ev ρ m).bind fun ds m1 => match partOf ds with | some o => f o m1 | none => .bad) Q)
    (k : ∀ o m1 a1 H1, MRel K a1 m1 H1 → SRel K a1 H1 ρ σ → Ext a H a1 H1 → Tr K a1 H1 (f o m1) Q → Q' o H1) : tO K ev σ H Q' := by
  cases e : ev ρ m with
  | ok ds m1 =>
    rw [e] at q
    cases ho : partOf ds with
    | none =>
      simp only [Res.bind, ho] at q
      exact False.elim q
    | some o =>
      simp only [Res.bind, ho] at q
      exact ⟨a, ρ, m, ds, m1, o, st, sl, e, ho, fun a1 H1 x r => k o m1 a1 H1 r (sl.mono x) x (Tr.mono q x)⟩
  | ex c ds m' => rw [e] at q; exact False.elim q
  | bad => rw [e] at q; exact False.elim q
theorem s_sli {a : Ex} {lo hi : Exs} (ha : SndE F fs a) (hlo : SndEs F fs lo) (hhi : SndEs F fs hi) : SndE F fs (.sli a lo hi) := SndE.pl fun e N sc h => by
  simp only [chkE] at h
  split at h
  · rename_i a' lo' hi' p2 p
    simp only [Bool.and_eq_true] at h
    obtain ⟨⟨h1, h2⟩, h3⟩ := h
    refine ⟨rfl, fun X k g hN hS => ?_⟩
    subst hN hS
    refine weakE (pe_slice slD (ha.val _ _ _ h1 X k g rfl rfl) (po_of g hlo h2) (po_of g hhi h3)) ?_
    rintro σ H Q ⟨a1, ρ, m, st, sl, q⟩
    have q' : Tr X.K a1 H ((evE F a ρ m).bind fun x m1 => (evEs F lo ρ m1).bind fun l m2 => match partOf l with
      | some l' => (evEs F hi ρ m2).bind fun h m3 => match partOf h with
        | some h' => optR (sliD m3 x l' h') m3
        | none => .bad
      | none => .bad) Q := by
      simp only [evE] at q
      revert q
      cases evE F a ρ m with
      | bad => exact id
      | ex _ _ _ => exact id
      | ok x m1 =>
        simp only [Res.bind]
        cases evEs F lo ρ m1 with
        | bad => exact id
        | ex _ _ _ => exact id
        | ok l m2 =>
          simp only
          cases hl : partOf l with
          | none =>
            intro q
            revert q
            cases evEs F hi ρ m2 <;> exact id
          | some l' =>
            simp only
            cases evEs F hi ρ m2 with
            | bad => exact id
            | ex _ _ _ => exact id
            | ok h m3 =>
              simp only
              cases hh : partOf h <;> exact id
    refine tS_bind (f := _) st sl q' fun d m1 a2 H2 v st1 sl1 rv x1 q1 => ?_
    refine tO_bind (f := fun l' m2 => (evEs F hi ρ m2).bind fun h m3 => match partOf h with
        | some h' => optR (sliD m3 d l' h') m3
        | none => .bad) st1 sl1 q1 fun l' m2 a3 H3 st2 sl2 x2 q2 => ?_
    refine tO_bind (f := fun h' m3 => optR (sliD m3 d l' h') m3) st2 sl2 q2 fun h' m3 a4 H4 st3 sl3 x3 q3 => ?_
    exact ⟨a4, m3, d, st3, (rv.mono x2).mono x3, q3⟩
  · cases h
theorem s_tup {es : Exs} (ih : SndEs F fs es) : SndE F fs (.tup es) := SndE.pl fun e N sc h => by
  simp only [chkE] at h
  split at h
  · refine ⟨rfl, fun X k g hN hS => ?_⟩
    refine weakE (pe_tup (ih.args _ _ _ h X k g hN hS)) ?_
    rintro σ H Q ⟨a, ρ, m, st, sl, q⟩
    refine tA_bind (f := fun ds m1 => if ds.length ≤ big then .ok (.tup ds) m1 else .bad) st sl q fun ds m1 a1 H1 vs st1 sl1 rv x1 q1 => ?_
    split at q1
    · rename_i hz
      have hz' := big_line hz
      exact ⟨by rw [← rv.length]; exact hz', fun p hp => q1.tup st1 rv hz' hp⟩
    · exact False.elim q1
  · cases h
theorem s_lst (fr : Bool) {es : Exs} (ih : SndEs F fs es) : SndE F fs (.lst fr es) := SndE.pl fun e N sc h => by
  simp only [chkE] at h
  split at h
  · refine ⟨rfl, fun X k g hN hS => ?_⟩
    refine weakE (pe_lst (ih.args _ _ _ h X k g hN hS)) ?_
    rintro σ H Q ⟨a, ρ, m, st, sl, q⟩
    refine tA_bind (f := fun ds m1 => if ds.length ≤ big then (if fr then .ok (.lst ds) m1 else .ok (.ref m1.length) (m1 ++ [O.lst ds])) else .bad) st sl q fun ds m1 a1 H1 vs st1 sl1 rv x1 q1 => ?_
    split at q1
    · rename_i hz
      have hz' := big_line hz
      refine ⟨by rw [← rv.length]; exact hz', fun p hp => ?_⟩
      cases fr with
      | true => exact Tr.lst st1 q1 rv hz' hp
      | false => exact Tr.new st1 q1 (.lst hz' rv) hp
    · exact False.elim q1
  · cases h
/-! ### scopes -/
theorem s_scope {a : Ex} (ih : SndE F fs a) : SndE F fs (.scope a) := by
  have key : ∀ {K : PySem.W.Frag} {H : Hp} {b : Ad} {m : Mem} {ρ : Sl} {Q : VK}, MRel K b m H → Tr K b H (evE F (.scope a) ρ m) Q → Tr K b H (evE F a ρ m) Q := fun {K H b m ρ Q} st q => by
    simp only [evE] at q
    cases e : evE F a ρ m with
    | bad => rw [e] at q; exact q
    | ex _ _ _ => rw [e] at q; exact q
    | ok d m' =>
      rw [e] at q
      simp only at q
      cases hf : frzD m' m.length d with
      | none => rw [hf] at q; exact False.elim q
      | some d' =>
        rw [hf] at q
        simp only at q
        split at q
        · rename_i hu
          exact scope_read st hf hu q
        · exact False.elim q
  have keyB : ∀ {K : PySem.W.Frag} {σ : L2.St} {H : Hp} {Q : Bool → Hp → Prop}, tT K (evE F (.scope a)) σ H Q → tT K (evE F a) σ H Q := fun {K σ H Q} q => by
    obtain ⟨b, ρ, m, st, sl, q⟩ := q
    refine ⟨b, ρ, m, st, sl, ?_⟩
    have q1 : Tr K b H (evE F (.scope a) ρ m) (fun v H' => ∃ c, v = .bl c ∧ Q c H') := by
      revert q
      cases evE F (.scope a) ρ m with
      | bad => exact id
      | ex _ _ _ => exact id
      | ok d m1 =>
        intro q
        cases d <;> first | exact False.elim q | skip
        intro a1 H1 v x1 st1 rv
        cases rv
        exact ⟨_, rfl, q a1 H1 x1 st1⟩
    have q2 := key st q1
    simp only [evE] at q
    cases e : evE F a ρ m with
    | bad => rw [e] at q; exact q
    | ex _ _ _ => rw [e] at q; exact q
    | ok d m' =>
      rw [e] at q q2
      cases d
      case bl c =>
        intro a1 H1 x1 st1
        obtain ⟨c', hc, hq⟩ := q2 a1 H1 _ x1 st1 (.bl c)
        cases hc
        exact hq
      all_goals
        simp only at q
        split at q
        · rename_i d' hf
          split at q
          · first
              | (cases hf; exact q)
              | (simp only [frzD, D.res, Option.map_eq_some_iff] at hf; obtain ⟨_, _, rfl⟩ := hf; exact q)
              | (rename_i hu
                 exfalso
                 simp only [frzD, D.res] at hf
                 unfold frz at hf
                 split at hf
                 · cases hf; exact q
                 · split at hf
                   · rw [Option.map_eq_some_iff] at hf; obtain ⟨_, _, rfl⟩ := hf; exact q
                   · cases hf)
          · exact False.elim q
        · exact False.elim q
  refine ⟨fun e N sc h X k g hN hS => ?_, fun e N sc h X k g hN hS => ?_, fun op es pos N sc h X k g hN hS => ?_⟩
  · have h' : chkE fs N sc a e = true := by simpa only [chkE] using h
    exact weakE (ih.val _ _ _ h' X k g hN hS) fun σ H Q ⟨b, ρ, m, st, sl, q⟩ => ⟨b, ρ, m, st, sl, key st q⟩
  · have h' : chkE fs N sc a e = true := by simpa only [chkE] using h
    exact weakT (ih.tst _ _ _ h' X k g hN hS) fun σ H Q => keyB
  · have h' : chkE fs N sc a (.BoolOp op es pos) = true := by simpa only [chkE] using h
    exact weakW (ih.whl _ _ _ _ _ h' X k g hN hS) fun σ H Q => keyB
/-! ### comprehensions -/
theorem weakTs {X : Cx} {es : List Expr} {t t' : L2.TT} (h : PTs X es t) (w : ∀ σ H Q, t' σ H Q → t σ H Q) : PTs X es t' := ⟨fun pins s σ H Q I q => h.run pins s σ H Q I (w _ _ _ q)⟩
theorem tests_ok {X : Cx} {k : Nat} (g : Good X F k fs) {c : Exs} (ih : SndEs F fs c) {ifs : List Expr} (hl : ifs.length ≤ 1) (h : chkEs fs X.N X.env.scope c ifs = true) : PTs X ifs (tT X.K fun ρ m => evC F c ρ m) := by
  match ifs, hl with
  | [], _ =>
    cases c with
    | cons _ _ => simp [chkEs] at h
    | nil => exact weakTs pts_nil fun σ H Q ⟨a, ρ, m, st, sl, q⟩ => q a H Ext.refl st
  | [e], _ =>
    obtain ⟨x, rfl, _, hx⟩ := ih.one e _ _ h X k g rfl rfl
    exact pts_one hx
theorem walk_ok {X : Cx} {k : Nat} (g : Good X F k fs) {w : Wk} {it : Exs} (ih : SndEs F fs it) {tg iter : Expr} (hp : plainE iter = true) (h1 : wkTg w tg = true) (h2 : wkB X.env.scope w iter = true) (h3 : chkEs fs X.N X.env.scope it (wkArgs w iter) = true) :
    PI X tg iter (tW X.K w (evEs F it)) := by
  cases w
  case seq =>
    obtain ⟨x, rfl, hx, _⟩ := ih.one iter _ _ h3 X k g rfl rfl
    exact sound_seq hx
  case str =>
    obtain ⟨x, rfl, hx, _⟩ := ih.one iter _ _ h3 X k g rfl rfl
    exact sound_str hx
  case rng1 =>
    unfold wkB at h2
    split at h2 <;> first | (rename_i hh; cases hh; done) | skip
    all_goals first | (cases h2; done) | skip
    rename_i x p e pos hh
    simp only [Bool.and_eq_true, decide_eq_true_eq] at h2
    obtain ⟨rfl, h2⟩ := h2
    have pa := ih.args _ _ _ h3 X k g rfl rfl
    exact sound_rng1 (glB_of h2) (blt_of g _) (plain_head h3) pa
  case rng2 =>
    unfold wkB at h2
    split at h2 <;> first | (rename_i hh; cases hh; done) | skip
    all_goals first | (cases h2; done) | skip
    rename_i x p e e2 pos hh
    simp only [Bool.and_eq_true, decide_eq_true_eq] at h2
    obtain ⟨rfl, h2⟩ := h2
    have pa := ih.args _ _ _ h3 X k g rfl rfl
    have hp2 : plainE e2 = true := by
      cases it with
      | nil => simp [wkArgs, chkEs] at h3
      | cons x r => simp only [wkArgs, chkEs, Bool.and_eq_true] at h3; exact plain_head (xs := r) (N := X.N) (sc := X.env.scope) (fs := fs) (by simpa [chkEs] using h3.2)
    exact sound_rng2 (glB_of h2) (blt_of g _) (plain_head h3) hp2 pa
  case enum =>
    unfold wkB at h2
    split at h2 <;> first | (rename_i hh; cases hh; done) | skip
    all_goals first | (cases h2; done) | skip
    rename_i x p e pos hh
    simp only [Bool.and_eq_true, decide_eq_true_eq] at h2
    obtain ⟨rfl, h2⟩ := h2
    have pa := ih.args _ _ _ h3 X k g rfl rfl
    unfold wkTg at h1
    split at h1
    · exact sound_enum (glB_of h2) (blt_of g _) (plain_head h3) pa
    · cases h1
    · rename_i h0 _; exact absurd rfl h0
end
end Br


set_option Elab.async false
set_option linter.all false
set_option maxRecDepth 100000
set_option maxHeartbeats 1000000
set_option autoImplicit false
/-! Br: the theorem about expressions. -/
namespace Br
open PySem PySem.Spec PyProof.Rows L2
section
variable {F : Fe} {fs : List Str}
/-- a comprehension's parts, as written -/
theorem comp_key {own : List (Str × Nat)} {tg : Tg} {k : Wk} {it c : Exs} {el : Ex} {e : Expr} {N : List Str} {sc : Scope} (h : chkE fs N sc (.comp own tg k it c el) e = true) :
    ∃ elt tg' iter ifs scope p, e = .ListComp elt [⟨tg', iter, ifs, 0⟩] scope p ∧ blkC N sc scope own = true ∧ tgB (locB scope) N tg tg' = true ∧ (∀ i ∈ tg.slots, i ∈ own.map (·.2)) ∧ plainE iter = true ∧ wkTg k tg' = true ∧
      wkB sc k iter = true ∧ chkEs fs N sc it (wkArgs k iter) = true ∧ ifs.length ≤ 1 ∧ chkEs fs N (inSc scope sc) c ifs = true ∧ chkE fs N (inSc scope sc) el elt = true := by
  simp only [chkE] at h
  split at h
  · simp only [Bool.and_eq_true, decide_eq_true_eq, List.all_eq_true] at h
    obtain ⟨⟨⟨⟨⟨⟨⟨⟨⟨h1, h2⟩, h3⟩, h4⟩, h5⟩, h6⟩, h7⟩, h8⟩, h9⟩, h10⟩ := h
    exact ⟨_, _, _, _, _, _, rfl, h1, h2, h3, h4, h5, h6, h7, h8, h9, h10⟩
  · cases h
theorem loc_in {X : Cx} {scope : Scope} (s : Shared) (H : Hp) (C : Addr) (cl : List (Str × Addr)) (fp : List Addr) : ∀ x, locB scope x = true →
    Loc (X.blk s H scope (compEnvC scope cl C X.env) fp).env.scope x ∧ ((X.blk s H scope (compEnvC scope cl C X.env) fp).fn x = true ∨ (X.blk s H scope (compEnvC scope cl C X.env) fp).env.scope.names.lookup x = some .local) := by
  intro x h
  unfold locB at h
  split at h
  · rename_i e
    have h2 := lookup_relS_keep (sc := X.env.scope) (k := .local) (by decide) e
    exact ⟨.inl h2, .inr h2⟩
  · rename_i e
    have h2 := lookup_relS_keep (sc := X.env.scope) (k := .cell) (by decide) e
    exact ⟨.inr h2, .inl (by show (scope.names.lookup x == some .cell) = true; rw [e]; rfl)⟩
  · cases h
/-- the parts of pe_lc and ps_setLc -/
structure LcParts (X : Cx) (F : Fe) (own : List (Str × Nat)) (tg : Tg) (k : Wk) (it c : Exs) (el : Ex) (elt tg' iter : Expr) (ifs : List Expr) (scope : Scope) : Prop where
  hi : PI X tg' iter (tW X.K k (evEs F it))
  ok : BlkOk X.N X.env.scope scope own
  hg : ∀ (s : Shared) (H : Hp) (C : Addr) (cl : List (Str × Addr)) (fp : List Addr), PG (X.blk s H scope (compEnvC scope cl C X.env) fp) tg' (gD X.K tg)
  ht : ∀ (s : Shared) (H : Hp) (C : Addr) (cl : List (Str × Addr)) (fp : List Addr), PTs (X.blk s H scope (compEnvC scope cl C X.env) fp) ifs (tT X.K fun ρ m => evC F c ρ m)
  he : ∀ (s : Shared) (H : Hp) (C : Addr) (cl : List (Str × Addr)) (fp : List Addr), PE (X.blk s H scope (compEnvC scope cl C X.env) fp) elt (tS X.K fun ρ m => evE F el ρ m)
  hs : ∀ x, foldedSetIterable iter X.env x = pure x
theorem lc_parts {own : List (Str × Nat)} {tg : Tg} {k : Wk} {it c : Exs} {el : Ex} (ih1 : SndEs F fs it) (ih2 : SndEs F fs c) (ih3 : SndE F fs el) {X : Cx} {n : Nat} (g : Good X F n fs) {elt tg' iter : Expr} {ifs : List Expr} {scope : Scope} {p : Pos}
    (h : chkE fs X.N X.env.scope (.comp own tg k it c el) (.ListComp elt [⟨tg', iter, ifs, 0⟩] scope p) = true) : LcParts X F own tg k it c el elt tg' iter ifs scope ∧ ∀ i ∈ tg.slots, i ∈ own.map (·.2) := by
  obtain ⟨_, _, _, _, _, _, e, h1, h2, h3, h4, h5, h6, h7, h8, h9, h10⟩ := comp_key h
  cases e
  refine ⟨⟨walk_ok g ih1 h4 h5 h6 h7, blkOk_by h1, fun s H C cl fp => ?_, fun s H C cl fp => ?_, fun s H C cl fp => ?_, plain_set h4 _⟩, h3⟩
  · exact sound_tg (X := X.blk s H scope (compEnvC scope cl C X.env) fp) (loc_in s H C cl fp) g.calm g.nd h2
  · exact tests_ok (X := X.blk s H scope (compEnvC scope cl C X.env) fp) (g.blk s H scope _ fp) ih2 h8 h9
  · exact ih3.val _ _ _ h10 (X.blk s H scope (compEnvC scope cl C X.env) fp) n (g.blk s H scope _ fp) rfl rfl
theorem comp_go {own : List (Str × Nat)} {tg : Tg} {k : Wk} {it c : Exs} {el : Ex} (hsub : ∀ i ∈ tg.slots, i ∈ own.map (·.2)) {K : PySem.W.Frag} {σ : L2.St} {H : Hp} {Q : VK} (h : tS K (evE F (.comp own tg k it c el)) σ H Q) :
    tLc (tW K k (evEs F it)) (gD K tg) (tT K fun ρ m => evC F c ρ m) (tS K fun ρ m => evE F el ρ m) (own.map (·.2)) σ H Q := by
  obtain ⟨a, ρ, m, st, sl, q⟩ := h
  simp only [evE] at q
  cases e1 : evEs F it ρ m with
  | bad => rw [e1] at q; exact False.elim q
  | ex _ _ _ => rw [e1] at q; exact False.elim q
  | ok ds m1 =>
    rw [e1] at q
    simp only [Res.bind] at q
    split at q
    · exact False.elim q
    · rename_i xs e2
      split at q
      · rename_i vs m2 e3
        exact comp_read hsub st sl e1 e2 e3 q
      · exact False.elim q
theorem s_comp {own : List (Str × Nat)} {tg : Tg} {k : Wk} {it c : Exs} {el : Ex} (ih1 : SndEs F fs it) (ih2 : SndEs F fs c) (ih3 : SndE F fs el) : SndE F fs (.comp own tg k it c el) := SndE.pl fun e N sc h => by
  obtain ⟨elt, tg', iter, ifs, scope, p, rfl, _⟩ := comp_key h
  refine ⟨rfl, fun X n g hN hS => ?_⟩
  subst hN hS
  obtain ⟨L, hsub⟩ := lc_parts ih1 ih2 ih3 g h
  exact weakE (pe_lc g.calm g.nd L.hi L.ok L.hg L.ht L.he L.hs) fun σ H Q => comp_go hsub
mutual
theorem soundE : ∀ x : Ex, SndE F fs x
  | .var i => s_var i
  | .glo x => s_glo x
  | .cst d => s_cst d
  | .bin o a b => s_bin o (soundE a) (soundE b)
  | .cmp o a b => s_cmp o (soundE a) (soundE b)
  | .chain o o2 a b c => s_chain o o2 (soundE a) (soundE b) (soundE c)
  | .and a b => s_and (soundE a) (soundE b)
  | .or a b => s_or (soundE a) (soundE b)
  | .not a => s_not (soundE a)
  | .ite c a b => s_ite (soundE c) (soundE a) (soundE b)
  | .fn f es => s_fn f (soundEs es)
  | .isin a ts => s_isin ts (soundE a)
  | .call f es => s_call f (soundEs es)
  | .idx a b => s_idx (soundE a) (soundE b)
  | .sli a lo hi => s_sli (soundE a) (soundEs lo) (soundEs hi)
  | .tup es => s_tup (soundEs es)
  | .lst fr es => s_lst fr (soundEs es)
  | .comp _ _ _ it c el => s_comp (soundEs it) (soundEs c) (soundE el)
  | .scope a => s_scope (soundE a)
theorem soundEs : ∀ xs : Exs, SndEs F fs xs
  | .nil => ⟨fun es N sc h X k g hN hS => by
      cases es with
      | nil => exact PA.nil'
      | cons _ _ => simp [chkEs] at h, fun e N sc h => by simp [chkEs] at h⟩
  | .cons x r => ⟨fun es N sc h X k g hN hS => by
      cases es with
      | nil => simp [chkEs] at h
      | cons e es =>
        simp only [chkEs, Bool.and_eq_true] at h
        exact PA.cons' h.1.1 ((soundE x).val _ _ _ h.1.2 X k g hN hS) ((soundEs r).args _ _ _ h.2 X k g hN hS), fun e N sc h X k g hN hS => by
      simp only [chkEs, Bool.and_eq_true] at h
      cases r with
      | nil => exact ⟨x, rfl, (soundE x).val _ _ _ h.1.2 X k g hN hS, (soundE x).tst _ _ _ h.1.2 X k g hN hS⟩
      | cons y r => simp [chkEs] at h⟩
end
end
end Br


set_option Elab.async false
set_option linter.all false
set_option maxRecDepth 100000
set_option maxHeartbeats 1000000
set_option autoImplicit false
/-! Br: statements. -/
namespace Br
open PySem PySem.Spec PyProof.Rows L2
def TrS (K : PySem.W.Frag) (a : Ad) (H : Hp) (r : Rs) (D : Ends) : Prop := match r with
  | .nx ρ' m' => ∀ a' H' σ', Ext a H a' H' → MRel K a' m' H' → SRel K a' H' ρ' σ' → D.nx σ' H'
  | .rt d m' => ∀ a' H' v, Ext a H a' H' → MRel K a' m' H' → RepV K H' a' d v → D.rt v H'
  | _ => False
def tSt (K : PySem.W.Frag) (ev : Sl → Mem → Rs) : TS := fun D σ H => ∃ a ρ m, MRel K a m H ∧ SRel K a H ρ σ ∧ TrS K a H (ev ρ m) D
section
variable {K : PySem.W.Frag} {H H' : Hp} {a a' : Ad} {m : Mem} {ρ : Sl} {σ : L2.St} {Z : Ends}
theorem TrS.mono {r : Rs} (h : TrS K a H r Z) (e : Ext a H a' H') : TrS K a' H' r Z := by
  cases r with
  | nx ρ' m' => exact fun a2 H2 v x => h a2 H2 v (e.trans x)
  | rt d m' => exact fun a2 H2 v x => h a2 H2 v (e.trans x)
  | ex c ds m' => exact h
  | bad => exact h
theorem TrS.thn {r : Rs} {f : Sl → Mem → Rs} (h : TrS K a H (r.thn f) Z) {N C B : L2.St → Hp → Prop} (k : ∀ ρ' m' a' H' σ', Ext a H a' H' → MRel K a' m' H' → SRel K a' H' ρ' σ' → TrS K a' H' (f ρ' m') Z → N σ' H') :
    TrS K a H r { Z with nx := N, ct := C, bk := B } := by
  cases r with
  | nx ρ' m' => exact fun a2 H2 v x st sl => k ρ' m' a2 H2 v x st sl (TrS.mono (r := f ρ' m') h x)
  | rt d m' => exact h
  | ex c ds m' => exact h
  | bad => exact h
/-- an expression, then a statement's rest -/
theorem tS_go {ev : Sl → Mem → Res D} {f : D → Mem → Rs} {Q' : VK} (st : MRel K a m H) (sl : SRel K a H ρ σ) (q : TrS K a H ((ev ρ m).go f) Z)
    (k : ∀ d m1 a1 H1 v, ev ρ m = .ok d m1 → MRel K a1 m1 H1 → SRel K a1 H1 ρ σ → RepV K H1 a1 d v → Ext a H a1 H1 → TrS K a1 H1 (f d m1) Z → Q' v H1) : tS K ev σ H Q' := by
  refine ⟨a, ρ, m, st, sl, ?_⟩
  cases e : ev ρ m with
  | ok d m1 =>
    rw [e] at q
    exact fun a1 H1 v x r rv => k d m1 a1 H1 v e r (sl.mono x) rv x (TrS.mono (r := f d m1) q x)
  | ex c ds m' => rw [e] at q; exact q
  | bad => rw [e] at q; exact q
theorem tA_go {ev : Sl → Mem → Res (List D)} {f : List D → Mem → Rs} {Q' : List V → Hp → Prop} (st : MRel K a m H) (sl : SRel K a H ρ σ) (q : TrS K a H ((ev ρ m).go f) Z)
    (k : ∀ ds m1 a1 H1 vs, ev ρ m = .ok ds m1 → MRel K a1 m1 H1 → SRel K a1 H1 ρ σ → RepVs K H1 a1 ds vs → Ext a H a1 H1 → TrS K a1 H1 (f ds m1) Z → Q' vs H1) : tA K ev σ H Q' := by
  refine ⟨a, ρ, m, st, sl, ?_⟩
  cases e : ev ρ m with
  | ok d m1 =>
    rw [e] at q
    exact fun a1 H1 v x r rv => k d m1 a1 H1 v e r (sl.mono x) rv x (TrS.mono (r := f d m1) q x)
  | ex c ds m' => rw [e] at q; exact q
  | bad => rw [e] at q; exact q
/-- a test, then what its answer leads to -/
theorem tT_go {ev : Sl → Mem → Res D} {f : Bool → Mem → Rs} {Q' : Bool → Hp → Prop} (st : MRel K a m H) (sl : SRel K a H ρ σ) (q : TrS K a H ((ev ρ m).go fun d m1 => match d with | .bl true => f true m1 | .bl false => f false m1 | _ => .bad) Z)
    (k : ∀ b m1 a1 H1, MRel K a1 m1 H1 → SRel K a1 H1 ρ σ → Ext a H a1 H1 → TrS K a1 H1 (f b m1) Z → Q' b H1) : tT K ev σ H Q' := by
  refine ⟨a, ρ, m, st, sl, ?_⟩
  cases e : ev ρ m with
  | ok d m1 =>
    rw [e] at q
    cases d <;> first | exact False.elim q | skip
    rename_i b
    refine fun a1 H1 x r => k b m1 a1 H1 r (sl.mono x) x (TrS.mono ?_ x)
    cases b <;> exact q
  | ex c ds m' => rw [e] at q; exact q
  | bad => rw [e] at q; exact q
end
structure GoodS (X : Cx) (F : Fe) (k : Nat) (fs : List Str) : Prop where
  g : Good X F k fs
  fn : ∀ x, X.fn x = true
  po : PassesOwn (model X.prog X.w) X.A X.env X.xe
  kind : X.env.scope.kind = .function
/-! ### the look at statements -/
def isComp : Expr → Bool
  | .ListComp .. => true
  | .SetComp .. => true
  | .DictComp .. => true
  | _ => false
def noCall : Expr → Bool
  | .Call _ [] [] _ => false
  | _ => true
/-- is the store swapped with the comprehension's end -/
def swapB (sc : Scope) (t : Str) (pos : Pos) : Expr → Bool
  | .ListComp _ _ s p => (sc.names.lookup t == some .local) && pos.line == p.line && !(s.names.any fun (n, k) => n == t && (k == .local || k == .cell))
  | _ => false
def tupB : Expr → Expr → Bool
  | .Tuple _ _ _, .Tuple vs _ _ => vs.all (foldedForSure 8)
  | _, _ => true
def lmName : Lm → Str
  | .append => "append"
  | .extend => "extend"
  | .reverse => "reverse"
  | .clear => "clear"
def lmAr : Lm → Nat
  | .append => 1
  | .extend => 1
  | .reverse => 0
  | .clear => 0
mutual
def chkS (fs : List Str) (N : List Str) (sc : Scope) : Sm → Stmt → Bool
  | .asg tg e, s => match s with
    | .Assign [t] e' pos => tgB (locB sc) N tg t && plainE e' && chkE fs N sc e e' && tupB t e' && (!isComp e' || (match t, e' with
      | .Name x px, .ListComp el gs s p => (match sc.names.lookup x with
          | some .local => px.line == p.line && p.line == pos.line && !(s.names.any fun (n, k) => n == x && (k == .local || k == .cell))
          | _ => true) && (match e with | .comp .. => true | _ => false)
      | .Tuple .., .ListComp .. => true
      | _, _ => false))
    | _ => false
  | .par i j a b, s => match s with
    | .Assign [.Tuple [.Name x px, .Name y py] _ _] (.Tuple [a', b'] _ _) pos => decide (N[i]? = some x) && decide (N[j]? = some y) && decide (i ≠ j) && decide (sc.names.lookup x = some .local) && decide (sc.names.lookup y = some .local) &&
        decide (px.line = py.line) && !(foldedForSure 8 a' && foldedForSure 8 b') && !(constantsAlone 8 a' && constantsAlone 8 b') && plainE a' && plainE b' && chkE fs N sc a a' && chkE fs N sc b b'
    | _ => false
  | .put o i e, s => match s with
    | .Assign [.Subscript o' i' _] e' _ => plainE i' && plainE e' && chkE fs N sc o o' && chkE fs N sc i i' && chkE fs N sc e e'
    | _ => false
  | .expr e, s => match s with
    | .Expr e' _ => plainE e' && !isComp e' && chkE fs N sc e e'
    | _ => false
  | .lm f o es, s => match s with
    | .Expr (.Call (.Attribute o' x ap) es' [] cp) _ => decide (x = lmName f) && noCall o' && (ap.endLine == cp.line) && decide (es'.length = lmAr f) && chkE fs N sc o o' && chkEs fs N sc es es'
    | _ => false
  | .dpop o k, s => match s with
    | .Expr (.Call (.Attribute o' x ap) [e'] [] cp) _ => decide (x = "pop") && noCall o' && (ap.endLine == cp.line) && plainE e' && chkE fs N sc o o' && chkE fs N sc k e'
    | _ => false
  | .ret e, s => match s with
    | .Return (some e') _ => chkE fs N sc e e'
    | _ => false
  | .iff c a b, s => match s with
    | .If c' a' b' _ => chkE fs N sc c c' && chkSs fs N sc a a' && chkSs fs N sc b b'
    | _ => false
  | .whil c b, s => match s with
    | .While c' b' [] _ => chkE fs N sc c c' && chkSs fs N sc b b'
    | _ => false
  | .for tg k it b, s => match s with
    | .For t iter b' [] _ => tgB (locB sc) N tg t && plainE iter && wkTg k t && wkB sc k iter && chkEs fs N sc it (wkArgs k iter) && chkSs fs N sc b b'
    | _ => false
  | .pass, s => match s with
    | .Pass _ => true
    | _ => false
  | .never, _ => true
def chkSs (fs : List Str) (N : List Str) (sc : Scope) : Sms → List Stmt → Bool
  | .nil, [] => true
  | .cons s r, s' :: r' => chkS fs N sc s s' && chkSs fs N sc r r'
  | _, _ => false
end
end Br


set_option Elab.async false
set_option linter.all false
set_option maxRecDepth 100000
set_option maxHeartbeats 1000000
set_option autoImplicit false
/-! Br: statements do what the evaluator tells. -/
namespace Br
open PySem PySem.Spec PyProof.Rows L2
section
variable {F : Fe} {fs : List Str}
theorem loc_def {X : Cx} {k : Nat} (g : GoodS X F k fs) : ∀ x, locB X.env.scope x = true → Loc X.env.scope x ∧ (X.fn x = true ∨ X.env.scope.names.lookup x = some .local) := by
  intro x h
  unfold locB at h
  split at h
  · rename_i e; exact ⟨.inl e, .inl (g.fn x)⟩
  · rename_i e; exact ⟨.inr e, .inl (g.fn x)⟩
  · cases h
theorem sole_eq (t e : Expr) (l : Nat) (env : Env) : swapsWithSole [t] e l env = swapsWith e (some t) l env := by
  unfold swapsWithSole
  rfl
structure SndS (F : Fe) (fs : List Str) (x : Sm) : Prop where
  st : ∀ (s : Stmt) (N : List Str) (sc : Scope), chkS fs N sc x s = true → ∀ (X : Cx) (k : Nat), GoodS X F k fs → X.N = N → X.env.scope = sc → PS X s (tSt X.K (evS F x))
structure SndSs (F : Fe) (fs : List Str) (x : Sms) : Prop where
  sts : ∀ (s : List Stmt) (N : List Str) (sc : Scope), chkSs fs N sc x s = true → ∀ (X : Cx) (k : Nat), GoodS X F k fs → X.N = N → X.env.scope = sc → PSs X s (tSt X.K (evSs F x))
theorem not_comp {e : Expr} (h : isComp e = false) (t : Option Expr) (l : Nat) (env : Env) : swapsWith e t l env = pure false := by
  cases e <;> first | rfl | (simp [isComp] at h)
theorem tup_noswap (e : Expr) (ts : List Expr) (k : Nat) (p : Pos) (l : Nat) (env : Env) : swapsWith e (some (.Tuple ts k p)) l env = pure false := by
  cases e <;> rfl
theorem stores_none {t e : Expr} {loc : Str → Bool} {N : List Str} {tg : Tg} (ht : tgB loc N tg t = true) (h : tupB t e = true) (env : Env) : swappedStores [t] e env = pure none := by
  cases tg with
  | one i =>
    cases t <;> first | (simp [tgB] at ht; done) | skip
    cases e <;> rfl
  | tup is =>
    cases t <;> first | (simp [tgB] at ht; done) | skip
    cases e <;> first | rfl | skip
    rename_i ts k p vs k2 p2
    simp only [tupB] at h
    unfold swappedStores
    simp only [h, if_true]
    split
    · rfl
    · split
      · rfl
      · split <;> rfl
theorem asg_each {t : Expr} {loc : Str → Bool} {N : List Str} {tg : Tg} (ht : tgB loc N tg t = true) (env : Env) : (assignEach [t] env).map (·.2) = [assign t env] := by
  cases tg with
  | one i => cases t <;> first | (simp [tgB] at ht; done) | rfl
  | tup is => cases t <;> first | (simp [tgB] at ht; done) | rfl
theorem asg_read {K : PySem.W.Frag} {tg : Tg} {e : Ex} {Z : Ends} {σ : L2.St} {H : Hp} (h : tSt K (evS F (.asg tg e)) Z σ H) : tS K (evE F e) σ H fun x H1 => gD K tg x σ H1 Z.nx := by
  obtain ⟨a, ρ, m, st, sl, q⟩ := h
  refine tS_go (f := fun d m1 => match bindT m1 tg d ρ with | some ρ' => .nx ρ' m1 | none => .bad) st sl q fun d m1 a1 H1 v e1 st1 sl1 rv x1 q1 => ?_
  cases hb : bindT m1 tg d ρ with
  | none => rw [hb] at q1; exact False.elim q1
  | some ρ' =>
    rw [hb] at q1
    exact ⟨a1, m1, d, ρ, ρ', st1, rv, sl1, hb, fun σ' sl' _ => q1 a1 H1 σ' Ext.refl st1 sl'⟩
theorem s_asg (tg : Tg) (e : Ex) : SndS F fs (.asg tg e) := ⟨fun s N sc h X k g hN hS => by
  subst hN hS
  simp only [chkS] at h
  split at h
  · rename_i t e' pos
    simp only [Bool.and_eq_true] at h
    obtain ⟨⟨⟨⟨h1, h2⟩, h3⟩, h4⟩, h5⟩ := h
    have pg := sound_tg (loc_def g) g.g.calm g.g.nd h1
    have pe := (soundE (F := F) (fs := fs) e).val _ _ _ h3 X k g.g rfl rfl
    by_cases hsw : swapsWithSole [t] e' pos.line X.env = pure false
    · exact weakS (ps_asg pe pg hsw (stores_none h1 h4 _) (asg_each h1 _)) fun D σ H => asg_read
    · cases hc : isComp e' with
      | false => exact absurd ((sole_eq _ _ _ _).trans (not_comp hc _ _ _)) hsw
      | true =>
        rw [hc] at h5
        simp only [Bool.not_true, Bool.false_or] at h5
        split at h5
        · rename_i x px el gs s p
          simp only [Bool.and_eq_true] at h5
          obtain ⟨h5, h6⟩ := h5
          cases hk : X.env.scope.names.lookup x with
          | none =>
            exfalso
            apply hsw
            rw [sole_eq]
            unfold swapsWith
            have : X.env.kindOf x = none := hk
            simp [this]
          | some kd =>
            by_cases hl : kd = .local
            · subst hl
              rw [hk] at h5
              simp only [Bool.and_eq_true, Bool.not_eq_true'] at h5
              obtain ⟨⟨h7, h8⟩, h9⟩ := h5
              cases e <;> first | (cases h6; done) | skip
              rename_i own tg2 w it c el2
              obtain ⟨elt, tg', iter, ifs, scope, p', he, _⟩ := comp_key h3
              cases he
              obtain ⟨L, hsub⟩ := lc_parts (soundEs it) (soundEs c) (soundE el2) g.g h3
              cases tg with
              | tup is => simp [tgB] at h1
              | one i =>
                simp only [tgB, Bool.and_eq_true, decide_eq_true_eq] at h1
                refine weakS (ps_setLc g.g.calm g.g.nd h1.1 hk (sw_true g.kind hk h7 h9) L.hi L.ok L.hg L.ht L.he L.hs) ?_
                intro D σ H hh
                have := asg_read hh
                refine comp_go hsub ?_
                obtain ⟨a, ρ, m, st, sl, q⟩ := this
                refine ⟨a, ρ, m, st, sl, ?_⟩
                revert q
                cases evE F (.comp own tg2 w it c el2) ρ m with
                | bad => exact id
                | ex _ _ _ => exact id
                | ok d m1 =>
                  intro q a1 H1 v x1 st1 rv
                  obtain ⟨a2, m2, d2, ρ2, ρ', st2, rv2, sl2, hb, q2⟩ := q a1 H1 v x1 st1 rv
                  simp only [bindT, Option.some.injEq] at hb
                  subst hb
                  exact q2 _ (sl2.set i rv2) (But.refl.set (by simp [Tg.slots]) _)
            · exfalso
              apply hsw
              rw [sole_eq]
              unfold swapsWith
              have : X.env.kindOf x = some kd := hk
              have h2 : (some kd == some NameKind.local) = false := by simpa using hl
              simp [this, h2]
        · exact absurd ((sole_eq _ _ _ _).trans (tup_noswap _ _ _ _ _ _)) hsw
        · cases h5
  · cases h⟩
theorem s_par (i j : Nat) (a b : Ex) : SndS F fs (.par i j a b) := ⟨fun s N sc h X k g hN hS => by
  subst hN hS
  simp only [chkS] at h
  split at h
  · rename_i x px y py k1 p1 a' b' k2 p2 pos
    simp only [Bool.and_eq_true, decide_eq_true_eq, Bool.not_eq_true'] at h
    obtain ⟨⟨⟨⟨⟨⟨⟨⟨⟨⟨⟨h1, h2⟩, h3⟩, h4⟩, h5⟩, h6⟩, h7⟩, h8⟩, h9⟩, h10⟩, h11⟩, h12⟩ := h
    have pa : PA X [a', b'] (tA X.K (evEs F (.cons a (.cons b .nil)))) := PA.cons' h9 ((soundE a).val _ _ _ h11 X k g.g rfl rfl) (PA.cons' h10 ((soundE b).val _ _ _ h12 X k g.g rfl rfl) PA.nil')
    have hw : swappedStores [.Tuple [.Name x px, .Name y py] k1 p1] (.Tuple [a', b'] k2 p2) X.env = pure (some [x, y]) := by
      have kx : X.env.kindOf x = some .local := h4
      have ky : X.env.kindOf y = some .local := h5
      have hb : X.env.blockKind = .function := by unfold Env.blockKind; rw [g.kind]; rfl
      have hxy : x ≠ y := fun z => h3 ((List.getElem?_inj (List.getElem?_eq_some_iff.mp h1).1 g.g.nd).mp (by rw [h1, h2, z]))
      have hyx : (y == x) = false := by simpa using Ne.symm hxy
      have hxy' : (x == y) = false := by simpa using hxy
      unfold swappedStores
      simp only [List.length_cons, List.length_nil, hb, List.any_cons, List.any_nil, List.all_cons, List.all_nil, Bool.and_true, h7, h8, List.filterMap_cons, List.filterMap_nil, List.head?_cons, Option.map_some, Option.getD_some, Expr.pos, kx, ky, h6, beq_self_eq_true]
      simp [List.eraseDups_cons, hyx, hxy']
      intro z
      exfalso
      rcases z with z | z
      · cases a' <;> first | (cases z; done) | (simp [plainE] at h9)
      · cases b' <;> first | (cases z; done) | (simp [plainE] at h10)
    refine weakS (ps_par g.g.calm g.g.nd h1 h2 h3 h4 h5 pa hw) ?_
    rintro D σ H ⟨a1, ρ, m, st, sl, q⟩
    have q' : TrS X.K a1 H ((evEs F (.cons a (.cons b .nil)) ρ m).go fun ds m2 => match ds with | [v, w] => .nx ((ρ.set i (some v)).set j (some w)) m2 | _ => .bad) D := by
      simp only [evS] at q
      revert q
      simp only [evEs]
      cases evE F a ρ m with
      | bad => exact id
      | ex _ _ _ => exact id
      | ok v m1 =>
        simp only [Res.bind, Res.go]
        cases evE F b ρ m1 with
        | bad => exact id
        | ex _ _ _ => exact id
        | ok w m2 => exact id
    refine tA_go st sl q' fun ds m1 a2 H2 vs e1 st1 sl1 rv x1 q1 => ?_
    match ds, q1, rv with
    | [d, e], q1, rv =>
      obtain ⟨v, w, rfl, r1, r2⟩ := two_of rv
      exact ⟨v, w, rfl, q1 a2 H2 _ Ext.refl st1 ((sl1.set i r1).set j r2)⟩
  · cases h⟩
theorem s_put (o i e : Ex) : SndS F fs (.put o i e) := ⟨fun s N sc h X k g hN hS => by
  subst hN hS
  simp only [chkS] at h
  split at h
  · rename_i o' i' p e' pos
    simp only [Bool.and_eq_true] at h
    obtain ⟨⟨⟨⟨h1, h2⟩, h3⟩, h4⟩, h5⟩ := h
    have po := (soundE (F := F) (fs := fs) o).val _ _ _ h3 X k g.g rfl rfl
    have pi := (soundE (F := F) (fs := fs) i).val _ _ _ h4 X k g.g rfl rfl
    have pe := (soundE (F := F) (fs := fs) e).val _ _ _ h5 X k g.g rfl rfl
    have hs : swapsWith e' (some (.Subscript o' i' p)) pos.line X.env = pure false := by
      cases e' <;> rfl
    refine eitherS (ps_asg pe (pg_sub po pi set_list (fun v => by cases i' <;> first | rfl | (simp [plainE] at h1))) ((sole_eq _ _ _ _).trans hs) (by cases e' <;> rfl) (by rfl)) (ps_dput (hu_of g.g.room) po pi pe hs) ?_
    rintro D σ H ⟨a1, ρ, m, st, sl, q⟩
    by_cases hd : ∃ v m1 x m2 y m3, evE F e ρ m = .ok v m1 ∧ evE F o ρ m1 = .ok x m2 ∧ evE F i ρ m2 = .ok y m3 ∧ refK m3 x = true
    · refine .inr ?_
      obtain ⟨d1, m1, d2, m2, d3, m3, e1, e2, e3, e4⟩ := hd
      simp only [evS] at q
      refine tS_go (f := _) st sl q fun v m1' a2 H2 v' e1' st1 sl1 rv x1 q1 => ?_
      rw [e1] at e1'
      cases e1'
      refine tS_go (f := _) st1 sl1 q1 fun x m2' a3 H3 x' e2' st2 sl2 rx x2 q2 => ?_
      rw [e2] at e2'
      cases e2'
      refine tS_go (f := _) st2 sl2 q2 fun y m3' a4 H4 y' e3' st3 sl3 ry x3 q3 => ?_
      rw [e3] at e3'
      cases e3'
      have rv' := (rv.mono x2).mono x3
      have rx' := rx.mono x3
      cases rx' <;> first | (simp [refK] at e4; done) | skip
      rename_i n p2 hp
      simp only [refK] at e4
      split at e4
      · rename_i kvs hm
        obtain ⟨ho, g1, g2⟩ := st3.at_ n p2 _ hp hm
        cases g2 with
        | @dct _ ks hl r =>
          simp only [putD, hm] at q3
          cases hk : keyD d3 with
          | none => rw [hk] at q3; exact False.elim q3
          | some kk =>
            rw [hk] at q3
            simp only at q3
            split at q3
            · rename_i m' hm'
              split at hm'
              · rename_i hz
                cases hm'
                have ek := key_rep ry hk
                subst ek
                have hz' : ks.length < sizeLine := by
                  rw [← r.length]
                  exact Nat.lt_of_lt_of_le hz (big_line (Nat.le_refl _))
                have r3 := put_rep kk rv' r
                refine ⟨p2, _, rfl, DPut.k g1 hz', ?_⟩
                have ro : RepO X.K H4 a4 (.dct (putK kvs kk d1)) (.dK (L2.putK ks kk v')) := .dct (by
                  rw [r3.length]
                  exact Nat.le_trans (length_putK ks kk v') hz') r3
                exact q3 a4 _ σ (Ext.put hp) (st3.put hp ro) (sl3.mono (Ext.put hp))
              · cases hm'
            · exact False.elim q3
      · cases e4
    · refine .inl ?_
      simp only [evS] at q
      refine tS_go (f := _) st sl q fun v m1 a2 H2 v' e1 st1 sl1 rv x1 q1 => ?_
      refine tS_go (f := _) st1 sl1 q1 fun x m2 a3 H3 x' e2 st2 sl2 rx x2 q2 => ?_
      refine tS_go (f := _) st2 sl2 q2 fun y m3 a4 H4 y' e3 st3 sl3 ry x3 q3 => ?_
      have hnk : refK m3 x = false := by
        cases hr : refK m3 x with
        | false => rfl
        | true => exact absurd ⟨v, m1, x, m2, y, m3, e1, e2, e3, hr⟩ hd
      have rv' := (rv.mono x2).mono x3
      have rx' := rx.mono x3
      cases rx' <;> first | exact False.elim q3 | skip
      rename_i n p2 hp
      simp only [putD] at q3
      simp only [refK] at hnk
      cases hm : m3[n]? with
      | none => rw [hm] at q3; exact False.elim q3
      | some ob =>
        rw [hm] at q3 hnk
        cases ob with
        | dct kvs => cases hnk
        | ins c f => exact False.elim q3
        | lst ds =>
          obtain ⟨ho, g1, g2⟩ := st3.at_ n p2 _ hp hm
          cases g2 with
          | @lst _ xs hl r =>
            cases ry <;> first | exact False.elim q3 | skip
            rename_i ii
            simp only at q3
            cases hj : ixN ds.length ii with
            | none => rw [hj] at q3; exact False.elim q3
            | some j =>
              rw [hj] at q3
              refine ⟨p2, xs, ii, j, rfl, rfl, g1, by rw [← r.length]; exact hj, ?_⟩
              have ro : RepO X.K H4 a4 (.lst (ds.set j v)) (.lst (xs.set j v')) := .lst (by rw [List.length_set]; exact hl) (RepVs.set rv' j r)
              exact q3 a4 _ σ (Ext.put hp) (st3.put hp ro) (sl3.mono (Ext.put hp))
  · cases h⟩
theorem s_expr (e : Ex) : SndS F fs (.expr e) := ⟨fun s N sc h X k g hN hS => by
  subst hN hS
  simp only [chkS] at h
  split at h
  · simp only [Bool.and_eq_true, Bool.not_eq_true'] at h
    refine weakS (ps_expr ((soundE (F := F) (fs := fs) e).val _ _ _ h.2 X k g.g rfl rfl) (not_comp h.1.2 _ _ _)) ?_
    rintro D σ H ⟨a1, ρ, m, st, sl, q⟩
    exact tS_go (f := fun _ m1 => .nx ρ m1) st sl q fun d m1 a2 H2 v e1 st1 sl1 rv x1 q1 => q1 a2 H2 σ Ext.refl st1 sl1
  · cases h⟩
theorem s_ret (e : Ex) : SndS F fs (.ret e) := ⟨fun s N sc h X k g hN hS => by
  subst hN hS
  simp only [chkS] at h
  split at h
  · refine weakS (ps_ret ((soundE (F := F) (fs := fs) e).val _ _ _ h X k g.g rfl rfl)) ?_
    rintro D σ H ⟨a1, ρ, m, st, sl, q⟩
    exact tS_go (f := fun d m1 => .rt d m1) st sl q fun d m1 a2 H2 v e1 st1 sl1 rv x1 q1 => q1 a2 H2 v Ext.refl st1 rv
  · cases h⟩
theorem s_pass : SndS F fs .pass := ⟨fun s N sc h X k g hN hS => by
  simp only [chkS] at h
  split at h
  · exact weakS ps_pass fun D σ H ⟨a1, ρ, m, st, sl, q⟩ => q a1 H σ Ext.refl st sl
  · cases h⟩
theorem s_never : SndS F fs .never := ⟨fun s N sc h X k g hN hS => weakS ps_never fun D σ H ⟨a1, ρ, m, st, sl, q⟩ => q⟩
theorem s_iff {c : Ex} {a b : Sms} (ha : SndSs F fs a) (hb : SndSs F fs b) : SndS F fs (.iff c a b) := ⟨fun s N sc h X k g hN hS => by
  subst hN hS
  simp only [chkS] at h
  split at h
  · simp only [Bool.and_eq_true] at h
    refine weakS (ps_if ((soundE (F := F) (fs := fs) c).tst _ _ _ h.1.1 X k g.g rfl rfl) (ha.sts _ _ _ h.1.2 X k g rfl rfl) (hb.sts _ _ _ h.2 X k g rfl rfl)) ?_
    rintro D σ H ⟨a1, ρ, m, st, sl, q⟩
    have q' : TrS X.K a1 H ((evE F c ρ m).go fun d m1 => match d with | .bl true => (fun t : Bool => fun m1 => if t = true then evSs F a ρ m1 else evSs F b ρ m1) true m1 | .bl false => (fun t : Bool => fun m1 => if t = true then evSs F a ρ m1 else evSs F b ρ m1) false m1 | _ => .bad) D := by
      simp only [evS] at q
      exact q
    refine tT_go (f := fun t m1 => if t = true then evSs F a ρ m1 else evSs F b ρ m1) st sl q' fun t m1 a2 H2 st1 sl1 x1 q1 => ?_
    cases t with
    | true => exact iteT ⟨a2, ρ, m1, st1, sl1, q1⟩
    | false => exact iteF ⟨a2, ρ, m1, st1, sl1, q1⟩
  · cases h⟩
theorem s_whil {c : Ex} {b : Sms} (hb : SndSs F fs b) : SndS F fs (.whil c b) := ⟨fun s N sc h X k g hN hS => by
  subst hN hS
  simp only [chkS] at h
  split at h
  · simp only [Bool.and_eq_true] at h
    refine weakS (ps_while g.po ((soundE (F := F) (fs := fs) c).tst _ _ _ h.1 X k g.g rfl rfl) (hb.sts _ _ _ h.2 X k g rfl rfl)) ?_
    rintro D σ H ⟨a1, ρ, m, st, sl, q⟩
    refine ⟨fun n σ' H' => ∃ a ρ m, MRel X.K a m H' ∧ SRel X.K a H' ρ σ' ∧ TrS X.K a H' (whileL (fun ρ' m' => evE F c ρ' m') (fun ρ' m' => evSs F b ρ' m') n ρ m) D, ⟨F.wf, a1, ρ, m, st, sl, by simpa only [evS] using q⟩, ?_⟩
    rintro n σ' H' ⟨a2, ρ2, m2, st2, sl2, q2⟩
    cases n with
    | zero => exact False.elim q2
    | succ n =>
      have q3 : TrS X.K a2 H' ((evE F c ρ2 m2).go fun d m1 => match d with
        | .bl true => (fun t : Bool => fun m1 => if t = true then (evSs F b ρ2 m1).thn fun ρ' m' => whileL (fun ρ' m' => evE F c ρ' m') (fun ρ' m' => evSs F b ρ' m') n ρ' m' else .nx ρ2 m1) true m1
        | .bl false => (fun t : Bool => fun m1 => if t = true then (evSs F b ρ2 m1).thn fun ρ' m' => whileL (fun ρ' m' => evE F c ρ' m') (fun ρ' m' => evSs F b ρ' m') n ρ' m' else .nx ρ2 m1) false m1
        | _ => .bad) D := by
        simp only [whileL] at q2
        exact q2
      refine tT_go (f := fun t m1 => if t = true then (evSs F b ρ2 m1).thn fun ρ' m' => whileL (fun ρ' m' => evE F c ρ' m') (fun ρ' m' => evSs F b ρ' m') n ρ' m' else .nx ρ2 m1) st2 sl2 q3 fun t m3 a3 H3 st3 sl3 x3 q4 => ?_
      cases t with
      | false => exact iteF (q4 a3 H3 σ' Ext.refl st3 sl3)
      | true =>
        refine iteT ⟨fun σ4 H4 => ∃ m', m' < n + 1 ∧ ∃ a ρ m, MRel X.K a m H4 ∧ SRel X.K a H4 ρ σ4 ∧ TrS X.K a H4 (whileL (fun ρ' m' => evE F c ρ' m') (fun ρ' m' => evSs F b ρ' m') m' ρ m) D, fun σ4 H4 z => z, a3, ρ2, m3, st3, sl3, ?_⟩
        exact TrS.thn q4 fun ρ4 m4 a4 H4 σ4 x4 st4 sl4 q5 => ⟨n, Nat.lt_succ_self _, a4, ρ4, m4, st4, sl4, q5⟩
  · cases h⟩
theorem s_for {tg : Tg} {w : Wk} {it : Exs} {b : Sms} (hb : SndSs F fs b) : SndS F fs (.for tg w it b) := ⟨fun s N sc h X k g hN hS => by
  subst hN hS
  simp only [chkS] at h
  split at h
  · simp only [Bool.and_eq_true] at h
    obtain ⟨⟨⟨⟨⟨h1, h2⟩, h3⟩, h4⟩, h5⟩, h6⟩ := h
    refine weakS (ps_for g.po g.g.calm (walk_ok g.g (soundEs it) h2 h3 h4 h5) (sound_tg (loc_def g) g.g.calm g.g.nd h1) (hb.sts _ _ _ h6 X k g rfl rfl) (plain_set h2 _)) ?_
    rintro D σ H ⟨a1, ρ, m, st, sl, q⟩
    simp only [evS] at q
    cases e1 : evEs F it ρ m with
    | bad => rw [e1] at q; exact False.elim q
    | ex _ _ _ => rw [e1] at q; exact False.elim q
    | ok ds m1 =>
      rw [e1] at q
      simp only [Res.go] at q
      cases e2 : walkD m1 w ds with
      | none => rw [e2] at q; exact False.elim q
      | some xs =>
        rw [e2] at q
        refine ⟨a1, ρ, m, ds, m1, xs, st, sl, e1, e2, fun J a2 H2 x2 st2 wk hz => ?_⟩
        refine ⟨fun i n σ' H' => n = xs.length - i ∧ i ≤ xs.length ∧ ∃ a ρ m, Kp a2 H2 a H' ∧ MRel X.K a m H' ∧ SRel X.K a H' ρ σ' ∧ TrS X.K a H' (forL tg (fun ρ' m' => evSs F b ρ' m') (xs.drop i) ρ m) D, ⟨xs.length, by simp, Nat.zero_le _, a2, ρ, m1, Kp.refl, st2, sl.mono x2, TrS.mono (by simpa using q) x2⟩, ?_⟩
        rintro i n σ' H' ⟨rfl, hi, a3, ρ3, m3, kp, st3, sl3, q3⟩
        obtain ⟨w1, w2⟩ := wk _ m3 H' kp st3
        by_cases hlt : i < xs.length
        · refine .inr ⟨(w1 i hlt).1, fun σ4 H4 => ∃ m', m' < xs.length - i ∧ (m' = xs.length - (i + 1) ∧ i + 1 ≤ xs.length ∧ ∃ a ρ m, Kp a2 H2 a H4 ∧ MRel X.K a m H4 ∧ SRel X.K a H4 ρ σ4 ∧ TrS X.K a H4 (forL tg (fun ρ' m' => evSs F b ρ' m') (xs.drop (i + 1)) ρ m) D), fun σ4 H4 z => z, fun x H4 hy => ?_⟩
          obtain ⟨d, hd, xe, st4, rd⟩ := (w1 i hlt).2 x H4 hy
          have hdrop : xs.drop i = d :: xs.drop (i + 1) := by
            rw [List.drop_eq_getElem_cons hlt]
            have : xs[i] = d := by
              rw [List.getElem?_eq_getElem hlt] at hd
              exact Option.some.inj hd
            rw [this]
          rw [hdrop] at q3
          simp only [forL] at q3
          cases hbd : bindT m3 tg d ρ3 with
          | none => rw [hbd] at q3; exact False.elim q3
          | some ρ1 =>
            rw [hbd] at q3
            refine ⟨a3, m3, d, ρ3, ρ1, st4, rd, sl3.mono xe, hbd, fun σ5 sl5 _ => ⟨a3, ρ1, m3, st4, sl5, ?_⟩⟩
            exact TrS.thn (TrS.mono q3 xe) fun ρ6 m6 a6 H6 σ6 x6 st6 sl6 q6 => ⟨_, by omega, rfl, hlt, a6, ρ6, m6, kp.trans (xe.kp.trans x6.kp), st6, sl6, q6⟩
        · have e : i = xs.length := by omega
          subst e
          rw [List.drop_length] at q3
          exact .inl ⟨w2 _ (Nat.le_refl _), q3 a3 H' σ' Ext.refl st3 sl3⟩
  · cases h⟩
end
end Br


set_option Elab.async false
set_option linter.all false
set_option maxRecDepth 100000
set_option maxHeartbeats 1000000
set_option autoImplicit false
/-! Br: lists and dicts that change; all statements; defs. -/
namespace Br
open PySem PySem.Spec PyProof.Rows L2
section
variable {F : Fe} {fs : List Str}
theorem base_ok {e : Expr} (h : noCall e = true) (x : Str) (env : Env) : attributeBase e x env (eval e env) = eval e env := by
  cases e <;> first | rfl | skip
  rename_i f as ks p
  cases as with
  | nil =>
    cases ks with
    | nil => simp [noCall] at h
    | cons _ _ => cases f <;> rfl
  | cons _ _ => cases f <;> rfl
theorem few_ok {e : Expr} (h : plainE e = true) (pos : Pos) (env : Env) : ((backTo pos (starEach (e :: []) env)).all (fun x => !x.1) && (backToKw pos (keywordEach [] env)).all (fun x => x.1.isSome)
      && decide ((e :: []).length + ([] : List Keyword).length + (if ([] : List Keyword).isEmpty then 0 else 1) < 30)) = true := by
  rw [star_plain h]
  rfl
theorem tree_ok {e : Expr} (h : plainE e = true) (pos : Pos) (env : Env) : backTo pos (starEach [e] env) = [(false, eval e env)] := by
  rw [star_plain h]
  rfl
/-- the list of the store is one -/
theorem refL_of {K : PySem.W.Frag} {H : Hp} {a : Ad} {m : Mem} (st : MRel K a m H) {d : D} {x : V} (r : RepV K H a d x) (h : refL m d = true) : ∃ (n : Nat) (p : Addr) (ds : List D) (xs : List V), d = .ref n ∧ x = .ref p ∧ a.st[n]? = some p ∧ m[n]? = some (.lst ds) ∧ H p = some (.lst xs) ∧ ds.length ≤ sizeLine ∧ RepVs K H a ds xs := by
  cases r <;> first | (simp [refL] at h; done) | skip
  rename_i n p hp
  simp only [refL] at h
  split at h
  · rename_i ds hm
    obtain ⟨ho, g1, g2⟩ := st.at_ n p _ hp hm
    cases g2 with
    | @lst _ xs hl r => exact ⟨n, p, ds, xs, rfl, rfl, hp, hm, g1, hl, r⟩
  · cases h
theorem refK_of {K : PySem.W.Frag} {H : Hp} {a : Ad} {m : Mem} (st : MRel K a m H) {d : D} {x : V} (r : RepV K H a d x) (h : refK m d = true) : ∃ (n : Nat) (p : Addr) (kvs : List (Key × D)) (ks : List (Key × V)), d = .ref n ∧ x = .ref p ∧ a.st[n]? = some p ∧ m[n]? = some (.dct kvs) ∧ H p = some (.dK ks) ∧ kvs.length ≤ sizeLine ∧ RepK K H a kvs ks := by
  cases r <;> first | (simp [refK] at h; done) | skip
  rename_i n p hp
  simp only [refK] at h
  split at h
  · rename_i kvs hm
    obtain ⟨ho, g1, g2⟩ := st.at_ n p _ hp hm
    cases g2 with
    | @dct _ ks hl r => exact ⟨n, p, kvs, ks, rfl, rfl, hp, hm, g1, hl, r⟩
  · cases h
theorem tyL {K : PySem.W.Frag} {H : Hp} {p : Addr} {xs : List V} (h : H p = some (.lst xs)) : tyV K "list" (.ref p) H := Or.inl ⟨rfl, _, SqL.of h⟩
/-- a list's method that tells nothing -/
theorem lm_read {K : PySem.W.Frag} {f : Lm} {o : Ex} {es : Exs} {r : V → List V → Hp → VK → Prop}
    (hr : ∀ {a : Ad} {m m' : Mem} {H : Hp} {d : D} {x : V} {ds : List D} {vs : List V} {Q : VK}, MRel K a m H → RepV K H a d x → RepVs K H a ds vs → lmD m f d ds = some m' → (∀ H', Ext a H a H' → MRel K a m' H' → Q .non H') → r x vs H Q)
    {Z : Ends} {σ : L2.St} {H : Hp} (h : tSt K (evS F (.lm f o es)) Z σ H) : tDrop (tBM K "list" r (tS K (evE F o)) (tA K (evEs F es))) Z σ H := by
  obtain ⟨a, ρ, m, st, sl, q⟩ := h
  simp only [evS] at q
  refine tS_go (f := _) st sl q fun d m1 a1 H1 v e1 st1 sl1 rv x1 q1 => ?_
  split at q1
  · rename_i hL
    obtain ⟨n, p, ds0, xs0, rfl, rfl, hp, hm, hH, hl, rr⟩ := refL_of st1 rv hL
    refine ⟨tyL hH, ?_⟩
    refine tA_go (f := _) st1 sl1 q1 fun ds m2 a2 H2 vs e2 st2 sl2 rvs x2 q2 => ?_
    cases hlm : lmD m2 f (.ref n) ds with
    | none => rw [hlm] at q2; exact False.elim q2
    | some m' =>
      rw [hlm] at q2
      exact hr st2 (rv.mono x2) rvs hlm fun H' x' st' => q2 a2 H' σ x' st' (sl2.mono x')
  · exact False.elim q1
theorem lm_ok {K : PySem.W.Frag} {a : Ad} {m m' : Mem} {H : Hp} {f : Lm} {d : D} {x : V} {ds : List D} (st : MRel K a m H) (rd : RepV K H a d x) (h : lmD m f d ds = some m') :
    ∃ (n : Nat) (p : Addr) (es : List D) (xs : List V), d = .ref n ∧ x = .ref p ∧ a.st[n]? = some p ∧ m[n]? = some (.lst es) ∧ H p = some (.lst xs) ∧ es.length ≤ sizeLine ∧ RepVs K H a es xs := by
  refine refL_of st rd ?_
  unfold lmD at h
  split at h
  · rename_i n
    simp only [refL]
    split at h
    · rfl
    · cases h
  · cases h
theorem s_lm (f : Lm) (o : Ex) (es : Exs) : SndS F fs (.lm f o es) := ⟨fun s N sc h X k g hN hS => by
  subst hN hS
  simp only [chkS] at h
  split at h
  · rename_i o' x ap es' cp pos
    simp only [Bool.and_eq_true, decide_eq_true_eq, beq_iff_eq] at h
    obtain ⟨⟨⟨⟨⟨rfl, h2⟩, h3⟩, h4⟩, h5⟩, h6⟩ := h
    have po := (soundE (F := F) (fs := fs) o).val _ _ _ h5 X k g.g rfl rfl
    have pa := (soundEs (F := F) (fs := fs) es).args _ _ _ h6 X k g.g rfl rfl
    have h3' : (ap.endLine == cp.line) = true := by simpa using h3
    cases f with
    | append =>
      obtain ⟨e', rfl⟩ := one_list (show es'.length = 1 from h4)
      have hp := plain_head h6
      refine weakS (ps_expr (pe_bm PySem.F.plainAttrs_list PySem.F.slot_list_append PySem.F.type_list_append mt_append po pa (base_ok h2 _ _) (few_ok hp _ _) h3' (star_plain hp _ _) rfl)) fun D σ H => lm_read fun {a m m' H d x ds vs Q} st rd rvs hlm k => ?_
      obtain ⟨n, p, es0, xs0, rfl, rfl, hp1, hm, hH, hl, rr⟩ := lm_ok st rd hlm
      simp only [lmD, hm] at hlm
      split at hlm <;> first | (cases hlm; done) | skip
      · rename_i v
        split at hlm
        · rename_i hz
          cases hlm
          cases rvs with
          | cons rv t =>
            cases t
            refine ⟨p, xs0, _, rfl, rfl, hH, by rw [← rr.length]; exact Nat.lt_of_lt_of_le hz (big_line (Nat.le_refl _)), ?_⟩
            refine k _ (Ext.put hp1) (st.put hp1 (.lst ?_ (rr.append (.cons rv .nil))))
            rw [List.length_append, List.length_singleton]
            exact Nat.le_trans hz (big_line (Nat.le_refl _))
        · cases hlm
      all_goals (rename_i hh; cases hh)
    | extend =>
      obtain ⟨e', rfl⟩ := one_list (show es'.length = 1 from h4)
      have hp := plain_head h6
      refine weakS (ps_expr (pe_bm PySem.F.plainAttrs_list PySem.F.slot_list_extend PySem.F.type_list_extend mt_extend po pa (base_ok h2 _ _) (few_ok hp _ _) h3' (star_plain hp _ _) rfl)) fun D σ H => lm_read fun {a m m' H d x ds vs Q} st rd rvs hlm k => ?_
      obtain ⟨n, p, es0, xs0, rfl, rfl, hp1, hm, hH, hl, rr⟩ := lm_ok st rd hlm
      simp only [lmD, hm] at hlm
      split at hlm <;> first | (cases hlm; done) | skip
      · rename_i hh; cases hh
      · rename_i v
        split at hlm
        · rename_i es1 he
          split at hlm
          · rename_i hz
            cases hlm
            have hz' := big_line hz
            have fin : ∀ (b : Addr) (zs : List V), vs = [.ref b] → H b = some (.lst zs) → RepVs X.K H a es1 zs → rExtend (V.ref p) vs H Q := fun b zs hv hb rz => by
              subst hv
              exact ⟨p, b, xs0, zs, rfl, rfl, hH, hb, by rw [← rr.length, ← rz.length]; exact hz', k _ (Ext.put hp1) (st.put hp1 (.lst (by rw [List.length_append]; exact hz') (rr.append rz)))⟩
            cases rvs with
            | cons rv t =>
              cases t
              cases rv <;> simp only [extD] at he <;> first | (cases he; done) | skip
              case lst ds2 b zs hb hn hl2 rz => cases he; exact fin b zs rfl hb rz
              case ref n2 b hb =>
                split at he
                · rename_i ds2 hm2
                  cases he
                  obtain ⟨ho, g1, g2⟩ := st.at_ n2 b _ hb hm2
                  cases g2 with
                  | @lst _ zs hl2 rz => exact fin b zs rfl g1 rz
                · cases he
          · cases hlm
        · cases hlm
      all_goals (rename_i hh; cases hh)
    | reverse =>
      have : es' = [] := List.eq_nil_of_length_eq_zero h4
      subst this
      have hes : es = .nil := by
        cases es with
        | nil => rfl
        | cons _ _ => simp [chkEs] at h6
      subst hes
      refine weakS (ps_expr (pe_bm0 PySem.F.plainAttrs_list PySem.F.slot_list_reverse PySem.F.type_list_reverse mt_reverse po (base_ok h2 _ _) h3')) fun D σ H h => ?_
      have := lm_read (r := rReverse) (fun {a m m' H d x ds vs Q} st rd rvs hlm k => ?_) h
      · obtain ⟨a, ρ, m, st, sl, q⟩ := this
        refine ⟨a, ρ, m, st, sl, ?_⟩
        revert q
        cases evE F o ρ m with
        | bad => exact id
        | ex _ _ _ => exact id
        | ok d m1 =>
          intro q a1 H1 v x1 st1 rv
          obtain ⟨t1, a2, ρ2, m2, st2, sl2, q2⟩ := q a1 H1 v x1 st1 rv
          exact ⟨t1, q2 a2 H1 [] Ext.refl st2 .nil⟩
      · obtain ⟨n, p, es0, xs0, rfl, rfl, hp1, hm, hH, hl, rr⟩ := lm_ok st rd hlm
        simp only [lmD, hm] at hlm
        split at hlm <;> first | (cases hlm; done) | skip
        · rename_i hh; cases hh
        · rename_i hh; cases hh
        · cases hlm
          cases rvs
          exact ⟨p, xs0, rfl, rfl, hH, k _ (Ext.put hp1) (st.put hp1 (.lst (by rw [List.length_reverse]; exact hl) rr.reverse))⟩
        · rename_i hh; cases hh
    | clear =>
      have : es' = [] := List.eq_nil_of_length_eq_zero h4
      subst this
      have hes : es = .nil := by
        cases es with
        | nil => rfl
        | cons _ _ => simp [chkEs] at h6
      subst hes
      refine weakS (ps_expr (pe_bm0 PySem.F.plainAttrs_list PySem.F.slot_list_clear PySem.F.type_list_clear mt_clear po (base_ok h2 _ _) h3')) fun D σ H h => ?_
      have := lm_read (r := rClear) (fun {a m m' H d x ds vs Q} st rd rvs hlm k => ?_) h
      · obtain ⟨a, ρ, m, st, sl, q⟩ := this
        refine ⟨a, ρ, m, st, sl, ?_⟩
        revert q
        cases evE F o ρ m with
        | bad => exact id
        | ex _ _ _ => exact id
        | ok d m1 =>
          intro q a1 H1 v x1 st1 rv
          obtain ⟨t1, a2, ρ2, m2, st2, sl2, q2⟩ := q a1 H1 v x1 st1 rv
          exact ⟨t1, q2 a2 H1 [] Ext.refl st2 .nil⟩
      · obtain ⟨n, p, es0, xs0, rfl, rfl, hp1, hm, hH, hl, rr⟩ := lm_ok st rd hlm
        simp only [lmD, hm] at hlm
        split at hlm <;> first | (cases hlm; done) | skip
        · rename_i hh; cases hh
        · rename_i hh; cases hh
        · rename_i hh; cases hh
        · cases hlm
          cases rvs
          exact ⟨p, xs0, rfl, rfl, hH, k _ (Ext.put hp1) (st.put hp1 (.lst (Nat.zero_le _) .nil))⟩
  · cases h⟩
theorem s_dpop (o k : Ex) : SndS F fs (.dpop o k) := ⟨fun s N sc h X n g hN hS => by
  subst hN hS
  simp only [chkS] at h
  split at h
  · rename_i o' x ap e' cp pos
    simp only [Bool.and_eq_true, decide_eq_true_eq] at h
    obtain ⟨⟨⟨⟨⟨rfl, h2⟩, h3⟩, h4⟩, h5⟩, h6⟩ := h
    refine weakS (ps_expr (pe_dpop1 ((soundE (F := F) (fs := fs) o).val _ _ _ h5 X n g.g rfl rfl) ((soundE (F := F) (fs := fs) k).val _ _ _ h6 X n g.g rfl rfl) ⟨base_ok h2 _ _, few_ok h4 _ _, h3, tree_ok h4 _ _⟩)) ?_
    rintro D σ H ⟨a, ρ, m, st, sl, q⟩
    simp only [evS] at q
    refine tS_go (f := _) st sl q fun d m1 a1 H1 v e1 st1 sl1 rv x1 q1 => ?_
    split at q1
    · rename_i hK
      obtain ⟨i, p, kvs, ks, rfl, rfl, hp, hm, hH, hl, rr⟩ := refK_of st1 rv hK
      refine ⟨p, rfl, .inl ⟨ks, .inl hH⟩, ?_⟩
      refine tS_go (f := _) st1 sl1 q1 fun y m2 a2 H2 w e2 st2 sl2 rw x2 q2 => ?_
      cases hd : dpopD m2 (.ref i) y with
      | none => rw [hd] at q2; exact False.elim q2
      | some m' =>
        rw [hd] at q2
        simp only [dpopD] at hd
        split at hd
        · rename_i kvs2 kk hm2 hk2
          have hp2 := x2.old hp
          obtain ⟨ho, g1, g2⟩ := st2.at_ i p _ hp2 hm2
          cases g2 with
          | @dct _ ks2 hl2 rr2 =>
            split at hd
            · rename_i hs
              cases hd
              have ek := key_rep rw hk2
              subst ek
              rcases look_rep kk rr2 with ⟨l1, l2⟩ | ⟨dd, u, l1, l2, l3⟩
              · rw [l1] at hs; cases hs
              · refine ⟨ks2, kk, u, g1, rfl, l2, ?_⟩
                have r3 := drop_rep kk rr2
                refine q2 a2 _ σ (Ext.put hp2) (st2.put hp2 (.dct ?_ r3)) (sl2.mono (Ext.put hp2))
                exact Nat.le_trans (List.length_filter_le _ _) hl2
            · cases hd
        · cases hd
    · exact False.elim q1
  · cases h⟩
mutual
theorem soundS : ∀ x : Sm, SndS F fs x
  | .asg tg e => s_asg tg e
  | .par i j a b => s_par i j a b
  | .put o i e => s_put o i e
  | .expr e => s_expr e
  | .lm f o es => s_lm f o es
  | .dpop o k => s_dpop o k
  | .ret e => s_ret e
  | .iff c a b => s_iff (soundSs a) (soundSs b)
  | .whil c b => s_whil (soundSs b)
  | .for tg k it b => s_for (soundSs b)
  | .pass => s_pass
  | .never => s_never
theorem soundSs : ∀ xs : Sms, SndSs F fs xs
  | .nil => ⟨fun s N sc h X k g hN hS => by
      cases s with
      | nil => exact weakSs pss_nil fun D σ H ⟨a, ρ, m, st, sl, q⟩ => q a H σ Ext.refl st sl
      | cons _ _ => simp [chkSs] at h⟩
  | .cons x r => ⟨fun s N sc h X k g hN hS => by
      cases s with
      | nil => simp [chkSs] at h
      | cons s ss =>
        simp only [chkSs, Bool.and_eq_true] at h
        refine weakSs (pss_cons ((soundS x).st _ _ _ h.1 X k g hN hS) ((soundSs r).sts _ _ _ h.2 X k g hN hS)) ?_
        rintro D σ H ⟨a, ρ, m, st, sl, q⟩
        refine ⟨a, ρ, m, st, sl, ?_⟩
        simp only [evSs] at q
        cases D with
        | mk nx rt bk ct => exact TrS.thn q fun ρ' m' a' H' σ' x' st' sl' q' => ⟨a', ρ', m', st', sl', q'⟩⟩
end
end
end Br


set_option Elab.async false
set_option linter.all false
set_option maxRecDepth 100000
set_option maxHeartbeats 1000000
set_option autoImplicit false
/-! Br: defs, the table of them. -/
namespace Br
open PySem PySem.Spec PyProof.Rows L2
structure Ent where
  name : Str
  d : Def
  N : List Str
  ps : List Str
  st : Stmt
def scB (N ps : List Str) (sc : Scope) : Bool :=
  (match sc.kind with | .function => true | _ => false) && !sc.isCoroutine && !sc.isGenerator && decide N.Nodup && decide (N.take ps.length = ps) && ps.all (locB sc) && sc.names.all (fun y => decide (y.2 ≠ .free))
theorem scB_ok {N ps : List Str} {sc : Scope} (h : scB N ps sc = true) : FnScope N ps sc := by
  simp only [scB, Bool.and_eq_true, decide_eq_true_eq, List.all_eq_true, Bool.not_eq_true'] at h
  obtain ⟨⟨⟨⟨⟨⟨h1, h2⟩, h3⟩, h4⟩, h5⟩, h6⟩, h7⟩ := h
  refine ⟨?_, h2, h3, h4, h5, fun x hx => ?_, h7⟩
  · split at h1
    · assumption
    · cases h1
  · have := h6 x hx
    unfold locB at this
    split at this
    · rename_i e; exact .inl e
    · rename_i e; exact .inr e
    · cases this
def entB (fs : List Str) (e : Ent) : Bool := scB e.N e.ps (defScope e.st) && chkSs fs e.N (defScope e.st) e.d.body (defBody e.st) && decide (e.d.np = e.ps.length) && decide (e.d.ns = e.N.length)
structure Placed (K : PySem.W.Frag) (mg : Str → Option Value) (e : Ent) (p : Addr) (fd : FuncData) : Prop where
  F : FunD K e.name e.name (defArgs e.st) (defBody e.st) (defScope e.st) [] [] p fd
  g : mg e.name = some (.ref p)
  b : Binds K fd e.ps []
/-- what is known of the module -/
structure World0 (K : PySem.W.Frag) (mg : Str → Option Value) (E : List Ent) (g : Str → Option D) : Prop where
  ok : ∀ e ∈ E, entB (E.map (·.name)) e = true
  nd : (E.map (·.name)).Nodup
  pl : ∀ e ∈ E, ∃ p fd, Placed K mg e p fd
  blt : ∀ x ∈ blts, mg x = none
  glo : ∀ x d, g x = some d → ∃ v u, mg x = some u ∧ RelV v u ∧ ∀ H a, RepV K H a d v
def tab (E : List Ent) : List (Str × Def) := E.map fun e => (e.name, e.d)
theorem tab_look : ∀ {E : List Ent} {e : Ent}, (E.map (·.name)).Nodup → e ∈ E → (tab E).lookup e.name = some e.d
  | [], _, _, h => by cases h
  | f :: E, e, nd, h => by
    simp only [List.map_cons, List.nodup_cons] at nd
    unfold tab
    simp only [List.map_cons, List.lookup_cons]
    rcases List.mem_cons.mp h with rfl | h
    · simp
    · have : (e.name == f.name) = false := by
        simp only [beq_eq_false_iff_ne]
        intro z
        exact nd.1 (by rw [← z]; exact List.mem_map_of_mem h)
      rw [this]
      exact tab_look nd.2 h
theorem srel_start {K : PySem.W.Frag} {H : Hp} {a : Ad} {ds : List D} {vs : List V} {N : List Str} (r : RepVs K H a ds vs) : SRel K a H (ds.map some ++ List.replicate (N.length - ds.length) none) (L2.start N vs) := by
  have hl := r.length
  refine ⟨by simp [L2.start, hl], fun i d e => ?_⟩
  unfold L2.start
  by_cases hi : i < ds.length
  · rw [List.getElem?_append_left (by simpa using hi), List.getElem?_map] at e
    rw [List.getElem?_append_left (by rw [List.length_map, ← hl]; exact hi), List.getElem?_map]
    cases hd : ds[i]? with
    | none => rw [hd] at e; cases e
    | some d' =>
      rw [hd] at e
      cases e
      obtain ⟨v, h1, h2⟩ := r.get hd
      exact ⟨v, by rw [h1]; rfl, h2⟩
  · rw [List.getElem?_append_right (by simpa using Nat.le_of_not_lt hi)] at e
    have := List.mem_of_getElem? e
    rw [List.mem_replicate] at this
    cases this.2
section
variable {P : Program} {w : World} {K : PySem.W.Frag} {mg : Str → Option Value} {base : Heap} {E : List Ent} {g : Str → Option D} {wf : Nat}
theorem table_ok (W : World0 K mg E g) : ∀ (n : Nat) (e : Ent) (p : Addr) (fd : FuncData), e ∈ E → Placed K mg e p fd → FnOk P w K mg base (L2.CX P w) n p fd e.ps (spS K e.ps.length (callN (tab E) g wf n e.name))
  | 0, e, p, fd, he, pl => ⟨fun vs H Q E ⟨a, m, ds, _, _, _, q⟩ => q.elim, fun A outer s H args us vs Q E _ _ _ _ ⟨a, m, ds, _, _, _, q⟩ => q.elim⟩
  | n + 1, e, p, fd, he, pl => by
    have hB := W.ok e he
    simp only [entB, Bool.and_eq_true, decide_eq_true_eq] at hB
    obtain ⟨⟨⟨h1, h2⟩, h3⟩, h4⟩ := hB
    refine pl.F.ok (scB_ok h1) (fun vs H Q E ⟨a, m, ds, st, r, hl, q⟩ => by rw [← r.length, hl]) fun cdv A outer s H vs Q Ex hr hsp => ?_
    obtain ⟨a, m, ds, st, r, hl, q⟩ := hsp
    have hX : GoodS (cxOf (L2.CX P w) P w K mg base e.N e.name (defScope e.st) p cdv A outer s H Ex) ⟨callN (tab E) g wf n, g, wf⟩ n (E.map (·.name)) := by
      refine ⟨⟨rfl, (scB_ok h1).nd, hr, fun f hf => ?_, W.blt, W.glo⟩, fun _ => rfl, passes_of rfl, (scB_ok h1).kind⟩
      obtain ⟨e', he', rfl⟩ := List.mem_map.mp hf
      obtain ⟨p', fd', pl'⟩ := W.pl e' he'
      refine ⟨p', fd', e'.ps, pl'.g, pl'.F.kp, pl'.b, table_ok W n e' p' fd' he' pl', fun ds m hds => ?_⟩
      cases n with
      | zero => rfl
      | succ n =>
        simp only [callN, tab_look W.nd he', runDef]
        have hB' := W.ok e' he'
        simp only [entB, Bool.and_eq_true, decide_eq_true_eq] at hB'
        rw [if_neg (by rw [hB'.1.2]; exact hds)]
    refine ⟨tSt K (evSs ⟨callN (tab E) g wf n, g, wf⟩ e.d.body), (soundSs e.d.body).sts _ _ _ h2 _ n hX rfl rfl, ?_⟩
    simp only [callN, tab_look W.nd he, runDef] at q
    have hnp : ds.length = e.d.np := by rw [hl, h3]
    rw [if_pos hnp] at q
    have sl := srel_start (N := e.N) r
    rw [hnp, ← h4] at sl
    refine ⟨a, _, m, st, sl, ?_⟩
    revert q
    cases evSs ⟨callN (tab E) g wf n, g, wf⟩ e.d.body (ds.map some ++ List.replicate (e.d.ns - e.d.np) none) m with
    | bad => exact id
    | ex _ _ _ => exact id
    | nx ρ' m' => exact fun q a' H' σ' x st' sl' => q a' H' .non x st' .non
    | rt d m' => exact fun q => q
/-- the law's promise: the script's call tells True -/
theorem law_sp {n : Nat} {f : Str} (h : ∀ ns : List Int, ns.length ≤ 63 → ∃ m', callN (tab E) g wf n f [.scr ns] [] = .ok (.bl true) m') (H : Hp) (a : Addr) (ns : List Int) (hl : ns.length ≤ 63) (ho : Only H) (hS : SqL K H a (ns.map V.int)) :
    spS K 1 (callN (tab E) g wf n f) [.ref a] H (fun v _ => v = .bl true) fun _ _ _ => False := by
  obtain ⟨m', e⟩ := h ns hl
  refine ⟨⟨[], []⟩, [], [.scr ns], ⟨List.nodup_nil, rfl, by simp, by simp, by simp⟩, .cons (.scr ?_ (Nat.le_trans hl (by decide))) .nil, rfl, ?_⟩
  · rcases hS with (h | ⟨o, h⟩) | h
    · rcases ho a with z | ⟨o, xs, z⟩
      · rw [z] at h; cases h
      · rw [z] at h; cases h
    · exact .inl ⟨⟨o, h⟩, ⟨by simp, by simp⟩⟩
    · exact .inr h
  · rw [e]
    intro a' H' v _ _ rv
    cases rv
    rfl
theorem cx_false {H : Hp} {s : Shared} {e : Value} {s' : Shared} (h : L2.CX P w [] H s (fun _ _ _ => False) e s') : False := by
  obtain ⟨_, _, _, _, _, _, _, _, _, _, _, _, z⟩ := h
  exact z
end
end Br


set_option Elab.async false
set_option linter.all false
set_option maxRecDepth 100000
set_option maxHeartbeats 1000000
set_option autoImplicit false
/-! Br: the head's facts, the law's end. -/
namespace Br
open PySem PySem.Spec PyProof.Rows L2
def dvOf : D → He.Dv
  | .int i => .int i
  | .str x => .str x
  | .bl b => .bl b
  | _ => .non
def flatB : D → Bool
  | .int _ => true
  | .bl _ => true
  | .non => true
  | .str x => PySem.PyData.strOk x
  | _ => false
def gloB : Str × D → Bool
  | (_, .int _) => true
  | (_, .str x) => PySem.PyData.strOk x
  | (_, .tup ds) => decide (ds.length ≤ 60) && ds.all flatB
  | _ => false
def faOf (E : List Ent) (gl : List (Str × D)) : List He.Fa :=
  E.map (fun e => .glo e.name) ++ (blts.map (fun x => .free x) ++ gl.map fun q => match q.2 with
    | .int i => .int q.1 i
    | .str x => .str q.1 x
    | _ => .glo q.1)
def dfOf (E : List Ent) : List He.DefD := E.map fun e => ⟨(e.name, none), e.name, e.name, defArgs e.st, defBody e.st, defScope e.st, [], []⟩
def exOf (gl : List (Str × D)) (K : PySem.W.Frag) : Bool := gl.all fun q => match q.2 with
  | .tup ds => He.tupB K q.1 (ds.map dvOf)
  | _ => true
def BindOk (e : Ent) : Prop := ∀ (kV doc pm : Value) (an : Option Addr) (cdv ct : Value) (us : List Value), us.length = e.ps.length → bindArgs (PySem.W.fnOf e.name e.name (defArgs e.st) (defBody e.st) (defScope e.st) .none kV doc pm an cdv ct) ⟨us, []⟩ = pure (e.ps.zip us)
section
variable {K : PySem.W.Frag} {mg : Str → Option Value} {E : List Ent} {gl : List (Str × D)} {w : World} {h h0 : Heap}
theorem gflat_rep {d : D} (c : flatB d = true) (H : Hp) (a : Ad) : RepV K H a d ((dvOf d).v K) := by
  cases d <;> first | (cases c; done) | exact .int _ | exact .bl _ | exact .non | exact .str _ c
theorem gflat_reps : ∀ {ds : List D}, ds.all flatB = true → ∀ (H : Hp) (a : Ad), RepVs K H a ds ((ds.map dvOf).map (He.Dv.v K))
  | [], _, _, _ => .nil
  | d :: ds, c, H, a => by
    simp only [List.all_cons, Bool.and_eq_true] at c
    exact .cons (gflat_rep c.1 H a) (gflat_reps c.2 H a)
theorem lookup_memS {α : Type} {x : Str} {v : α} : ∀ {l : List (Str × α)}, l.lookup x = some v → (x, v) ∈ l
  | [], h => by cases h
  | (y, u) :: r, h => by
    simp only [List.lookup_cons] at h
    cases q : (x == y) with
    | true =>
      rw [q] at h
      rw [beq_iff_eq.mp q, Option.some.inj h]
      exact List.mem_cons_self
    | false =>
      rw [q] at h
      exact List.mem_cons_of_mem _ (lookup_memS h)
theorem world_of (X : K.In h) (G : h.Ns mainGlobals mg) (c : He.SaysX (faOf E gl) (dfOf E) [] [] (exOf gl) w h0 K) (ok : E.all (entB (E.map (·.name))) = true) (nd : (E.map (·.name)).Nodup) (hb : ∀ e ∈ E, BindOk e) (hg : gl.all gloB = true) :
    World0 K mg E (fun x => gl.lookup x) where
  ok := fun e he => List.all_eq_true.mp ok e he
  nd := nd
  pl := fun e he => by
    obtain ⟨fd, F⟩ := c.t.d.defs (d := ⟨(e.name, none), e.name, e.name, defArgs e.st, defBody e.st, defScope e.st, [], []⟩) (by
      unfold dfOf
      rw [List.mem_map]
      exact ⟨e, he, rfl⟩)
    have g := He.glo_ok (x := e.name) X G (c.t.d.facts (by
      unfold faOf
      exact List.mem_append_left _ (List.mem_map.mpr ⟨e, he, rfl⟩)))
    exact ⟨_, fd, F, g, FunD.bindsN (ps := e.ps) F (hb e he)⟩
  blt := fun x hx => He.free_ok X G (c.t.d.facts (by
    unfold faOf
    exact List.mem_append_right _ (List.mem_append_left _ (List.mem_map.mpr ⟨x, hx, rfl⟩))))
  glo := fun x d hd => by
    have hm := lookup_memS hd
    have hB := List.all_eq_true.mp hg _ hm
    have hf : ∀ f, f = (match d with
        | .int i => He.Fa.int x i
        | .str z => .str x z
        | _ => .glo x) → f.ok K = true := fun f e => c.t.d.facts (by
      unfold faOf
      rw [e]
      exact List.mem_append_right _ (List.mem_append_right _ (List.mem_map.mpr ⟨(x, d), hm, rfl⟩)))
    have hx := List.all_eq_true.mp c.more _ hm
    cases d with
    | int i =>
      obtain ⟨t, e⟩ := He.int_ok X G (hf _ rfl)
      exact ⟨.int i, _, e, ⟨t, rfl⟩, fun H a => .int i⟩
    | str z =>
      obtain ⟨t, e⟩ := He.str_ok X G (hf _ rfl)
      exact ⟨.str z, _, e, ⟨t, rfl⟩, fun H a => .str z hB⟩
    | tup ds =>
      have e := He.glo_ok X G (hf _ rfl)
      simp only [gloB, Bool.and_eq_true, decide_eq_true_eq] at hB
      refine ⟨.ref _, _, e, rfl, fun H a => .tup (.inr ?_) (Nat.le_trans hB.1 (by decide)) (gflat_reps hB.2 H a)⟩
      rcases He.tupB_ok hx (fun _ => none) with q | q
      · rcases q with q | ⟨o, q⟩
        · cases q
        · cases q
      · exact q
    | _ => cases hB
end
/-- the law's end -/
theorem end_of {l : PySem.W.OpenLaw} {q : Program} {loose : List Str} {XP : (Str → Option Value) → Heap → Prop} {d : DefRec} {x : Str} {E : List Ent} {gl : List (Str × D)} {e : Ent} {n wf : Nat}
    (hn : l.most = some 63) (hdf : d.params.defaults = []) (hr : Room n callerA) (hd : d.name = e.name) (he : e ∈ E) (hp : e.ps = [x])
    (ok : E.all (entB (E.map (·.name))) = true) (nd : (E.map (·.name)).Nodup) (hb : ∀ e ∈ E, BindOk e) (hg' : gl.all gloB = true)
    (law : ∀ ns : List Int, ns.length ≤ 63 → ∃ m', callN (tab E) (fun x => gl.lookup x) wf n e.name [.scr ns] [] = .ok (.bl true) m') :
    PySem.W.WalkO q loose XP (fun w h => ∃ K : PySem.W.Frag, K.In h ∧ He.SaysX (faOf E gl) (dfOf E) [] [] (exOf gl) w h K) l.row.toRowW d [] (fun f vs => PySem.call f vs) := by
  refine Att.attach_call hn hdf ?_
  intro w s₀ s₁ mg mb fa o pm cd doc a vs ns G Y ho ho2 hcd hmg hobj hints hlen hg
  obtain ⟨K, KX, c⟩ := Y
  have W := world_of KX G.T.g c ok nd hb hg'
  obtain ⟨p, fd, pl⟩ := W.pl e he
  rw [hd, pl.g] at hmg
  have ep : p = fa := by
    injection hmg with z
    injection z
  subst ep
  have hB : ∀ (s : Shared) (u : Value), BindsTo s fd ⟨[u], []⟩ [(x, u)] := fun s u => by
    have z := FunD.bindsA (ps := e.ps) pl.F (hb e he) s [u] (by rw [hp]; rfl)
    rw [hp] at z
    exact z
  refine law_call (CX := L2.CX l.prog w) KX G.T.g G.T.b G.T.builtins G.T.nolimit hg hobj hints (Nat.le_trans hlen (by decide)) hr (sp := spS K 1 (callN (tab E) (fun x => gl.lookup x) wf n e.name)) ?_ hB ?_ ?_
  · intro base _ _
    have t := table_ok (P := l.prog) (w := w) (base := base) (wf := wf) W n e p fd he pl
    rw [hp] at t
    exact t
  · intro H hO hS
    exact law_sp law H a ns hlen hO hS
  · intro H u s' z
    exact cx_false z
end Br


set_option Elab.async false
set_option linter.all false
set_option maxRecDepth 100000
set_option maxHeartbeats 1000000
set_option autoImplicit false
/-! Br: how a term of the small language is worked through (no program here). -/
namespace Br
open PySem PySem.Spec PyProof.Rows L2
abbrev XQ := Str → List D → Mem → Prop
def Res.W {α : Type} (r : Res α) (Q : α → Mem → Prop) (E : XQ) : Prop := match r with
  | .ok a m => Q a m
  | .ex c ds m => E c ds m
  | .bad => False
def Rs.W (r : Rs) (N : Sl → Mem → Prop) (R : D → Mem → Prop) (E : XQ) : Prop := match r with
  | .nx ρ m => N ρ m
  | .rt d m => R d m
  | .ex c ds m => E c ds m
  | .bad => False
abbrev noE : XQ := fun _ _ _ => False
def IsS {α : Type} (o : Option α) (f : α → Prop) : Prop := match o with
  | some x => f x
  | none => False
@[simp] theorem IsS_some {α : Type} {x : α} {f : α → Prop} : IsS (some x) f ↔ f x := Iff.rfl
@[simp] theorem IsS_none {α : Type} {f : α → Prop} : IsS none f ↔ False := Iff.rfl
@[simp] theorem IsS_if {α : Type} {c : Prop} [Decidable c] {x y : Option α} {f : α → Prop} : IsS (if c then x else y) f ↔ (c → IsS x f) ∧ (¬c → IsS y f) := by by_cases h : c <;> simp [h]
theorem IsS.mk {α : Type} {o : Option α} {x : α} {f : α → Prop} (h : o = some x) (hf : f x) : IsS o f := by rw [h]; exact hf
def IsB (d : D) (f : Bool → Prop) : Prop := match d with
  | .bl b => f b
  | _ => False
@[simp] theorem IsB_bl {b : Bool} {f : Bool → Prop} : IsB (.bl b) f ↔ f b := Iff.rfl
def Two (t : Bool) (A B : Prop) : Prop := (t = true → A) ∧ (t = false → B)
@[simp] theorem Two_true {A B : Prop} : Two true A B ↔ A := by simp [Two]
@[simp] theorem Two_false {A B : Prop} : Two false A B ↔ B := by simp [Two]
@[simp] theorem Two_not {b : Bool} {A B : Prop} : Two (!b) A B ↔ Two b B A := by cases b <;> simp
@[simp] theorem Two_dec {p : Prop} [Decidable p] {A B : Prop} : Two (decide p) A B ↔ (p → A) ∧ (¬p → B) := by by_cases h : p <;> simp [h]
@[simp] theorem Two_and {b c : Bool} {A B : Prop} : Two (b && c) A B ↔ Two b (Two c A B) B := by cases b <;> simp
@[simp] theorem Two_or {b c : Bool} {A B : Prop} : Two (b || c) A B ↔ Two b A (Two c A B) := by cases b <;> simp
theorem Two.mk {b : Bool} {A B : Prop} (h1 : b = true → A) (h2 : b = false → B) : Two b A B := ⟨h1, h2⟩
theorem IsS_iff {α : Type} {o : Option α} {f : α → Prop} : IsS o f ↔ ∃ x, o = some x ∧ f x := by cases o <;> simp
theorem IsB_iff {d : D} {f : Bool → Prop} : IsB d f ↔ ∃ b, d = .bl b ∧ f b := by cases d <;> simp [IsB]
theorem IsB_def {d : D} {f : Bool → Prop} (h : ∀ b, d ≠ .bl b) : IsB d f ↔ False := by cases d <;> first | exact Iff.rfl | exact absurd rfl (h _)
section
variable {α β : Type} {Q : α → Mem → Prop} {E : XQ} {N : Sl → Mem → Prop} {R : D → Mem → Prop} {m : Mem} {ρ : Sl} {F : Fe}
@[simp] theorem W_ok {a : α} : (Res.ok a m).W Q E ↔ Q a m := Iff.rfl
@[simp] theorem W_bad : (Res.bad : Res α).W Q E ↔ False := Iff.rfl
@[simp] theorem W_ex {c : Str} {ds : List D} : (Res.ex c ds m : Res α).W Q E ↔ E c ds m := Iff.rfl
@[simp] theorem Ws_nx : (Rs.nx ρ m).W N R E ↔ N ρ m := Iff.rfl
@[simp] theorem Ws_rt {d : D} : (Rs.rt d m).W N R E ↔ R d m := Iff.rfl
@[simp] theorem Ws_bad : (Rs.bad).W N R E ↔ False := Iff.rfl
@[simp] theorem Ws_ex {c : Str} {ds : List D} : (Rs.ex c ds m).W N R E ↔ E c ds m := Iff.rfl
theorem W_bind {r : Res α} {f : α → Mem → Res β} {Q : β → Mem → Prop} : (r.bind f).W Q E ↔ r.W (fun a m => (f a m).W Q E) E := by cases r <;> rfl
theorem Ws_go {r : Res α} {f : α → Mem → Rs} : (r.go f).W N R E ↔ r.W (fun a m => (f a m).W N R E) E := by cases r <;> rfl
theorem Ws_thn {r : Rs} {f : Sl → Mem → Rs} : (r.thn f).W N R E ↔ r.W (fun ρ m => (f ρ m).W N R E) R E := by cases r <;> rfl
theorem W_optR {o : Option D} {Q : D → Mem → Prop} : (optR o m).W Q E ↔ IsS o fun d => Q d m := by cases o <;> simp [optR]
theorem W_optB {o : Option Bool} {Q : D → Mem → Prop} : (optB o m).W Q E ↔ IsS o fun b => Q (.bl b) m := by cases o <;> simp [optB]
theorem Res.W.mono {r : Res α} {Q' : α → Mem → Prop} (h : r.W Q E) (hq : ∀ a m, Q a m → Q' a m) : r.W Q' E := by
  cases r with
  | ok a m => exact hq _ _ h
  | ex c ds m => exact h
  | bad => exact h
theorem Rs.W.mono {r : Rs} {N' : Sl → Mem → Prop} {R' : D → Mem → Prop} (h : r.W N R E) (hn : ∀ ρ m, N ρ m → N' ρ m) (hr : ∀ d m, R d m → R' d m) : r.W N' R' E := by
  cases r with
  | nx ρ m => exact hn _ _ h
  | rt d m => exact hr _ _ h
  | ex c ds m => exact h
  | bad => exact h
theorem W_congr {r : Res α} {Q' : α → Mem → Prop} (h : ∀ a m, Q a m ↔ Q' a m) : r.W Q E ↔ r.W Q' E := by
  cases r with
  | ok a m => exact h a m
  | ex c ds m => exact Iff.rfl
  | bad => exact Iff.rfl
theorem eq_of_W {r : Res α} {a : α} (h : r.W (fun x m' => x = a ∧ m' = m) noE) : r = .ok a m := by
  cases r with
  | ok x m' => rw [h.1, h.2]
  | ex c ds m => exact h.elim
  | bad => exact h.elim
theorem ok_of_W {r : Res α} (h : r.W Q noE) : ∃ a m, r = .ok a m ∧ Q a m := by
  cases r with
  | ok x m' => exact ⟨x, m', rfl, h⟩
  | ex c ds m => exact h.elim
  | bad => exact h.elim
end
section
variable {E : XQ} {N : Sl → Mem → Prop} {R : D → Mem → Prop} {m : Mem} {ρ : Sl} {F : Fe} {Q : D → Mem → Prop} {QL : List D → Mem → Prop}
@[simp] theorem W_var {i : Nat} : (evE F (.var i) ρ m).W Q E ↔ IsS (ρ[i]?) fun o => IsS o fun d => Q d m := by
  unfold evE
  cases e : ρ[i]? with
  | none => simp
  | some o => cases o <;> simp
@[simp] theorem W_glo {x : Str} : (evE F (.glo x) ρ m).W Q E ↔ IsS (F.glo x) fun d => Q d m := W_optR
@[simp] theorem W_cst {d : D} : (evE F (.cst d) ρ m).W Q E ↔ Q d m := Iff.rfl
@[simp] theorem W_bin {o : Bop} {a b : Ex} : (evE F (.bin o a b) ρ m).W Q E ↔ (evE F a ρ m).W (fun x m1 => (evE F b ρ m1).W (fun y m2 => IsS (binD o x y) fun d => Q d m2) E) E := by
  rw [evE, W_bind]
  refine W_congr fun x m1 => ?_
  rw [W_bind]
  exact W_congr fun y m2 => W_optR
@[simp] theorem W_cmp {o : Cop} {a b : Ex} : (evE F (.cmp o a b) ρ m).W Q E ↔ (evE F a ρ m).W (fun x m1 => (evE F b ρ m1).W (fun y m2 => IsS (cmpD m2 o x y) fun d => Q (.bl d) m2) E) E := by
  rw [evE, W_bind]
  refine W_congr fun x m1 => ?_
  rw [W_bind]
  exact W_congr fun y m2 => W_optB
@[simp] theorem W_chain {o o' : Cop} {a b c : Ex} : (evE F (.chain o o' a b c) ρ m).W Q E ↔ (evE F a ρ m).W (fun x m1 => (evE F b ρ m1).W (fun y m2 => IsS (cmpD m2 o x y) fun d => Two d ((evE F c ρ m2).W (fun z m3 => IsS (cmpD m3 o' y z) fun d' => Q (.bl d') m3) E) (Q (.bl false) m2)) E) E := by
  rw [evE, W_bind]
  refine W_congr fun x m1 => ?_
  rw [W_bind]
  refine W_congr fun y m2 => ?_
  cases cmpD m2 o x y with
  | none => simp
  | some b => cases b <;> simp [W_bind, W_optB]
theorem W_onB {r : Res D} {f : Bool → Mem → Res D} : (onB r f).W Q E ↔ r.W (fun d m => IsB d fun b => (f b m).W Q E) E := by
  unfold onB
  rw [W_bind]
  refine W_congr fun d m => ?_
  cases d <;> simp [IsB]
@[simp] theorem W_and {a b : Ex} : (evE F (.and a b) ρ m).W Q E ↔ (evE F a ρ m).W (fun x m1 => IsB x fun t => Two t ((evE F b ρ m1).W Q E) (Q (.bl false) m1)) E := by
  rw [evE, W_onB]
  refine W_congr fun d m => ?_
  cases d with
  | bl t => cases t <;> simp
  | _ => exact Iff.rfl
@[simp] theorem W_or {a b : Ex} : (evE F (.or a b) ρ m).W Q E ↔ (evE F a ρ m).W (fun x m1 => IsB x fun t => Two t (Q (.bl true) m1) ((evE F b ρ m1).W Q E)) E := by
  rw [evE, W_onB]
  refine W_congr fun d m => ?_
  cases d with
  | bl t => cases t <;> simp
  | _ => exact Iff.rfl
@[simp] theorem W_not {a : Ex} : (evE F (.not a) ρ m).W Q E ↔ (evE F a ρ m).W (fun x m1 => IsB x fun t => Q (.bl (!t)) m1) E := by
  rw [evE, W_onB]
  rfl
@[simp] theorem W_ite {c a b : Ex} : (evE F (.ite c a b) ρ m).W Q E ↔ (evE F c ρ m).W (fun x m1 => IsB x fun t => Two t ((evE F a ρ m1).W Q E) ((evE F b ρ m1).W Q E)) E := by
  rw [evE, W_onB]
  refine W_congr fun d m => ?_
  cases d with
  | bl t => cases t <;> simp
  | _ => exact Iff.rfl
@[simp] theorem W_fn {f : Fn} {es : Exs} : (evE F (.fn f es) ρ m).W Q E ↔ (evEs F es ρ m).W (fun ds m1 => (fnD m1 f ds).W Q E) E := by rw [evE, W_bind]
@[simp] theorem W_isin {a : Ex} {ts : List Ty} : (evE F (.isin a ts) ρ m).W Q E ↔ (evE F a ρ m).W (fun x m1 => IsS (anyTy m1 x ts) fun d => Q (.bl d) m1) E := by
  rw [evE, W_bind]
  exact W_congr fun y m2 => W_optB
@[simp] theorem W_call {f : Str} {es : Exs} : (evE F (.call f es) ρ m).W Q E ↔ (evEs F es ρ m).W (fun ds m1 => (F.call f ds m1).W Q E) E := by rw [evE, W_bind]
@[simp] theorem W_idx {a b : Ex} : (evE F (.idx a b) ρ m).W Q E ↔ (evE F a ρ m).W (fun x m1 => (evE F b ρ m1).W (fun y m2 => IsS (idxD m2 x y) fun d => Q d m2) E) E := by
  rw [evE, W_bind]
  refine W_congr fun x m1 => ?_
  rw [W_bind]
  exact W_congr fun y m2 => W_optR
@[simp] theorem W_sli {a : Ex} {lo hi : Exs} : (evE F (.sli a lo hi) ρ m).W Q E ↔ (evE F a ρ m).W (fun x m1 => (evEs F lo ρ m1).W (fun l m2 => (evEs F hi ρ m2).W (fun h m3 => IsS (partOf l) fun l' => IsS (partOf h) fun h' => IsS (sliD m3 x l' h') fun d => Q d m3) E) E) E := by
  rw [evE, W_bind]
  refine W_congr fun x m1 => ?_
  rw [W_bind]
  refine W_congr fun l m2 => ?_
  rw [W_bind]
  refine W_congr fun h m3 => ?_
  cases partOf l <;> cases partOf h <;> simp [W_optR]
@[simp] theorem W_tup {es : Exs} : (evE F (.tup es) ρ m).W Q E ↔ (evEs F es ρ m).W (fun ds m1 => ds.length ≤ big ∧ Q (.tup ds) m1) E := by
  rw [evE, W_bind]
  refine W_congr fun ds m1 => ?_
  by_cases h : ds.length ≤ big <;> simp [h]
@[simp] theorem W_lstT {es : Exs} : (evE F (.lst true es) ρ m).W Q E ↔ (evEs F es ρ m).W (fun ds m1 => ds.length ≤ big ∧ Q (.lst ds) m1) E := by
  rw [evE, W_bind]
  refine W_congr fun ds m1 => ?_
  by_cases h : ds.length ≤ big <;> simp [h]
@[simp] theorem W_lstF {es : Exs} : (evE F (.lst false es) ρ m).W Q E ↔ (evEs F es ρ m).W (fun ds m1 => ds.length ≤ big ∧ Q (.ref m1.length) (m1 ++ [.lst ds])) E := by
  rw [evE, W_bind]
  refine W_congr fun ds m1 => ?_
  by_cases h : ds.length ≤ big <;> simp [h]
@[simp] theorem W_comp {own : List (Str × Nat)} {tg : Tg} {k : Wk} {it c : Exs} {e : Ex} : (evE F (.comp own tg k it c e) ρ m).W Q noE ↔ (evEs F it ρ m).W (fun ds m1 => IsS (walkD m1 k ds) fun xs => (compL tg (wipeS ρ (own.map (·.2))) (fun ρ' m' => evC F c ρ' m') (fun ρ' m' => evE F e ρ' m') xs m1).W (fun vs m2 => Q (.lst vs) m2) noE) noE := by
  rw [evE, W_bind]
  refine W_congr fun ds m1 => ?_
  cases walkD m1 k ds with
  | none => simp
  | some xs =>
    simp only [IsS_some]
    cases compL tg (wipeS ρ (own.map (·.2))) (fun ρ' m' => evC F c ρ' m') (fun ρ' m' => evE F e ρ' m') xs m1 <;> simp
/-- what a scope does with what it got -/
def Thaw (m : Mem) (d : D) (m' : Mem) (Q : D → Mem → Prop) : Prop := ∃ d', frzD m' m.length d = some d' ∧ (m'.take m.length).all (O.und m.length) = true ∧ Q d' (m'.take m.length)
theorem Thaw.mk {x : Mem} {d d' : D} (hf : frzD (m ++ x) m.length d = some d') (hu : m.all (O.und m.length) = true) (q : Q d' m) : Thaw m d (m ++ x) Q := by
  refine ⟨d', hf, ?_, ?_⟩
  · rw [List.take_left]
    exact hu
  · rw [List.take_left]
    exact q
@[simp] theorem W_scope {a : Ex} : (evE F (.scope a) ρ m).W Q E ↔ (evE F a ρ m).W (fun d m' => Thaw m d m' Q) E := by
  rw [evE]
  unfold Thaw
  cases evE F a ρ m with
  | bad => simp
  | ex c ds m' => simp
  | ok d m' =>
    simp only [W_ok]
    cases frzD m' m.length d with
    | none => simp
    | some d' =>
      simp only [Option.some.injEq, exists_eq_left']
      by_cases h : (m'.take m.length).all (O.und m.length) = true
      · rw [if_pos h]
        simp only [W_ok, h, true_and]
      · rw [if_neg h]
        simp only [W_bad, h, false_and]
        simp
@[simp] theorem W_nil : (evEs F .nil ρ m).W QL E ↔ QL [] m := Iff.rfl
@[simp] theorem W_cons {e : Ex} {r : Exs} : (evEs F (.cons e r) ρ m).W QL E ↔ (evE F e ρ m).W (fun d m1 => (evEs F r ρ m1).W (fun ds m2 => QL (d :: ds) m2) E) E := by
  rw [evEs, W_bind]
  refine W_congr fun x m1 => ?_
  rw [W_bind]
  rfl
@[simp] theorem W_cnil : (evC F .nil ρ m).W Q E ↔ Q (.bl true) m := Iff.rfl
@[simp] theorem W_ccons {e : Ex} {r : Exs} : (evC F (.cons e r) ρ m).W Q E ↔ (evE F e ρ m).W Q E := Iff.rfl
/-! ### statements -/
@[simp] theorem Ws_asg {tg : Tg} {e : Ex} : (evS F (.asg tg e) ρ m).W N R E ↔ (evE F e ρ m).W (fun d m1 => IsS (bindT m1 tg d ρ) fun ρ' => N ρ' m1) E := by
  rw [evS, Ws_go]
  refine W_congr fun d m1 => ?_
  cases bindT m1 tg d ρ <;> simp
@[simp] theorem Ws_par {i j : Nat} {a b : Ex} : (evS F (.par i j a b) ρ m).W N R E ↔ (evE F a ρ m).W (fun x m1 => (evE F b ρ m1).W (fun y m2 => N ((ρ.set i (some x)).set j (some y)) m2) E) E := by
  rw [evS, Ws_go]
  refine W_congr fun x m1 => ?_
  rw [Ws_go]
  rfl
@[simp] theorem Ws_put {o i e : Ex} : (evS F (.put o i e) ρ m).W N R E ↔ (evE F e ρ m).W (fun v m1 => (evE F o ρ m1).W (fun x m2 => (evE F i ρ m2).W (fun k m3 => IsS (putD m3 x k v) fun m' => N ρ m') E) E) E := by
  rw [evS, Ws_go]
  refine W_congr fun v m1 => ?_
  rw [Ws_go]
  refine W_congr fun x m2 => ?_
  rw [Ws_go]
  refine W_congr fun k m3 => ?_
  cases putD m3 x k v <;> simp
@[simp] theorem Ws_expr {e : Ex} : (evS F (.expr e) ρ m).W N R E ↔ (evE F e ρ m).W (fun _ m1 => N ρ m1) E := by
  rw [evS, Ws_go]
  rfl
@[simp] theorem Ws_lm {f : Lm} {o : Ex} {es : Exs} : (evS F (.lm f o es) ρ m).W N R E ↔ (evE F o ρ m).W (fun x m1 => refL m1 x = true ∧ (evEs F es ρ m1).W (fun vs m2 => IsS (lmD m2 f x vs) fun m' => N ρ m') E) E := by
  rw [evS, Ws_go]
  refine W_congr fun x m1 => ?_
  by_cases h : refL m1 x = true
  · rw [if_pos h, Ws_go]
    simp only [h, true_and]
    refine W_congr fun vs m2 => ?_
    cases lmD m2 f x vs <;> simp
  · rw [if_neg h]
    simp [h]
@[simp] theorem Ws_dpop {o k : Ex} : (evS F (.dpop o k) ρ m).W N R E ↔ (evE F o ρ m).W (fun x m1 => refK m1 x = true ∧ (evE F k ρ m1).W (fun y m2 => IsS (dpopD m2 x y) fun m' => N ρ m') E) E := by
  rw [evS, Ws_go]
  refine W_congr fun x m1 => ?_
  by_cases h : refK m1 x = true
  · rw [if_pos h, Ws_go]
    simp only [h, true_and]
    refine W_congr fun vs m2 => ?_
    cases dpopD m2 x vs <;> simp
  · rw [if_neg h]
    simp [h]
@[simp] theorem Ws_ret {e : Ex} : (evS F (.ret e) ρ m).W N R E ↔ (evE F e ρ m).W R E := by
  rw [evS, Ws_go]
  rfl
@[simp] theorem Ws_iff {c : Ex} {a b : Sms} : (evS F (.iff c a b) ρ m).W N R E ↔ (evE F c ρ m).W (fun d m1 => IsB d fun t => Two t ((evSs F a ρ m1).W N R E) ((evSs F b ρ m1).W N R E)) E := by
  rw [evS, Ws_go]
  refine W_congr fun d m1 => ?_
  cases d with
  | bl t => cases t <;> simp
  | _ => simp [IsB]
@[simp] theorem Ws_whil {c : Ex} {b : Sms} : (evS F (.whil c b) ρ m).W N R E ↔ (whileL (fun ρ' m' => evE F c ρ' m') (fun ρ' m' => evSs F b ρ' m') F.wf ρ m).W N R E := by rw [evS]
@[simp] theorem Ws_for {tg : Tg} {k : Wk} {it : Exs} {b : Sms} : (evS F (.for tg k it b) ρ m).W N R E ↔ (evEs F it ρ m).W (fun ds m1 => IsS (walkD m1 k ds) fun xs => (forL tg (fun ρ' m' => evSs F b ρ' m') xs ρ m1).W N R E) E := by
  rw [evS, Ws_go]
  refine W_congr fun ds m1 => ?_
  cases walkD m1 k ds <;> simp
@[simp] theorem Ws_pass : (evS F .pass ρ m).W N R E ↔ N ρ m := Iff.rfl
@[simp] theorem Ws_never : (evS F .never ρ m).W N R E ↔ False := Iff.rfl
@[simp] theorem Ws_nil : (evSs F .nil ρ m).W N R E ↔ N ρ m := Iff.rfl
theorem Ws_cons {s : Sm} {r : Sms} : (evSs F (.cons s r) ρ m).W N R E ↔ (evS F s ρ m).W (fun ρ' m' => (evSs F r ρ' m').W N R E) R E := by rw [evSs, Ws_thn]
theorem wcons {s : Sm} {r : Sms} (h : (evS F s ρ m).W (fun ρ' m' => (evSs F r ρ' m').W N R E) R E) : (evSs F (.cons s r) ρ m).W N R E := Ws_cons.mpr h
/-- a statement, what it brings about, the rest -/
theorem wcut {s : Sm} {r : Sms} (P : Sl → Mem → Prop) (h : (evS F s ρ m).W P (fun _ _ => False) E) (k : ∀ ρ' m', P ρ' m' → (evSs F r ρ' m').W N R E) : (evSs F (.cons s r) ρ m).W N R E := wcons (h.mono k fun _ _ h => h.elim)
/-! ### defs -/
theorem W_run {d : Def} {ds : List D} {T : List (Str × Def)} {g : Str → Option D} {wf n : Nat} {f : Str} (ht : T.lookup f = some d) (hl : ds.length = d.np) (h : (evSs ⟨callN T g wf n, g, wf⟩ d.body (ds.map some ++ List.replicate (d.ns - d.np) none) m).W (fun _ m' => Q .non m') Q E) : (callN T g wf (n + 1) f ds m).W Q E := by
  simp only [callN, ht, runDef, if_pos hl]
  revert h
  cases evSs ⟨callN T g wf n, g, wf⟩ d.body (ds.map some ++ List.replicate (d.ns - d.np) none) m <;> exact id
/-! ### loops -/
theorem forL_W {tg : Tg} {b : Sl → Mem → Rs} {xs : List D} (I : List D → Sl → Mem → Prop) (h0 : I [] ρ m)
    (step : ∀ done d rest ρ m, xs = done ++ d :: rest → I done ρ m → IsS (bindT m tg d ρ) fun ρ1 => (b ρ1 m).W (fun ρ' m' => I (done ++ [d]) ρ' m') R E)
    (fin : ∀ ρ m, I xs ρ m → N ρ m) : (forL tg b xs ρ m).W N R E := by
  have key : ∀ (rest done : List D) (ρ : Sl) (m : Mem), xs = done ++ rest → I done ρ m → (forL tg b rest ρ m).W N R E := by
    intro rest
    induction rest with
    | nil =>
      intro done ρ m e hI
      rw [List.append_nil] at e
      exact fin _ _ (by rw [e]; exact hI)
    | cons d rest ih =>
      intro done ρ m e hI
      obtain ⟨ρ1, h1, h2⟩ := (IsS_iff).mp (step done d rest ρ m e hI)
      simp only [forL, h1, Ws_thn]
      exact h2.mono (fun ρ' m' h => ih (done ++ [d]) ρ' m' (by rw [e]; simp) h) (fun _ _ h => h)
  exact key xs [] ρ m rfl h0
theorem whileL_W {c : Sl → Mem → Res D} {b : Sl → Mem → Rs} (I : Sl → Mem → Prop) (μ : Sl → Mem → Nat) {wf : Nat} (h0 : I ρ m) (hw : μ ρ m < wf)
    (step : ∀ ρ m, I ρ m → (c ρ m).W (fun d m1 => IsB d fun t => Two t ((b ρ m1).W (fun ρ' m' => I ρ' m' ∧ μ ρ' m' < μ ρ m) R E) (N ρ m1)) E) : (whileL c b wf ρ m).W N R E := by
  induction wf generalizing ρ m with
  | zero => omega
  | succ n ih =>
    have hs := step ρ m h0
    simp only [whileL, Ws_go]
    refine hs.mono fun d m1 h => ?_
    cases d with
    | bl t =>
     cases t with
     | true =>
      simp only [IsB_bl, Two_true] at h
      simp only [Ws_thn]
      exact h.mono (fun ρ' m' h => ih h.1 (by omega)) (fun _ _ h => h)
     | false => simpa using h
    | _ => exact h.elim
theorem compL_W {tg : Tg} {c e : Sl → Mem → Res D} {xs : List D} {QL : List D → Mem → Prop} (I : List D → List D → Mem → Prop) (h0 : I [] [] m)
    (step : ∀ done d rest vs m, xs = done ++ d :: rest → I done vs m → IsS (bindT m tg d ρ) fun ρ1 => (c ρ1 m).W (fun x m1 => IsB x fun t => Two t ((e ρ1 m1).W (fun v m2 => I (done ++ [d]) (vs ++ [v]) m2) noE) (I (done ++ [d]) vs m1)) noE)
    (fin : ∀ vs m, I xs vs m → QL vs m) : (compL tg ρ c e xs m).W QL noE := by
  have key : ∀ (rest done vs : List D) (m : Mem), xs = done ++ rest → I done vs m → (compL tg ρ c e rest m).W (fun us m' => QL (vs ++ us) m') noE := by
    intro rest
    induction rest with
    | nil =>
      intro done vs m q hI
      rw [List.append_nil] at q
      simp only [compL, W_ok, List.append_nil]
      exact fin _ _ (by rw [q]; exact hI)
    | cons d rest ih =>
      intro done vs m q hI
      obtain ⟨ρ1, h1, h2⟩ := IsS_iff.mp (step done d rest vs m q hI)
      obtain ⟨x, m1, e1, h5⟩ := ok_of_W h2
      obtain ⟨t, rfl, h3, h4⟩ := IsB_iff.mp h5
      simp only [compL, h1, e1]
      cases t with
      | true =>
        obtain ⟨v, m2, e2, h5⟩ := ok_of_W (h3 rfl)
        obtain ⟨us, m3, e3, h6⟩ := ok_of_W (ih (done ++ [d]) (vs ++ [v]) m2 (by rw [q]; simp) h5)
        simp only [e2, e3, W_ok]
        rw [List.append_assoc] at h6
        exact h6
      | false => exact ih (done ++ [d]) vs m1 (by rw [q]; simp) (h4 rfl)
  have z := key xs [] [] m rfl h0
  simpa using z
theorem forL_N {tg : Tg} {b : Sl → Mem → Rs} {xs : List D} (I : Nat → Sl → Mem → Prop) (h0 : I 0 ρ m)
    (step : ∀ (j : Nat) (h : j < xs.length) ρ m, I j ρ m → IsS (bindT m tg xs[j] ρ) fun ρ1 => (b ρ1 m).W (fun ρ' m' => I (j + 1) ρ' m') R E)
    (fin : ∀ ρ m, I xs.length ρ m → N ρ m) : (forL tg b xs ρ m).W N R E := by
  refine forL_W (fun done ρ m => I done.length ρ m) h0 (fun done d rest ρ m e hI => ?_) fin
  have h : done.length < xs.length := by rw [e]; simp
  have e2 : xs[done.length] = d := by simp [e]
  have s := step done.length h ρ m hI
  rw [e2] at s
  simpa using s
theorem compL_N {tg : Tg} {c e : Sl → Mem → Res D} {xs : List D} {QL : List D → Mem → Prop} (I : Nat → List D → Mem → Prop) (h0 : I 0 [] m)
    (step : ∀ (j : Nat) (h : j < xs.length) vs m, I j vs m → IsS (bindT m tg xs[j] ρ) fun ρ1 => (c ρ1 m).W (fun x m1 => IsB x fun t => Two t ((e ρ1 m1).W (fun v m2 => I (j + 1) (vs ++ [v]) m2) noE) (I (j + 1) vs m1)) noE)
    (fin : ∀ vs m, I xs.length vs m → QL vs m) : (compL tg ρ c e xs m).W QL noE := by
  refine compL_W (fun done vs m => I done.length vs m) h0 (fun done d rest vs m q hI => ?_) fin
  have h : done.length < xs.length := by rw [q]; simp
  have e2 : xs[done.length] = d := by simp [q]
  have s := step done.length h vs m hI
  rw [e2] at s
  simpa using s
/-- a comprehension that changes nothing -/
theorem compL_pure {tg : Tg} {c e : Sl → Mem → Res D} {xs : List D} (p : D → Bool) (f : D → D) (h : ∀ d ∈ xs, IsS (bindT m tg d ρ) fun ρ1 => (c ρ1 m).W (fun x m1 => x = .bl (p d) ∧ m1 = m) noE ∧ (p d = true → (e ρ1 m).W (fun x m1 => x = f d ∧ m1 = m) noE)) : compL tg ρ c e xs m = .ok ((xs.filter p).map f) m := by
  induction xs with
  | nil => rfl
  | cons d rest ih =>
    obtain ⟨ρ1, h1, h2, h3⟩ := IsS_iff.mp (h d (List.mem_cons_self ..))
    have i := ih fun d hd => h d (List.mem_cons_of_mem _ hd)
    simp only [compL, h1, eq_of_W h2]
    cases q : p d with
    | true =>
      simp only [eq_of_W (h3 q), i, List.filter_cons_of_pos q, List.map_cons]
    | false =>
      simp only [i]
      rw [List.filter_cons_of_neg (by simp [q])]
end
end Br


set_option Elab.async false
set_option linter.all false
set_option maxRecDepth 100000
set_option maxHeartbeats 1000000
set_option autoImplicit false
/-! Br: data, ==, what is frozen; operators by their values. -/
namespace Br
open PySem PySem.Spec PyProof.Rows L2
mutual
/-- no bool, no thing of the store, no script within -/
def D.nice : D → Bool
  | .tup ds => D.nices ds
  | .lst ds => D.nices ds
  | .non => true
  | .int _ => true
  | .str _ => true
  | _ => false
def D.nices : List D → Bool
  | [] => true
  | d :: r => D.nice d && D.nices r
end
mutual
theorem D.nice_pure : ∀ {d : D}, d.nice = true → d.pure = true
  | .non, _ => rfl
  | .bl _, h => by cases h
  | .int _, _ => rfl
  | .str _, _ => rfl
  | .tup ds, h => by
    simp only [D.nice] at h
    simp only [D.pure]
    exact D.nices_pures h
  | .lst ds, h => by
    simp only [D.nice] at h
    simp only [D.pure]
    exact D.nices_pures h
  | .scr _, h => by cases h
  | .ref _, h => by cases h
theorem D.nices_pures : ∀ {ds : List D}, D.nices ds = true → D.pures ds = true
  | [], _ => rfl
  | d :: r, h => by
    simp only [D.nices, Bool.and_eq_true] at h
    simp only [D.pures, Bool.and_eq_true]
    exact ⟨D.nice_pure h.1, D.nices_pures h.2⟩
end
mutual
theorem D.res_pure {g : Nat → Option D} : ∀ {d : D}, d.pure = true → D.res g d = some d
  | .non, _ => rfl
  | .bl _, h => rfl
  | .int _, _ => rfl
  | .str _, _ => rfl
  | .tup ds, h => by
    simp only [D.pure] at h
    simp only [D.res, D.ress_pures h, Option.map_some]
  | .lst ds, h => by
    simp only [D.pure] at h
    simp only [D.res, D.ress_pures h, Option.map_some]
  | .scr _, h => by cases h
  | .ref _, h => by cases h
theorem D.ress_pures {g : Nat → Option D} : ∀ {ds : List D}, D.pures ds = true → D.ress g ds = some ds
  | [], _ => rfl
  | d :: r, h => by
    simp only [D.pures, Bool.and_eq_true] at h
    simp only [D.ress, D.res_pure h.1, D.ress_pures h.2]
end
theorem frz_pure {m : Mem} {k : Nat} {d : D} (h : d.pure = true) : frzD m k d = some d := D.res_pure h
mutual
theorem eqv_nice : ∀ {a b : D}, a.nice = true → b.nice = true → PyData.eqv (toPy a) (toPy b) = decide (a = b)
  | .non, b, _, h => by cases b <;> first | (cases h; done) | simp [toPy, PyData.eqv]
  | .bl _, b, h, _ => by cases h
  | .int _, b, _, h => by cases b <;> first | (cases h; done) | (simp [toPy, PyData.eqv]; try rfl)
  | .str _, b, _, h => by cases b <;> first | (cases h; done) | (simp [toPy, PyData.eqv]; try rfl)
  | .tup ds, b, h1, h => by
    cases b <;> first | (cases h; done) | (simp [toPy, PyData.eqv]; done) | skip
    simp only [D.nice] at h h1
    simp only [toPy, PyData.eqv, eqv_nices h1 h, D.tup.injEq]
  | .lst ds, b, h1, h => by
    cases b <;> first | (cases h; done) | (simp [toPy, PyData.eqv]; done) | skip
    simp only [D.nice] at h h1
    simp only [toPy, PyData.eqv, eqv_nices h1 h, D.lst.injEq]
  | .scr _, b, h, _ => by cases h
  | .ref _, b, h, _ => by cases h
theorem eqv_nices : ∀ {a b : List D}, D.nices a = true → D.nices b = true → PyData.eqvAll (toPys a) (toPys b) = decide (a = b)
  | [], [], _, _ => by simp [toPys, PyData.eqvAll]
  | [], _ :: _, _, _ => by simp [toPys, PyData.eqvAll]
  | _ :: _, [], _, _ => by simp [toPys, PyData.eqvAll]
  | x :: xs, y :: ys, h1, h2 => by
    simp only [D.nices, Bool.and_eq_true] at h1 h2
    simp only [toPys, PyData.eqvAll, eqv_nice h1.1 h2.1, eqv_nices h1.2 h2.2]
    rw [Bool.eq_iff_iff]
    simp
end
mutual
theorem eqv_refl : ∀ {a : D}, a.pure = true → PyData.eqv (toPy a) (toPy a) = true
  | .non, h => by simp [toPy, PyData.eqv]
  | .bl _, h => by simp [toPy, PyData.eqv]
  | .int _, h => by simp [toPy, PyData.eqv]
  | .str _, h => by simp [toPy, PyData.eqv]
  | .tup ds, h => by
    simp only [D.pure] at h
    simp only [toPy, PyData.eqv, eqvs_refl h]
  | .lst ds, h => by
    simp only [D.pure] at h
    simp only [toPy, PyData.eqv, eqvs_refl h]
  | .scr _, h => by cases h
  | .ref _, h => by cases h
theorem eqvs_refl : ∀ {a : List D}, D.pures a = true → PyData.eqvAll (toPys a) (toPys a) = true
  | [], _ => by simp [toPys, PyData.eqvAll]
  | x :: xs, h1 => by
    simp only [D.pures, Bool.and_eq_true] at h1
    simp only [toPys, PyData.eqvAll, eqv_refl h1.1, eqvs_refl h1.2, Bool.and_self]
end
theorem eqD_nice {m : Mem} {a b : D} (ha : a.nice = true) (hb : b.nice = true) (da : a.dep ≤ 64) (db : b.dep ≤ 64) : eqD m a b = some (decide (a = b)) := by
  unfold eqD
  rw [frz_pure (D.nice_pure ha), frz_pure (D.nice_pure hb)]
  simp only [D.nice_pure ha, D.nice_pure hb, da, db, and_self, if_true, eqv_nice ha hb]
theorem eqD_same {m : Mem} {a b d : D} (ha : frzD m 0 a = some d) (hb : frzD m 0 b = some d) (hp : d.pure = true) (hd : d.dep ≤ 64) : eqD m a b = some true := by
  unfold eqD
  rw [ha, hb]
  simp only [hp, hd, and_self, if_true, eqv_refl hp]
section
variable {m : Mem} {i j : Int} {s t : Str} {a b : List D} {x y : D}
@[simp] theorem bin_add : binD .add (.int i) (.int j) = some (.int (i + j)) := rfl
@[simp] theorem bin_sub : binD .sub (.int i) (.int j) = some (.int (i - j)) := rfl
@[simp] theorem bin_addL : binD .add (.lst a) (.lst b) = if a.length + b.length ≤ big then some (.lst (a ++ b)) else none := rfl
@[simp] theorem bin_addT : binD .add (.tup a) (.tup b) = if a.length + b.length ≤ big then some (.tup (a ++ b)) else none := rfl
@[simp] theorem bin_addS : binD .add (.str s) (.str t) = if s.length + t.length ≤ big then some (.str (s ++ t)) else none := rfl
@[simp] theorem bin_mul : binD .mul (.int i) (.int j) = if (-(2 ^ 64) < i ∧ i < 2 ^ 64) ∨ (-(2 ^ 64) < j ∧ j < 2 ^ 64) then some (.int (i * j)) else none := rfl
@[simp] theorem bin_fdiv : binD .fdiv (.int i) (.int j) = if j ≠ 0 ∧ j.natAbs < 1073741824 then some (.int (i.fdiv j)) else none := rfl
@[simp] theorem bin_mod : binD .mod (.int i) (.int j) = if j ≠ 0 then some (.int (i.fmod j)) else none := rfl
@[simp] theorem bin_pow : binD .pow (.int i) (.int j) = if 0 ≤ j ∧ j ≤ 1000000 ∧ i.natAbs < 2 ^ 64 then some (.int (i ^ j.toNat)) else none := rfl
@[simp] theorem cmp_lt : cmpD m .lt (.int i) (.int j) = some (decide (i < j)) := rfl
@[simp] theorem cmp_le : cmpD m .le (.int i) (.int j) = some (decide (i ≤ j)) := rfl
@[simp] theorem cmp_gt : cmpD m .gt (.int i) (.int j) = some (decide (j < i)) := rfl
@[simp] theorem cmp_ge : cmpD m .ge (.int i) (.int j) = some (decide (j ≤ i)) := rfl
@[simp] theorem cmp_isn : cmpD m .isn x .non = some (decide (x = .non)) := rfl
@[simp] theorem cmp_notn : cmpD m .notn x .non = some (!decide (x = .non)) := rfl
@[simp] theorem cmp_inn : cmpD m .inn x y = inD m x y := rfl
@[simp] theorem cmp_nin : cmpD m .nin x y = (inD m x y).map (!·) := rfl
@[simp] theorem cmp_eqi : cmpD m .eq (.int i) (.int j) = some (decide (i = j)) := by
  show eqD m (.int i) (.int j) = _
  rw [eqD_nice rfl rfl (by simp [D.dep]) (by simp [D.dep])]
  simp
@[simp] theorem cmp_nei : cmpD m .ne (.int i) (.int j) = some (!decide (i = j)) := by
  show (eqD m (.int i) (.int j)).map _ = _
  rw [eqD_nice rfl rfl (by simp [D.dep]) (by simp [D.dep])]
  simp
@[simp] theorem cmp_eqs : cmpD m .eq (.str s) (.str t) = some (decide (s = t)) := by
  show eqD m (.str s) (.str t) = _
  rw [eqD_nice rfl rfl (by simp [D.dep]) (by simp [D.dep])]
  simp
@[simp] theorem cmp_nes : cmpD m .ne (.str s) (.str t) = some (!decide (s = t)) := by
  show (eqD m (.str s) (.str t)).map _ = _
  rw [eqD_nice rfl rfl (by simp [D.dep]) (by simp [D.dep])]
  simp
@[simp] theorem cmp_eqb {b c : Bool} : cmpD m .eq (.bl b) (.bl c) = some (b == c) := by
  show eqD m (.bl b) (.bl c) = _
  unfold eqD
  rw [frz_pure rfl, frz_pure rfl]
  simp [D.pure, D.dep, toPy, PyData.eqv]
@[simp] theorem cmp_neb {b c : Bool} : cmpD m .ne (.bl b) (.bl c) = some (!(b == c)) := by
  show (eqD m (.bl b) (.bl c)).map _ = _
  unfold eqD
  rw [frz_pure rfl, frz_pure rfl]
  simp [D.pure, D.dep, toPy, PyData.eqv]
theorem cmp_eqn (ha : x.nice = true) (hb : y.nice = true) (da : x.dep ≤ 64) (db : y.dep ≤ 64) : cmpD m .eq x y = some (decide (x = y)) := eqD_nice ha hb da db
theorem cmp_nen (ha : x.nice = true) (hb : y.nice = true) (da : x.dep ≤ 64) (db : y.dep ≤ 64) : cmpD m .ne x y = some (!decide (x = y)) := by
  show (eqD m _ _).map _ = _
  rw [eqD_nice ha hb da db]
  simp
end
theorem ixN_lt {n k : Nat} (h : k < n) : ixN n (k : Int) = some k := by
  unfold ixN
  rw [if_pos (by omega), if_pos (by omega)]
  simp
theorem atI_cast {α : Type} {xs : List α} {k : Nat} : atI xs (k : Int) = xs[k]? := by
  unfold atI
  by_cases h : k < xs.length
  · rw [ixN_lt h]
    rfl
  · unfold ixN
    rw [if_pos (by omega), if_neg (by omega)]
    rw [List.getElem?_eq_none (by omega)]
    rfl
theorem atI_get {α : Type} {xs : List α} {i : Int} {k : Nat} (h : i = k) : atI xs i = xs[k]? := by rw [h, atI_cast]
@[simp] theorem atI_zero {α : Type} {xs : List α} : atI xs 0 = xs[0]? := atI_get rfl
@[simp] theorem atI_one {α : Type} {xs : List α} : atI xs 1 = xs[1]? := atI_get rfl
@[simp] theorem atI_2 {α : Type} {xs : List α} : atI xs 2 = xs[2]? := atI_get rfl
@[simp] theorem atI_3 {α : Type} {xs : List α} : atI xs 3 = xs[3]? := atI_get rfl
@[simp] theorem atI_4 {α : Type} {xs : List α} : atI xs 4 = xs[4]? := atI_get rfl
@[simp] theorem atI_5 {α : Type} {xs : List α} : atI xs 5 = xs[5]? := atI_get rfl
@[simp] theorem atI_6 {α : Type} {xs : List α} : atI xs 6 = xs[6]? := atI_get rfl
@[simp] theorem atI_7 {α : Type} {xs : List α} : atI xs 7 = xs[7]? := atI_get rfl
@[simp] theorem atI_8 {α : Type} {xs : List α} : atI xs 8 = xs[8]? := atI_get rfl
@[simp] theorem atI_9 {α : Type} {xs : List α} : atI xs 9 = xs[9]? := atI_get rfl
@[simp] theorem atI_10 {α : Type} {xs : List α} : atI xs 10 = xs[10]? := atI_get rfl
@[simp] theorem atI_11 {α : Type} {xs : List α} : atI xs 11 = xs[11]? := atI_get rfl
section
variable {m : Mem} {i : Int} {ds : List D} {k : D} {n : Nat} {ns : List Int} {b : Bool} {s : Str}
@[simp] theorem idx_tup : idxD m (.tup ds) (.int i) = atI ds i := rfl
@[simp] theorem idx_lst : idxD m (.lst ds) (.int i) = atI ds i := rfl
@[simp] theorem idx_scr : idxD m (.scr ns) (.int i) = atI (ns.map .int) i := rfl
theorem idx_refL (h : m[n]? = some (.lst ds)) : idxD m (.ref n) (.int i) = atI ds i := by simp [idxD, h]
@[simp] theorem items_tup : itemsD m (.tup ds) = some ds := rfl
@[simp] theorem items_lst : itemsD m (.lst ds) = some ds := rfl
@[simp] theorem items_scr : itemsD m (.scr ns) = some (ns.map .int) := rfl
@[simp] theorem len_tup : lenD m (.tup ds) = some ds.length := rfl
@[simp] theorem len_lst : lenD m (.lst ds) = some ds.length := rfl
@[simp] theorem len_scr : lenD m (.scr ns) = some ns.length := by simp [lenD]
theorem len_refL (h : m[n]? = some (.lst ds)) : lenD m (.ref n) = some ds.length := by simp [lenD, h]
@[simp] theorem fn_len {d : D} {Q : D → Mem → Prop} {E : XQ} : (fnD m .len [d]).W Q E ↔ IsS (lenD m d) fun n => Q (.int n) m := by
  simp only [fnD]
  cases lenD m d <;> simp
@[simp] theorem fn_list {d : D} {Q : D → Mem → Prop} {E : XQ} : (fnD m .list [d]).W Q E ↔ IsS (itemsD m d) fun n => Q (.lst n) m := by
  simp only [fnD]
  cases itemsD m d <;> simp
@[simp] theorem fn_tuple {d : D} {Q : D → Mem → Prop} {E : XQ} : (fnD m .tuple [d]).W Q E ↔ IsS (itemsD m d) fun n => Q (.tup n) m := by
  simp only [fnD]
  cases itemsD m d <;> simp
@[simp] theorem fn_sorted {d : D} {Q : D → Mem → Prop} {E : XQ} : (fnD m .sorted [d]).W Q E ↔ IsS (keysD m d) fun l => IsS (intsD l) fun ns => Q (.lst ((sortI ns).map .int)) m := by
  simp only [fnD]
  cases keysD m d with
  | none => simp
  | some l => simp only [Option.bind_some, IsS_some]; cases intsD l <;> simp
@[simp] theorem fn_sortedSet {d : D} {Q : D → Mem → Prop} {E : XQ} : (fnD m .sortedSet [d]).W Q E ↔ IsS (lstD m d) fun l => IsS (intsD l) fun ns => ns.length ≤ 4000 ∧ Q (.lst ((sortI (dedI ns)).map .int)) m := by
  simp only [fnD]
  cases lstD m d with
  | none => simp
  | some l =>
    simp only [Option.bind_some, IsS_some]
    cases intsD l with
    | none => simp
    | some ns => by_cases h : ns.length ≤ 4000 <;> simp [h]
@[simp] theorem fn_min {d : D} {Q : D → Mem → Prop} {E : XQ} : (fnD m .min [d]).W Q E ↔ IsS (lstD m d) fun l => IsS (intsD l) fun ns => IsS (minI ns) fun n => Q (.int n) m := by
  simp only [fnD]
  cases lstD m d with
  | none => simp
  | some l =>
    simp only [Option.bind_some, IsS_some]
    cases intsD l with
    | none => simp
    | some ns => simp only [Option.bind_some, IsS_some]; cases minI ns <;> simp
@[simp] theorem fn_max {d : D} {Q : D → Mem → Prop} {E : XQ} : (fnD m .max [d]).W Q E ↔ IsS (lstD m d) fun l => IsS (intsD l) fun ns => IsS (maxI ns) fun n => Q (.int n) m := by
  simp only [fnD]
  cases lstD m d with
  | none => simp
  | some l =>
    simp only [Option.bind_some, IsS_some]
    cases intsD l with
    | none => simp
    | some ns => simp only [Option.bind_some, IsS_some]; cases maxI ns <;> simp
@[simp] theorem fn_sum {d : D} {Q : D → Mem → Prop} {E : XQ} : (fnD m .sum [d]).W Q E ↔ IsS (lstD m d) fun l => IsS (intsD l) fun ns => Q (.int ns.sum) m := by
  simp only [fnD]
  cases lstD m d with
  | none => simp
  | some l => simp only [Option.bind_some, IsS_some]; cases intsD l <;> simp
@[simp] theorem fn_min2 {i j : Int} {Q : D → Mem → Prop} {E : XQ} : (fnD m .min2 [.int i, .int j]).W Q E ↔ Q (.int (if j < i then j else i)) m := Iff.rfl
@[simp] theorem fn_max2 {i j : Int} {Q : D → Mem → Prop} {E : XQ} : (fnD m .max2 [.int i, .int j]).W Q E ↔ Q (.int (if j > i then j else i)) m := Iff.rfl
@[simp] theorem fn_intb {Q : D → Mem → Prop} {E : XQ} : (fnD m .int [.bl b]).W Q E ↔ Q (.int (if b then 1 else 0)) m := Iff.rfl
@[simp] theorem fn_dict {d : D} {Q : D → Mem → Prop} {E : XQ} : (fnD m .dict [d]).W Q E ↔ IsS (lstD m d) fun l => IsS (pairsD l) fun ps => Q (.ref m.length) (m ++ [.dct (ps.foldl (fun a p => putK a p.1 p.2) [])]) := by
  simp only [fnD]
  cases lstD m d with
  | none => simp
  | some l => simp only [Option.bind_some, IsS_some]; cases pairsD l <;> simp
@[simp] theorem lst_lst : lstD m (.lst ds) = some ds := rfl
@[simp] theorem lst_scr : lstD m (.scr ns) = some (ns.map .int) := rfl
theorem lst_ref (h : m[n]? = some (.lst ds)) : lstD m (.ref n) = some ds := by simp [lstD, h]
@[simp] theorem keys_lst : keysD m (.lst ds) = some ds := rfl
@[simp] theorem ints_map : intsD (ns.map .int) = some ns := by
  induction ns with
  | nil => rfl
  | cons i r ih => simp [intsD, ih]
@[simp] theorem ints_map' {α : Type} {l : List α} {f : α → Int} : intsD (l.map fun x => .int (f x)) = some (l.map f) := by
  induction l with
  | nil => rfl
  | cons i r ih => simp [intsD, ih]
theorem ints_app {a b : List D} {x y : List Int} (ha : intsD a = some x) (hb : intsD b = some y) : intsD (a ++ b) = some (x ++ y) := by
  induction a generalizing x with
  | nil =>
    simp only [intsD, Option.some.injEq] at ha
    subst ha
    exact hb
  | cons d r ih =>
    cases d with
    | int i =>
      simp only [intsD, Option.map_eq_some_iff] at ha
      obtain ⟨z, h1, rfl⟩ := ha
      simp only [List.cons_append, intsD, ih h1, Option.map_some]
    | _ => simp [intsD] at ha
@[simp] theorem ty_non {t : Ty} : isTy m .non t = some false := rfl
@[simp] theorem ty_bl_bool : isTy m (.bl b) .bool = some true := rfl
@[simp] theorem ty_bl_int : isTy m (.bl b) .int = some true := rfl
@[simp] theorem ty_bl_str : isTy m (.bl b) .str = some false := rfl
@[simp] theorem ty_bl_list : isTy m (.bl b) .list = some false := rfl
@[simp] theorem ty_bl_tuple : isTy m (.bl b) .tuple = some false := rfl
@[simp] theorem ty_int_bool : isTy m (.int i) .bool = some false := rfl
@[simp] theorem ty_int_int : isTy m (.int i) .int = some true := rfl
@[simp] theorem ty_int_str : isTy m (.int i) .str = some false := rfl
@[simp] theorem ty_int_list : isTy m (.int i) .list = some false := rfl
@[simp] theorem ty_int_tuple : isTy m (.int i) .tuple = some false := rfl
@[simp] theorem ty_str_bool : isTy m (.str s) .bool = some false := rfl
@[simp] theorem ty_str_int : isTy m (.str s) .int = some false := rfl
@[simp] theorem ty_str_str : isTy m (.str s) .str = some true := rfl
@[simp] theorem ty_str_list : isTy m (.str s) .list = some false := rfl
@[simp] theorem ty_str_tuple : isTy m (.str s) .tuple = some false := rfl
@[simp] theorem ty_tup_bool : isTy m (.tup ds) .bool = some false := rfl
@[simp] theorem ty_tup_int : isTy m (.tup ds) .int = some false := rfl
@[simp] theorem ty_tup_str : isTy m (.tup ds) .str = some false := rfl
@[simp] theorem ty_tup_list : isTy m (.tup ds) .list = some false := rfl
@[simp] theorem ty_tup_tuple : isTy m (.tup ds) .tuple = some true := rfl
@[simp] theorem ty_lst_bool : isTy m (.lst ds) .bool = some false := rfl
@[simp] theorem ty_lst_int : isTy m (.lst ds) .int = some false := rfl
@[simp] theorem ty_lst_str : isTy m (.lst ds) .str = some false := rfl
@[simp] theorem ty_lst_list : isTy m (.lst ds) .list = some true := rfl
@[simp] theorem ty_lst_tuple : isTy m (.lst ds) .tuple = some false := rfl
@[simp] theorem ty_scr_list : isTy m (.scr ns) .list = some true := rfl
@[simp] theorem anyTy_nil {d : D} : anyTy m d [] = some false := rfl
@[simp] theorem anyTy_one {d : D} {t : Ty} : anyTy m d [t] = isTy m d t := by
  unfold anyTy
  cases isTy m d t <;> simp
theorem ty_refL (h : m[n]? = some (.lst ds)) {t : Ty} : isTy m (.ref n) t = some (t == .list) := by simp [isTy, h]
theorem anyTy_two {d : D} {t u : Ty} {a b : Bool} (h1 : isTy m d t = some a) (h2 : isTy m d u = some b) : anyTy m d [t, u] = some (a || b) := by
  simp [anyTy, h1, h2]
theorem walk_rng1i {j : Int} (h0 : 0 ≤ j) (h : j ≤ big) : walkD m .rng1 [.int j] = some ((List.range j.toNat).map fun (i : Nat) => D.int (i : Int)) := by
  unfold walkD
  simp only
  rw [if_pos ⟨by omega, h⟩]
theorem walk_rng1n {n : Nat} (h : n ≤ big) : walkD m .rng1 [.int (n : Int)] = some ((List.range n).map fun (i : Nat) => D.int (i : Int)) := walk_rng1i (by omega) (by omega)
theorem walk_rng1 {j : Int} : walkD m .rng1 [.int j] = if -(2 ^ 62) ≤ j ∧ j ≤ big then some ((List.range j.toNat).map fun (i : Nat) => D.int (i : Int)) else none := rfl
theorem walk_rng2i {i j : Int} (h1 : -100000 ≤ i) (h2 : i < 100000) (h3 : -100000 ≤ j) (h4 : j < 100000) : walkD m .rng2 [.int i, .int j] = some ((List.range (j - i).toNat).map fun (n : Nat) => D.int (i + (n : Int))) := by
  unfold walkD
  simp only
  have e : (2 : Int) ^ 62 = 4611686018427387904 := by decide
  rw [e, if_pos ⟨by omega, by omega, by omega, by omega, by simp only [big]; omega⟩]
theorem walk_rng2 {i j : Int} : walkD m .rng2 [.int i, .int j] = if -(2 ^ 62) ≤ i ∧ i < 2 ^ 62 ∧ -(2 ^ 62) ≤ j ∧ j < 2 ^ 62 ∧ (j - i).toNat ≤ big then some ((List.range (j - i).toNat).map fun (n : Nat) => D.int (i + (n : Int))) else none := rfl
@[simp] theorem walk_enum : walkD m .enum [.lst ds] = some (ds.zipIdx.map fun p => .tup [.int p.2, p.1]) := rfl
@[simp] theorem walk_lst : walkD m .seq [.lst ds] = some ds := rfl
@[simp] theorem walk_tup : walkD m .seq [.tup ds] = some ds := rfl
@[simp] theorem walk_scr : walkD m .seq [.scr ns] = some (ns.map .int) := rfl
@[simp] theorem part_nil : partOf [] = some none := rfl
@[simp] theorem part_one : partOf [.int i] = some (some i) := rfl
@[simp] theorem sli_tup {lo hi : Option Int} : sliD m (.tup ds) lo hi = some (.tup (cutD ds lo hi)) := rfl
@[simp] theorem sli_lst {lo hi : Option Int} : sliD m (.lst ds) lo hi = some (.lst (cutD ds lo hi)) := rfl
@[simp] theorem bind_one {j : Nat} {d : D} {ρ : Sl} : bindT m (.one j) d ρ = some (ρ.set j (some d)) := rfl
@[simp] theorem bind_two {i j : Nat} {a b : D} {ρ : Sl} : bindT m (.tup [i, j]) (.tup [a, b]) ρ = some ((ρ.set i (some a)).set j (some b)) := rfl
@[simp] theorem bind_three {i j k : Nat} {a b c : D} {ρ : Sl} : bindT m (.tup [i, j, k]) (.tup [a, b, c]) ρ = some (((ρ.set i (some a)).set j (some b)).set k (some c)) := rfl
@[simp] theorem key_int : keyD (.int i) = some (.inl i) := rfl
@[simp] theorem key_str : keyD (.str s) = some (.inr s) := rfl
theorem refL_mk (h : m[n]? = some (.lst ds)) : refL m (.ref n) = true := by simp [refL, h]
theorem refK_mk {kvs : List (Key × D)} (h : m[n]? = some (.dct kvs)) : refK m (.ref n) = true := by simp [refK, h]
theorem lm_append {d : D} (h : m[n]? = some (.lst ds)) (hb : ds.length < big) : lmD m .append (.ref n) [d] = some (m.set n (.lst (ds ++ [d]))) := by simp [lmD, h, hb]
theorem lm_reverse (h : m[n]? = some (.lst ds)) : lmD m .reverse (.ref n) [] = some (m.set n (.lst ds.reverse)) := by simp [lmD, h]
theorem put_lst {d : D} {j : Nat} (h : m[n]? = some (.lst ds)) (hj : j < ds.length) : putD m (.ref n) (.int j) d = some (m.set n (.lst (ds.set j d))) := by simp [putD, h, ixN_lt hj]
theorem compL_map {α : Type} {tg : Tg} {ρ : Sl} {c e : Sl → Mem → Res D} {l : List α} {Fm G : α → D} (h : ∀ x ∈ l, IsS (bindT m tg (Fm x) ρ) fun ρ1 => (c ρ1 m).W (fun y m1 => y = .bl true ∧ m1 = m) noE ∧ (e ρ1 m).W (fun y m1 => y = G x ∧ m1 = m) noE) : compL tg ρ c e (l.map Fm) m = .ok (l.map G) m := by
  induction l with
  | nil => rfl
  | cons x r ih =>
    obtain ⟨ρ1, h1, h2, h3⟩ := IsS_iff.mp (h x (List.mem_cons_self ..))
    have i := ih fun d hd => h d (List.mem_cons_of_mem _ hd)
    simp only [List.map_cons, compL, h1, eq_of_W h2, eq_of_W h3, i]
/-- a comprehension with a test that changes nothing -/
theorem compL_fm {α : Type} {tg : Tg} {ρ : Sl} {c e : Sl → Mem → Res D} {l : List α} {Fm G : α → D} {p : α → Bool} (h : ∀ x ∈ l, IsS (bindT m tg (Fm x) ρ) fun ρ1 => (c ρ1 m).W (fun y m1 => y = .bl (p x) ∧ m1 = m) noE ∧ (p x = true → (e ρ1 m).W (fun y m1 => y = G x ∧ m1 = m) noE)) : compL tg ρ c e (l.map Fm) m = .ok ((l.filter p).map G) m := by
  induction l with
  | nil => rfl
  | cons x r ih =>
    obtain ⟨ρ1, h1, h2, h3⟩ := IsS_iff.mp (h x (List.mem_cons_self ..))
    have i := ih fun d hd => h d (List.mem_cons_of_mem _ hd)
    cases q : p x with
    | true => simp only [List.map_cons, compL, h1, eq_of_W h2, eq_of_W (h3 q), i, q, List.filter_cons_of_pos]
    | false =>
      rw [List.filter_cons_of_neg (by simp [q])]
      simp only [List.map_cons, compL, h1, eq_of_W h2, i, q]
theorem inD_ints {α : Type} {l : List α} {f : α → Int} {k : Int} : inD m (.int k) (.lst (l.map fun x => .int (f x))) = some (decide (k ∈ l.map f)) := by
  have h1 : (l.map fun x => D.int (f x)).all flatD = true := by simp [flatD]
  show (if flatD (.int k) = true ∧ (l.map fun x => D.int (f x)).all flatD = true then some ((l.map fun x => D.int (f x)).any fun y => eqF y (.int k)) else none) = _
  rw [if_pos ⟨rfl, h1⟩]
  congr 1
  induction l with
  | nil => rfl
  | cons x r ih =>
    have e0 : ∀ a : Int, eqF (.int a) (.int k) = (a == k) := fun _ => rfl
    simp only [List.map_cons, List.any_cons, e0, ih (by simp [flatD])]
    rw [Bool.eq_iff_iff, Bool.or_eq_true]
    simp only [beq_iff_eq, decide_eq_true_eq, List.mem_cons]
    constructor
    · rintro (e | e)
      · exact .inl e.symm
      · exact .inr e
    · rintro (e | e)
      · exact .inl e.symm
      · exact .inr e
theorem compL_none {tg : Tg} {ρ : Sl} {c e : Sl → Mem → Res D} {xs : List D} (h : ∀ (j : Nat) (h : j < xs.length), IsS (bindT m tg xs[j] ρ) fun ρ1 => (c ρ1 m).W (fun x m1 => x = .bl false ∧ m1 = m) noE) : compL tg ρ c e xs m = .ok [] m := by
  rw [compL_pure (fun _ => false) id]
  · rw [List.filter_eq_nil_iff.mpr (by simp)]
    rfl
  · intro d hd
    obtain ⟨j, hj, rfl⟩ := List.mem_iff_getElem.mp hd
    obtain ⟨x, hx, h2⟩ := IsS_iff.mp (h j hj)
    exact IsS_iff.mpr ⟨x, hx, h2, by simp⟩
@[simp] theorem cmp_ne_nil : cmpD m .ne (.lst []) (.lst []) = some false := by
  rw [cmp_nen rfl rfl (by simp [D.dep, D.deps]) (by simp [D.dep, D.deps])]
  simp
@[simp] theorem cmp_eq_nil : cmpD m .eq (.lst []) (.lst []) = some true := by
  rw [cmp_eqn rfl rfl (by simp [D.dep, D.deps]) (by simp [D.dep, D.deps])]
  simp
end
@[simp] theorem mem0 {α : Type} {m r : List α} {A : α} : (m ++ A :: r)[m.length]? = some A := by simp
@[simp] theorem mem1 {α : Type} {m r : List α} {A B : α} : (m ++ A :: B :: r)[m.length + 1]? = some B := by
  rw [List.getElem?_append_right (by omega)]
  simp
@[simp] theorem mset0 {α : Type} {m r : List α} {A X : α} : (m ++ A :: r).set m.length X = m ++ X :: r := by
  rw [List.set_append_right _ _ (Nat.le_refl _)]
  simp
@[simp] theorem mset1 {α : Type} {m r : List α} {A B X : α} : (m ++ A :: B :: r).set (m.length + 1) X = m ++ A :: X :: r := by
  rw [List.set_append_right _ _ (by omega)]
  simp
@[simp] theorem big_eq : big = 1000000 := rfl
end Br


set_option Elab.async false
set_option linter.all false
set_option maxRecDepth 100000
set_option maxHeartbeats 1000000
set_option autoImplicit false
/-! what the laws have in common: draws, sameness, numbers. -/
namespace BrK
open PySem PySem.Spec PyProof.Rows L2 Br
def b_is_number : Sms := (Sms.cons (Sm.ret (Ex.and (Ex.isin (Ex.var 0) [Ty.int]) (Ex.and (Ex.not (Ex.isin (Ex.var 0) [Ty.bool])) (Ex.chain Cop.le Cop.le (Ex.var 1) (Ex.var 0) (Ex.var 2)))))
 Sms.nil)
def d_is_number : Def := ⟨3, 3, b_is_number⟩
def b__law_start : Sms := (Sms.cons (Sm.asg (Tg.one 1) (Ex.cst (D.int 1)))
 (Sms.cons (Sm.for (Tg.one 2) Wk.seq (Exs.cons (Ex.var 0) Exs.nil) (Sms.cons (Sm.asg (Tg.one 1) (Ex.bin Bop.mod (Ex.bin Bop.add (Ex.bin Bop.add (Ex.bin Bop.mul (Ex.var 1) (Ex.cst (D.int 48271))) (Ex.var 2)) (Ex.cst (D.int 7))) (Ex.cst (D.int 2147483647))))
 Sms.nil))
 (Sms.cons (Sm.ret (Ex.lst false (Exs.cons (Ex.var 0) (Exs.cons (Ex.cst (D.int 0)) (Exs.cons (Ex.var 1) (Exs.cons (Ex.cst (D.int 0)) Exs.nil))))))
 Sms.nil)))
def d__law_start : Def := ⟨1, 3, b__law_start⟩
def b__law_drawn : Sms := (Sms.cons (Sm.iff (Ex.cmp Cop.gt (Ex.idx (Ex.var 0) (Ex.cst (D.int 3))) (Ex.cst (D.int 0))) (Sms.cons (Sm.asg (Tg.one 2) (Ex.bin Bop.mod (Ex.idx (Ex.var 0) (Ex.cst (D.int 3))) (Ex.var 1)))
 (Sms.cons (Sm.put (Ex.var 0) (Ex.cst (D.int 3)) (Ex.bin Bop.fdiv (Ex.idx (Ex.var 0) (Ex.cst (D.int 3))) (Ex.var 1)))
 (Sms.cons (Sm.ret (Ex.var 2))
 Sms.nil))) Sms.nil)
 (Sms.cons (Sm.put (Ex.var 0) (Ex.cst (D.int 1)) (Ex.bin Bop.add (Ex.idx (Ex.var 0) (Ex.cst (D.int 1))) (Ex.cst (D.int 1))))
 (Sms.cons (Sm.iff (Ex.cmp Cop.le (Ex.idx (Ex.var 0) (Ex.cst (D.int 1))) (Ex.fn Fn.len (Exs.cons (Ex.idx (Ex.var 0) (Ex.cst (D.int 0))) Exs.nil))) (Sms.cons (Sm.asg (Tg.one 3) (Ex.idx (Ex.idx (Ex.var 0) (Ex.cst (D.int 0))) (Ex.bin Bop.sub (Ex.idx (Ex.var 0) (Ex.cst (D.int 1))) (Ex.cst (D.int 1)))))
 (Sms.cons (Sm.put (Ex.var 0) (Ex.cst (D.int 3)) (Ex.ite (Ex.cmp Cop.ge (Ex.var 3) (Ex.bin Bop.pow (Ex.cst (D.int 10)) (Ex.cst (D.int 18)))) (Ex.bin Bop.fdiv (Ex.var 3) (Ex.var 1)) (Ex.cst (D.int 0))))
 (Sms.cons (Sm.ret (Ex.bin Bop.mod (Ex.var 3) (Ex.var 1)))
 Sms.nil))) Sms.nil)
 (Sms.cons (Sm.put (Ex.var 0) (Ex.cst (D.int 2)) (Ex.bin Bop.mod (Ex.bin Bop.add (Ex.bin Bop.mul (Ex.idx (Ex.var 0) (Ex.cst (D.int 2))) (Ex.cst (D.int 48271))) (Ex.cst (D.int 11))) (Ex.cst (D.int 2147483647))))
 (Sms.cons (Sm.ret (Ex.bin Bop.mod (Ex.bin Bop.fdiv (Ex.idx (Ex.var 0) (Ex.cst (D.int 2))) (Ex.cst (D.int 7))) (Ex.var 1)))
 Sms.nil)))))
def d__law_drawn : Def := ⟨2, 4, b__law_drawn⟩
def b__law_same : Sms := (Sms.cons (Sm.iff (Ex.isin (Ex.var 1) [Ty.tuple, Ty.list]) (Sms.cons (Sm.iff (Ex.or (Ex.not (Ex.isin (Ex.var 0) [Ty.tuple, Ty.list])) (Ex.cmp Cop.ne (Ex.isin (Ex.var 0) [Ty.list]) (Ex.isin (Ex.var 1) [Ty.list]))) (Sms.cons (Sm.ret (Ex.cst (D.bl false)))
 Sms.nil) Sms.nil)
 (Sms.cons (Sm.iff (Ex.cmp Cop.ne (Ex.fn Fn.len (Exs.cons (Ex.var 0) Exs.nil)) (Ex.fn Fn.len (Exs.cons (Ex.var 1) Exs.nil))) (Sms.cons (Sm.ret (Ex.cst (D.bl false)))
 Sms.nil) Sms.nil)
 (Sms.cons (Sm.ret (Ex.cmp Cop.eq (Ex.comp [("_law_k", 3)] (Tg.one 3) Wk.rng1 (Exs.cons (Ex.fn Fn.len (Exs.cons (Ex.var 1) Exs.nil)) Exs.nil) (Exs.cons (Ex.not (Ex.call "_law_same" (Exs.cons (Ex.idx (Ex.var 0) (Ex.var 3)) (Exs.cons (Ex.idx (Ex.var 1) (Ex.var 3)) Exs.nil)))) Exs.nil) (Ex.var 3)) (Ex.lst true Exs.nil)))
 Sms.nil))) Sms.nil)
 (Sms.cons (Sm.asg (Tg.one 2) (Ex.and (Ex.cmp Cop.eq (Ex.isin (Ex.var 0) [Ty.bool]) (Ex.isin (Ex.var 1) [Ty.bool])) (Ex.cmp Cop.eq (Ex.isin (Ex.var 0) [Ty.int]) (Ex.isin (Ex.var 1) [Ty.int]))))
 (Sms.cons (Sm.ret (Ex.and (Ex.var 2) (Ex.cmp Cop.eq (Ex.var 0) (Ex.var 1))))
 Sms.nil)))
def d__law_same : Def := ⟨2, 4, b__law_same⟩
abbrev Has (T : List (Str × Def)) (x : Str) (d : Def) : Prop := T.lookup x = some d
section
variable {T : List (Str × Def)} {g : Str → Option D} {wf n : Nat} {m : Mem}
theorem is_number_int (ht : Has T "is_number" d_is_number) (i lo hi : Int) : callN T g wf (n + 1) "is_number" [.int i, .int lo, .int hi] m = .ok (.bl (decide (lo ≤ i ∧ i ≤ hi))) m := by
  refine eq_of_W (W_run ht rfl (wcons ?_))
  by_cases h1 : lo ≤ i <;> by_cases h2 : i ≤ hi <;> simp [d_is_number, h1, h2]
def St (ns : List Int) (rest : Mem) (m : Mem) : Prop := ∃ a b c : Int, 0 ≤ a ∧ m = .lst [.scr ns, .int a, .int b, .int c] :: rest
theorem fmod_lt {a k : Int} (h : 0 < k) : 0 ≤ a.fmod k ∧ a.fmod k < k := ⟨Int.fmod_nonneg_of_pos a h, Int.fmod_lt_of_pos a h⟩
theorem drawn {ns : List Int} {rest : Mem} (ht : Has T "_law_drawn" d__law_drawn) (hs : St ns rest m) {k : Int} (h0 : 0 < k) (h1 : k < 1073741824) :
    (callN T g wf (n + 1) "_law_drawn" [.ref 0, .int k] m).W (fun d m' => ∃ i : Int, d = .int i ∧ 0 ≤ i ∧ i < k ∧ St ns rest m') noE := by
  obtain ⟨a, b, c, ha, rfl⟩ := hs
  have hk : k ≠ 0 := by omega
  have hk2 : k.natAbs < 1073741824 := by omega
  refine W_run ht rfl (wcons ?_)
  by_cases hc : 0 < c
  · simp [d__law_drawn, idxD, atI, ixN, hc]
    refine wcons ?_
    simp [idxD, hc, hk]
    refine wcons ?_
    simp [idxD, hc, hk, hk2, putD, ixN]
    refine wcons ?_
    simp
    exact ⟨(fmod_lt h0).1, (fmod_lt h0).2, a, b, _, ha, rfl⟩
  · simp [d__law_drawn, idxD, atI, ixN, hc]
    refine wcons ?_
    simp [idxD, putD, ixN]
    refine wcons ?_
    simp [idxD]
    refine ⟨fun hl => ?_, fun hl => ?_⟩
    · refine wcons ?_
      simp [idxD, -List.getElem?_map]
      obtain ⟨j, rfl⟩ := Int.eq_ofNat_of_zero_le ha
      rw [atI_cast]
      have hj : j < ns.length := by omega
      simp [List.getElem?_eq_getElem hj]
      refine wcons ?_
      simp [idxD, putD, ixN, hk, hk2]
      have fin : ∀ (N : Sl → Mem → Prop) (x : Int), (evSs ⟨callN T g wf n, g, wf⟩ (Sms.cons (Sm.ret (Ex.bin Bop.mod (Ex.var 3) (Ex.var 1))) Sms.nil) [some (D.ref 0), some (D.int k), none, some (D.int ns[j])] (O.lst [D.scr ns, D.int (↑j + 1), D.int b, D.int x] :: rest)).W N (fun d m' => ∃ i, d = D.int i ∧ 0 ≤ i ∧ i < k ∧ St ns rest m') noE := fun N x => by
        refine wcons ?_
        simp [hk]
        exact ⟨(fmod_lt h0).1, (fmod_lt h0).2, _, b, _, by omega, rfl⟩
      exact ⟨fun _ => fin _ _, fun _ => fin _ _⟩
    · refine wcons ?_
      simp [idxD, putD, ixN]
      refine wcons ?_
      simp [idxD, hk]
      exact ⟨(fmod_lt h0).1, (fmod_lt h0).2, a + 1, _, c, by omega, rfl⟩
theorem start {ns : List Int} (ht : Has T "_law_start" d__law_start) : (callN T g wf (n + 1) "_law_start" [.scr ns] []).W (fun d m' => d = .ref 0 ∧ St ns [] m') noE := by
  refine W_run ht rfl (wcons ?_)
  simp [d__law_start]
  refine wcons ?_
  simp
  refine forL_W (fun _ ρ m => m = [] ∧ ∃ (x : Int) (y : Option D), ρ = [some (.scr ns), some (.int x), y]) ⟨rfl, 1, none, rfl⟩ ?_ ?_
  · intro done d rest ρ m e ⟨hm, x, y, hρ⟩
    subst hm hρ
    have hd : d ∈ ns.map D.int := by rw [e]; simp
    obtain ⟨i, _, rfl⟩ := List.mem_map.mp hd
    simp
    refine wcons ?_
    simp
  · intro ρ m ⟨hm, x, y, hρ⟩
    subst hm hρ
    refine wcons ?_
    simp [big]
    exact ⟨0, x, 0, by omega, rfl⟩
end
mutual
/-- lists within are of a length that range takes -/
def wid : D → Bool
  | .tup ds => decide (ds.length ≤ big) && wids ds
  | .lst ds => decide (ds.length ≤ big) && wids ds
  | _ => true
def wids : List D → Bool
  | [] => true
  | d :: r => wid d && wids r
end
theorem res_cases {m : Mem} {j : Nat} {d d' : D} (h : D.res (frz m 0 j) d = some d') (hp : d'.pure = true) :
    (d = d' ∧ flatD d' = true) ∨ (∃ ds es, d = .tup ds ∧ d' = .tup es ∧ D.ress (frz m 0 j) ds = some es) ∨ ∃ ds es j', d' = .lst es ∧ D.ress (frz m 0 j') ds = some es ∧ (d = .lst ds ∨ ∃ p, d = .ref p ∧ m[p]? = some (.lst ds)) := by
  cases d with
  | tup ds =>
    simp only [D.res] at h
    cases h1 : D.ress (frz m 0 j) ds with
    | none => simp [h1] at h
    | some es =>
      simp only [h1, Option.map_some, Option.some.injEq] at h
      subst h
      exact .inr (.inl ⟨ds, es, rfl, rfl, h1⟩)
  | lst ds =>
    simp only [D.res] at h
    cases h1 : D.ress (frz m 0 j) ds with
    | none => simp [h1] at h
    | some es =>
      simp only [h1, Option.map_some, Option.some.injEq] at h
      subst h
      exact .inr (.inr ⟨ds, es, j, rfl, h1, .inl rfl⟩)
  | ref p =>
    simp only [D.res] at h
    cases j with
    | zero => simp [frz] at h
    | succ j =>
      simp only [frz, Nat.not_lt_zero, if_false] at h
      cases h2 : m[p]? with
      | none => simp [h2] at h
      | some o =>
        cases o with
        | lst ds =>
          simp only [h2] at h
          cases h1 : D.ress (frz m 0 j) ds with
          | none => simp [h1] at h
          | some es =>
            simp only [h1, Option.map_some, Option.some.injEq] at h
            subst h
            exact .inr (.inr ⟨ds, es, j, rfl, h1, .inr ⟨p, rfl, h2⟩⟩)
        | _ => simp [h2] at h
  | scr ns =>
    simp only [D.res, Option.some.injEq] at h
    subst h
    cases hp
  | _ =>
    simp only [D.res, Option.some.injEq] at h
    subst h
    exact .inl ⟨rfl, rfl⟩
theorem ress_get {f : Nat → Option D} : ∀ {ds es : List D}, D.ress f ds = some es → ds.length = es.length ∧ ∀ (i : Nat) (e : D), es[i]? = some e → ∃ d, ds[i]? = some d ∧ D.res f d = some e
  | [], es, h => by
    simp only [D.ress, Option.some.injEq] at h
    subst h
    simp
  | d :: ds, es, h => by
    simp only [D.ress] at h
    cases h1 : D.res f d with
    | none => simp [h1] at h
    | some d' =>
      cases h2 : D.ress f ds with
      | none => simp [h1, h2] at h
      | some r =>
        simp only [h1, h2, Option.some.injEq] at h
        subst h
        obtain ⟨l, q⟩ := ress_get h2
        refine ⟨by simp [l], fun i e he => ?_⟩
        cases i with
        | zero =>
          simp only [List.getElem?_cons_zero, Option.some.injEq] at he
          subst he
          exact ⟨d, rfl, h1⟩
        | succ i => exact q i e (by simpa using he)
theorem pures_mem : ∀ {ds : List D} {d : D}, D.pures ds = true → d ∈ ds → d.pure = true
  | [], _, _, h => by cases h
  | x :: r, d, h, hm => by
    simp only [D.pures, Bool.and_eq_true] at h
    rcases List.mem_cons.mp hm with rfl | hm
    · exact h.1
    · exact pures_mem h.2 hm
theorem nices_mem : ∀ {ds : List D} {d : D}, D.nices ds = true → d ∈ ds → d.nice = true
  | [], _, _, h => by cases h
  | x :: r, d, h, hm => by
    simp only [D.nices, Bool.and_eq_true] at h
    rcases List.mem_cons.mp hm with rfl | hm
    · exact h.1
    · exact nices_mem h.2 hm
theorem wids_mem : ∀ {ds : List D} {d : D}, wids ds = true → d ∈ ds → wid d = true
  | [], _, _, h => by cases h
  | x :: r, d, h, hm => by
    simp only [wids, Bool.and_eq_true] at h
    rcases List.mem_cons.mp hm with rfl | hm
    · exact h.1
    · exact wids_mem h.2 hm
theorem deps_mem : ∀ {ds : List D} {d : D}, d ∈ ds → d.dep ≤ D.deps ds
  | [], _, h => by cases h
  | x :: r, d, hm => by
    simp only [D.deps]
    rcases List.mem_cons.mp hm with rfl | hm
    · exact Nat.le_max_left ..
    · exact Nat.le_trans (deps_mem hm) (Nat.le_max_right ..)
section
variable {T : List (Str × Def)} {g : Str → Option D} {wf n : Nat} {m : Mem}
theorem same_list {k : Nat} {d d' : D} {ds es : List D} (ht : Has T "_law_same" d__law_same) (hl : ds.length = es.length)
    (ih : ∀ (i : Nat) (x y : D), ds[i]? = some x → es[i]? = some y → callN T g wf k "_law_same" [x, y] m = .ok (.bl true) m)
    (b1 b2 : Bool) (hb : (b1 || b2) = true) (t1 : isTy m d .tuple = some b1) (t2 : isTy m d .list = some b2) (u1 : isTy m d' .tuple = some b1) (u2 : isTy m d' .list = some b2)
    (l1 : lenD m d = some ds.length) (l2 : lenD m d' = some es.length) (i1 : ∀ i : Int, idxD m d (.int i) = atI ds i) (i2 : ∀ i : Int, idxD m d' (.int i) = atI es i) (hbig : es.length ≤ big) :
    callN T g wf (k + 1) "_law_same" [d, d'] m = .ok (.bl true) m := by
  refine eq_of_W (W_run ht rfl (wcons ?_))
  simp [d__law_same, anyTy_two u1 u2, hb]
  refine wcons ?_
  simp [anyTy_two t1 t2, hb, t2, u2]
  refine wcons ?_
  simp [l1, l2, hl]
  refine wcons ?_
  simp [l2, walk_rng1n hbig]
  rw [compL_pure (fun _ => false) id]
  · rw [List.filter_eq_nil_iff.mpr (by simp)]
    simp [big]
  · intro x hx
    obtain ⟨j, hj, rfl⟩ := List.mem_map.mp hx
    have hj2 : j < es.length := by simpa using hj
    simp [wipeS, i1, i2, atI_cast, List.getElem?_eq_getElem hj2, List.getElem?_eq_getElem (hl ▸ hj2 : j < ds.length)]
    rw [ih j _ _ (List.getElem?_eq_getElem (hl ▸ hj2 : j < ds.length)) (List.getElem?_eq_getElem hj2)]
    simp
theorem same_flat {k : Nat} {d : D} (ht : Has T "_law_same" d__law_same) (hf : flatD d = true) : callN T g wf (k + 1) "_law_same" [d, d] m = .ok (.bl true) m := by
  refine eq_of_W (W_run ht rfl (wcons ?_))
  have e : cmpD m .eq d d = some true := eqD_same (d := d) (by cases d <;> first | (cases hf; done) | rfl) (by cases d <;> first | (cases hf; done) | rfl) (by cases d <;> first | (cases hf; done) | rfl) (by cases d <;> first | (cases hf; done) | simp [D.dep])
  cases d <;> first | (cases hf; done) | (
    simp [d__law_same, anyTy]
    refine wcons ?_
    simp
    refine wcons ?_
    simp [e])
theorem same_ok (ht : Has T "_law_same" d__law_same) : ∀ (k j : Nat) (d d' : D), D.res (frz m 0 j) d = some d' → d'.pure = true → wid d' = true → d'.dep ≤ k → callN T g wf (k + 1) "_law_same" [d, d'] m = .ok (.bl true) m := by
  intro k
  induction k with
  | zero =>
    intro j d d' h hp hw hk
    rcases res_cases h hp with ⟨rfl, hf⟩ | ⟨ds, es, rfl, rfl, _⟩ | ⟨ds, es, j', rfl, _, _⟩
    · exact same_flat ht hf
    · simp [D.dep] at hk
    · simp [D.dep] at hk
  | succ k ih =>
    intro j d d' h hp hw hk
    rcases res_cases h hp with ⟨rfl, hf⟩ | ⟨ds, es, rfl, rfl, hr⟩ | ⟨ds, es, j', rfl, hr, hd⟩
    · exact same_flat ht hf
    · simp only [D.pure] at hp
      simp only [wid, Bool.and_eq_true, decide_eq_true_eq] at hw
      simp only [D.dep] at hk
      obtain ⟨hl, hg⟩ := ress_get hr
      refine same_list ht hl (fun i x y hx hy => ?_) true false rfl rfl rfl rfl rfl rfl rfl (fun _ => rfl) (fun _ => rfl) hw.1
      obtain ⟨z, hz, hq⟩ := hg i y hy
      rw [hx] at hz
      cases hz
      have hm := List.mem_of_getElem? hy
      exact ih j x y hq (pures_mem hp hm) (wids_mem hw.2 hm) (by have := deps_mem hm; omega)
    · simp only [D.pure] at hp
      simp only [wid, Bool.and_eq_true, decide_eq_true_eq] at hw
      simp only [D.dep] at hk
      obtain ⟨hl, hg⟩ := ress_get hr
      rcases hd with rfl | ⟨p, rfl, hp2⟩
      · refine same_list ht hl (fun i x y hx hy => ?_) false true rfl rfl rfl rfl rfl rfl rfl (fun _ => rfl) (fun _ => rfl) hw.1
        obtain ⟨z, hz, hq⟩ := hg i y hy
        rw [hx] at hz
        cases hz
        have hm := List.mem_of_getElem? hy
        exact ih j' x y hq (pures_mem hp hm) (wids_mem hw.2 hm) (by have := deps_mem hm; omega)
      · refine same_list ht hl (fun i x y hx hy => ?_) false true rfl (ty_refL hp2) (ty_refL hp2) rfl rfl (len_refL hp2) rfl (fun _ => idx_refL hp2) (fun _ => rfl) hw.1
        obtain ⟨z, hz, hq⟩ := hg i y hy
        rw [hx] at hz
        cases hz
        have hm := List.mem_of_getElem? hy
        exact ih j' x y hq (pures_mem hp hm) (wids_mem hw.2 hm) (by have := deps_mem hm; omega)
/-- what froze to d' is told the same as d' -/
theorem same_frz {k : Nat} {d d' : D} (ht : Has T "_law_same" d__law_same) (h : frzD m 0 d = some d') (hp : d'.pure = true) (hw : wid d' = true) (hk : d'.dep ≤ k) : callN T g wf (k + 1) "_law_same" [d, d'] m = .ok (.bl true) m := same_ok ht k 6 d d' h hp hw hk
end
end BrK


set_option Elab.async false
set_option linter.all false
set_option maxRecDepth 100000
set_option maxHeartbeats 1000000
set_option autoImplicit false
/-! masters and moves: what updated does. -/
namespace BrK
open PySem PySem.Spec PyProof.Rows L2 Br
def b_need_masters : Sms := (Sms.cons (Sm.for (Tg.tup [1, 2]) Wk.enum (Exs.cons (Ex.var 0) Exs.nil) (Sms.cons (Sm.iff (Ex.or (Ex.cmp Cop.eq (Ex.var 1) (Ex.glo "MOST_ROWS")) (Ex.or (Ex.not (Ex.isin (Ex.var 2) [Ty.tuple])) (Ex.cmp Cop.ne (Ex.fn Fn.len (Exs.cons (Ex.var 2) Exs.nil)) (Ex.cst (D.int 2))))) (Sms.cons Sm.never
 Sms.nil) Sms.nil)
 (Sms.cons (Sm.iff (Ex.cmp Cop.ne (Ex.comp [("one", 3)] (Tg.one 3) Wk.seq (Exs.cons (Ex.var 2) Exs.nil) (Exs.cons (Ex.not (Ex.call "is_number" (Exs.cons (Ex.var 3) (Exs.cons (Ex.cst (D.int 0)) (Exs.cons (Ex.glo "MOST_WORTH") Exs.nil))))) Exs.nil) (Ex.var 3)) (Ex.lst true Exs.nil)) (Sms.cons Sm.never
 Sms.nil) Sms.nil)
 Sms.nil)))
 (Sms.cons (Sm.for (Tg.one 1) Wk.rng2 (Exs.cons (Ex.cst (D.int 1)) (Exs.cons (Ex.fn Fn.len (Exs.cons (Ex.var 0) Exs.nil)) Exs.nil)) (Sms.cons (Sm.iff (Ex.cmp Cop.le (Ex.idx (Ex.idx (Ex.var 0) (Ex.var 1)) (Ex.cst (D.int 0))) (Ex.idx (Ex.idx (Ex.var 0) (Ex.bin Bop.sub (Ex.var 1) (Ex.cst (D.int 1)))) (Ex.cst (D.int 0)))) (Sms.cons Sm.never
 Sms.nil) Sms.nil)
 Sms.nil))
 Sms.nil))
def d_need_masters : Def := ⟨1, 4, b_need_masters⟩
def b_need_moves : Sms := (Sms.cons (Sm.asg (Tg.one 1) (Ex.cst (D.int 0)))
 (Sms.cons (Sm.for (Tg.tup [2, 3]) Wk.enum (Exs.cons (Ex.var 0) Exs.nil) (Sms.cons (Sm.iff (Ex.or (Ex.cmp Cop.eq (Ex.var 2) (Ex.glo "MOST_ROWS")) (Ex.or (Ex.not (Ex.isin (Ex.var 3) [Ty.tuple])) (Ex.cmp Cop.ne (Ex.fn Fn.len (Exs.cons (Ex.var 3) Exs.nil)) (Ex.cst (D.int 3))))) (Sms.cons Sm.never
 Sms.nil) Sms.nil)
 (Sms.cons (Sm.iff (Ex.or (Ex.not (Ex.call "is_number" (Exs.cons (Ex.idx (Ex.var 3) (Ex.cst (D.int 0))) (Exs.cons (Ex.var 1) (Exs.cons (Ex.glo "MOST_WORTH") Exs.nil))))) (Ex.or (Ex.not (Ex.isin (Ex.idx (Ex.var 3) (Ex.cst (D.int 1))) [Ty.str])) (Ex.cmp Cop.nin (Ex.idx (Ex.var 3) (Ex.cst (D.int 1))) (Ex.glo "WORDS")))) (Sms.cons Sm.never
 Sms.nil) Sms.nil)
 (Sms.cons (Sm.iff (Ex.not (Ex.call "is_number" (Exs.cons (Ex.idx (Ex.var 3) (Ex.cst (D.int 2))) (Exs.cons (Ex.cst (D.int 0)) (Exs.cons (Ex.glo "MOST_WORTH") Exs.nil))))) (Sms.cons Sm.never
 Sms.nil) Sms.nil)
 (Sms.cons (Sm.asg (Tg.one 1) (Ex.idx (Ex.var 3) (Ex.cst (D.int 0))))
 Sms.nil)))))
 Sms.nil))
def d_need_moves : Def := ⟨1, 4, b_need_moves⟩
def b_updated : Sms := (Sms.cons (Sm.expr (Ex.call "need_masters" (Exs.cons (Ex.var 0) Exs.nil)))
 (Sms.cons (Sm.expr (Ex.call "need_moves" (Exs.cons (Ex.var 1) Exs.nil)))
 (Sms.cons (Sm.par 2 3 (Ex.lst false Exs.nil) (Ex.lst false Exs.nil))
 (Sms.cons (Sm.asg (Tg.tup [4, 5]) (Ex.tup (Exs.cons (Ex.cst (D.int 0)) (Exs.cons (Ex.cst (D.int 0)) Exs.nil))))
 (Sms.cons (Sm.whil (Ex.or (Ex.cmp Cop.lt (Ex.var 4) (Ex.fn Fn.len (Exs.cons (Ex.var 0) Exs.nil))) (Ex.cmp Cop.lt (Ex.var 5) (Ex.fn Fn.len (Exs.cons (Ex.var 1) Exs.nil)))) (Sms.cons (Sm.asg (Tg.one 6) (Ex.fn Fn.min (Exs.cons (Ex.bin Bop.add (Ex.comp [("pair", 10)] (Tg.one 10) Wk.seq (Exs.cons (Ex.sli (Ex.var 0) (Exs.cons (Ex.var 4) Exs.nil) (Exs.cons (Ex.bin Bop.add (Ex.var 4) (Ex.cst (D.int 1))) Exs.nil)) Exs.nil) Exs.nil (Ex.idx (Ex.var 10) (Ex.cst (D.int 0)))) (Ex.comp [("move", 11)] (Tg.one 11) Wk.seq (Exs.cons (Ex.sli (Ex.var 1) (Exs.cons (Ex.var 5) Exs.nil) (Exs.cons (Ex.bin Bop.add (Ex.var 5) (Ex.cst (D.int 1))) Exs.nil)) Exs.nil) Exs.nil (Ex.idx (Ex.var 11) (Ex.cst (D.int 0))))) Exs.nil)))
 (Sms.cons (Sm.asg (Tg.one 7) (Ex.cst D.non))
 (Sms.cons (Sm.iff (Ex.and (Ex.cmp Cop.lt (Ex.var 4) (Ex.fn Fn.len (Exs.cons (Ex.var 0) Exs.nil))) (Ex.cmp Cop.eq (Ex.idx (Ex.idx (Ex.var 0) (Ex.var 4)) (Ex.cst (D.int 0))) (Ex.var 6))) (Sms.cons (Sm.asg (Tg.one 7) (Ex.idx (Ex.idx (Ex.var 0) (Ex.var 4)) (Ex.cst (D.int 1))))
 (Sms.cons (Sm.asg (Tg.one 4) (Ex.bin Bop.add (Ex.var 4) (Ex.cst (D.int 1))))
 Sms.nil)) Sms.nil)
 (Sms.cons (Sm.whil (Ex.and (Ex.cmp Cop.lt (Ex.var 5) (Ex.fn Fn.len (Exs.cons (Ex.var 1) Exs.nil))) (Ex.cmp Cop.eq (Ex.idx (Ex.idx (Ex.var 1) (Ex.var 5)) (Ex.cst (D.int 0))) (Ex.var 6))) (Sms.cons (Sm.asg (Tg.tup [8, 9]) (Ex.sli (Ex.idx (Ex.var 1) (Ex.var 5)) (Exs.cons (Ex.cst (D.int 1)) Exs.nil) Exs.nil))
 (Sms.cons (Sm.iff (Ex.cmp Cop.eq (Ex.cmp Cop.eq (Ex.var 8) (Ex.glo "ADD")) (Ex.cmp Cop.notn (Ex.var 7) (Ex.cst D.non))) (Sms.cons (Sm.lm Lm.append (Ex.var 3) (Exs.cons (Ex.tup (Exs.cons (Ex.var 5) (Exs.cons (Ex.ite (Ex.cmp Cop.eq (Ex.var 8) (Ex.glo "ADD")) (Ex.cst (D.str "there")) (Ex.cst (D.str "lacks"))) Exs.nil))) Exs.nil))
 Sms.nil) (Sms.cons (Sm.asg (Tg.one 7) (Ex.ite (Ex.cmp Cop.eq (Ex.var 8) (Ex.glo "DROP")) (Ex.cst D.non) (Ex.var 9)))
 Sms.nil))
 (Sms.cons (Sm.asg (Tg.one 5) (Ex.bin Bop.add (Ex.var 5) (Ex.cst (D.int 1))))
 Sms.nil))))
 (Sms.cons (Sm.iff (Ex.cmp Cop.notn (Ex.var 7) (Ex.cst D.non)) (Sms.cons (Sm.lm Lm.append (Ex.var 2) (Exs.cons (Ex.tup (Exs.cons (Ex.var 6) (Exs.cons (Ex.var 7) Exs.nil))) Exs.nil))
 Sms.nil) Sms.nil)
 Sms.nil))))))
 (Sms.cons (Sm.ret (Ex.tup (Exs.cons (Ex.var 2) (Exs.cons (Ex.var 3) Exs.nil))))
 Sms.nil))))))
def d_updated : Def := ⟨2, 12, b_updated⟩
def b__law_masters : Sms := (Sms.cons (Sm.asg (Tg.one 2) (Ex.call "_law_drawn" (Exs.cons (Ex.var 0) (Exs.cons (Ex.idx (Ex.lst true (Exs.cons (Ex.cst (D.int 4)) (Exs.cons (Ex.cst (D.int 20)) (Exs.cons (Ex.cst (D.int 61)) Exs.nil)))) (Ex.call "_law_drawn" (Exs.cons (Ex.var 0) (Exs.cons (Ex.cst (D.int 3)) Exs.nil)))) Exs.nil))))
 (Sms.cons (Sm.asg (Tg.one 3) (Ex.fn Fn.sortedSet (Exs.cons (Ex.comp [("_law_k", 5)] (Tg.one 5) Wk.rng1 (Exs.cons (Ex.var 2) Exs.nil) Exs.nil (Ex.call "_law_drawn" (Exs.cons (Ex.var 0) (Exs.cons (Ex.var 1) Exs.nil)))) Exs.nil)))
 (Sms.cons (Sm.ret (Ex.comp [("_law_mark", 4)] (Tg.one 4) Wk.seq (Exs.cons (Ex.var 3) Exs.nil) Exs.nil (Ex.tup (Exs.cons (Ex.var 4) (Exs.cons (Ex.call "_law_drawn" (Exs.cons (Ex.var 0) (Exs.cons (Ex.cst (D.int 1000)) Exs.nil))) Exs.nil)))))
 Sms.nil)))
def d__law_masters : Def := ⟨2, 6, b__law_masters⟩
def b__law_moves : Sms := (Sms.cons (Sm.asg (Tg.one 2) (Ex.call "_law_drawn" (Exs.cons (Ex.var 0) (Exs.cons (Ex.idx (Ex.lst true (Exs.cons (Ex.cst (D.int 6)) (Exs.cons (Ex.cst (D.int 20)) (Exs.cons (Ex.cst (D.int 61)) Exs.nil)))) (Ex.call "_law_drawn" (Exs.cons (Ex.var 0) (Exs.cons (Ex.cst (D.int 3)) Exs.nil)))) Exs.nil))))
 (Sms.cons (Sm.asg (Tg.one 3) (Ex.fn Fn.sorted (Exs.cons (Ex.comp [("_law_k", 5)] (Tg.one 5) Wk.rng1 (Exs.cons (Ex.var 2) Exs.nil) Exs.nil (Ex.call "_law_drawn" (Exs.cons (Ex.var 0) (Exs.cons (Ex.var 1) Exs.nil)))) Exs.nil)))
 (Sms.cons (Sm.ret (Ex.comp [("_law_mark", 4)] (Tg.one 4) Wk.seq (Exs.cons (Ex.var 3) Exs.nil) Exs.nil (Ex.tup (Exs.cons (Ex.var 4) (Exs.cons (Ex.idx (Ex.lst true (Exs.cons (Ex.cst (D.str "add")) (Exs.cons (Ex.cst (D.str "drop")) (Exs.cons (Ex.cst (D.str "set")) Exs.nil)))) (Ex.call "_law_drawn" (Exs.cons (Ex.var 0) (Exs.cons (Ex.cst (D.int 3)) Exs.nil)))) (Exs.cons (Ex.call "_law_drawn" (Exs.cons (Ex.var 0) (Exs.cons (Ex.cst (D.int 1000)) Exs.nil))) Exs.nil))))))
 Sms.nil)))
def d__law_moves : Def := ⟨2, 6, b__law_moves⟩
abbrev sAdd : Str := "add"
abbrev sDrop : Str := "drop"
abbrev sSet : Str := "set"
theorem add_drop : (sAdd = sDrop) = False := by
  simp only [eq_iff_iff, iff_false]
  decide +kernel
structure Mv where
  k : Int
  w : Str
  n : Int
def mD (p : Int × Int) : D := .tup [.int p.1, .int p.2]
def vD (v : Mv) : D := .tup [.int v.k, .str v.w, .int v.n]
structure UpT (T : List (Str × Def)) (g : Str → Option D) : Prop where
  isn : Has T "is_number" d_is_number
  nma : Has T "need_masters" d_need_masters
  nmo : Has T "need_moves" d_need_moves
  upd : Has T "updated" d_updated
  rows : g "MOST_ROWS" = some (.int 60)
  worth : g "MOST_WORTH" = some (.int 999)
  add : g "ADD" = some (.str sAdd)
  drop : g "DROP" = some (.str sDrop)
  words : g "WORDS" = some (.tup [.str sAdd, .str sDrop, .str sSet])
structure OkMs (ms : List (Int × Int)) : Prop where
  len : ms.length ≤ 60
  r1 : ∀ p ∈ ms, 0 ≤ p.1 ∧ p.1 ≤ 999
  r2 : ∀ p ∈ ms, 0 ≤ p.2 ∧ p.2 ≤ 999
  srt : (ms.map (·.1)).Pairwise (· < ·)
structure OkVs (vs : List Mv) : Prop where
  len : vs.length ≤ 60
  r1 : ∀ p ∈ vs, 0 ≤ p.k ∧ p.k ≤ 999
  r2 : ∀ p ∈ vs, 0 ≤ p.n ∧ p.n ≤ 999
  wd : ∀ p ∈ vs, p.w = sAdd ∨ p.w = sDrop ∨ p.w = sSet
  srt : (vs.map (·.k)).Pairwise (· ≤ ·)
section
variable {T : List (Str × Def)} {g : Str → Option D} {wf n : Nat} {m : Mem}
theorem need_masters_ok (U : UpT T g) {ms : List (Int × Int)} (h : OkMs ms) : callN T g wf (n + 2) "need_masters" [.lst (ms.map mD)] m = .ok .non m := by
  refine eq_of_W (W_run U.nma rfl (wcons ?_))
  have hlen := h.len
  simp [d_need_masters]
  refine forL_N (fun _ ρ m' => m' = m ∧ ∃ y z : Option D, ρ = [some (.lst (ms.map mD)), y, z, none]) ⟨rfl, none, none, rfl⟩ ?_ ?_
  · intro j hj ρ m' ⟨hm, y, z, hρ⟩
    subst hm hρ
    simp at hj
    have hmem : ms[j] ∈ ms := List.getElem_mem hj
    have r1 := h.r1 _ hmem
    have r2 := h.r2 _ hmem
    have h60 : ¬ ((j : Int) = 60) := by omega
    simp
    refine wcons ?_
    simp [U.rows, h60, mD]
    refine wcons ?_
    simp
    rw [compL_none]
    · simp [big]
    · intro i hi
      have : i = 0 ∨ i = 1 := by simp at hi; omega
      rcases this with rfl | rfl <;> simp [wipeS, U.worth, is_number_int U.isn, r1, r2]
  · intro ρ m' ⟨hm, y, z, hρ⟩
    subst hm hρ
    refine wcons ?_
    simp
    rw [walk_rng2i (by omega) (by omega) (by omega) (by omega)]
    simp only [IsS_some]
    refine forL_N (fun _ ρ m'' => m'' = m' ∧ ∃ y z : Option D, ρ = [some (.lst (ms.map mD)), y, z, none]) ⟨rfl, y, z, rfl⟩ ?_ ?_
    · intro j hj ρ m' ⟨hm, y, z, hρ⟩
      subst hm hρ
      simp at hj
      simp
      refine wcons ?_
      have h1 : j + 1 < ms.length := by omega
      have e1 : (1 + (j : Int)) = ((j + 1 : Nat) : Int) := by omega
      have e2 : ((j + 1 : Nat) : Int) - 1 = (j : Int) := by omega
      have hs := h.srt
      rw [List.pairwise_iff_getElem] at hs
      have := hs j (j + 1) (by simp; omega) (by simp; omega) (by omega)
      simp at this
      simp [e1, -Int.natCast_add, e2, atI_cast, List.getElem?_map, List.getElem?_eq_getElem h1, List.getElem?_eq_getElem (by omega : j < ms.length), mD]
      omega
    · intro ρ m' ⟨hm, y, z, hρ⟩
      subst hm
      simp
theorem need_moves_ok (U : UpT T g) {vs : List Mv} (h : OkVs vs) : callN T g wf (n + 2) "need_moves" [.lst (vs.map vD)] m = .ok .non m := by
  refine eq_of_W (W_run U.nmo rfl (wcons ?_))
  have hlen := h.len
  simp [d_need_moves]
  refine wcons ?_
  simp
  refine forL_N (fun j ρ m' => m' = m ∧ ∃ (x : Int) (y z : Option D), (∀ (i : Nat) (hi : i < vs.length), j ≤ i → x ≤ vs[i].k) ∧ ρ = [some (.lst (vs.map vD)), some (.int x), y, z]) ⟨rfl, 0, none, none, fun i hi _ => (h.r1 _ (List.getElem_mem hi)).1, rfl⟩ ?_ ?_
  · intro j hj ρ m' ⟨hm, x, y, z, hx, hρ⟩
    subst hm hρ
    simp at hj
    have hmem : vs[j] ∈ vs := List.getElem_mem hj
    have r1 := h.r1 _ hmem
    have r2 := h.r2 _ hmem
    have h60 : ¬ ((j : Int) = 60) := by omega
    have h3 := hx j hj (Nat.le_refl _)
    simp
    refine wcons ?_
    simp [U.rows, h60, vD]
    refine wcons ?_
    have hw : inD m' (.str vs[j].w) (.tup [.str sAdd, .str sDrop, .str sSet]) = some true := by
      simp [inD, flatD, eqF]
      rcases h.wd _ hmem with e | e | e <;> simp [e]
    simp [U.worth, U.words, is_number_int U.isn, h3, r1, hw]
    refine wcons ?_
    simp [U.worth, is_number_int U.isn, r2]
    refine wcons ?_
    simp
    intro i hi hji
    have hs := h.srt
    rw [List.pairwise_iff_getElem] at hs
    have := hs j i (by simp; omega) (by simp; omega) (by omega)
    simpa using this
  · intro ρ m' ⟨hm, y, z, hρ⟩
    subst hm
    simp
end
/-! ### what is told -/
def look (ms : List (Int × Int)) (k : Int) : Option Int := (ms.find? fun p => decide (p.1 = k)).map (·.2)
theorem look_some {ms : List (Int × Int)} (h : (ms.map (·.1)).Pairwise (· < ·)) {k x : Int} : look ms k = some x ↔ (k, x) ∈ ms := by
  induction ms with
  | nil => simp [look]
  | cons p r ih =>
    obtain ⟨a, b⟩ := p
    simp only [List.map_cons, List.pairwise_cons] at h
    have ih := ih h.2
    by_cases e : a = k
    · subst e
      have z : look ((a, b) :: r) a = some b := by simp [look]
      rw [z]
      simp only [Option.some.injEq, List.mem_cons, Prod.mk.injEq, true_and]
      constructor
      · intro e
        exact .inl e.symm
      · rintro (e | e)
        · exact e.symm
        · exact absurd (h.1 a (List.mem_map.mpr ⟨_, e, rfl⟩)) (by omega)
    · have z : look ((a, b) :: r) k = look r k := by simp [look, e]
      rw [z, ih]
      simp only [List.mem_cons, Prod.mk.injEq]
      constructor
      · exact .inr
      · rintro (⟨e2, _⟩ | e2)
        · exact absurd e2.symm e
        · exact e2
theorem look_none {ms : List (Int × Int)} {k : Int} (h : ∀ p ∈ ms, p.1 ≠ k) : look ms k = none := by
  unfold look
  rw [Option.map_eq_none_iff, List.find?_eq_none]
  intro p hp
  simpa using h p hp
/-- can't be done -/
def isBad (K : Int → Option Int) (v : Mv) : Prop := (v.w = sAdd) ↔ (K v.k).isSome = true
instance (K : Int → Option Int) (v : Mv) : Decidable (isBad K v) := inferInstanceAs (Decidable (_ ↔ _))
def stepK (K : Int → Option Int) (v : Mv) : Int → Option Int := if isBad K v then K else fun k => if k = v.k then (if v.w = sDrop then none else some v.n) else K k
def badD (p : Nat) (v : Mv) : D := .tup [.int p, .str (if v.w = sAdd then "there" else "lacks")]
def badsK : (Int → Option Int) → Nat → List Mv → List D
  | _, _, [] => []
  | K, p, v :: r => (if isBad K v then [badD p v] else []) ++ badsK (stepK K v) (p + 1) r
def runK (K : Int → Option Int) (vs : List Mv) : Int → Option Int := vs.foldl stepK K
theorem stepK_ne {K : Int → Option Int} {v : Mv} {k : Int} (h : k ≠ v.k) : stepK K v k = K k := by
  unfold stepK
  by_cases b : isBad K v
  · rw [if_pos b]
  · rw [if_neg b]
    simp [h]
theorem runK_take {K : Int → Option Int} {vs : List Mv} {j : Nat} (h : j < vs.length) : runK K (vs.take (j + 1)) = stepK (runK K (vs.take j)) vs[j] := by
  unfold runK
  rw [List.take_succ_eq_append_getElem h, List.foldl_append]
  rfl
theorem badsK_app : ∀ {K : Int → Option Int} {p : Nat} {us vs : List Mv}, badsK K p (us ++ vs) = badsK K p us ++ badsK (runK K us) (p + us.length) vs
  | K, p, [], vs => by simp [badsK, runK]
  | K, p, u :: us, vs => by
    have e : p + 1 + us.length = p + (us.length + 1) := by omega
    simp only [List.cons_append, badsK, badsK_app (us := us), runK, List.foldl_cons, List.append_assoc, List.length_cons, e]
theorem badsK_take {K : Int → Option Int} {vs : List Mv} {j : Nat} (h : j < vs.length) : badsK K 0 (vs.take (j + 1)) = badsK K 0 (vs.take j) ++ if isBad (runK K (vs.take j)) vs[j] then [badD j vs[j]] else [] := by
  rw [List.take_succ_eq_append_getElem h, badsK_app]
  simp [badsK, Nat.min_eq_left (Nat.le_of_lt h)]
theorem badsK_len : ∀ {K : Int → Option Int} {p : Nat} {vs : List Mv}, (badsK K p vs).length ≤ vs.length
  | _, _, [] => by simp [badsK]
  | K, p, v :: r => by
    have := badsK_len (K := stepK K v) (p := p + 1) (vs := r)
    simp only [badsK, List.length_append, List.length_cons]
    split <;> simp <;> omega
theorem cut_one {ds : List D} {i : Nat} : Br.cutD ds (some (i : Int)) (some ((i : Int) + 1)) = ds[i]?.toList := by
  unfold Br.cutD
  have e : ((i : Int) + 1) = ((i + 1 : Nat) : Int) := by omega
  rw [e, HT.sIx_nat, HT.sIx_nat]
  by_cases h : i < ds.length
  · rw [List.getElem?_eq_getElem h, Nat.min_eq_left (Nat.le_of_lt h), Nat.min_eq_left (by omega), Nat.add_sub_cancel_left, List.drop_eq_getElem_cons h]
    rfl
  · rw [List.getElem?_eq_none (by omega), Nat.min_eq_right (by omega), Nat.min_eq_right (by omega)]
    simp
/-- what updated tells of these -/
structure Told (ms : List (Int × Int)) (vs : List Mv) (fs : List (Int × Int)) : Prop where
  srt : (fs.map (·.1)).Pairwise (· < ·)
  mem : ∀ k x, (k, x) ∈ fs ↔ runK (look ms) vs k = some x
section
variable {T : List (Str × Def)} {g : Str → Option D} {wf n : Nat} {m : Mem}
/-- the state between two keys -/
structure Mid (ms : List (Int × Int)) (vs : List Mv) (i j : Nat) (c : Int) (fs : List (Int × Int)) : Prop where
  hi : i ≤ ms.length
  hj : j ≤ vs.length
  srt : (fs.map (·.1)).Pairwise (· < ·)
  lt : ∀ p ∈ fs, p.1 < c
  mem : ∀ k x, k < c → ((k, x) ∈ fs ↔ runK (look ms) (vs.take j) k = some x)
  ge : ∀ k, c ≤ k → runK (look ms) (vs.take j) k = look ms k
  mlo : ∀ (a : Nat) (h : a < ms.length), a < i → ms[a].1 < c
  mhi : ∀ (a : Nat) (h : a < ms.length), i ≤ a → c ≤ ms[a].1
  vhi : ∀ (a : Nat) (h : a < vs.length), j ≤ a → c ≤ vs[a].k
  flen : fs.length ≤ i + j
theorem cut_map {α : Type} {f : α → D} {xs : List α} {i : Nat} : Br.cutD (xs.map f) (some (i : Int)) (some ((i : Int) + 1)) = (xs[i]?.toList).map f := by
  rw [cut_one, List.getElem?_map]
  cases xs[i]? <;> rfl
theorem key_of {ms : List (Int × Int)} {vs : List Mv} {i j : Nat} {c : Int} {fs : List (Int × Int)} (M : Mid ms vs i j c fs) (h : OkMs ms) (hv : OkVs vs) (hc : i < ms.length ∨ j < vs.length) :
    ∃ key, minI ((ms[i]?.toList).map (·.1) ++ (vs[j]?.toList).map (·.k)) = some key ∧ c ≤ key ∧ (∀ (a : Nat) (h : a < ms.length), i ≤ a → key ≤ ms[a].1) ∧ (∀ (a : Nat) (h : a < vs.length), j ≤ a → key ≤ vs[a].k) ∧ ((∃ h : i < ms.length, ms[i].1 = key) ∨ ∃ h : j < vs.length, vs[j].k = key) := by
  have hs := h.srt
  rw [List.pairwise_iff_getElem] at hs
  have hs2 : ∀ (a : Nat) (h1 : a < ms.length) (h2 : i < ms.length), i ≤ a → ms[i].1 ≤ ms[a].1 := by
    intro a h1 h2 h3
    by_cases e : i = a
    · subst e; omega
    · have := hs i a (by simpa using h2) (by simpa using h1) (by omega)
      simp at this
      omega
  have ht := hv.srt
  rw [List.pairwise_iff_getElem] at ht
  have ht2 : ∀ (a : Nat) (h1 : a < vs.length) (h2 : j < vs.length), j ≤ a → vs[j].k ≤ vs[a].k := by
    intro a h1 h2 h3
    by_cases e : j = a
    · subst e; omega
    · have := ht j a (by simpa using h2) (by simpa using h1) (by omega)
      simpa using this
  by_cases h1 : i < ms.length
  · have c1 := M.mhi i h1 (Nat.le_refl _)
    by_cases h2 : j < vs.length
    · have c2 := M.vhi j h2 (Nat.le_refl _)
      refine ⟨min ms[i].1 vs[j].k, by simp [h1, h2, minI], by omega, fun a ha hia => ?_, fun a ha hja => ?_, ?_⟩
      · have := hs2 a ha h1 hia
        omega
      · have := ht2 a ha h2 hja
        omega
      · by_cases e : ms[i].1 ≤ vs[j].k
        · exact .inl ⟨h1, by omega⟩
        · exact .inr ⟨h2, by omega⟩
    · exact ⟨ms[i].1, by simp [h1, List.getElem?_eq_none (Nat.le_of_not_lt h2), minI], c1, fun a ha hia => hs2 a ha h1 hia, fun a ha hja => by omega, .inl ⟨h1, rfl⟩⟩
  · have h2 : j < vs.length := by omega
    have c2 := M.vhi j h2 (Nat.le_refl _)
    exact ⟨vs[j].k, by simp [h2, List.getElem?_eq_none (Nat.le_of_not_lt h1), minI], c2, fun a ha hia => by omega, fun a ha hja => ht2 a ha h2 hja, .inr ⟨h2, rfl⟩⟩
def UI (ms : List (Int × Int)) (vs : List Mv) (m : Mem) (i0 j0 : Nat) (ρ : Sl) (m' : Mem) : Prop := ∃ (i j : Nat) (c : Int) (fs : List (Int × Int)) (x6 x7 x8 x9 x10 x11 : Option D), (i0 < ms.length ∨ j0 < vs.length → (ms.length - i) + (vs.length - j) < (ms.length - i0) + (vs.length - j0)) ∧ Mid ms vs i j c fs ∧ m' = m ++ [.lst (fs.map mD), .lst (badsK (look ms) 0 (vs.take j))] ∧ ρ = [some (.lst (ms.map mD)), some (.lst (vs.map vD)), some (.ref m.length), some (.ref (m.length + 1)), some (.int i), some (.int j), x6, x7, x8, x9, x10, x11]
def uμ (a b : Nat) (ρ : Sl) (_ : Mem) : Nat := match ρ with
      | _ :: _ :: _ :: _ :: some (.int i) :: some (.int j) :: _ => (a - i.toNat) + (b - j.toNat)
      | _ => 0
theorem uμ_eq {a b i j : Nat} {x y z u : Option D} {r : Sl} {m : Mem} : uμ a b (x :: y :: z :: u :: some (.int i) :: some (.int j) :: r) m = (a - i) + (b - j) := by simp [uμ]
def optD : Option Int → D
  | none => .non
  | some x => .int x
theorem optD_non {o : Option Int} : (optD o = .non) ↔ o = none := by cases o <;> simp [optD]
def VI (ms : List (Int × Int)) (vs : List Mv) (m : Mem) (fs : List (Int × Int)) (i' : Nat) (key : Int) (x10 x11 : Option D) (j : Nat) (ρ' : Sl) (m' : Mem) : Prop := ∃ (j' : Nat) (y8 y9 : Option D), m' = m ++ [O.lst (fs.map mD), O.lst (badsK (look ms) 0 (vs.take j'))] ∧ j ≤ j' ∧ j' ≤ vs.length ∧ (∀ k, k ≠ key → runK (look ms) (vs.take j') k = runK (look ms) (vs.take j) k) ∧ ρ' = [some (.lst (ms.map mD)), some (.lst (vs.map vD)), some (.ref m.length), some (.ref (m.length + 1)), some (.int i'), some (.int j'), some (.int key), some (optD (runK (look ms) (vs.take j') key)), y8, y9, x10, x11]
theorem updated_ok (U : UpT T g) {ms : List (Int × Int)} {vs : List Mv} (h : OkMs ms) (hv : OkVs vs) (hwf : 200 < wf) :
    (callN T g wf (n + 3) "updated" [.lst (ms.map mD), .lst (vs.map vD)] m).W (fun d m' => d = .tup [.ref m.length, .ref (m.length + 1)] ∧ ∃ fs, Told ms vs fs ∧ fs.length ≤ 120 ∧ m' = m ++ [.lst (fs.map mD), .lst (badsK (look ms) 0 vs)]) noE := by
  have hl1 := h.len
  have hl2 := hv.len
  refine W_run U.upd rfl (wcons ?_)
  simp [d_updated, need_masters_ok U h]
  refine wcons ?_
  simp [need_moves_ok U hv]
  refine wcons ?_
  simp [big]
  refine wcons ?_
  simp [big]
  refine wcons ?_
  simp
  refine whileL_W (fun ρ m' => UI ms vs m ms.length vs.length ρ m') (uμ ms.length vs.length) ?_ ?_ ?_
  · refine ⟨0, 0, 0, [], none, none, none, none, none, none, fun z => by omega, ?_, ?_, rfl⟩
    · refine ⟨by omega, by omega, by simp, by simp, ?_, ?_, ?_, ?_, ?_, by simp⟩
      · intro k x hk
        simp only [List.take_zero, runK, List.foldl_nil]
        rw [look_some h.srt]
        constructor
        · intro z
          cases z
        · intro z
          exact absurd (h.r1 _ z).1 (by simpa using hk)
      · intro k hk
        rfl
      · intro a _ ha
        omega
      · intro a ha _
        exact (h.r1 _ (List.getElem_mem ha)).1
      · intro a ha _
        exact (hv.r1 _ (List.getElem_mem ha)).1
    · simp [badsK]
  · simp [uμ]
    omega
  · rintro ρ m' ⟨i, j, c, fs, x6, x7, x8, x9, x10, x11, _, M, rfl, rfl⟩
    refine Res.W.mono (Q := fun d m1 => d = .bl (decide (i < ms.length ∨ j < vs.length)) ∧ m1 = m ++ [O.lst (fs.map mD), O.lst (badsK (look ms) 0 (vs.take j))]) ?_ ?_
    · by_cases h1 : i < ms.length <;> by_cases h2 : j < vs.length <;> simp [h1, h2]
    rintro _ _ ⟨rfl, rfl⟩
    simp only [IsB_bl, Two_dec]
    refine ⟨fun hc => ?_, fun hc => ?_⟩
    · obtain ⟨key, hk1, hk2, hk3, hk4, hk5⟩ := key_of M h hv hc
      refine Rs.W.mono (N := fun ρ' m' => UI ms vs m i j ρ' m') (R := fun _ _ => False) ?_ ?_ (fun _ _ z => z.elim)
      · have hin : intsD (List.map (fun p => D.int p.fst) ms[i]?.toList ++ List.map (fun p => D.int p.k) vs[j]?.toList) = some (List.map (fun x => x.fst) ms[i]?.toList ++ List.map (fun x => x.k) vs[j]?.toList) := ints_app ints_map' ints_map'
        have hlb : ms[i]?.toList.length + vs[j]?.toList.length ≤ 1000000 := by
          cases ms[i]? <;> cases vs[j]? <;> simp [big]
        refine wcons ?_
        simp
        rw [cut_map]
        rw [compL_map (Fm := mD) (G := fun p => .int p.1) (by
          intro x hx
          simp [wipeS, mD])]
        simp
        rw [cut_map]
        rw [compL_map (Fm := vD) (G := fun p => .int p.k) (by
          intro x hx
          simp [wipeS, vD])]
        simp [hin, hlb, hk1]
        refine wcons ?_
        simp
        refine wcut (fun ρ' m' => m' = m ++ [O.lst (fs.map mD), O.lst (badsK (look ms) 0 (vs.take j))] ∧ ∃ i' : Nat, i ≤ i' ∧ i' ≤ ms.length ∧ i' ≤ i + 1 ∧ (∀ (a : Nat) (h : a < ms.length), a < i' → ms[a].1 < key + 1) ∧ (∀ (a : Nat) (h : a < ms.length), i' ≤ a → key + 1 ≤ ms[a].1) ∧ (i < i' ∨ ∃ h : j < vs.length, vs[j].k = key) ∧ ρ' = [some (.lst (ms.map mD)), some (.lst (vs.map vD)), some (.ref m.length), some (.ref (m.length + 1)), some (.int i'), some (.int j), some (.int key), some (optD (look ms key)), x8, x9, x10, x11]) ?_ ?_
        · have hs := h.srt
          rw [List.pairwise_iff_getElem] at hs
          have hs2 : ∀ (a b : Nat) (h1 : a < ms.length) (h2 : b < ms.length), a < b → ms[a].1 < ms[b].1 := fun a b h1 h2 h3 => by
            have := hs a b (by simpa using h1) (by simpa using h2) h3
            simpa using this
          have hno : (∀ h : i < ms.length, ms[i].1 ≠ key) → look ms key = none ∧ (∀ (a : Nat) (h : a < ms.length), a < i → ms[a].1 < key + 1) ∧ (∀ (a : Nat) (h : a < ms.length), i ≤ a → key + 1 ≤ ms[a].1) := fun hn => by
            have q : ∀ (a : Nat) (h : a < ms.length), i ≤ a → key + 1 ≤ ms[a].1 := fun a ha hia => by
              have z := hk3 i (by omega) (Nat.le_refl _)
              have z2 := hn (by omega)
              by_cases e : i = a
              · subst e
                omega
              · have := hs2 i a (by omega) ha (by omega)
                omega
            refine ⟨look_none fun p hp => ?_, fun a ha hai => ?_, q⟩
            · obtain ⟨a, ha, rfl⟩ := List.mem_iff_getElem.mp hp
              by_cases hai : a < i
              · have := M.mlo a ha hai
                omega
              · have := q a ha (by omega)
                omega
            · have := M.mlo a ha hai
              omega
          have hor : (∀ h : i < ms.length, ms[i].1 ≠ key) → ∃ h : j < vs.length, vs[j].k = key := fun hn => by
            rcases hk5 with ⟨z, e⟩ | z
            · exact absurd e (hn z)
            · exact z
          by_cases h1 : i < ms.length
          · by_cases h2 : ms[i].1 = key
            · simp [h1, h2, atI_cast, mD]
              refine wcons ?_
              simp [h1, h2, atI_cast, mD]
              refine wcons ?_
              have z : look ms key = some ms[i].2 := (look_some h.srt).mpr (by rw [← h2]; exact List.getElem_mem h1)
              simp [z, optD]
              refine ⟨i + 1, by omega, by omega, by omega, fun a ha hai => ?_, fun a ha hia => ?_, by omega, by omega⟩
              · by_cases e : a = i
                · subst e
                  omega
                · have := hs2 a i ha h1 (by omega)
                  omega
              · have := hs2 i a h1 ha (by omega)
                omega
            · obtain ⟨z1, z2, z3⟩ := hno fun _ => h2
              simp [h1, h2, atI_cast, mD]
              exact ⟨i, by omega, by omega, by omega, z2, z3, .inr (hor fun _ => h2), rfl, by rw [z1]; rfl⟩
          · obtain ⟨z1, z2, z3⟩ := hno fun z => absurd z h1
            have := M.hi
            simp [h1]
            exact ⟨i, by omega, by omega, by omega, z2, z3, .inr (hor fun z => absurd z h1), rfl, by rw [z1]; rfl⟩
        · rintro _ _ ⟨rfl, i', hi1, hi2, hi3, hi4, hi5, hi6, rfl⟩
          refine wcut (fun ρ' m' => ∃ (j' : Nat) (y8 y9 : Option D), m' = m ++ [O.lst (fs.map mD), O.lst (badsK (look ms) 0 (vs.take j'))] ∧ j ≤ j' ∧ j' ≤ vs.length ∧ (∀ k, k ≠ key → runK (look ms) (vs.take j') k = runK (look ms) (vs.take j) k) ∧ (∀ (a : Nat) (h : a < vs.length), j' ≤ a → key + 1 ≤ vs[a].k) ∧ ρ' = [some (.lst (ms.map mD)), some (.lst (vs.map vD)), some (.ref m.length), some (.ref (m.length + 1)), some (.int i'), some (.int j'), some (.int key), some (optD (runK (look ms) (vs.take j') key)), y8, y9, x10, x11]) ?_ ?_
          · rw [Ws_whil]
            refine whileL_W (VI ms vs m fs i' key x10 x11 j) (uμ 0 vs.length) ?_ ?_ ?_
            · exact ⟨j, x8, x9, rfl, Nat.le_refl _, M.hj, fun _ _ => rfl, by rw [M.ge key hk2]⟩
            · rw [uμ_eq]
              show _ < wf
              omega
            · rintro ρ' m' ⟨j', y8, y9, rfl, hj1, hj2, hj3, rfl⟩
              refine Res.W.mono (Q := fun d m1 => d = .bl (decide (∃ h : j' < vs.length, vs[j'].k = key)) ∧ m1 = m ++ [O.lst (fs.map mD), O.lst (badsK (look ms) 0 (vs.take j'))]) ?_ ?_
              · by_cases h1 : j' < vs.length
                · simp [h1, atI_cast, vD]
                · simp [h1]
              rintro _ _ ⟨rfl, rfl⟩
              simp only [IsB_bl, Two_dec]
              refine ⟨fun ⟨hj4, hj5⟩ => ?_, fun hno => ?_⟩
              · have hbl : (badsK (look ms) 0 (vs.take j')).length < 1000000 := by
                  have := badsK_len (K := look ms) (p := 0) (vs := vs.take j')
                  simp at this ⊢
                  omega
                refine wcons ?_
                simp [atI_cast, hj4, vD, Br.cutD, HT.sIx]
                refine wcut (fun ρ' m'' => m'' = m ++ [O.lst (fs.map mD), O.lst (badsK (look ms) 0 (vs.take (j' + 1)))] ∧ ρ' = [some (.lst (ms.map mD)), some (.lst (vs.map vD)), some (.ref m.length), some (.ref (m.length + 1)), some (.int i'), some (.int j'), some (.int key), some (optD (runK (look ms) (vs.take (j' + 1)) key)), some (.str vs[j'].w), some (.int vs[j'].n), x10, x11]) ?_ ?_
                · rw [badsK_take hj4, runK_take hj4]
                  cases hK : runK (look ms) (vs.take j') key with
                  | none =>
                    by_cases ha : vs[j'].w = sAdd
                    · have hnb : ¬ isBad (runK (look ms) (vs.take j')) vs[j'] := by simp [isBad, ha, hj5, hK]
                      simp [ha, optD, U.add]
                      refine wcons ?_
                      simp [ha, optD, U.add, U.drop, add_drop, hnb, stepK, hj5]
                    · have hb : isBad (runK (look ms) (vs.take j')) vs[j'] := by simp [isBad, ha, hj5, hK]
                      simp [ha, optD, U.add]
                      refine wcons ?_
                      simp [ha, optD, U.add, hb, stepK, hK, refL, lmD, hbl, badD, big]
                  | some x =>
                    by_cases ha : vs[j'].w = sAdd
                    · have hb : isBad (runK (look ms) (vs.take j')) vs[j'] := by simp [isBad, ha, hj5, hK]
                      simp [ha, optD, U.add]
                      refine wcons ?_
                      simp [ha, optD, U.add, hb, stepK, hK, refL, lmD, hbl, badD, big]
                    · have hnb : ¬ isBad (runK (look ms) (vs.take j')) vs[j'] := by simp [isBad, ha, hj5, hK]
                      simp [ha, optD, U.add]
                      refine wcons ?_
                      by_cases hd : vs[j'].w = sDrop <;> simp [ha, hd, optD, U.add, U.drop, hnb, stepK, hj5]
                · rintro _ _ ⟨rfl, rfl⟩
                  refine wcons ?_
                  simp only [Ws_asg]
                  simp only [W_bin, W_var, W_cst, List.getElem?_cons_succ, List.getElem?_cons_zero, IsS_some, bin_add, bind_one, List.set_cons_succ, List.set_cons_zero, Ws_nil]
                  refine ⟨⟨j' + 1, some (.str vs[j'].w), some (.int vs[j'].n), rfl, by omega, by omega, fun k hk => ?_, by simp⟩, by rw [show ((j' : Int) + 1) = ((j' + 1 : Nat) : Int) from by omega, uμ_eq, uμ_eq]; omega⟩
                  rw [runK_take hj4, stepK_ne (by rw [hj5]; exact hk)]
                  exact hj3 k hk
              · refine ⟨j', y8, y9, rfl, hj1, hj2, hj3, fun a ha hja => ?_, rfl⟩
                have ht := hv.srt
                rw [List.pairwise_iff_getElem] at ht
                have z1 := hk4 j' (by omega) hj1
                have z2 : vs[j'].k ≠ key := fun e => hno ⟨by omega, e⟩
                by_cases e : j' = a
                · subst e
                  omega
                · have := ht j' a (by simp; omega) (by simp; omega) (by omega)
                  simp at this
                  omega
          · rintro _ _ ⟨j', y8, y9, rfl, hj1, hj2, hj3, hj4, rfl⟩
            refine wcons ?_
            have hM : ∀ fs' : List (Int × Int), (fs' = match runK (look ms) (vs.take j') key with
                | none => fs
                | some x => fs ++ [(key, x)]) → Mid ms vs i' j' (key + 1) fs' := fun fs' e => by
              have hge : ∀ k, c ≤ k → k < key → look ms k = none := fun k h1 h2 => look_none fun p hp => by
                obtain ⟨a, ha, rfl⟩ := List.mem_iff_getElem.mp hp
                by_cases hai : a < i
                · have := M.mlo a ha hai
                  omega
                · have := hk3 a ha (by omega)
                  omega
              have hmem : ∀ k x, (k, x) ∈ fs' ↔ (k, x) ∈ fs ∨ (k = key ∧ runK (look ms) (vs.take j') key = some x) := fun k x => by
                rw [e]
                cases runK (look ms) (vs.take j') key with
                | none => simp
                | some y => simp [eq_comm]
              refine ⟨hi2, hj2, ?_, ?_, ?_, ?_, hi4, hi5, hj4, ?_⟩
              · rw [e]
                cases runK (look ms) (vs.take j') key with
                | none => exact M.srt
                | some y =>
                  simp only [List.map_append, List.map_cons, List.map_nil]
                  rw [List.pairwise_append]
                  refine ⟨M.srt, by simp, fun a ha b hb => ?_⟩
                  obtain ⟨p, hp, rfl⟩ := List.mem_map.mp ha
                  have := M.lt p hp
                  simp at hb
                  omega
              · rintro ⟨k, x⟩ hp
                rcases (hmem k x).mp hp with z | ⟨z, _⟩
                · have := M.lt _ z
                  simp at this ⊢
                  omega
                · simp
                  omega
              · intro k x hk
                rw [hmem]
                by_cases hkk : k = key
                · subst hkk
                  constructor
                  · rintro (z | ⟨_, z⟩)
                    · have := M.lt _ z
                      simp at this
                      omega
                    · exact z
                  · exact fun z => .inr ⟨rfl, z⟩
                · rw [hj3 k hkk]
                  by_cases hkc : k < c
                  · rw [M.mem k x hkc]
                    constructor
                    · rintro (z | ⟨z, _⟩)
                      · exact z
                      · exact absurd z hkk
                    · exact .inl
                  · rw [M.ge k (by omega), hge k (by omega) (by omega)]
                    constructor
                    · rintro (z | ⟨z, _⟩)
                      · have := M.lt _ z
                        simp at this
                        omega
                      · exact absurd z hkk
                    · intro z
                      cases z
              · intro k hk
                rw [hj3 k (by omega)]
                exact M.ge k (by omega)
              · rw [e]
                have := M.flen
                have hp : i + j + 1 ≤ i' + j' := by
                  rcases hi6 with z | ⟨z1, z2⟩
                  · omega
                  · have : j' ≠ j := fun e => by
                      subst e
                      have := hj4 j' z1 (Nat.le_refl _)
                      omega
                    omega
                cases runK (look ms) (vs.take j') key with
                | none => simp only; omega
                | some y => simp only [List.length_append, List.length_cons, List.length_nil]; omega
            have hlt : (ms.length - i') + (vs.length - j') < (ms.length - i) + (vs.length - j) := by
              rcases hi6 with z | ⟨z1, z2⟩
              · omega
              · have : j' ≠ j := fun e => by
                  subst e
                  have := hj4 j' z1 (Nat.le_refl _)
                  omega
                omega
            cases hK : runK (look ms) (vs.take j') key with
            | none =>
              rw [hK] at hM
              simp [optD]
              exact ⟨i', j', key + 1, fs, _, _, _, _, _, _, fun _ => hlt, hM fs rfl, rfl, rfl⟩
            | some x =>
              rw [hK] at hM
              have hfl : fs.length < 1000000 := by
                have := M.flen
                have := M.hi
                have := M.hj
                omega
              simp [optD]
              refine wcons ?_
              simp [refL, lmD, hfl, big]
              exact ⟨i', j', key + 1, fs ++ [(key, x)], _, _, _, _, _, _, fun _ => hlt, hM _ rfl, by simp [mD], rfl⟩
      · rintro ρ' m' ⟨i', j', c', fs', y6, y7, y8, y9, y10, y11, hlt, M', rfl, rfl⟩
        rw [uμ_eq, uμ_eq]
        exact ⟨⟨i', j', c', fs', y6, y7, y8, y9, y10, y11, fun z => by omega, M', rfl, rfl⟩, hlt hc⟩
    · refine wcons ?_
      simp
      have e1 : i = ms.length := by have := M.hi; omega
      have e2 : j = vs.length := by have := M.hj; omega
      subst e1 e2
      refine ⟨fs, ⟨M.srt, ?_⟩, by have := M.flen; omega, by simp⟩
      intro k x
      by_cases hk : k < c
      · have := M.mem k x hk
        rwa [List.take_length] at this
      · have z := M.ge k (by omega)
        rw [List.take_length] at z
        rw [z, look_none]
        · constructor
          · intro q
            have := M.lt _ q
            simp at this
            omega
          · intro q
            cases q
        · intro p hp
          obtain ⟨a, ha, rfl⟩ := List.mem_iff_getElem.mp hp
          have := M.mlo a ha ha
          omega
end
end BrK


set_option Elab.async false
set_option linter.all false
set_option maxRecDepth 100000
set_option maxHeartbeats 1000000
set_option autoImplicit false
/-! masters and moves drawn. -/
namespace BrK
open PySem PySem.Spec PyProof.Rows L2 Br
theorem mem_dedIK {x : Int} : ∀ {l : List Int}, x ∈ dedI l ↔ x ∈ l
  | [] => Iff.rfl
  | a :: r => by
    unfold dedI
    by_cases h : a ∈ r
    · rw [if_pos h, mem_dedIK, List.mem_cons]
      constructor
      · exact .inr
      · rintro (rfl | z)
        · exact h
        · exact z
    · rw [if_neg h, List.mem_cons, List.mem_cons, mem_dedIK]
theorem nodup_dedIK : ∀ {l : List Int}, (dedI l).Nodup
  | [] => List.nodup_nil
  | a :: r => by
    unfold dedI
    by_cases h : a ∈ r
    · rw [if_pos h]
      exact nodup_dedIK
    · rw [if_neg h, List.nodup_cons]
      exact ⟨fun z => h (mem_dedIK.mp z), nodup_dedIK⟩
theorem len_dedIK : ∀ {l : List Int}, (dedI l).length ≤ l.length
  | [] => Nat.le_refl _
  | a :: r => by
    unfold dedI
    by_cases h : a ∈ r
    · rw [if_pos h]
      exact Nat.le_trans len_dedIK (by simp)
    · rw [if_neg h]
      simpa using len_dedIK
theorem sortI_permK {l : List Int} : (sortI l).Perm l := List.mergeSort_perm ..
theorem sortI_lenK {l : List Int} : (sortI l).length = l.length := sortI_permK.length_eq
theorem mem_sortIK {l : List Int} {x : Int} : x ∈ sortI l ↔ x ∈ l := sortI_permK.mem_iff
theorem sortI_srtK {l : List Int} : (sortI l).Pairwise (· ≤ ·) := by
  have := List.pairwise_mergeSort (le := fun a b : Int => decide (a ≤ b)) (fun a b c h1 h2 => by simp at *; omega) (fun a b => by simp; omega) l
  refine List.Pairwise.imp ?_ this
  intro a b h
  simpa using h
theorem sortI_ltK {l : List Int} (h : l.Nodup) : (sortI l).Pairwise (· < ·) := by
  have h1 := sortI_srtK (l := l)
  have h2 : (sortI l).Nodup := sortI_permK.nodup_iff.mpr h
  refine List.Pairwise.imp ?_ (h1.and h2)
  intro a b ⟨x, y⟩
  omega
structure DrT (T : List (Str × Def)) : Prop where
  dr : Has T "_law_drawn" d__law_drawn
section
variable {T : List (Str × Def)} {g : Str → Option D} {wf n : Nat} {m : Mem} {ns : List Int} {rest : Mem}
/-- [draw for k in range(many)] -/
theorem draws {i0 : Nat} (ht : Has T "_law_drawn" d__law_drawn) {ρ : Sl} {a b : Nat} (hs : St ns rest m) {k : Int} (h0 : 0 < k) (h1 : k < 1073741824) {xs : List D} (ha : ∀ x, (ρ.set i0 x)[a]? = some (some (.ref 0))) (hb : ∀ x, (ρ.set i0 x)[b]? = some (some (.int k))) :
    (compL (.one i0) ρ (fun ρ' m' => evC ⟨callN T g wf (n + 1), g, wf⟩ .nil ρ' m') (fun ρ' m' => evE ⟨callN T g wf (n + 1), g, wf⟩ (.call "_law_drawn" (.cons (.var a) (.cons (.var b) .nil))) ρ' m') xs m).W
      (fun vs m' => ∃ is : List Int, vs = is.map .int ∧ is.length = xs.length ∧ (∀ i ∈ is, 0 ≤ i ∧ i < k) ∧ St ns rest m') noE := by
  refine compL_N (fun j vs m' => ∃ is : List Int, vs = is.map .int ∧ is.length = j ∧ (∀ i ∈ is, 0 ≤ i ∧ i < k) ∧ St ns rest m') ⟨[], rfl, rfl, by simp, hs⟩ ?_ (fun _ _ h => h)
  rintro j hj vs m' ⟨is, rfl, hl, hr, hs'⟩
  simp only [bind_one, IsS_some, W_cnil, IsB_bl, Two_true, W_call, W_cons, W_var, W_nil, ha, hb]
  refine (drawn ht hs' h0 h1).mono ?_
  rintro d m2 ⟨i, rfl, h2, h3, h4⟩
  refine ⟨is ++ [i], by simp, by simp [hl], ?_, h4⟩
  intro x hx
  rcases List.mem_append.mp hx with hx | hx
  · exact hr x hx
  · simp at hx
    subst hx
    exact ⟨h2, h3⟩
theorem masters_ok (ht : Has T "_law_masters" d__law_masters) (hd : Has T "_law_drawn" d__law_drawn) (hs : St ns rest m) {k : Int} (h0 : 0 < k) (h1 : k ≤ 1000) :
    (callN T g wf (n + 2) "_law_masters" [.ref 0, .int k] m).W (fun d m' => ∃ ms, d = .lst (ms.map mD) ∧ OkMs ms ∧ St ns rest m') noE := by
  refine W_run ht rfl (wcons ?_)
  simp [d__law_masters]
  refine (drawn hd hs (by omega) (by omega)).mono ?_
  rintro _ m1 ⟨i, rfl, hi1, hi2, hs1⟩
  have hi : i = 0 ∨ i = 1 ∨ i = 2 := by omega
  have hw : ∃ w : Int, 0 < w ∧ w ≤ 61 ∧ atI [D.int 4, D.int 20, D.int 61] i = some (.int w) := by
    rcases hi with rfl | rfl | rfl
    · exact ⟨4, by omega, by omega, by simp⟩
    · exact ⟨20, by omega, by omega, by simp⟩
    · exact ⟨61, by omega, by omega, by simp⟩
  obtain ⟨w, hw1, hw2, hw3⟩ := hw
  simp [big, hw3]
  refine (drawn hd hs1 hw1 (by omega)).mono ?_
  rintro _ m2 ⟨c, rfl, hc1, hc2, hs2⟩
  refine wcons ?_
  simp
  rw [walk_rng1i hc1 (by simp [big]; omega)]
  simp only [IsS_some, wipeS, List.map_cons, List.map_nil, List.set_cons_succ, List.set_cons_zero]
  refine (draws hd hs2 h0 (by omega) (fun x => rfl) (fun x => rfl)).mono ?_
  rintro _ m3 ⟨is, rfl, hl, hr, hs3⟩
  simp at hl
  simp [hl]
  refine ⟨by omega, ?_⟩
  refine wcons ?_
  simp
  have hL1 := sortI_ltK (l := dedI is) nodup_dedIK
  have hL2 : ∀ x ∈ sortI (dedI is), 0 ≤ x ∧ x < k := fun x hx => hr x (mem_dedIK.mp (mem_sortIK.mp hx))
  have hL3 : (sortI (dedI is)).length ≤ 60 := by
    rw [sortI_lenK]
    have := len_dedIK (l := is)
    omega
  refine compL_N (fun j vs m' => ∃ ms : List (Int × Int), vs = ms.map mD ∧ ms.map (·.1) = (sortI (dedI is)).take j ∧ (∀ p ∈ ms, 0 ≤ p.2 ∧ p.2 ≤ 999) ∧ St ns rest m') ⟨[], rfl, rfl, by simp, hs3⟩ ?_ ?_
  · rintro j hj vs m' ⟨ms, rfl, e1, e2, hs'⟩
    simp at hj
    simp [wipeS]
    refine (drawn hd hs' (by omega) (by omega)).mono ?_
    rintro _ m4 ⟨c, rfl, hc1, hc2, hs4⟩
    refine ⟨ms ++ [((sortI (dedI is))[j], c)], by simp [mD], ?_, ?_, hs4⟩
    · rw [List.map_append, e1, List.take_succ_eq_append_getElem hj]
      rfl
    · intro a b hp
      rcases List.mem_append.mp hp with hp | hp
      · exact e2 (a, b) hp
      · simp at hp
        omega
  · rintro vs m' ⟨ms, rfl, e1, e2, hs'⟩
    simp at e1
    refine ⟨ms, rfl, ⟨?_, ?_, e2, by rw [e1]; exact hL1⟩, hs'⟩
    · have := congrArg List.length e1
      simp at this
      omega
    · intro p hp
      have := hL2 p.1 (by rw [← e1]; exact List.mem_map_of_mem hp)
      omega
theorem word3 {i : Int} (h0 : 0 ≤ i) (h1 : i < 3) : ∃ w : Str, atI [D.str sAdd, D.str sDrop, D.str sSet] i = some (.str w) ∧ (w = sAdd ∨ w = sDrop ∨ w = sSet) := by
  have hi : i = 0 ∨ i = 1 ∨ i = 2 := by omega
  rcases hi with rfl | rfl | rfl
  · exact ⟨sAdd, by simp, .inl rfl⟩
  · exact ⟨sDrop, by simp, .inr (.inl rfl)⟩
  · exact ⟨sSet, by simp, .inr (.inr rfl)⟩
theorem moves_ok (ht : Has T "_law_moves" d__law_moves) (hd : Has T "_law_drawn" d__law_drawn) (hs : St ns rest m) {k : Int} (h0 : 0 < k) (h1 : k ≤ 1000) :
    (callN T g wf (n + 2) "_law_moves" [.ref 0, .int k] m).W (fun d m' => ∃ vs, d = .lst (vs.map vD) ∧ OkVs vs ∧ St ns rest m') noE := by
  refine W_run ht rfl (wcons ?_)
  simp [d__law_moves]
  refine (drawn hd hs (by omega) (by omega)).mono ?_
  rintro _ m1 ⟨i, rfl, hi1, hi2, hs1⟩
  have hi : i = 0 ∨ i = 1 ∨ i = 2 := by omega
  have hw : ∃ w : Int, 0 < w ∧ w ≤ 61 ∧ atI [D.int 6, D.int 20, D.int 61] i = some (.int w) := by
    rcases hi with rfl | rfl | rfl
    · exact ⟨6, by omega, by omega, by simp⟩
    · exact ⟨20, by omega, by omega, by simp⟩
    · exact ⟨61, by omega, by omega, by simp⟩
  obtain ⟨w, hw1, hw2, hw3⟩ := hw
  simp [big, hw3]
  refine (drawn hd hs1 hw1 (by omega)).mono ?_
  rintro _ m2 ⟨c, rfl, hc1, hc2, hs2⟩
  refine wcons ?_
  simp
  rw [walk_rng1i hc1 (by simp [big]; omega)]
  simp only [IsS_some, wipeS, List.map_cons, List.map_nil, List.set_cons_succ, List.set_cons_zero]
  refine (draws hd hs2 h0 (by omega) (fun x => rfl) (fun x => rfl)).mono ?_
  rintro _ m3 ⟨is, rfl, hl, hr, hs3⟩
  simp at hl
  simp
  refine wcons ?_
  simp
  have hL1 := sortI_srtK (l := is)
  have hL2 : ∀ x ∈ sortI is, 0 ≤ x ∧ x < k := fun x hx => hr x (mem_sortIK.mp hx)
  have hL3 : (sortI is).length ≤ 60 := by
    rw [sortI_lenK]
    omega
  refine compL_N (fun j us m' => ∃ vs : List Mv, us = vs.map vD ∧ vs.map (·.k) = (sortI is).take j ∧ (∀ p ∈ vs, (0 ≤ p.n ∧ p.n ≤ 999) ∧ (p.w = sAdd ∨ p.w = sDrop ∨ p.w = sSet)) ∧ St ns rest m') ⟨[], rfl, rfl, by simp, hs3⟩ ?_ ?_
  · rintro j hj us m' ⟨vs, rfl, e1, e2, hs'⟩
    simp at hj
    simp [wipeS]
    refine (drawn hd hs' (by omega) (by omega)).mono ?_
    rintro _ m4 ⟨c, rfl, hc1, hc2, hs4⟩
    obtain ⟨w, hw, hw2⟩ := word3 hc1 hc2
    simp [hw]
    refine (drawn hd hs4 (by omega) (by omega)).mono ?_
    rintro _ m5 ⟨b, rfl, hb1, hb2, hs5⟩
    refine ⟨vs ++ [⟨(sortI is)[j], w, b⟩], by simp [vD], ?_, ?_, hs5⟩
    · rw [List.map_append, e1, List.take_succ_eq_append_getElem hj]
      rfl
    · intro p hp
      rcases List.mem_append.mp hp with hp | hp
      · exact e2 p hp
      · simp at hp
        subst hp
        exact ⟨⟨hb1, by show b ≤ 999; omega⟩, hw2⟩
  · rintro us m' ⟨vs, rfl, e1, e2, hs'⟩
    simp at e1
    refine ⟨vs, rfl, ⟨?_, ?_, fun p hp => (e2 p hp).1, fun p hp => (e2 p hp).2, by rw [e1]; exact hL1⟩, hs'⟩
    · have := congrArg List.length e1
      simp at this
      omega
    · intro p hp
      have := hL2 p.k (by rw [← e1]; exact List.mem_map_of_mem hp)
      omega
end
end BrK


set_option Elab.async false
set_option linter.all false
set_option maxRecDepth 100000
set_option maxHeartbeats 1000000
set_option autoImplicit false
/-! dicts; what is frozen; lists by their members. -/
namespace BrK
open PySem PySem.Spec PyProof.Rows L2 Br
abbrev Kv := List (Key × D)
theorem lookK_nil {k : Key} : lookK [] k = none := rfl
theorem lookK_cons {p : Key × D} {r : Kv} {k : Key} : lookK (p :: r) k = if p.1 = k then some p.2 else lookK r k := by
  unfold lookK
  rw [List.find?_cons]
  by_cases h : p.1 = k <;> simp [h]
theorem lookK_app {a b : Kv} {k : Key} : lookK (a ++ b) k = (lookK a k).or (lookK b k) := by
  induction a with
  | nil => simp [lookK_nil]
  | cons p r ih =>
    rw [List.cons_append, lookK_cons, lookK_cons, ih]
    by_cases h : p.1 = k <;> simp [h]
theorem lookK_any {a : Kv} {k : Key} : (a.any fun p => decide (p.1 = k)) = (lookK a k).isSome := by
  induction a with
  | nil => rfl
  | cons p r ih =>
    rw [List.any_cons, lookK_cons, ih]
    by_cases h : p.1 = k <;> simp [h]
theorem lookK_map {a : Kv} {k k' : Key} {v : D} : lookK (a.map fun p => if p.1 = k then (p.1, v) else p) k' = if k' = k then (lookK a k').map fun _ => v else lookK a k' := by
  induction a with
  | nil => simp [lookK_nil]
  | cons p r ih =>
    rw [List.map_cons, lookK_cons, ih, lookK_cons]
    by_cases h : p.1 = k
    · by_cases h2 : k' = k
      · subst h2
        simp [h]
      · have h3 : ¬ p.1 = k' := fun e => h2 (by rw [← e, h])
        have h4 : ¬ k = k' := fun e => h2 e.symm
        simp [h, h2, h3, h4]
    · by_cases h2 : p.1 = k'
      · have h3 : ¬ k' = k := fun e => h (by rw [h2, e])
        simp [h, h2, h3]
      · simp [h, h2]
theorem lookK_put {a : Kv} {k k' : Key} {v : D} : lookK (Br.putK a k v) k' = if k' = k then some v else lookK a k' := by
  unfold Br.putK
  rw [lookK_any]
  by_cases h : (lookK a k).isSome = true
  · rw [if_pos h, lookK_map]
    by_cases e : k' = k
    · subst e
      obtain ⟨x, hx⟩ := Option.isSome_iff_exists.mp h
      simp [hx]
    · simp [e]
  · rw [if_neg h, lookK_app, lookK_cons, lookK_nil]
    by_cases e : k' = k
    · subst e
      have : lookK a k' = none := by simpa using h
      simp [this]
    · have : ¬ k = k' := fun z => e z.symm
      simp [e, this]
theorem lookK_drop {a : Kv} {k k' : Key} : lookK (Br.dropK a k) k' = if k' = k then none else lookK a k' := by
  unfold Br.dropK
  induction a with
  | nil => simp [lookK_nil]
  | cons p r ih =>
    rw [List.filter_cons]
    by_cases h : p.1 = k
    · simp only [h, ne_eq, not_true_eq_false, decide_false, Bool.false_eq_true, if_false, ih, lookK_cons]
      by_cases e : k' = k
      · simp [e]
      · have : ¬ k = k' := fun z => e z.symm
        simp [e, this]
    · simp only [h, ne_eq, not_false_eq_true, decide_true, if_true, lookK_cons, ih]
      by_cases e : k' = k
      · subst e
        simp [h]
      · simp [e]
theorem keys_put {a : Kv} {k : Key} {v : D} : (Br.putK a k v).map (·.1) = if (lookK a k).isSome = true then a.map (·.1) else a.map (·.1) ++ [k] := by
  unfold Br.putK
  rw [lookK_any]
  by_cases h : (lookK a k).isSome = true
  · rw [if_pos h, if_pos h, List.map_map]
    apply List.map_congr_left
    intro p _
    simp only [Function.comp]
    by_cases e : p.1 = k <;> simp [e]
  · rw [if_neg h, if_neg h]
    simp
theorem lookK_mem {a : Kv} {k : Key} : (lookK a k).isSome = true ↔ k ∈ a.map (·.1) := by
  induction a with
  | nil => simp [lookK_nil]
  | cons p r ih =>
    rw [lookK_cons, List.map_cons, List.mem_cons]
    by_cases h : p.1 = k
    · simp [h]
    · rw [if_neg h, ih]
      constructor
      · exact .inr
      · rintro (e | e)
        · exact absurd e.symm h
        · exact e
theorem nodup_put {a : Kv} {k : Key} {v : D} (h : (a.map (·.1)).Nodup) : ((Br.putK a k v).map (·.1)).Nodup := by
  rw [keys_put]
  by_cases e : (lookK a k).isSome = true
  · rw [if_pos e]
    exact h
  · rw [if_neg e, List.nodup_append]
    refine ⟨h, by simp, ?_⟩
    intro x hx y hy
    simp at hy
    subst hy
    intro z
    subst z
    exact e (lookK_mem.mpr hx)
theorem nodup_drop {a : Kv} {k : Key} (h : (a.map (·.1)).Nodup) : ((Br.dropK a k).map (·.1)).Nodup := h.sublist (List.Sublist.map _ List.filter_sublist)
theorem put_new {a : Kv} : ∀ {ps : Kv}, ((a ++ ps).map (·.1)).Nodup → ps.foldl (fun a p => Br.putK a p.1 p.2) a = a ++ ps
  | ps, h => by
    induction ps generalizing a with
    | nil => simp
    | cons p r ih =>
      have hn : ¬ (lookK a p.1).isSome = true := by
        intro z
        rw [lookK_mem] at z
        rw [List.map_append, List.nodup_append] at h
        exact h.2.2 _ z _ (by simp) rfl
      have e : Br.putK a p.1 p.2 = a ++ [p] := by
        unfold Br.putK
        rw [lookK_any, if_neg hn]
      rw [List.foldl_cons, e, ih (by simpa using h)]
      simp
theorem keys_dct {m : Mem} {n : Nat} {a : Kv} (hm : m[n]? = some (.dct a)) {l : List Int} (h : a.map (·.1) = l.map .inl) : keysD m (.ref n) = some (l.map .int) := by
  simp only [keysD, hm, Option.some.injEq]
  clear hm
  induction a generalizing l with
  | nil =>
    cases l with
    | nil => rfl
    | cons x r => simp at h
  | cons p r ih =>
    cases l with
    | nil => simp at h
    | cons x l =>
      simp only [List.map_cons, List.cons.injEq] at h
      simp only [List.map_cons, h.1, ih h.2]
theorem nodup_inl {l : List Int} (h : (l.map (Sum.inl : Int → Key)).Nodup) : l.Nodup := by
  unfold List.Nodup at h
  rw [List.pairwise_map] at h
  exact h.imp fun h e => h (by rw [e])
theorem allInl {a : Kv} (h : ∀ p ∈ a, ∃ i : Int, p.1 = .inl i) : ∃ l : List Int, a.map (·.1) = l.map .inl := by
  induction a with
  | nil => exact ⟨[], rfl⟩
  | cons p r ih =>
    obtain ⟨l, hl⟩ := ih fun q hq => h q (List.mem_cons_of_mem _ hq)
    obtain ⟨i, hi⟩ := h p (List.mem_cons_self ..)
    exact ⟨i :: l, by simp [hl, hi]⟩
/-! ### by members -/
theorem uniq {α : Type} {r : α → α → Prop} (irr : ∀ a, ¬ r a a) (asy : ∀ a b, r a b → r b a → False) : ∀ {a b : List α}, a.Pairwise r → b.Pairwise r → (∀ p, p ∈ a ↔ p ∈ b) → a = b
  | [], [], _, _, _ => rfl
  | [], y :: b, _, _, h => by have := (h y).mpr (List.mem_cons_self ..); cases this
  | x :: a, [], _, _, h => by have := (h x).mp (List.mem_cons_self ..); cases this
  | x :: a, y :: b, ha, hb, h => by
    rw [List.pairwise_cons] at ha hb
    have e : x = y := by
      rcases List.mem_cons.mp ((h x).mp (List.mem_cons_self ..)) with z | z
      · exact z
      · rcases List.mem_cons.mp ((h y).mpr (List.mem_cons_self ..)) with z2 | z2
        · exact z2.symm
        · exact (asy _ _ (ha.1 y z2) (hb.1 x z)).elim
    subst e
    rw [uniq irr asy ha.2 hb.2 fun p => ?_]
    have := h p
    constructor
    · intro q
      rcases List.mem_cons.mp (this.mp (List.mem_cons_of_mem _ q)) with z | z
      · subst z
        exact (irr _ (ha.1 _ q)).elim
      · exact z
    · intro q
      rcases List.mem_cons.mp (this.mpr (List.mem_cons_of_mem _ q)) with z | z
      · subst z
        exact (irr _ (hb.1 _ q)).elim
      · exact z
theorem told_uniq {ms : List (Int × Int)} {vs : List Mv} {a b : List (Int × Int)} (ha : Told ms vs a) (hb : Told ms vs b) : a = b := by
  refine uniq (r := fun p q : Int × Int => p.1 < q.1) (fun _ => by omega) (fun _ _ _ _ => by omega) (List.pairwise_map.mp ha.srt) (List.pairwise_map.mp hb.srt) fun p => ?_
  obtain ⟨k, x⟩ := p
  rw [ha.mem, hb.mem]
/-! ### frozen, nice -/
theorem frz_ref {m : Mem} {k p : Nat} {ds : List D} (h : m[p]? = some (.lst ds)) (hk : k ≤ p) (hp : D.pures ds = true) : frzD m k (.ref p) = some (.lst ds) := by
  show frz m k 6 p = _
  unfold frz
  rw [if_neg (by omega), h]
  simp only [D.ress_pures hp, Option.map_some]
theorem nices_map {α : Type} {l : List α} {f : α → D} (h : ∀ x ∈ l, (f x).nice = true) : D.nices (l.map f) = true := by
  induction l with
  | nil => rfl
  | cons x r ih =>
    simp only [List.map_cons, D.nices, Bool.and_eq_true]
    exact ⟨h x (List.mem_cons_self ..), ih fun y hy => h y (List.mem_cons_of_mem _ hy)⟩
theorem deps_map {α : Type} {l : List α} {f : α → D} {c : Nat} (h : ∀ x ∈ l, (f x).dep ≤ c) : D.deps (l.map f) ≤ c := by
  induction l with
  | nil => simp [D.deps]
  | cons x r ih =>
    simp only [List.map_cons, D.deps]
    exact Nat.max_le.mpr ⟨h x (List.mem_cons_self ..), ih fun y hy => h y (List.mem_cons_of_mem _ hy)⟩
theorem wids_map {α : Type} {l : List α} {f : α → D} (h : ∀ x ∈ l, wid (f x) = true) : wids (l.map f) = true := by
  induction l with
  | nil => rfl
  | cons x r ih =>
    simp only [List.map_cons, wids, Bool.and_eq_true]
    exact ⟨h x (List.mem_cons_self ..), ih fun y hy => h y (List.mem_cons_of_mem _ hy)⟩
theorem nices_app {a b : List D} : D.nices (a ++ b) = (D.nices a && D.nices b) := by
  induction a with
  | nil => rfl
  | cons x r ih => simp only [List.cons_append, D.nices, ih, Bool.and_assoc]
theorem nices_all {l : List D} (h : ∀ x ∈ l, x.nice = true) : D.nices l = true := by simpa using nices_map (f := id) h
theorem nices_rev {l : List D} (h : D.nices l = true) : D.nices l.reverse = true := nices_all fun x hx => nices_mem h (List.mem_reverse.mp hx)
mutual
theorem und_nice {k : Nat} : ∀ {d : D}, d.nice = true → d.und k = true
  | .non, _ => rfl
  | .bl _, _ => rfl
  | .int _, _ => rfl
  | .str _, _ => rfl
  | .tup ds, h => by
    simp only [D.nice] at h
    simp only [D.und]
    exact unds_nice h
  | .lst ds, h => by
    simp only [D.nice] at h
    simp only [D.und]
    exact unds_nice h
  | .scr _, h => by cases h
  | .ref _, h => by cases h
theorem unds_nice {k : Nat} : ∀ {ds : List D}, D.nices ds = true → D.unds k ds = true
  | [], _ => rfl
  | d :: r, h => by
    simp only [D.nices, Bool.and_eq_true] at h
    simp only [D.unds, Bool.and_eq_true]
    exact ⟨und_nice h.1, unds_nice h.2⟩
end
/-- lists of nice things -/
def niceO : O → Bool
  | .lst ds => D.nices ds
  | _ => false
theorem St.und {ns : List Int} {rest m : Mem} (h : St ns rest m) (hr : rest.all niceO = true) {k : Nat} : m.all (O.und k) = true := by
  obtain ⟨a, b, c, _, rfl⟩ := h
  simp only [List.all_cons, O.und, D.unds, D.und, Bool.and_true, Bool.true_and]
  rw [List.all_eq_true] at hr ⊢
  intro o ho
  have := hr o ho
  cases o with
  | lst ds => exact unds_nice this
  | _ => cases this
theorem St.app {ns : List Int} {rest m : Mem} (h : St ns rest m) (x : Mem) : St ns (rest ++ x) (m ++ x) := by
  obtain ⟨a, b, c, ha, rfl⟩ := h
  exact ⟨a, b, c, ha, rfl⟩
theorem St.pos {ns : List Int} {rest m : Mem} (h : St ns rest m) : m.length = rest.length + 1 := by
  obtain ⟨a, b, c, ha, rfl⟩ := h
  simp
end BrK


set_option Elab.async false
set_option linter.all false
set_option maxRecDepth 100000
set_option maxHeartbeats 1000000
set_option autoImplicit false
/-! k17: what the law does. -/
namespace BrK
open PySem PySem.Spec PyProof.Rows L2 Br
def b_law : Sms := (Sms.cons (Sm.asg (Tg.one 1) (Ex.call "_law_start" (Exs.cons (Ex.var 0) Exs.nil)))
 (Sms.cons (Sm.for (Tg.one 2) Wk.rng1 (Exs.cons (Ex.cst (D.int 3)) Exs.nil) (Sms.cons (Sm.asg (Tg.one 3) (Ex.idx (Ex.lst true (Exs.cons (Ex.cst (D.int 3)) (Exs.cons (Ex.cst (D.int 8)) (Exs.cons (Ex.cst (D.int 30)) (Exs.cons (Ex.cst (D.int 1000)) Exs.nil))))) (Ex.call "_law_drawn" (Exs.cons (Ex.var 1) (Exs.cons (Ex.cst (D.int 4)) Exs.nil)))))
 (Sms.cons (Sm.asg (Tg.one 4) (Ex.call "_law_masters" (Exs.cons (Ex.var 1) (Exs.cons (Ex.var 3) Exs.nil))))
 (Sms.cons (Sm.asg (Tg.one 5) (Ex.call "_law_moves" (Exs.cons (Ex.var 1) (Exs.cons (Ex.var 3) Exs.nil))))
 (Sms.cons (Sm.asg (Tg.tup [6, 7]) (Ex.scope (Ex.call "updated" (Exs.cons (Ex.var 4) (Exs.cons (Ex.var 5) Exs.nil)))))
 (Sms.cons (Sm.asg (Tg.one 8) (Ex.call "_law_drawn" (Exs.cons (Ex.var 1) (Exs.cons (Ex.bin Bop.add (Ex.fn Fn.len (Exs.cons (Ex.var 5) Exs.nil)) (Ex.cst (D.int 1))) Exs.nil))))
 (Sms.cons (Sm.asg (Tg.tup [9, 10]) (Ex.scope (Ex.call "updated" (Exs.cons (Ex.var 4) (Exs.cons (Ex.sli (Ex.var 5) Exs.nil (Exs.cons (Ex.var 8) Exs.nil)) Exs.nil)))))
 (Sms.cons (Sm.asg (Tg.tup [11, 12]) (Ex.lst true (Exs.cons (Ex.var 6) (Exs.cons (Ex.lst true Exs.nil) Exs.nil))))
 (Sms.cons (Sm.iff (Ex.cmp Cop.le (Ex.fn Fn.len (Exs.cons (Ex.var 9) Exs.nil)) (Ex.cst (D.int 60))) (Sms.cons (Sm.asg (Tg.tup [11, 12]) (Ex.scope (Ex.call "updated" (Exs.cons (Ex.var 9) (Exs.cons (Ex.sli (Ex.var 5) (Exs.cons (Ex.var 8) Exs.nil) Exs.nil) Exs.nil)))))
 (Sms.cons (Sm.asg (Tg.one 12) (Ex.bin Bop.add (Ex.var 10) (Ex.comp [("_law_number", 17), ("_law_why", 18)] (Tg.tup [17, 18]) Wk.seq (Exs.cons (Ex.var 12) Exs.nil) Exs.nil (Ex.tup (Exs.cons (Ex.bin Bop.add (Ex.var 17) (Ex.var 8)) (Exs.cons (Ex.var 18) Exs.nil))))))
 (Sms.cons (Sm.iff (Ex.or (Ex.cmp Cop.ne (Ex.var 11) (Ex.var 6)) (Ex.cmp Cop.ne (Ex.var 12) (Ex.var 7))) (Sms.cons (Sm.ret (Ex.cst (D.bl false)))
 Sms.nil) Sms.nil)
 Sms.nil))) Sms.nil)
 (Sms.cons (Sm.asg (Tg.one 13) (Ex.comp [("_law_move", 16)] (Tg.one 16) Wk.seq (Exs.cons (Ex.var 5) Exs.nil) Exs.nil (Ex.idx (Ex.var 16) (Ex.cst (D.int 0)))))
 (Sms.cons (Sm.iff (Ex.cmp Cop.ne (Ex.comp [("_law_pair", 20)] (Tg.one 20) Wk.seq (Exs.cons (Ex.var 4) Exs.nil) (Exs.cons (Ex.cmp Cop.nin (Ex.idx (Ex.var 20) (Ex.cst (D.int 0))) (Ex.var 13)) Exs.nil) (Ex.var 20)) (Ex.comp [("_law_pair", 20)] (Tg.one 20) Wk.seq (Exs.cons (Ex.var 6) Exs.nil) (Exs.cons (Ex.cmp Cop.nin (Ex.idx (Ex.var 20) (Ex.cst (D.int 0))) (Ex.var 13)) Exs.nil) (Ex.var 20))) (Sms.cons (Sm.ret (Ex.cst (D.bl false)))
 Sms.nil) Sms.nil)
 (Sms.cons (Sm.asg (Tg.one 14) (Ex.comp [("_law_number", 17), ("_law_why", 18)] (Tg.tup [17, 18]) Wk.seq (Exs.cons (Ex.var 7) Exs.nil) Exs.nil (Ex.var 17)))
 (Sms.cons (Sm.asg (Tg.one 15) (Ex.comp [("_law_k", 19)] (Tg.one 19) Wk.rng1 (Exs.cons (Ex.fn Fn.len (Exs.cons (Ex.var 5) Exs.nil)) Exs.nil) (Exs.cons (Ex.cmp Cop.nin (Ex.var 19) (Ex.var 14)) Exs.nil) (Ex.idx (Ex.var 5) (Ex.var 19))))
 (Sms.cons (Sm.iff (Ex.or (Ex.cmp Cop.ne (Ex.scope (Ex.call "updated" (Exs.cons (Ex.var 4) (Exs.cons (Ex.var 15) Exs.nil)))) (Ex.tup (Exs.cons (Ex.var 6) (Exs.cons (Ex.lst true Exs.nil) Exs.nil)))) (Ex.cmp Cop.ne (Ex.scope (Ex.call "updated" (Exs.cons (Ex.var 4) (Exs.cons (Ex.lst true Exs.nil) Exs.nil)))) (Ex.tup (Exs.cons (Ex.var 4) (Exs.cons (Ex.lst true Exs.nil) Exs.nil))))) (Sms.cons (Sm.ret (Ex.cst (D.bl false)))
 Sms.nil) Sms.nil)
 (Sms.cons (Sm.iff (Ex.cmp Cop.ne (Ex.comp [("_law_mark", 21), ("_law_worth", 22)] (Tg.tup [21, 22]) Wk.seq (Exs.cons (Ex.var 6) Exs.nil) Exs.nil (Ex.var 21)) (Ex.fn Fn.sortedSet (Exs.cons (Ex.comp [("_law_mark", 21), ("_law_worth", 22)] (Tg.tup [21, 22]) Wk.seq (Exs.cons (Ex.var 6) Exs.nil) Exs.nil (Ex.var 21)) Exs.nil))) (Sms.cons (Sm.ret (Ex.cst (D.bl false)))
 Sms.nil) Sms.nil)
 Sms.nil)))))))))))))))
 (Sms.cons (Sm.ret (Ex.cst (D.bl true)))
 Sms.nil)))
def d_law : Def := ⟨1, 23, b_law⟩
theorem nice_mD {p : Int × Int} : (mD p).nice = true := rfl
theorem nice_vD {p : Mv} : (vD p).nice = true := rfl
theorem nices_bads : ∀ {K : Int → Option Int} {p : Nat} {vs : List Mv}, D.nices (badsK K p vs) = true
  | _, _, [] => rfl
  | K, p, v :: r => by
    simp only [badsK, nices_app, nices_bads (vs := r), Bool.and_true]
    split <;> rfl
theorem bads_dep : ∀ {K : Int → Option Int} {p : Nat} {vs : List Mv}, D.deps (badsK K p vs) ≤ 1
  | _, _, [] => by simp [badsK, D.deps]
  | K, p, v :: r => by
    have := bads_dep (K := stepK K v) (p := p + 1) (vs := r)
    simp only [badsK]
    split
    · simp only [List.cons_append, List.nil_append, D.deps, badD, D.dep]
      omega
    · simpa using this
theorem nicesM {l : List (Int × Int)} : D.nices (l.map mD) = true := nices_map fun _ _ => rfl
theorem depsM {l : List (Int × Int)} : D.deps (l.map mD) ≤ 1 := deps_map fun x _ => by simp [mD, D.dep, D.deps]
/-- what is due -/
def dueD (fs : List (Int × Int)) (bs : List D) : D := .tup [.lst (fs.map mD), .lst bs]
/-! ### the bad ones, the good ones -/
def badL : (Int → Option Int) → List Mv → List (Nat × Mv)
  | _, [] => []
  | K, v :: r => (if isBad K v then [(0, v)] else []) ++ (badL (stepK K v) r).map fun q => (q.1 + 1, q.2)
def goodL : (Int → Option Int) → List Mv → List Mv
  | _, [] => []
  | K, v :: r => (if isBad K v then [] else [v]) ++ goodL (stepK K v) r
theorem bads_eq : ∀ {K : Int → Option Int} {p : Nat} {vs : List Mv}, badsK K p vs = (badL K vs).map fun q => badD (q.1 + p) q.2
  | _, _, [] => rfl
  | K, p, v :: r => by
    simp only [badsK, badL, bads_eq (vs := r), List.map_append, List.map_map]
    congr 1
    · split <;> simp
    · apply List.map_congr_left
      intro q _
      simp only [Function.comp]
      rw [show q.1 + (p + 1) = q.1 + 1 + p from by omega]
theorem good_run : ∀ {K : Int → Option Int} {vs : List Mv}, runK K (goodL K vs) = runK K vs
  | _, [] => rfl
  | K, v :: r => by
    by_cases h : isBad K v
    · simp only [goodL, if_pos h, List.nil_append]
      have e : stepK K v = K := by
        unfold stepK
        rw [if_pos h]
      show runK K (goodL (stepK K v) r) = runK (stepK K v) r
      rw [e]
      exact good_run
    · simp only [goodL, if_neg h, List.cons_append, List.nil_append]
      show runK (stepK K v) (goodL (stepK K v) r) = runK (stepK K v) r
      exact good_run
theorem good_bads : ∀ {K : Int → Option Int} {p : Nat} {vs : List Mv}, badsK K p (goodL K vs) = []
  | _, _, [] => rfl
  | K, p, v :: r => by
    by_cases h : isBad K v
    · simp only [goodL, if_pos h, List.nil_append]
      have e : stepK K v = K := by
        unfold stepK
        rw [if_pos h]
      rw [e]
      exact good_bads
    · simp only [goodL, if_neg h, List.cons_append, List.nil_append, badsK]
      exact good_bads
theorem good_sub : ∀ {K : Int → Option Int} {vs : List Mv}, (goodL K vs).Sublist vs
  | _, [] => List.Sublist.refl _
  | K, v :: r => by
    by_cases h : isBad K v
    · simp only [goodL, if_pos h, List.nil_append]
      exact (good_sub (K := stepK K v)).cons _
    · simp only [goodL, if_neg h, List.cons_append, List.nil_append]
      exact (good_sub (K := stepK K v)).cons₂ _
theorem OkVs.sub {us vs : List Mv} (h : OkVs vs) (s : us.Sublist vs) : OkVs us :=
  ⟨Nat.le_trans s.length_le h.len, fun p hp => h.r1 p (s.subset hp), fun p hp => h.r2 p (s.subset hp), fun p hp => h.wd p (s.subset hp), h.srt.sublist (s.map _)⟩
def nth (vs : List Mv) (i : Nat) : D := match vs[i]? with
  | some v => vD v
  | none => .non
theorem good_pick : ∀ {K : Int → Option Int} {vs : List Mv}, ((List.range vs.length).filter fun i => decide (i ∉ (badL K vs).map (·.1))).map (nth vs) = (goodL K vs).map vD
  | _, [] => rfl
  | K, v :: r => by
    have ih := good_pick (K := stepK K v) (vs := r)
    have e1 : ∀ i, (i + 1 ∉ (badL K (v :: r)).map (·.1)) ↔ i ∉ (badL (stepK K v) r).map (·.1) := fun i => by
      simp only [badL, List.map_append, List.map_map, List.mem_append, List.mem_map, Function.comp, not_or]
      constructor
      · rintro ⟨_, h⟩ ⟨q, hq, e⟩
        exact h ⟨q, hq, by omega⟩
      · intro h
        refine ⟨?_, ?_⟩
        · split <;> simp
        · rintro ⟨q, hq, e⟩
          exact h ⟨q, hq, by omega⟩
    have e2 : (0 ∉ (badL K (v :: r)).map (·.1)) ↔ ¬ isBad K v := by
      simp only [badL, List.map_append, List.map_map, List.mem_append, List.mem_map, Function.comp, not_or]
      by_cases h : isBad K v <;> simp [h]
    rw [List.length_cons, List.range_succ_eq_map, List.filter_cons]
    have e3 : ((List.map Nat.succ (List.range r.length)).filter fun i => decide (i ∉ (badL K (v :: r)).map (·.1))).map (nth (v :: r)) = (goodL (stepK K v) r).map vD := by
      rw [List.filter_map, List.map_map, ← ih]
      have f1 : ((fun i => decide (i ∉ (badL K (v :: r)).map (·.1))) ∘ Nat.succ) = fun i => decide (i ∉ (badL (stepK K v) r).map (·.1)) := by
        funext i
        exact decide_eq_decide.mpr (e1 i)
      rw [f1]
      rfl
    by_cases h : isBad K v
    · have : decide (0 ∉ (badL K (v :: r)).map (·.1)) = false := decide_eq_false (by rw [e2]; exact fun z => z h)
      rw [this]
      simp only [Bool.false_eq_true, if_false, e3, goodL, if_pos h, List.nil_append]
    · have : decide (0 ∉ (badL K (v :: r)).map (·.1)) = true := decide_eq_true (e2.mpr h)
      rw [this]
      simp only [if_true, List.map_cons, e3, goodL, if_neg h, List.cons_append, List.nil_append]
      rfl
theorem run_src : ∀ {vs : List Mv} {K : Int → Option Int} {k x : Int}, runK K vs k = some x → K k = some x ∨ ∃ v ∈ vs, v.k = k ∧ v.n = x
  | [], _, _, _, h => .inl h
  | v :: r, K, k, x, h => by
    rcases run_src (vs := r) (K := stepK K v) h with z | ⟨u, hu, e⟩
    · unfold stepK at z
      split at z
      · exact .inl z
      · simp only at z
        split at z
        · rename_i e
          split at z
          · cases z
          · exact .inr ⟨v, List.mem_cons_self .., e.symm, Option.some.inj z⟩
        · exact .inl z
    · exact .inr ⟨u, List.mem_cons_of_mem _ hu, e⟩
theorem run_away : ∀ {vs : List Mv} {K : Int → Option Int} {k : Int}, k ∉ vs.map (·.k) → runK K vs k = K k
  | [], _, _, _ => rfl
  | v :: r, K, k, h => by
    rw [List.map_cons, List.mem_cons, not_or] at h
    show runK (stepK K v) r k = K k
    rw [run_away h.2, stepK_ne h.1]
theorem look_told {ms fs : List (Int × Int)} {vs : List Mv} (h : Told ms vs fs) : look fs = runK (look ms) vs := by
  funext k
  apply Option.ext
  intro x
  rw [look_some h.srt, h.mem]
theorem ok_told {ms fs : List (Int × Int)} {vs : List Mv} (hm : OkMs ms) (hv : OkVs vs) (h : Told ms vs fs) (hl : fs.length ≤ 60) : OkMs fs := by
  have key : ∀ p ∈ fs, (0 ≤ p.1 ∧ p.1 ≤ 999) ∧ 0 ≤ p.2 ∧ p.2 ≤ 999 := by
    rintro ⟨k, x⟩ hp
    rcases run_src ((h.mem k x).mp hp) with z | ⟨v, hv', rfl, rfl⟩
    · have z2 := (look_some hm.srt).mp z
      exact ⟨hm.r1 _ z2, hm.r2 _ z2⟩
    · exact ⟨hv.r1 _ hv', hv.r2 _ hv'⟩
  exact ⟨hl, fun p hp => (key p hp).1, fun p hp => (key p hp).2, h.srt⟩
theorem told_nil {ms : List (Int × Int)} (h : OkMs ms) : Told ms [] ms := ⟨h.srt, fun k x => (look_some h.srt).symm⟩
theorem sort_id {l : List Int} (h : l.Pairwise (· < ·)) : sortI (dedI l) = l :=
  uniq (r := (· < ·)) (fun _ => Int.lt_irrefl _) (fun a b h1 h2 => by omega) (sortI_ltK nodup_dedIK) h fun p => by rw [mem_sortIK, mem_dedIK]
structure K17T (T : List (Str × Def)) (g : Str → Option D) : Prop extends UpT T g where
  start : Has T "_law_start" d__law_start
  dr : Has T "_law_drawn" d__law_drawn
  lma : Has T "_law_masters" d__law_masters
  lmo : Has T "_law_moves" d__law_moves
  law : Has T "law" d_law
def LawI (ns : List Int) (ρ : Sl) (m : Mem) : Prop := ∃ (x2 x3 x4 x5 x6 x7 x8 x9 x10 x11 x12 x13 x14 x15 : Option D), St ns [] m ∧ ρ = [some (.scr ns), some (.ref 0), x2, x3, x4, x5, x6, x7, x8, x9, x10, x11, x12, x13, x14, x15, none, none, none, none, none, none, none]
theorem cut_take {ds : List D} {c : Nat} : Br.cutD ds none (some (c : Int)) = ds.take c := by
  unfold Br.cutD
  rw [HT.sIx_nat, HT.sIx_none, List.drop_zero, Nat.sub_zero]
  by_cases h : c ≤ ds.length
  · rw [Nat.min_eq_left h]
  · rw [Nat.min_eq_right (by omega), List.take_of_length_le (Nat.le_refl _), List.take_of_length_le (by omega)]
theorem cut_drop {ds : List D} {c : Nat} : Br.cutD ds (some (c : Int)) none = ds.drop c := by
  unfold Br.cutD
  rw [HT.sIx_nat, HT.sIx_none]
  by_cases h : c ≤ ds.length
  · rw [Nat.min_eq_left h, List.take_of_length_le (by simp)]
  · rw [Nat.min_eq_right (by omega), List.drop_of_length_le (Nat.le_refl _), List.drop_of_length_le (by omega), List.take_nil]
section
variable {T : List (Str × Def)} {g : Str → Option D} {wf n : Nat} {m : Mem} {ns : List Int}
theorem upd_thaw (U : UpT T g) {ms : List (Int × Int)} {vs : List Mv} (h : OkMs ms) (hv : OkVs vs) (hwf : 200 < wf) (hs : St ns [] m) {Q : D → Mem → Prop} (q : ∀ fs, Told ms vs fs → fs.length ≤ 120 → Q (dueD fs (badsK (look ms) 0 vs)) m) :
    (callN T g wf (n + 3) "updated" [.lst (ms.map mD), .lst (vs.map vD)] m).W (fun d m' => Thaw m d m' Q) noE := by
  refine (updated_ok U h hv hwf).mono ?_
  rintro _ m' ⟨rfl, fs, ht, hl, rfl⟩
  refine Thaw.mk (d' := dueD fs (badsK (look ms) 0 vs)) ?_ (hs.und rfl) (q fs ht hl)
  have h1 := frz_ref (m := m ++ [O.lst (fs.map mD), O.lst (badsK (look ms) 0 vs)]) (k := m.length) (p := m.length + 1) mem1 (by omega) (D.nices_pures nices_bads)
  have h2 := frz_ref (m := m ++ [O.lst (fs.map mD), O.lst (badsK (look ms) 0 vs)]) (k := m.length) (p := m.length) mem0 (by omega) (D.nices_pures nicesM)
  unfold frzD at h1 h2 ⊢
  simp only [D.res, D.ress] at h1 h2 ⊢
  simp only [h1, h2, Option.map_some, dueD]
theorem law_ok (U : K17T T g) (hwf : 200 < wf) (ns : List Int) : ∃ m', callN T g wf (n + 10) "law" [.scr ns] [] = .ok (.bl true) m' := by
  have key : (callN T g wf (n + 10) "law" [.scr ns] []).W (fun d _ => d = .bl true) noE := by
    refine W_run U.law rfl (wcons ?_)
    simp only [d_law, b_law, Ws_asg]
    simp
    refine (start U.start).mono ?_
    rintro _ m0 ⟨rfl, hs0⟩
    refine wcons ?_
    simp
    rw [walk_rng1i (by omega) (by simp)]
    simp only [IsS_some]
    refine forL_N (fun _ => LawI ns) ⟨none, none, none, none, none, none, none, none, none, none, none, none, none, none, hs0, rfl⟩ ?_ ?_
    · rintro j hj ρ m ⟨x2, x3, x4, x5, x6, x7, x8, x9, x10, x11, x12, x13, x14, x15, hs, rfl⟩
      simp only [bind_one, IsS_some]
      refine wcons ?_
      simp
      refine (drawn U.dr hs (by omega) (by omega)).mono ?_
      rintro _ m1 ⟨i, rfl, hi1, hi2, hs1⟩
      have hw : ∃ w : Int, 0 < w ∧ w ≤ 1000 ∧ atI [D.int 3, D.int 8, D.int 30, D.int 1000] i = some (.int w) := by
        have hi : i = 0 ∨ i = 1 ∨ i = 2 ∨ i = 3 := by omega
        rcases hi with rfl | rfl | rfl | rfl
        · exact ⟨3, by omega, by omega, by simp⟩
        · exact ⟨8, by omega, by omega, by simp⟩
        · exact ⟨30, by omega, by omega, by simp⟩
        · exact ⟨1000, by omega, by omega, by simp⟩
      obtain ⟨w, hw1, hw2, hw3⟩ := hw
      simp [hw3]
      refine wcons ?_
      simp
      refine (masters_ok U.lma U.dr hs1 hw1 hw2).mono ?_
      rintro _ m2 ⟨ms, rfl, hms, hs2⟩
      refine wcons ?_
      simp
      refine (moves_ok U.lmo U.dr hs2 hw1 hw2).mono ?_
      rintro _ m3 ⟨vs, rfl, hvs, hs3⟩
      have hvl := hvs.len
      refine wcons ?_
      simp
      refine upd_thaw U.toUpT hms hvs hwf hs3 fun fs ht hfl => ?_
      simp [dueD]
      refine wcons ?_
      simp
      refine (drawn U.dr hs3 (by omega) (by omega)).mono ?_
      rintro _ m4 ⟨c, rfl, hc1, hc2, hs4⟩
      obtain ⟨c, rfl⟩ := Int.eq_ofNat_of_zero_le hc1
      have hc : c ≤ vs.length := by omega
      refine wcons ?_
      simp
      rw [cut_take, ← List.map_take]
      refine upd_thaw U.toUpT hms (hvs.sub (List.take_sublist c vs)) hwf hs4 fun f1 ht1 hfl1 => ?_
      simp [dueD]
      refine wcons ?_
      simp
      have nb : D.nices (badsK (look ms) 0 vs) = true := nices_bads
      have db : D.deps (badsK (look ms) 0 vs) ≤ 1 := bads_dep
      have cmpM : ∀ (m : Mem) (l : List (Int × Int)), cmpD m .ne (.lst (l.map mD)) (.lst (l.map mD)) = some false := fun m l => by
        have := depsM (l := l)
        rw [cmp_nen (by simp only [D.nice]; exact nicesM) (by simp only [D.nice]; exact nicesM) (by simp only [D.dep]; omega) (by simp only [D.dep]; omega)]
        simp
      have cmpB : ∀ (m : Mem), cmpD m .ne (.lst (badsK (look ms) 0 vs)) (.lst (badsK (look ms) 0 vs)) = some false := fun m => by
        rw [cmp_nen (by simp only [D.nice]; exact nb) (by simp only [D.nice]; exact nb) (by simp only [D.dep]; omega) (by simp only [D.dep]; omega)]
        simp
      refine wcut (fun ρ' m' => m' = m4 ∧ ∃ y11 y12, ρ' = [some (D.scr ns), some (D.ref 0), some (D.int ↑j), some (D.int w), some (D.lst (List.map mD ms)),
              some (D.lst (List.map vD vs)), some (D.lst (List.map mD fs)), some (D.lst (badsK (look ms) 0 vs)),
              some (D.int ↑c), some (.lst (f1.map mD)), some (.lst (badsK (look ms) 0 (vs.take c))), y11, y12, x13, x14, x15, none, none, none, none, none, none, none]) ?_ ?_
      · simp
        intro hl60
        · refine wcons ?_
          simp
          rw [cut_drop, ← List.map_drop]
          refine upd_thaw U.toUpT (ok_told hms (hvs.sub (List.take_sublist c vs)) ht1 (by omega)) (hvs.sub (List.drop_sublist c vs)) hwf hs4 fun f2 ht2 hfl2 => ?_
          have e1 : runK (look f1) (vs.drop c) = runK (look ms) vs := by
            rw [look_told ht1]
            unfold runK
            rw [← List.foldl_append, List.take_append_drop]
          have e2 : f2 = fs := told_uniq (ms := ms) (vs := vs) ⟨ht2.srt, fun k x => by rw [ht2.mem, e1]⟩ ht
          subst e2
          simp [dueD]
          refine wcons ?_
          simp
          rw [bads_eq (p := 0) (vs := vs.drop c)]
          rw [compL_map (Fm := fun q : Nat × Mv => badD (q.1 + 0) q.2) (G := fun q => badD (q.1 + c) q.2) (by
            rintro ⟨q, v⟩ _
            simp [wipeS, badD])]
          have e3 : badsK (look ms) 0 (vs.take c) ++ (badL (look f1) (vs.drop c)).map (fun q => badD (q.1 + c) q.2) = badsK (look ms) 0 vs := by
            rw [← bads_eq, look_told ht1]
            have := badsK_app (K := look ms) (p := 0) (us := vs.take c) (vs := vs.drop c)
            rw [List.take_append_drop, List.length_take, Nat.min_eq_left hc, Nat.zero_add] at this
            exact this.symm
          have e4 : (badsK (look ms) 0 (vs.take c)).length + ((badL (look f1) (vs.drop c)).map (fun q => badD (q.1 + c) q.2)).length ≤ 1000000 := by
            rw [← List.length_append, e3]
            have := badsK_len (K := look ms) (p := 0) (vs := vs)
            omega
          simp at e4
          simp [e3, e4]
          refine wcons ?_
          simp [cmpM, cmpB]
      · rintro _ _ ⟨rfl, y11, y12, rfl⟩
        refine wcons ?_
        simp
        rw [compL_map (Fm := vD) (G := fun v => .int v.k) (by
            intro v _
            simp [wipeS, vD])]
        simp
        refine wcons ?_
        simp
        have hfil : ms.filter (fun p => !decide (p.1 ∈ vs.map (·.k))) = fs.filter (fun p => !decide (p.1 ∈ vs.map (·.k))) := by
          refine uniq (r := fun p q : Int × Int => p.1 < q.1) (fun _ => by omega) (fun _ _ _ _ => by omega) ((List.pairwise_map.mp hms.srt).sublist List.filter_sublist) ((List.pairwise_map.mp ht.srt).sublist List.filter_sublist) ?_
          rintro ⟨k, x⟩
          rw [List.mem_filter, List.mem_filter, ht.mem]
          constructor
          · rintro ⟨a, b⟩
            refine ⟨?_, b⟩
            rw [run_away (by simpa using b)]
            exact (look_some hms.srt).mpr a
          · rintro ⟨a, b⟩
            refine ⟨?_, b⟩
            rw [run_away (by simpa using b)] at a
            exact (look_some hms.srt).mp a
        rw [compL_fm (Fm := mD) (G := mD) (p := fun p => !decide (p.1 ∈ vs.map (·.k))) (by
            rintro ⟨k, x⟩ _
            simp [wipeS, mD, inD_ints])]
        simp only [W_ok]
        rw [compL_fm (Fm := mD) (G := mD) (p := fun p => !decide (p.1 ∈ vs.map (·.k))) (by
            rintro ⟨k, x⟩ _
            simp [wipeS, mD, inD_ints])]
        rw [hfil]
        simp [cmpM]
        refine wcons ?_
        simp
        rw [bads_eq (p := 0) (vs := vs)]
        rw [compL_map (Fm := fun q : Nat × Mv => badD (q.1 + 0) q.2) (G := fun q => .int (q.1 : Int)) (by
            rintro ⟨q, v⟩ _
            simp [wipeS, badD])]
        simp
        refine wcons ?_
        simp
        rw [walk_rng1n (by simp; omega)]
        simp only [IsS_some]
        rw [compL_fm (l := List.range vs.length) (Fm := fun i => .int (i : Int)) (G := nth vs) (p := fun i => decide (i ∉ (badL (look ms) vs).map (·.1))) (by
            intro i hi
            rw [List.mem_range] at hi
            simp [wipeS, inD_ints, atI_cast, nth, hi]
            constructor
            · rintro ⟨a, h, e⟩
              have e2 : a = i := by omega
              exact e2 ▸ h
            · intro h
              exact ⟨i, h, rfl⟩)]
        rw [good_pick]
        simp
        refine wcons ?_
        simp
        refine upd_thaw U.toUpT hms (hvs.sub good_sub) hwf hs4 fun f3 ht3 hfl3 => ?_
        have e3 : f3 = fs := told_uniq (ms := ms) (vs := vs) ⟨ht3.srt, fun k x => by rw [ht3.mem, good_run]⟩ ht
        subst e3
        have cmpD2 : ∀ (m : Mem) (l : List (Int × Int)), cmpD m .ne (dueD l []) (dueD l []) = some false := fun m l => by
          have h1 := depsM (l := l)
          have h2 : (dueD l []).nice = true := by simp only [dueD, D.nice, D.nices, nicesM, Bool.and_self]
          have h3 : (dueD l []).dep ≤ 64 := by simp only [dueD, D.dep, D.deps]; omega
          rw [cmp_nen h2 h2 h3 h3]
          simp
        rw [good_bads, show D.tup [.lst (f3.map mD), .lst []] = dueD f3 [] from rfl, cmpD2]
        simp
        refine upd_thaw (vs := []) U.toUpT hms (hvs.sub (List.nil_sublist vs)) hwf hs4 fun f4 ht4 hfl4 => ?_
        have e4 : f4 = ms := told_uniq ht4 (told_nil hms)
        subst e4
        rw [show badsK (look f4) 0 [] = [] from rfl, show D.tup [.lst (f4.map mD), .lst []] = dueD f4 [] from rfl, cmpD2]
        simp
        refine wcons ?_
        simp
        rw [compL_map (Fm := mD) (G := fun p => .int p.1) (by
            rintro ⟨k, x⟩ _
            simp [wipeS, mD])]
        simp
        rw [compL_map (Fm := mD) (G := fun p => .int p.1) (by
            rintro ⟨k, x⟩ _
            simp [wipeS, mD])]
        have hsrt : sortI (dedI (f3.map (·.1))) = f3.map (·.1) := sort_id ht.srt
        have hcm : ∀ m : Mem, cmpD m .ne (.lst (f3.map fun p => .int p.1)) (.lst (f3.map fun p => .int p.1)) = some false := fun m => by
          have h1 : D.nices (f3.map fun p => D.int p.1) = true := nices_map fun _ _ => rfl
          have h2 : D.deps (f3.map fun p => D.int p.1) ≤ 0 := deps_map fun _ _ => Nat.le_refl _
          rw [cmp_nen (by simp only [D.nice]; exact h1) (by simp only [D.nice]; exact h1) (by simp only [D.dep]; omega) (by simp only [D.dep]; omega)]
          simp
        simp [hsrt, Function.comp_def, hcm]
        exact ⟨by omega, _, _, _, _, _, _, _, _, _, _, _, _, _, _, hs4, rfl⟩
    · rintro ρ m ⟨x2, x3, x4, x5, x6, x7, x8, x9, x10, x11, x12, x13, x14, x15, hs, rfl⟩
      refine wcons ?_
      simp
  obtain ⟨d, m', e, rfl⟩ := ok_of_W key
  exact ⟨m', e⟩
end
end BrK


set_option Elab.async false
set_option linter.all false
set_option maxRecDepth 100000
set_option maxHeartbeats 1000000
set_option autoImplicit false
namespace BrK
open PySem PySem.Spec PyProof.Rows L2 Br
def topS (i : Nat) : Stmt := PySem.Challenge.pw_breakreports_k17_whole_moves_cut_anywher.main.body.getD i (.Pass ⟨0, 0, 0, 0⟩)
def e_is_number : Ent := ⟨"is_number", d_is_number, ["thing", "low", "high"], ["thing", "low", "high"], topS 8⟩

def e_need_masters : Ent := ⟨"need_masters", d_need_masters, ["masters", "number", "pair", "one"], ["masters"], topS 14⟩

def e_need_moves : Ent := ⟨"need_moves", d_need_moves, ["moves", "last", "number", "move"], ["moves"], topS 15⟩

def e_updated : Ent := ⟨"updated", d_updated, ["masters", "moves", "found", "bad", "at", "place", "key", "worth", "word", "number", "pair", "move"], ["masters", "moves"], topS 16⟩

def e__law_start : Ent := ⟨"_law_start", d__law_start, ["_law_script", "_law_mixed", "_law_cell"], ["_law_script"], topS 18⟩

def e__law_drawn : Ent := ⟨"_law_drawn", d__law_drawn, ["_law_state", "_law_many", "_law_found", "_law_cell"], ["_law_state", "_law_many"], topS 19⟩

def e__law_same : Ent := ⟨"_law_same", d__law_same, ["_law_found", "_law_due", "_law_alike", "_law_k"], ["_law_found", "_law_due"], topS 20⟩

def e__law_masters : Ent := ⟨"_law_masters", d__law_masters, ["_law_state", "_law_far", "_law_many", "_law_some", "_law_mark", "_law_k"], ["_law_state", "_law_far"], topS 21⟩

def e__law_moves : Ent := ⟨"_law_moves", d__law_moves, ["_law_state", "_law_far", "_law_many", "_law_some", "_law_mark", "_law_k"], ["_law_state", "_law_far"], topS 22⟩

def e_law : Ent := ⟨"law", d_law, ["_law_script", "_law_state", "_law_turn", "_law_far", "_law_masters_here", "_law_moves_here", "_law_found", "_law_bad", "_law_cut", "_law_first", "_law_ones", "_law_last", "_law_others", "_law_keys", "_law_wrong", "_law_some", "_law_move", "_law_number", "_law_why", "_law_k", "_law_pair", "_law_mark", "_law_worth"], ["_law_script"], topS 23⟩

def ents : List Ent := [e_is_number, e_need_masters, e_need_moves, e_updated, e__law_start, e__law_drawn, e__law_same, e__law_masters, e__law_moves, e_law]
def gl : List (Str × D) := [("MOST_ROWS", (D.int 60)), ("MOST_WORTH", (D.int 999)), ("ADD", (D.str "add")), ("SET", (D.str "set")), ("DROP", (D.str "drop")), ("WORDS", (D.tup [(D.str "add"), (D.str "drop"), (D.str "set")]))]
theorem ents_ok : ents.all (entB (ents.map (·.name))) = true := by decide +kernel
theorem ents_nd : (ents.map (·.name)).Nodup := by decide +kernel
theorem gl_ok : gl.all gloB = true := by decide +kernel
theorem bo_is_number : BindOk e_is_number := fun _ _ _ _ _ _ us hl => match us, hl with | [_, _, _], _ => rfl
theorem bo_need_masters : BindOk e_need_masters := fun _ _ _ _ _ _ us hl => match us, hl with | [_], _ => rfl
theorem bo_need_moves : BindOk e_need_moves := fun _ _ _ _ _ _ us hl => match us, hl with | [_], _ => rfl
theorem bo_updated : BindOk e_updated := fun _ _ _ _ _ _ us hl => match us, hl with | [_, _], _ => rfl
theorem bo__law_start : BindOk e__law_start := fun _ _ _ _ _ _ us hl => match us, hl with | [_], _ => rfl
theorem bo__law_drawn : BindOk e__law_drawn := fun _ _ _ _ _ _ us hl => match us, hl with | [_, _], _ => rfl
theorem bo__law_same : BindOk e__law_same := fun _ _ _ _ _ _ us hl => match us, hl with | [_, _], _ => rfl
theorem bo__law_masters : BindOk e__law_masters := fun _ _ _ _ _ _ us hl => match us, hl with | [_, _], _ => rfl
theorem bo__law_moves : BindOk e__law_moves := fun _ _ _ _ _ _ us hl => match us, hl with | [_, _], _ => rfl
theorem bo_law : BindOk e_law := fun _ _ _ _ _ _ us hl => match us, hl with | [_], _ => rfl
theorem bo : ∀ e ∈ ents, BindOk e := by
  intro e he
  simp only [ents, List.mem_cons, List.not_mem_nil, or_false] at he
  rcases he with rfl | rfl | rfl | rfl | rfl | rfl | rfl | rfl | rfl | rfl
  · exact bo_is_number
  · exact bo_need_masters
  · exact bo_need_moves
  · exact bo_updated
  · exact bo__law_start
  · exact bo__law_drawn
  · exact bo__law_same
  · exact bo__law_masters
  · exact bo__law_moves
  · exact bo_law
abbrev R : PySem.W.OpenRow := PySem.W.OpenLaw.row PySem.Challenge.rw_breakreports_k17_whole_moves_cut_anywher
abbrev hk : PySem.W.Hook := He.hookX 6 (faOf ents gl) (dfOf ents) [] [] (exOf gl)
def ob (s : PySem.W.SharedT) : He.AlX := He.obsX 6 (faOf ents gl) (dfOf ents) [] [] (exOf gl) (HandSHeadRun.getT s)
theorem ob_eq (s : PySem.W.SharedT) : ob s = hk.obs s.abs := He.obsX_eq (HandSHeadRun.getT_eq s)
def loose : List Str := ["ReportError", "BadRows", "BadOrder", "BadMoves", "MOST_ROWS", "MOST_WORTH", "is_number", "ADD", "SET", "DROP", "WORDS", "need_masters", "need_moves", "updated", "_law_start", "_law_drawn", "_law_same", "_law_masters", "_law_moves"]
theorem run (w : World) : HandSHeadRun.RunEq R (PySem.W.view R.prog [23]) hk ob 4000 loose w := by
  intro os
  kernel_rfl
end BrK
open PySem PySem.W PySem.Calls PyProof.Rows
theorem BrK.holds_of (hlaw : ∀ ns : List Int, ns.length ≤ 63 → ∃ m', Br.callN (Br.tab BrK.ents) (fun x => BrK.gl.lookup x) 1000 20 (Br.Ent.name BrK.e_law) [.scr ns] [] = .ok (.bl true) m') : PySem.Challenge.rw_breakreports_k17_whole_moves_cut_anywher.Holds := by
  w_on; o_law
  refine HandSHeadRun.head_any (r := BrK.R) (q := view BrK.R.prog [23]) (H := BrK.hk) (ob := BrK.ob) (M := 4000) (loose := BrK.loose) (d := HandSHeadRun.topDef BrK.R.prog 23) (kwd := []) BrK.ob_eq (by kernel_rfl) (fun s => by kernel_rfl) BrK.run (by kernel_rfl) (by kernel_rfl) (by kernel_rfl) (by rfl) (by first | assumption | decide +kernel) (by decide +kernel) ⟨rfl, rfl, rfl, rfl, rfl, by decide +kernel⟩ ?hw ?hc
  case hw => w_witness2
  case hc =>
    exact Br.end_of (l := PySem.Challenge.rw_breakreports_k17_whole_moves_cut_anywher) (x := "_law_script") (e := BrK.e_law) rfl (by kernel_rfl) ⟨rfl, by decide, by decide⟩ (by kernel_rfl) (by simp [BrK.ents]) rfl BrK.ents_ok BrK.ents_nd BrK.bo BrK.gl_ok hlaw

theorem BrK.has {e : Br.Ent} (he : e ∈ BrK.ents) : BrK.Has (Br.tab BrK.ents) e.name e.d := Br.tab_look BrK.ents_nd he
theorem BrK.upT : BrK.K17T (Br.tab BrK.ents) (fun x => BrK.gl.lookup x) where
  isn := BrK.has (e := BrK.e_is_number) (by simp [BrK.ents])
  nma := BrK.has (e := BrK.e_need_masters) (by simp [BrK.ents])
  nmo := BrK.has (e := BrK.e_need_moves) (by simp [BrK.ents])
  upd := BrK.has (e := BrK.e_updated) (by simp [BrK.ents])
  start := BrK.has (e := BrK.e__law_start) (by simp [BrK.ents])
  dr := BrK.has (e := BrK.e__law_drawn) (by simp [BrK.ents])
  lma := BrK.has (e := BrK.e__law_masters) (by simp [BrK.ents])
  lmo := BrK.has (e := BrK.e__law_moves) (by simp [BrK.ents])
  law := BrK.has (e := BrK.e_law) (by simp [BrK.ents])
  rows := by decide +kernel
  worth := by decide +kernel
  add := by decide +kernel
  drop := by decide +kernel
  words := by decide +kernel
theorem PySem.Challenge.cw_breakreports_k17_whole_moves_cut_anywher_holds : PySem.Challenge.rw_breakreports_k17_whole_moves_cut_anywher.Holds := by
  exact BrK.holds_of fun ns _ => BrK.law_ok (n := 10) BrK.upT (by decide) ns

