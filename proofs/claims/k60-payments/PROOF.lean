import PyProof.Rows.All
import Wide.All
import OpenK.AllK
import Wide.FinOn
import HandS.ForExc
import HandS.ForMost
import HandS.AnyAll
import HandS.IsInst
import HandS.Wide
import HandS.Deep
import HandS.TupAny
import HandS.TupMul
import HandS.CallSlots
import HandS.TryOnly
import HandS.More
import HandS.Style
import HandS.StrMore
import PyProof.StrBlock2
import PyProof.Rows.IntBool
import KE.KxIndex
import HandS.Conv
import HandS.SortInts
import HandS.SetKeys
import HandS.TupLen
import HandS.Small
import HandS.Zip
import HandS.Iter
import HandS.ExcOwn
import HandS.ExcSuper
import HandS.RaiseMore
import HandS.EndTab
import HandS.GenList
import HandS.ExcIs
import HandS.SetFor
import HandS.Strs
import PySem.Challenge.RW_onewatcher_k60_payments
set_option Elab.async false
set_option linter.all false
set_option maxRecDepth 100000
set_option maxHeartbeats 0
namespace HDX
open PySem PySem.W PyProof.Rows
open_top hd for PySem.Challenge.rw_onewatcher_k60_payments
end HDX
set_option Elab.async false
set_option linter.all false
set_option maxRecDepth 100000
set_option maxHeartbeats 4000000
/-! NY1: nice values, nice heaps, results, and how they stand to the abstract heap of HandS -/
namespace NY
open PySem PySem.Spec PyProof.Rows L2

/-- a nice value: tuples are plain data; `ctup` is a tuple of the module's top, `lsc` a list that is read alone (the script) -/
inductive D where
  | non | bl (b : Bool) | int (i : Int) | str (s : Str) | tup (l : List D) | ctup (l : List D) | lsc (l : List D) | ref (n : Nat)
  deriving Inhabited
mutual
def D.dec : (a b : D) → Decidable (a = b)
  | .non, .non => .isTrue rfl
  | .bl x, .bl y => if h : x = y then .isTrue (by rw [h]) else .isFalse fun e => h (D.bl.inj e)
  | .int x, .int y => if h : x = y then .isTrue (by rw [h]) else .isFalse fun e => h (D.int.inj e)
  | .str x, .str y => if h : x = y then .isTrue (by rw [h]) else .isFalse fun e => h (D.str.inj e)
  | .ref x, .ref y => if h : x = y then .isTrue (by rw [h]) else .isFalse fun e => h (D.ref.inj e)
  | .tup x, .tup y => match D.decs x y with
    | .isTrue h => .isTrue (by rw [h])
    | .isFalse h => .isFalse fun e => h (D.tup.inj e)
  | .ctup x, .ctup y => match D.decs x y with
    | .isTrue h => .isTrue (by rw [h])
    | .isFalse h => .isFalse fun e => h (D.ctup.inj e)
  | .lsc x, .lsc y => match D.decs x y with
    | .isTrue h => .isTrue (by rw [h])
    | .isFalse h => .isFalse fun e => h (D.lsc.inj e)
  | .non, .bl _ | .non, .int _ | .non, .str _ | .non, .tup _ | .non, .ctup _ | .non, .lsc _ | .non, .ref _
  | .bl _, .non | .bl _, .int _ | .bl _, .str _ | .bl _, .tup _ | .bl _, .ctup _ | .bl _, .lsc _ | .bl _, .ref _
  | .int _, .non | .int _, .bl _ | .int _, .str _ | .int _, .tup _ | .int _, .ctup _ | .int _, .lsc _ | .int _, .ref _
  | .str _, .non | .str _, .bl _ | .str _, .int _ | .str _, .tup _ | .str _, .ctup _ | .str _, .lsc _ | .str _, .ref _
  | .tup _, .non | .tup _, .bl _ | .tup _, .int _ | .tup _, .str _ | .tup _, .ctup _ | .tup _, .lsc _ | .tup _, .ref _
  | .ctup _, .non | .ctup _, .bl _ | .ctup _, .int _ | .ctup _, .str _ | .ctup _, .tup _ | .ctup _, .lsc _ | .ctup _, .ref _
  | .lsc _, .non | .lsc _, .bl _ | .lsc _, .int _ | .lsc _, .str _ | .lsc _, .tup _ | .lsc _, .ctup _ | .lsc _, .ref _
  | .ref _, .non | .ref _, .bl _ | .ref _, .int _ | .ref _, .str _ | .ref _, .tup _ | .ref _, .ctup _ | .ref _, .lsc _ => .isFalse nofun
def D.decs : (a b : List D) → Decidable (a = b)
  | [], [] => .isTrue rfl
  | [], _ :: _ => .isFalse nofun
  | _ :: _, [] => .isFalse nofun
  | x :: xs, y :: ys => match D.dec x y, D.decs xs ys with
    | .isTrue h, .isTrue h1 => .isTrue (by rw [h, h1])
    | .isFalse h, _ => .isFalse fun e => h (List.cons.inj e).1
    | _, .isFalse h => .isFalse fun e => h (List.cons.inj e).2
end
instance : DecidableEq D := D.dec

abbrev NEnv := List (Option D)
/-- what stands at a reference: a list, a dict (keys ints and texts, or tuples of them), a dict that a loop walks, an instance -/
inductive O where
  | lst (l : List D)
  | dK (l : List (Key × D)) | dT (l : List (List Key × D))
  | fK (l : List (Key × D)) | fT (l : List (List Key × D))
  | ins (c : Nat) (fs : List (Nat × D))
  deriving Inhabited, DecidableEq
abbrev NH := List O
/-- an exception: its class, the fields of its own dict -/
structure Exn where
  cls : Nat
  fs : List (Nat × D)
inductive R (α : Type) where
  | ok (a : α) (N : NH) | exc (x : Exn) (N : NH) | bad
def R.bind {α β : Type} (r : R α) (k : α → NH → R β) : R β := match r with
  | .ok a N => k a N
  | .exc x N => .exc x N
  | .bad => .bad
inductive RS where
  | nx (σ : NEnv) (N : NH) | rt (d : D) (N : NH) | bk (σ : NEnv) (N : NH) | exc (x : Exn) (σ : NEnv) (N : NH) | bad
abbrev NE := NEnv → NH → R D
abbrev NT := NEnv → NH → R Bool
abbrev NA := NEnv → NH → R (List D)
abbrev NS := NEnv → NH → RS
abbrev NF := List D → NH → R D

/-- what is fixed beside the written part: the classes by number, the names of attributes by number, the tables of code objects -/
structure NC where
  cls : Nat → Addr
  names : List Str
  tabs : List Addr

/-! ### values -/
def TupAt (ρ : List Addr) (H : Hp) (a : Addr) (xs : List V) : Prop := a ∉ ρ ∧ H a = some (.tup xs)
def CtupAt (K : PySem.W.Frag) (a : Addr) (xs : List V) : Prop :=
  ∃ (o : Obj) (its : Array Value) (n : Nat), K.lookup a = some o ∧ o.cls = .type "tuple" ∧ o.data = .seq its n ∧ its.size ≤ sizeLine ∧ Vals xs its.toList
def LscAt (K : PySem.W.Frag) (ρ : List Addr) (H : Hp) (a : Addr) (xs : List V) : Prop :=
  (a ∉ ρ ∧ ∃ o, H a = some (.frz o (.lst xs))) ∨ ∃ (o : Obj) (its : Array Value) (n : Nat), K.lookup a = some o ∧ o.cls = .type "list" ∧ o.dict = none ∧ o.data = .seq its n ∧ its.size ≤ sizeLine ∧ Vals xs its.toList
theorem TupAt.sq {K : PySem.W.Frag} {ρ : List Addr} {H : Hp} {a : Addr} {xs : List V} (h : TupAt ρ H a xs) : SqT K H a xs := .inl (.inl h.2)
theorem CtupAt.sq {K : PySem.W.Frag} {H : Hp} {a : Addr} {xs : List V} (h : CtupAt K a xs) : SqT K H a xs := .inr h
theorem LscAt.sq {K : PySem.W.Frag} {ρ : List Addr} {H : Hp} {a : Addr} {xs : List V} (h : LscAt K ρ H a xs) : SqL K H a xs := by
  rcases h with ⟨_, o, h⟩ | h
  · exact .inl (.inr ⟨o, h⟩)
  · exact .inr h
section
variable (K : PySem.W.Frag) (ρ : List Addr) (H : Hp)
mutual
def RD : D → V → Prop
  | .non, v => v = .non
  | .bl b, v => v = .bl b
  | .int i, v => v = .int i
  | .str s, v => v = .str s
  | .tup ds, v => ∃ a xs, v = .ref a ∧ TupAt ρ H a xs ∧ RDs ds xs
  | .ctup ds, v => ∃ a xs, v = .ref a ∧ CtupAt K a xs ∧ RDs ds xs
  | .lsc ds, v => ∃ a xs, v = .ref a ∧ LscAt K ρ H a xs ∧ RDs ds xs
  | .ref n, v => ∃ a, v = .ref a ∧ ρ[n]? = some a
def RDs : List D → List V → Prop
  | [], xs => xs = []
  | d :: ds, xs => ∃ x r, xs = x :: r ∧ RD d x ∧ RDs ds r
end
def RF (names : List Str) : List (Nat × D) → List (Str × V) → Prop
  | [], fs => fs = []
  | (n, d) :: r, fs => ∃ x v s, fs = (x, v) :: s ∧ names[n]? = some x ∧ RD K ρ H d v ∧ RF names r s
def RK {κ : Type} : List (κ × D) → List (κ × V) → Prop
  | [], fs => fs = []
  | (k, d) :: r, fs => ∃ v s, fs = (k, v) :: s ∧ RD K ρ H d v ∧ RK r s
end
def RO (K : PySem.W.Frag) (C : NC) (ρ : List Addr) (H : Hp) (a : Addr) : O → Prop
  | .lst ds => ∃ xs, H a = some (.lst xs) ∧ RDs K ρ H ds xs
  | .dK kvs => ∃ l, H a = some (.dK l) ∧ RK K ρ H kvs l
  | .dT kvs => ∃ l, H a = some (.dT l) ∧ RK K ρ H kvs l
  | .fK kvs => ∃ ob l, H a = some (.frz ob (.dK l)) ∧ RK K ρ H kvs l
  | .fT kvs => ∃ ob l, H a = some (.frz ob (.dT l)) ∧ RK K ρ H kvs l
  | .ins c fs => ∃ dx l, H a = some (.ins (C.cls c) dx l) ∧ RF K ρ H C.names fs l

/-- how the tracked heap may go on: all that is tracked beside the nice objects and the tables stays -/
structure Ext (ρ : List Addr) (H : Hp) (ρ' : List Addr) (H' : Hp) : Prop where
  pre : ∃ t, ρ' = ρ ++ t
  new : ∀ a ∈ ρ', a ∉ ρ → H a = none
  keep : ∀ a o, H a = some o → a ∉ ρ → (∀ ps, o ≠ .tbl ps) → H' a = some o
  tbl : ∀ a ps, H a = some (.tbl ps) → ∃ qs, H' a = some (.tbl qs)
  frz : ∀ a o u, H a = some (.frz o u) → H' a = some (.frz o u)
structure NRel (K : PySem.W.Frag) (C : NC) (ρ : List Addr) (N : NH) (H : Hp) : Prop where
  len : ρ.length = N.length
  nd : ρ.Nodup
  names : C.names.Nodup
  obj : ∀ (n : Nat) (a : Addr) (o : O), ρ[n]? = some a → N[n]? = some o → RO K C ρ H a o
  tab : ∀ P ∈ C.tabs, GxR.TabG H P

theorem Ext.refl {ρ : List Addr} {H : Hp} : Ext ρ H ρ H := ⟨⟨[], by simp⟩, fun a h n => absurd h n, fun _ _ h _ _ => h, fun _ ps h => ⟨ps, h⟩, fun _ _ _ h => h⟩
theorem Ext.trans {ρ ρ1 ρ2 : List Addr} {H H1 H2 : Hp} (a : Ext ρ H ρ1 H1) (b : Ext ρ1 H1 ρ2 H2) : Ext ρ H ρ2 H2 where
  pre := by obtain ⟨t, e⟩ := a.pre; obtain ⟨u, e'⟩ := b.pre; exact ⟨t ++ u, by rw [e', e, List.append_assoc]⟩
  new := fun c h n => by
    by_cases hc : c ∈ ρ1
    · exact a.new c hc n
    · have h1 := b.new c h hc
      cases q : H c with
      | none => rfl
      | some o =>
        by_cases ht : ∃ ps, o = .tbl ps
        · obtain ⟨ps, rfl⟩ := ht
          obtain ⟨qs, e⟩ := a.tbl c ps q
          rw [h1] at e; cases e
        · rw [a.keep c o q n (fun ps e => ht ⟨ps, e⟩)] at h1; cases h1
  keep := fun c o h n nt => by
    refine b.keep c o (a.keep c o h n nt) (fun hc => ?_) nt
    rw [a.new c hc n] at h; cases h
  tbl := fun c ps h => by obtain ⟨qs, e⟩ := a.tbl c ps h; exact b.tbl c qs e
  frz := fun c o u h => b.frz c o u (a.frz c o u h)

section
variable {K : PySem.W.Frag} {ρ ρ' : List Addr} {H H' : Hp}
theorem TupAt.ext {a : Addr} {xs : List V} (e : Ext ρ H ρ' H') (h : TupAt ρ H a xs) : TupAt ρ' H' a xs := by
  obtain ⟨n, h⟩ := h
  refine ⟨fun hm => ?_, e.keep a _ h n (fun _ z => nomatch z)⟩
  rw [e.new a hm n] at h; cases h
theorem LscAt.ext {a : Addr} {xs : List V} (e : Ext ρ H ρ' H') (h : LscAt K ρ H a xs) : LscAt K ρ' H' a xs := by
  rcases h with ⟨n, o, h⟩ | h
  · refine .inl ⟨fun hm => ?_, o, e.keep a _ h n (fun _ z => nomatch z)⟩
    rw [e.new a hm n] at h; cases h
  · exact .inr h
theorem Ext.get {n : Nat} {a : Addr} (e : Ext ρ H ρ' H') (h : ρ[n]? = some a) : ρ'[n]? = some a := by
  obtain ⟨t, rfl⟩ := e.pre
  have hl := (List.getElem?_eq_some_iff.mp h).1
  rw [List.getElem?_append_left hl]; exact h
mutual
theorem RD.ext (e : Ext ρ H ρ' H') : ∀ (d : D) {v : V}, RD K ρ H d v → RD K ρ' H' d v
  | .non, _, h => h
  | .bl _, _, h => h
  | .int _, _, h => h
  | .str _, _, h => h
  | .tup ds, _, h => by
    obtain ⟨a, xs, rfl, h1, h2⟩ := h
    exact ⟨a, xs, rfl, h1.ext e, RDs.ext e ds h2⟩
  | .ctup ds, _, h => by
    obtain ⟨a, xs, rfl, h1, h2⟩ := h
    exact ⟨a, xs, rfl, h1, RDs.ext e ds h2⟩
  | .lsc ds, _, h => by
    obtain ⟨a, xs, rfl, h1, h2⟩ := h
    exact ⟨a, xs, rfl, h1.ext e, RDs.ext e ds h2⟩
  | .ref n, _, h => by
    obtain ⟨a, rfl, h1⟩ := h
    exact ⟨a, rfl, e.get h1⟩
theorem RDs.ext (e : Ext ρ H ρ' H') : ∀ (ds : List D) {xs : List V}, RDs K ρ H ds xs → RDs K ρ' H' ds xs
  | [], _, h => h
  | d :: ds, _, h => by
    obtain ⟨x, r, rfl, h1, h2⟩ := h
    exact ⟨x, r, rfl, RD.ext e d h1, RDs.ext e ds h2⟩
end
theorem RF.ext (e : Ext ρ H ρ' H') {names : List Str} : ∀ (fs : List (Nat × D)) {l : List (Str × V)}, RF K ρ H names fs l → RF K ρ' H' names fs l
  | [], _, h => h
  | (n, d) :: r, _, h => by
    obtain ⟨x, v, s, rfl, h1, h2, h3⟩ := h
    exact ⟨x, v, s, rfl, h1, h2.ext e, RF.ext e r h3⟩
theorem RK.ext {κ : Type} (e : Ext ρ H ρ' H') : ∀ (fs : List (κ × D)) {l : List (κ × V)}, RK K ρ H fs l → RK K ρ' H' fs l
  | [], _, h => h
  | (k, d) :: r, _, h => by
    obtain ⟨v, s, rfl, h2, h3⟩ := h
    exact ⟨v, s, rfl, h2.ext e, RK.ext e r h3⟩
theorem RDs.length : ∀ {ds : List D} {xs : List V}, RDs K ρ H ds xs → xs.length = ds.length
  | [], _, h => by cases h; rfl
  | _ :: _, _, h => by
    obtain ⟨x, r, rfl, _, h2⟩ := h
    rw [List.length_cons, List.length_cons, RDs.length h2]
theorem RDs.get : ∀ {ds : List D} {xs : List V} {i : Nat} {x : V}, RDs K ρ H ds xs → xs[i]? = some x → ∃ d, ds[i]? = some d ∧ RD K ρ H d x
  | [], _, _, _, h, e => by cases h; simp at e
  | d :: ds, _, 0, _, h, e => by
    obtain ⟨x, r, rfl, h1, _⟩ := h
    simp at e; subst e; exact ⟨d, rfl, h1⟩
  | d :: ds, _, i + 1, _, h, e => by
    obtain ⟨x, r, rfl, _, h2⟩ := h
    obtain ⟨d', e1, e2⟩ := RDs.get h2 (by simpa using e)
    exact ⟨d', by simpa using e1, e2⟩
theorem RDs.get' {ds : List D} {xs : List V} {i : Nat} {d : D} (h : RDs K ρ H ds xs) (e : ds[i]? = some d) : ∃ x, xs[i]? = some x ∧ RD K ρ H d x := by
  have hl := h.length
  have hi := (List.getElem?_eq_some_iff.mp e).1
  have e2 : xs[i]? = some (xs[i]'(by omega)) := List.getElem?_eq_getElem _
  obtain ⟨d', e1, r⟩ := h.get e2
  rw [e] at e1; cases e1
  exact ⟨_, e2, r⟩
theorem RDs.append : ∀ {ds es : List D} {xs ys : List V}, RDs K ρ H ds xs → RDs K ρ H es ys → RDs K ρ H (ds ++ es) (xs ++ ys)
  | [], _, _, _, h, h' => by cases h; exact h'
  | _ :: _, _, _, _, h, h' => by
    obtain ⟨x, r, rfl, h1, h2⟩ := h
    exact ⟨x, r ++ _, rfl, h1, RDs.append h2 h'⟩
theorem RDs.one {d : D} {x : V} (h : RD K ρ H d x) : RDs K ρ H [d] [x] := ⟨x, [], rfl, h, rfl⟩
theorem RDs.take : ∀ {ds : List D} {xs : List V} (n : Nat), RDs K ρ H ds xs → RDs K ρ H (ds.take n) (xs.take n)
  | [], _, n, h => by cases h; simp; rfl
  | _ :: _, _, 0, _ => rfl
  | _ :: _, _, n + 1, h => by
    obtain ⟨x, r, rfl, h1, h2⟩ := h
    exact ⟨x, r.take n, rfl, h1, RDs.take n h2⟩
theorem RDs.drop : ∀ {ds : List D} {xs : List V} (n : Nat), RDs K ρ H ds xs → RDs K ρ H (ds.drop n) (xs.drop n)
  | [], _, n, h => by cases h; simp; rfl
  | _ :: _, _, 0, h => h
  | _ :: _, _, n + 1, h => by
    obtain ⟨x, r, rfl, h1, h2⟩ := h
    exact RDs.drop n h2
theorem RDs.set {d : D} {x : V} (hd : RD K ρ H d x) : ∀ {ds : List D} {xs : List V} (n : Nat), RDs K ρ H ds xs → RDs K ρ H (ds.set n d) (xs.set n x)
  | [], _, n, h => by cases h; rfl
  | _ :: _, _, 0, h => by
    obtain ⟨y, r, rfl, h1, h2⟩ := h
    exact ⟨x, r, rfl, hd, h2⟩
  | _ :: _, _, n + 1, h => by
    obtain ⟨y, r, rfl, h1, h2⟩ := h
    exact ⟨y, _, rfl, h1, RDs.set hd n h2⟩
theorem RDs.empty_iff {ds : List D} {xs : List V} (h : RDs K ρ H ds xs) : xs.isEmpty = ds.isEmpty := by
  have := h.length
  cases ds <;> cases xs <;> simp_all
theorem RDs.ints : ∀ {is : List Int} {xs : List V}, RDs K ρ H (is.map D.int) xs → xs = is.map V.int
  | [], _, h => h
  | i :: is, _, h => by
    obtain ⟨x, r, rfl, h1, h2⟩ := h
    rw [RDs.ints h2, show x = V.int i from h1]; rfl
theorem RDs.of_ints : ∀ (is : List Int), RDs K ρ H (is.map D.int) (is.map V.int)
  | [] => rfl
  | i :: is => ⟨_, _, rfl, rfl, RDs.of_ints is⟩
theorem RDs.strs : ∀ {is : List Str} {xs : List V}, RDs K ρ H (is.map D.str) xs → xs = is.map V.str
  | [], _, h => h
  | i :: is, _, h => by
    obtain ⟨x, r, rfl, h1, h2⟩ := h
    rw [RDs.strs h2, show x = V.str i from h1]; rfl
theorem RDs.of_strs : ∀ (is : List Str), RDs K ρ H (is.map D.str) (is.map V.str)
  | [] => rfl
  | i :: is => ⟨_, _, rfl, rfl, RDs.of_strs is⟩
end

/-! ### the nice heap: one object written, one object more -/
section
variable {K : PySem.W.Frag} {C : NC} {ρ ρ' : List Addr} {N : NH} {H H' : Hp} {a : Addr} {n : Nat} {o o' : O}
theorem RO.some (h : RO K C ρ H a o) : ∃ u, H a = some u ∧ (∀ xs, u ≠ .tup xs) ∧ (∀ ps, u ≠ .tbl ps) := by
  cases o with
  | lst ds => obtain ⟨_, e, _⟩ := h; exact ⟨_, e, (fun _ z => nomatch z), (fun _ z => nomatch z)⟩
  | dK _ => obtain ⟨_, e, _⟩ := h; exact ⟨_, e, (fun _ z => nomatch z), (fun _ z => nomatch z)⟩
  | dT _ => obtain ⟨_, e, _⟩ := h; exact ⟨_, e, (fun _ z => nomatch z), (fun _ z => nomatch z)⟩
  | fK _ => obtain ⟨_, _, e, _⟩ := h; exact ⟨_, e, (fun _ z => nomatch z), (fun _ z => nomatch z)⟩
  | fT _ => obtain ⟨_, _, e, _⟩ := h; exact ⟨_, e, (fun _ z => nomatch z), (fun _ z => nomatch z)⟩
  | ins _ _ => obtain ⟨_, _, e, _⟩ := h; exact ⟨_, e, (fun _ z => nomatch z), (fun _ z => nomatch z)⟩
/-- an object's description goes over to a later heap that has the same at its address -/
theorem RO.ext (e : Ext ρ H ρ' H') (hs : H' a = H a) (h : RO K C ρ H a o) : RO K C ρ' H' a o := by
  cases o with
  | lst ds => obtain ⟨xs, e1, r⟩ := h; exact ⟨xs, hs.trans e1, r.ext e⟩
  | dK _ => obtain ⟨xs, e1, r⟩ := h; exact ⟨xs, hs.trans e1, r.ext e⟩
  | dT _ => obtain ⟨xs, e1, r⟩ := h; exact ⟨xs, hs.trans e1, r.ext e⟩
  | fK _ => obtain ⟨ob, xs, e1, r⟩ := h; exact ⟨ob, xs, hs.trans e1, r.ext e⟩
  | fT _ => obtain ⟨ob, xs, e1, r⟩ := h; exact ⟨ob, xs, hs.trans e1, r.ext e⟩
  | ins _ _ => obtain ⟨dx, xs, e1, r⟩ := h; exact ⟨dx, xs, hs.trans e1, r.ext e⟩
theorem NRel.at (R : NRel K C ρ N H) (h : ρ[n]? = some a) : ∃ o, N[n]? = some o ∧ RO K C ρ H a o := by
  have hl := (List.getElem?_eq_some_iff.mp h).1
  have e : N[n]? = some (N[n]'(by have := R.len; omega)) := List.getElem?_eq_getElem _
  exact ⟨_, e, R.obj n a _ h e⟩
theorem NRel.mem (R : NRel K C ρ N H) (h : a ∈ ρ) : ∃ (n : Nat) (o : O), ρ[n]? = some a ∧ N[n]? = some o ∧ RO K C ρ H a o := by
  obtain ⟨n, hn⟩ := List.getElem?_of_mem h
  obtain ⟨o, h1, h2⟩ := R.at hn
  exact ⟨n, o, hn, h1, h2⟩
theorem NRel.tracked (R : NRel K C ρ N H) (h : a ∈ ρ) : ∃ u, H a = some u ∧ (∀ xs, u ≠ .tup xs) ∧ (∀ ps, u ≠ .tbl ps) := by
  obtain ⟨_, _, _, _, h2⟩ := R.mem h
  exact h2.some
theorem NRel.fresh (R : NRel K C ρ N H) (h : H a = none) : a ∉ ρ := fun m => by
  obtain ⟨u, e, _⟩ := R.tracked m
  rw [h] at e; cases e
theorem NRel.notab (R : NRel K C ρ N H) {P : Addr} (hP : P ∈ C.tabs) : P ∉ ρ := fun m => by
  obtain ⟨u, e, _, t⟩ := R.tracked m
  obtain ⟨ps, e2, _⟩ := R.tab P hP
  rw [e] at e2
  exact t ps (Option.some.inj e2)
theorem memOf {ρ : List Addr} (h : ρ[n]? = some a) : a ∈ ρ := List.mem_of_getElem? h
/-- a write at a nice object -/
theorem Ext.write (m : a ∈ ρ) {u : HO} (hn : ∀ ps, H a ≠ some (.tbl ps)) (hz : ∀ o w, H a ≠ some (.frz o w)) : Ext ρ H ρ (upd H a u) :=
  ⟨⟨[], by simp⟩, fun b h n => absurd h n, fun b o h n _ => by rw [upd_ne (show b ≠ a from fun z => n (z ▸ m))]; exact h, fun b ps h => ⟨ps, by rw [upd_ne (show b ≠ a from fun z => hn ps (z ▸ h))]; exact h⟩, fun b o w h => by rw [upd_ne (show b ≠ a from fun z => hz o w (z ▸ h))]; exact h⟩
theorem NRel.write (R : NRel K C ρ N H) (h : ρ[n]? = some a) (hz : ∀ o w, H a ≠ some (.frz o w)) {u : HO} (new : RO K C ρ (upd H a u) a o') : Ext ρ H ρ (upd H a u) ∧ NRel K C ρ (N.set n o') (upd H a u) := by
  have m := memOf h
  obtain ⟨w, hw, _, ht⟩ := R.tracked m
  have E : Ext ρ H ρ (upd H a u) := Ext.write m (fun ps z => by rw [hw] at z; exact ht ps (Option.some.inj z)) hz
  refine ⟨E, by rw [List.length_set]; exact R.len, R.nd, R.names, fun k b o hk ho => ?_, fun P hP => ?_⟩
  · by_cases e : k = n
    · subst e
      rw [h] at hk; cases hk
      rw [List.getElem?_set_self (by have := (List.getElem?_eq_some_iff.mp h).1; have := R.len; omega)] at ho
      cases ho
      exact new
    · rw [List.getElem?_set_ne (fun z => e z.symm)] at ho
      have ne : b ≠ a := fun z => e (nd_ix R.nd (z ▸ hk) h)
      exact (R.obj k b o hk ho).ext E (upd_ne ne)
  · obtain ⟨ps, e, t⟩ := R.tab P hP
    exact ⟨ps, by rw [upd_ne (show P ≠ a from fun z => R.notab hP (z ▸ m))]; exact e, t⟩
/-- a new thing that is no nice object (a tuple, an instance's own dict) -/
theorem NRel.side (R : NRel K C ρ N H) (h : H a = none) {u : HO} : Ext ρ H ρ (upd H a u) ∧ NRel K C ρ N (upd H a u) := by
  have E : Ext ρ H ρ (upd H a u) := ⟨⟨[], by simp⟩, fun b h n => absurd h n, fun b o q n _ => by rw [upd_ne (ne_of_none q h)]; exact q, fun b ps q => ⟨ps, by rw [upd_ne (ne_of_none q h)]; exact q⟩, fun b o w q => by rw [upd_ne (ne_of_none q h)]; exact q⟩
  refine ⟨E, R.len, R.nd, R.names, fun k b o hk ho => ?_, fun P hP => ?_⟩
  · have ne : b ≠ a := fun z => R.fresh h (z ▸ memOf hk)
    exact (R.obj k b o hk ho).ext E (upd_ne ne)
  · obtain ⟨ps, e, t⟩ := R.tab P hP
    exact ⟨ps, by rw [upd_ne (ne_of_none e h)]; exact e, t⟩
/-- a new nice object -/
theorem NRel.more (R : NRel K C ρ N H) (h : H a = none) {u : HO} (new : Ext ρ H (ρ ++ [a]) (upd H a u) → RO K C (ρ ++ [a]) (upd H a u) a o') :
    Ext ρ H (ρ ++ [a]) (upd H a u) ∧ NRel K C (ρ ++ [a]) (N ++ [o']) (upd H a u) := by
  have E : Ext ρ H (ρ ++ [a]) (upd H a u) := ⟨⟨[a], rfl⟩, fun b hb n => by
      rcases List.mem_append.mp hb with q | q
      · exact absurd q n
      · rw [List.mem_singleton.mp q]; exact h, fun b o q n _ => by rw [upd_ne (ne_of_none q h)]; exact q, fun b ps q => ⟨ps, by rw [upd_ne (ne_of_none q h)]; exact q⟩, fun b o w q => by rw [upd_ne (ne_of_none q h)]; exact q⟩
  have hf := R.fresh h
  refine ⟨E, by simp [R.len], List.nodup_append.mpr ⟨R.nd, by simp, fun x hx y hy z => hf (by rw [List.mem_singleton.mp hy] at z; exact z ▸ hx)⟩, R.names, fun k b o hk ho => ?_, fun P hP => ?_⟩
  · by_cases e : k < ρ.length
    · rw [List.getElem?_append_left e] at hk
      rw [List.getElem?_append_left (by have := R.len; omega)] at ho
      have ne : b ≠ a := fun z => hf (z ▸ memOf hk)
      exact (R.obj k b o hk ho).ext E (upd_ne ne)
    · have hk1 := (List.getElem?_eq_some_iff.mp hk).1
      rw [List.length_append, List.length_singleton] at hk1
      have e2 : k = ρ.length := by omega
      subst e2
      rw [List.getElem?_concat_length] at hk
      rw [R.len, List.getElem?_concat_length] at ho
      cases hk; cases ho
      exact new E
  · obtain ⟨ps, e, t⟩ := R.tab P hP
    exact ⟨ps, by rw [upd_ne (ne_of_none e h)]; exact e, t⟩
theorem get_last {ρ : List Addr} {a : Addr} : (ρ ++ [a])[ρ.length]? = some a := List.getElem?_concat_length ..
/-- a new tuple -/
theorem RD.tupNew {ds : List D} {xs : List V} (hf : a ∉ ρ) (e : Ext ρ H ρ (upd H a (.tup xs))) (r : RDs K ρ H ds xs) : RD K ρ (upd H a (.tup xs)) (.tup ds) (.ref a) :=
  ⟨a, xs, rfl, ⟨hf, upd_same⟩, r.ext e⟩
end
end NY

set_option Elab.async false
set_option linter.all false
set_option maxRecDepth 100000
set_option maxHeartbeats 4000000
/-! NY2: readings made of nice programs; names, constants, operators, comparisons -/
namespace NY
open PySem PySem.Spec PyProof.Rows L2

def RX (K : PySem.W.Frag) (C : NC) (ρ : List Addr) (H : Hp) (x : Exn) (c : Value) : Option Addr → Prop
  | none => c = .ref (C.cls x.cls) ∧ x.fs = []
  | some d => c = .ref (C.cls x.cls) ∧ d ∉ ρ ∧ x.fs ≠ [] ∧ ∃ l, H d = some (.xd l) ∧ RF K ρ H C.names x.fs l
/-- what is to hold behind a nice result -/
def PostR {α β : Type} (rel : List Addr → Hp → α → β → Prop) (K : PySem.W.Frag) (C : NC) (W : WX) (ρ : List Addr) (H : Hp) (σ : L2.St) (Q : β → Hp → Prop) : R α → Prop
  | .ok d N => ∀ v H' ρ', Ext ρ H ρ' H' → NRel K C ρ' N H' → rel ρ' H' d v → Q v H'
  | .exc x N => ∀ c dx H' ρ', Ext ρ H ρ' H' → NRel K C ρ' N H' → RX K C ρ' H' x c dx → W c dx σ H'
  | .bad => False
def RSt (K : PySem.W.Frag) (ρ : List Addr) (H : Hp) (σn : NEnv) (σ : L2.St) : Prop :=
  σn.length = σ.length ∧ ∀ (i : Nat) (d : D), σn[i]? = some (some d) → ∃ v, σ[i]? = some (some v) ∧ RD K ρ H d v
def tR {α β : Type} (rel : List Addr → Hp → α → β → Prop) (K : PySem.W.Frag) (C : NC) (W : WX) (m : NEnv → NH → R α) (σ : L2.St) (H : Hp) (Q : β → Hp → Prop) : Prop :=
  ∃ (ρ : List Addr) (σn : NEnv) (N : NH), NRel K C ρ N H ∧ RSt K ρ H σn σ ∧ PostR rel K C W ρ H σ Q (m σn N)
abbrev rB : List Addr → Hp → Bool → Bool → Prop := fun _ _ a b => b = a
def tE (K : PySem.W.Frag) (C : NC) (W : WX) (m : NE) : TE := tR (RD K) K C W m
def tT (K : PySem.W.Frag) (C : NC) (W : WX) (m : NT) : TT := tR rB K C W m
def tA (K : PySem.W.Frag) (C : NC) (W : WX) (m : NA) : TA := tR (RDs K) K C W m

section
variable {α β γ δ : Type} {rel : List Addr → Hp → α → β → Prop} {rel' : List Addr → Hp → γ → δ → Prop} {K : PySem.W.Frag} {C : NC} {W : WX} {ρ ρ' : List Addr} {H H' : Hp} {σ : L2.St} {N : NH}
theorem RSt.ext {σn : NEnv} (e : Ext ρ H ρ' H') (h : RSt K ρ H σn σ) : RSt K ρ' H' σn σ :=
  ⟨h.1, fun i d q => let ⟨v, a, b⟩ := h.2 i d q; ⟨v, a, b.ext e⟩⟩
theorem PostR.imp {Q Q' : β → Hp → Prop} {r : R α} (h : PostR rel K C W ρ H σ Q r) (hq : ∀ b H', Q b H' → Q' b H') : PostR rel K C W ρ H σ Q' r := by
  cases r with
  | ok d N => exact fun v H' ρ' e n q => hq _ _ (h v H' ρ' e n q)
  | exc x N => exact h
  | bad => exact h
theorem PostR.ext {Q : β → Hp → Prop} {r : R α} (e : Ext ρ H ρ' H') (h : PostR rel K C W ρ H σ Q r) : PostR rel K C W ρ' H' σ Q r := by
  cases r with
  | ok d N => exact fun v H' ρ' e' n q => h v H' ρ' (e.trans e') n q
  | exc x N => exact fun c dx H' ρ' e' n q => h c dx H' ρ' (e.trans e') n q
  | bad => exact h
theorem PostR.bind {Q : δ → Hp → Prop} {r : R α} {k : α → NH → R γ} (h : PostR rel' K C W ρ H σ Q (r.bind k)) :
    PostR rel K C W ρ H σ (fun b H1 => ∃ ρ1 N1 a, Ext ρ H ρ1 H1 ∧ NRel K C ρ1 N1 H1 ∧ rel ρ1 H1 a b ∧ PostR rel' K C W ρ1 H1 σ Q (k a N1)) r := by
  cases r with
  | ok d N => exact fun v H' ρ' e n q => ⟨ρ', N, d, e, n, q, PostR.ext e h⟩
  | exc x N => exact h
  | bad => exact h
theorem PostR.ok {Q : β → Hp → Prop} {a : α} {b : β} (R : NRel K C ρ N H) (h : PostR rel K C W ρ H σ Q (.ok a N)) (r : rel ρ H a b) : Q b H := h b H ρ .refl R r
/-- two parts in a row -/
theorem PostR.then {m : NEnv → NH → R α} {k : α → NH → R γ} {Q : δ → Hp → Prop} {Q' : β → Hp → Prop} {σn : NEnv} (R : NRel K C ρ N H) (S : RSt K ρ H σn σ) (h : PostR rel' K C W ρ H σ Q ((m σn N).bind k))
    (hk : ∀ b H1 ρ1 N1 a, Ext ρ H ρ1 H1 → NRel K C ρ1 N1 H1 → RSt K ρ1 H1 σn σ → rel ρ1 H1 a b → PostR rel' K C W ρ1 H1 σ Q (k a N1) → Q' b H1) : tR rel K C W m σ H Q' :=
  ⟨ρ, σn, N, R, S, h.bind.imp fun b H1 ⟨ρ1, N1, a, e, n, q, p⟩ => hk b H1 ρ1 N1 a e n (S.ext e) q p⟩
end

theorem pe_weak {X : Cx} {e : Expr} {t t' : TE} (h : PE X e t) (w : ∀ σ H Q, t' σ H Q → t σ H Q) : PE X e t' := ⟨fun pins s σ H Q I q => h.run pins s σ H Q I (w σ H Q q)⟩
theorem pt_weak {X : Cx} {e : Expr} {t t' : TT} (h : PT X e t) (w : ∀ σ H Q, t' σ H Q → t σ H Q) : PT X e t' := ⟨fun pins s σ H Q I q => h.run pins s σ H Q I (w σ H Q q)⟩
theorem pw_weak {X : Cx} {e : Expr} {t t' : TT} (h : PW X e t) (w : ∀ σ H Q, t' σ H Q → t σ H Q) : PW X e t' := ⟨fun wh pins s σ H Q I q => h.run wh pins s σ H Q I (w σ H Q q)⟩
theorem pa_weak {X : Cx} {e : List Expr} {t t' : TA} (h : PA X e t) (w : ∀ σ H Q, t' σ H Q → t σ H Q) : PA X e t' := ⟨fun pos pins s σ H Q I q => h.run pos pins s σ H Q I (w σ H Q q)⟩

/-! ### the nice programs -/
def nC (d : D) : NE := fun _ N => .ok d N
def nV (i : Nat) : NE := fun σ N => match σ[i]? with | some (some d) => .ok d N | _ => .bad
def nOp2 (f : D → D → NH → R D) (a b : NE) : NE := fun σ N => (a σ N).bind fun x N => (b σ N).bind fun y N => f x y N
def nOp1 (f : D → NH → R D) (a : NE) : NE := fun σ N => (a σ N).bind fun x N => f x N
def NH.new (N : NH) (o : O) : R D := .ok (.ref N.length) (N ++ [o])
def nBool (a : NE) : NT := fun σ N => (a σ N).bind fun x N => match x with | .bl b => .ok b N | _ => .bad
def nIf (t : NT) (a b : NE) : NE := fun σ N => (t σ N).bind fun c N => if c = true then a σ N else b σ N
def nAndT (a b : NT) : NT := fun σ N => (a σ N).bind fun c N => if c = true then b σ N else .ok false N
def nOrT (a b : NT) : NT := fun σ N => (a σ N).bind fun c N => if c = true then .ok true N else b σ N
def nNotT (a : NT) : NT := fun σ N => (a σ N).bind fun c N => .ok (!c) N
def nAnd (a b : NE) : NE := fun σ N => (a σ N).bind fun x N => match x with | .bl true => b σ N | .bl false => .ok (.bl false) N | _ => .bad
def nOr (a b : NE) : NE := fun σ N => (a σ N).bind fun x N => match x with | .bl true => .ok (.bl true) N | .bl false => b σ N | _ => .bad
def nNot (a : NE) : NE := fun σ N => (a σ N).bind fun x N => match x with | .bl b => .ok (.bl (!b)) N | _ => .bad
def nNil : NA := fun _ N => .ok [] N
def nCons (a : NE) (r : NA) : NA := fun σ N => (a σ N).bind fun x N => (r σ N).bind fun xs N => .ok (x :: xs) N

section
variable {X : Cx} {C : NC} {W : WX} {a b c : Expr} {pos : Pos}
theorem n_int {i : Int} {j : Nat} : PE X (.Constant (.int i) j pos) (tE X.K C W (nC (.int i))) := pe_weak pe_int fun σ H Q ⟨ρ, σn, N, R, S, h⟩ => h.ok R rfl
theorem n_bl {i : Bool} {j : Nat} : PE X (.Constant (.bool i) j pos) (tE X.K C W (nC (.bl i))) := pe_weak pe_bl fun σ H Q ⟨ρ, σn, N, R, S, h⟩ => h.ok R rfl
theorem n_str {x : Str} {j : Nat} : PE X (.Constant (.str x) j pos) (tE X.K C W (nC (.str x))) := pe_weak pe_str fun σ H Q ⟨ρ, σn, N, R, S, h⟩ => h.ok R rfl
theorem n_var (i : Nat) {x : Str} (hN : X.N[i]? = some x := by rfl) (hv : Vis X.env.scope x := by first | exact Or.inl rfl | exact Or.inr (Or.inl rfl) | exact Or.inr (Or.inr rfl)) (hd : (x == ("__debug__" : Str)) = false := by decide)
    (hcd : (x == ("__classdict__" : Str)) = false := by decide) : PE X (.Name x pos) (tE X.K C W (nV i)) := pe_weak (pe_var hN hv hd hcd) fun σ H Q ⟨ρ, σn, N, R, S, h⟩ => by
  unfold nV at h
  cases e : σn[i]? with
  | none => rw [e] at h; exact h.elim
  | some o =>
    cases o with
    | none => rw [e] at h; exact h.elim
    | some d =>
      rw [e] at h
      obtain ⟨v, e1, r⟩ := S.2 i d e
      exact ⟨v, e1, h.ok R r⟩
/-- a rule of values: what the nice operation gives is what the rule asks -/
def Snd2 (K : PySem.W.Frag) (C : NC) (f : D → D → NH → R D) (r : R2) : Prop :=
  ∀ (W : WX) (ρ : List Addr) (N : NH) (H : Hp) (σ : L2.St) (d e : D) (x y : V) (Q : VK), NRel K C ρ N H → RD K ρ H d x → RD K ρ H e y → PostR (RD K) K C W ρ H σ Q (f d e N) → r x y H Q
theorem snd_op {f : D → D → NH → R D} {r : R2} {ma mb : NE} (h : Snd2 X.K C f r) {σ : L2.St} {H : Hp} {Q : VK} (q : tE X.K C W (nOp2 f ma mb) σ H Q) : tOp r (tE X.K C W ma) (tE X.K C W mb) σ H Q := by
  obtain ⟨ρ, σn, N, R, S, q⟩ := q
  exact PostR.then R S q fun x H1 ρ1 N1 d E1 R1 S1 rd q1 => PostR.then R1 S1 q1 fun y H2 ρ2 N2 e E2 R2 S2 re q2 => h W ρ2 N2 H2 σ d e x y Q R2 (rd.ext E2) re q2
theorem n_bin {op : Operator} {f : D → D → NH → R D} {r : R2} {ma mb : NE} (ho : OpR X (binaryOp op) r) (h : Snd2 X.K C f r) (ha : PE X a (tE X.K C W ma)) (hb : PE X b (tE X.K C W mb)) : PE X (.BinOp a op b pos) (tE X.K C W (nOp2 f ma mb)) :=
  pe_weak (pe_op ho ha hb) fun σ H Q q => snd_op h q
theorem n_cmp {op : CmpOp} {f : D → D → NH → R D} {r : R2} {ma mb : NE} (ho : OpR X (compareOp op) r) (h : Snd2 X.K C f r) (ha : PE X a (tE X.K C W ma)) (hb : PE X b (tE X.K C W mb)) (hm : behindInMarks op b = false) : PE X (.Compare a [op] [b] pos) (tE X.K C W (nOp2 f ma mb)) :=
  pe_weak (pe_cmpR ho ha hb hm) fun σ H Q q => snd_op h q
theorem to_bl {ma : NE} {σ : L2.St} {H : Hp} {Q : Bool → Hp → Prop} (q : tT X.K C W (nBool ma) σ H Q) : tE X.K C W ma σ H fun x H' => ∃ k, x = .bl k ∧ Q k H' := by
  obtain ⟨ρ, σn, N, R, S, q⟩ := q
  refine PostR.then R S q fun x H1 ρ1 N1 d E1 R1 S1 rd q1 => ?_
  cases d with
  | bl k => exact ⟨k, rd, q1.ok R1 rfl⟩
  | _ => exact q1.elim
theorem n_cmpT {op : CmpOp} {f : D → D → NH → R D} {r : R2} {ma mb : NE} (ho : OpR X (compareOp op) r) (h : Snd2 X.K C f r) (ha : PE X a (tE X.K C W ma)) (hb : PE X b (tE X.K C W mb)) (hm : behindInMarks op b = false) : PT X (.Compare a [op] [b] pos) (tT X.K C W (nBool (nOp2 f ma mb))) :=
  pt_weak (pt_cmpR ho ha hb hm) fun σ H Q q => snd_op h (to_bl q)
/-- a chain a op b op' c -/
def nChain (f f' : D → D → NH → R D) (a b c : NE) : NE := fun σ N => (a σ N).bind fun x N => (b σ N).bind fun y N => (f x y N).bind fun z N => match z with
  | .bl true => (c σ N).bind fun z N => f' y z N
  | .bl false => .ok (.bl false) N
  | _ => .bad
end
end NY

set_option Elab.async false
set_option linter.all false
set_option maxRecDepth 100000
set_option maxHeartbeats 4000000
/-! NYM: a tuple by any number -/
namespace NY
open PySem PySem.Spec PyProof.Rows L2
section
variable (l : Addr) (items : Array Value) (n : Nat) (dd : Option Addr) (sl : Array (Option Value)) (x : Int) (u : Tok)
theorem tmul_same (c0 : (decide (x < -(2 ^ 63)) || decide (x ≥ 2 ^ 63)) = false) (c1 : (items.isEmpty || x == 1) = true) :
    Meets (Builtin.«tuple.__mul__» ⟨[.ref l, .int x u], []⟩) (fun _ R s => s.heap.get? l = some { cls := .type "tuple", dict := dd, data := .seq items n, slots := sl } ∧ R (.ok (.ret (.ref l))) s) :=
  .of_wp fun prog w A R s h => by
    obtain ⟨hp, g, d, tk, os⟩ := s
    obtain ⟨hl, h⟩ := h
    have idx := AutoSeq1.idx_int
    wp_walk using wpAny_loadPart' hl
    repeat (first
      | (refine wpAny_ite_false (decide_eq_false (by rw [c0]; simp)) ?_; wp_walk using wpAny_loadPart' hl)
      | (refine wpAny_ite_true (decide_eq_true (by rw [c1])) ?_; wp_walk using wpAny_loadPart' hl))
    exact ⟨_, rfl, h⟩
theorem tmul_none (c0 : (decide (x < -(2 ^ 63)) || decide (x ≥ 2 ^ 63)) = false) (c1 : (items.isEmpty || x == 1) = false) (c2 : (decide (x ≤ 0) || items.isEmpty) = true) :
    Meets (Builtin.«tuple.__mul__» ⟨[.ref l, .int x u], []⟩) (fun _ R s => s.heap.get? l = some { cls := .type "tuple", dict := dd, data := .seq items n, slots := sl } ∧
      R (.ok (.ret (Value.ref s.heap.objs.size))) { s with heap := s.heap.push { cls := Value.type "tuple", data := Data.seq #[] }, toks := s.toks }) :=
  .of_wp fun prog w A R s h => by
    obtain ⟨hp, g, d, tk, os⟩ := s
    obtain ⟨hl, h⟩ := h
    have idx := AutoSeq1.idx_int
    wp_walk using wpAny_loadPart' hl
    repeat (first
      | (refine wpAny_ite_false (decide_eq_false (by rw [c0]; simp)) ?_; wp_walk using wpAny_loadPart' hl)
      | (refine wpAny_ite_false (decide_eq_false (by rw [c1]; simp)) ?_; wp_walk using wpAny_loadPart' hl)
      | (refine wpAny_ite_true (decide_eq_true (by rw [c2])) ?_; wp_walk using wpAny_loadPart' hl))
    exact ⟨_, rfl, h⟩
end
def rRepA (K : PySem.W.Frag) : R2 := fun x y H Q => ∃ l k xs, x = .ref l ∧ y = .int k ∧ SqT K H l xs ∧ -1000000 ≤ k ∧ k ≤ 1000000 ∧ xs.length * k.toNat ≤ 1000000 ∧
  ((xs = [] ∨ k = 1) → Q (.ref l) H) ∧ (¬ (xs = [] ∨ k = 1) → ∀ p, H p = none → Q (.ref p) (upd H p (.tup (List.replicate k.toNat xs).flatten)))
section
variable {X : Cx}
theorem op_repA : OpR X (binaryOp .Mult) (rRepA X.K) := by
  intro pins s σ H x y v u Q I rx ry h
  obtain ⟨l, k, xs, rfl, rfl, hT, k0, k1, hz, q1, q2⟩ := h
  cases rx
  obtain ⟨t, rfl⟩ := ry
  obtain ⟨its, r, ⟨⟨cls, dd, data, sl⟩, ho, hc, n, hd⟩, hs⟩ := I.tuple hT
  simp only at hc hd
  subst hc hd
  have hle : its.length = xs.length := r.length.symm
  have emp : its.toArray.isEmpty = decide (xs = []) := by
    cases its with
    | nil => cases xs with
      | nil => rfl
      | cons a b => simp at hle
    | cons a b => cases xs with
      | nil => simp at hle
      | cons a b => rfl
  have c0 : (decide (k < -(2 ^ 63)) || decide (k ≥ 2 ^ 63)) = false := by
    simp only [Bool.or_eq_false_iff, decide_eq_false_iff_not]
    constructor <;> omega
  by_cases h1 : xs = [] ∨ k = 1
  · have c1 : (its.toArray.isEmpty || k == 1) = true := by
      rw [emp]
      rcases h1 with e | e
      · simp [e]
      · simp [e]
    refine wpAny_binaryOp_repeat_ref (T := "tuple") (U := "int") (by decide) ⟨_, ho, rfl⟩ (fun s' => typeIs_int s' k t) noFill_tuple_mul F.fills_int_mul F.slot_int_rmul repeat_tuple F.slot_int_index.lookup
      (call_meets F.slot_int_rmul (typeIs_int s k t) F.entry_int_rmul (F.args_int_rmul_2 _ _) (int_rmul_tuple k t l its.toArray n dd sl) ⟨ho, rfl, ⟨_, ho, rfl⟩, ?_⟩)
    refine call_meets F.slot_tuple_mul ⟨_, ho, rfl⟩ F.entry_tuple_mul (F.args_tuple_mul_2 _ _) (tmul_same l its.toArray n dd sl k t c0 c1) ⟨ho, ?_⟩
    exact ⟨.ref l, H, I, rfl, q1 h1⟩
  · have hx : xs ≠ [] := fun e => h1 (.inl e)
    have hk : k ≠ 1 := fun e => h1 (.inr e)
    have c1 : (its.toArray.isEmpty || k == 1) = false := by
      rw [emp]
      simp [hx, hk]
    have q2 := q2 h1
    by_cases h2 : k ≤ 0
    · have c2 : (decide (k ≤ 0) || its.toArray.isEmpty) = true := by rw [decide_eq_true h2]; rfl
      have k2 : k.toNat = 0 := by omega
      rw [k2] at q2
      refine wpAny_binaryOp_repeat_ref (T := "tuple") (U := "int") (by decide) ⟨_, ho, rfl⟩ (fun s' => typeIs_int s' k t) noFill_tuple_mul F.fills_int_mul F.slot_int_rmul repeat_tuple F.slot_int_index.lookup
        (call_meets F.slot_int_rmul (typeIs_int s k t) F.entry_int_rmul (F.args_int_rmul_2 _ _) (int_rmul_tuple k t l its.toArray n dd sl) ⟨ho, rfl, ⟨_, ho, rfl⟩, ?_⟩)
      refine call_meets F.slot_tuple_mul ⟨_, ho, rfl⟩ F.entry_tuple_mul (F.args_tuple_mul_2 _ _) (tmul_none l its.toArray n dd sl k t c0 c1 c2) ⟨ho, ?_⟩
      refine ⟨.ref s.heap.objs.size, _, I.laid (t' := s.toks) (o := .tup []) (fun b ob q => Heap.get?_push_of_some _ q) (Nat.le_refl _) ?_, rfl, q2 _ (I.hok.fresh (Nat.le_refl _))⟩
      exact ⟨Nat.zero_le _, _, .nil, IsTup.new _ _⟩
    · have c2 : (decide (k ≤ 0) || its.toArray.isEmpty) = false := by rw [emp]; simp [hx, h2]
      have sz : its.toArray.size = xs.length := by rw [List.size_toArray, hle]
      have hzi : ((xs.length : Nat) : Int) * k ≤ 1000000 := by
        have e : ((k.toNat : Nat) : Int) = k := by omega
        rw [← e]
        have := Int.ofNat_le.mpr hz
        rw [Int.natCast_mul] at this
        exact this
      have hz2 : k.toNat * xs.length ≤ 1000000 := by rw [Nat.mul_comm]; exact hz
      have fl : (List.replicate k.toNat its).flatten.length ≤ sizeLine := by
        rw [PyProof.Rows.lm_len_rep_flat, hle, sizeLine_eq]; omega
      have c4 : Builtin.Tuple.tupleTooMany (((its.toArray.size : Nat) : Int) * k) = false := by
        unfold Builtin.Tuple.tupleTooMany
        rw [sizeLine_eq, sz]
        exact decide_eq_false (by omega)
      refine wpAny_binaryOp_repeat_ref (T := "tuple") (U := "int") (by decide) ⟨_, ho, rfl⟩ (fun s' => typeIs_int s' k t) noFill_tuple_mul F.fills_int_mul F.slot_int_rmul repeat_tuple F.slot_int_index.lookup
        (call_meets F.slot_int_rmul (typeIs_int s k t) F.entry_int_rmul (F.args_int_rmul_2 _ _) (int_rmul_tuple k t l its.toArray n dd sl) ⟨ho, rfl, ⟨_, ho, rfl⟩, ?_⟩)
      refine call_meets F.slot_tuple_mul ⟨_, ho, rfl⟩ F.entry_tuple_mul (F.args_tuple_mul_2 _ _) (tuple_mulW l its.toArray n dd sl k t c0 c1 c2 (by rw [sz]; omega) c4 (by rw [size_rep, List.size_toArray]; exact fl)) ⟨ho, ?_⟩
      rw [size_rep]
      refine ⟨.ref s.heap.objs.size, _, I.laid (t' := s.toks) (o := .tup (List.replicate k.toNat xs).flatten) (fun b ob q => Heap.get?_push_of_some _ q) (Nat.le_refl _) ?_, rfl, q2 _ (I.hok.fresh (Nat.le_refl _))⟩
      exact ⟨by rw [PyProof.Rows.lm_len_rep_flat, sizeLine_eq]; omega, _, r.rep k.toNat, IsTup.new _ _⟩
end
end NY

set_option Elab.async false
set_option linter.all false
set_option maxRecDepth 100000
set_option maxHeartbeats 4000000
/-! NYQ: a text by a number -/
namespace NY
open PySem PySem.Spec PyProof.Rows L2
def rMulS : R2 := fun x y H Q => ∃ (s : Str) (n : Int), x = .str s ∧ y = .int n ∧ MulOk s n ∧ Q (.str (Txt.mul s n)) H
theorem op_mulS {X : Cx} : OpR X (binaryOp .Mult) rMulS := by
  intro pins s σ H x y v u Q I rx ry h
  obtain ⟨a, n, rfl, rfl, hok, q⟩ := h
  obtain ⟨t, rfl⟩ := rx
  obtain ⟨t', rfl⟩ := ry
  exact SB.mul hok fun tk k => ⟨.str (Txt.mul a n), H, I.kept (t' := k) fun _ _ z => z, ⟨_, rfl⟩, q⟩
theorem mulS_ok {s : Str} {n : Int} (h0 : 0 ≤ n) (h1 : n ≤ 1000) (h2 : s.length ≤ 1000) : MulOk s n := by
  have hb : s.length * n.toNat ≤ 1000 * 1000 := Nat.mul_le_mul h2 (by omega)
  refine ⟨by simp; omega, fun hn _ => ?_, fun hn _ => ?_⟩
  · have h3 : (s.length : Int) ≤ (2 ^ 63 - 1) / n := (Int.le_ediv_iff_mul_le (by omega)).mpr (by
      have e : (s.length : Int) * n = ((s.length * n.toNat : Nat) : Int) := by rw [Int.natCast_mul]; congr 1; omega
      rw [e]
      omega)
    omega
  · unfold Builtin.Str.tooLong
    exact decide_eq_false (by rw [sizeLine_eq]; omega)
end NY

set_option Elab.async false
set_option linter.all false
set_option maxRecDepth 100000
set_option maxHeartbeats 4000000
/-! NYB: True + 1, True - 1 -/
namespace NY
open PySem PySem.Spec PyProof.Rows L2
def rAddB : R2 := fun x y H Q => ∃ (k : Bool) (i : Int), x = .bl k ∧ y = .int i ∧ Q (.int ((if k = true then (1 : Int) else 0) + i)) H
theorem op_addB {X : Cx} : OpR X (binaryOp .Add) rAddB := by
  intro pins s σ H x y v u Q I rx ry h
  obtain ⟨k, i, rfl, rfl, q⟩ := h
  cases rx
  obtain ⟨t, rfl⟩ := ry
  exact IntBool.add_bool_int ⟨.int ((if k = true then (1 : Int) else 0) + i), H, I.tok _, ⟨_, rfl⟩, q⟩
def rSubB : R2 := fun x y H Q => ∃ (k : Bool) (i : Int), x = .bl k ∧ y = .int i ∧ Q (.int ((if k = true then (1 : Int) else 0) - i)) H
theorem op_subB {X : Cx} : OpR X (binaryOp .Sub) rSubB := by
  intro pins s σ H x y v u Q I rx ry h
  obtain ⟨k, i, rfl, rfl, q⟩ := h
  cases rx
  obtain ⟨t, rfl⟩ := ry
  exact IntBool.sub_bool_int ⟨.int ((if k = true then (1 : Int) else 0) - i), H, I.tok _, ⟨_, rfl⟩, q⟩
end NY

set_option Elab.async false
set_option linter.all false
set_option maxRecDepth 100000
set_option maxHeartbeats 4000000
/-! NY3: operators by values -/
namespace NY
open PySem PySem.Spec PyProof.Rows L2

section
variable {K : PySem.W.Frag} {C : NC} {W : WX} {ρ : List Addr} {N : NH} {H : Hp} {σ : L2.St} {Q : VK}
/-- a new list, a new tuple, handed to the goal -/
theorem PostR.newL {ds : List D} {xs : List V} {p : Addr} (R : NRel K C ρ N H) (r : RDs K ρ H ds xs) (hp : H p = none) (h : PostR (RD K) K C W ρ H σ Q (N.new (.lst ds))) : Q (.ref p) (upd H p (.lst xs)) := by
  obtain ⟨E, R'⟩ := R.more (o' := .lst ds) (u := .lst xs) hp fun E => ⟨xs, upd_same, r.ext E⟩
  refine h _ _ _ E R' ⟨p, rfl, ?_⟩
  rw [← R.len]; exact get_last
theorem PostR.newT {ds : List D} {xs : List V} {p : Addr} (R : NRel K C ρ N H) (r : RDs K ρ H ds xs) (hp : H p = none) (h : PostR (RD K) K C W ρ H σ Q (.ok (.tup ds) N)) : Q (.ref p) (upd H p (.tup xs)) := by
  obtain ⟨E, R'⟩ := R.side (u := .tup xs) hp
  exact h _ _ _ E R' (RD.tupNew (R.fresh hp) E r)
/-- a list in the nice heap -/
theorem NRel.lst {n : Nat} {ds : List D} {v : V} (R : NRel K C ρ N H) (hv : RD K ρ H (.ref n) v) (e : N[n]? = some (.lst ds)) : ∃ a xs, v = .ref a ∧ ρ[n]? = some a ∧ H a = some (.lst xs) ∧ RDs K ρ H ds xs := by
  obtain ⟨a, rfl, ha⟩ := hv
  obtain ⟨xs, h1, h2⟩ := R.obj n a _ ha e
  exact ⟨a, xs, rfl, ha, h1, h2⟩
end

/-! ### arithmetic -/
def fAdd : D → D → NH → R D
  | .int i, .int j, N => .ok (.int (i + j)) N
  | .bl k, .int j, N => .ok (.int ((if k = true then (1 : Int) else 0) + j)) N
  | .str a, .str b, N => if a.length + b.length ≤ sizeLine then .ok (.str (a ++ b)) N else .bad
  | .tup a, .tup b, N => if a.length + b.length ≤ sizeLine then .ok (.tup (a ++ b)) N else .bad
  | .ctup a, .tup b, N => if a ≠ [] ∧ b ≠ [] ∧ a.length + b.length ≤ sizeLine then .ok (.tup (a ++ b)) N else .bad
  | .ref a, .ref b, N => match N[a]?, N[b]? with
    | some (.lst x), some (.lst y) => if x.length + y.length ≤ sizeLine then N.new (.lst (x ++ y)) else .bad
    | _, _ => .bad
  | _, _, _ => .bad
def rAdd (K : PySem.W.Frag) : R2 := fun x y H Q => (∃ i j, x = .int i ∧ y = .int j ∧ Q (.int (i + j)) H) ∨ rAddB x y H Q ∨ (∃ i j, x = .str i ∧ y = .str j ∧ i.length + j.length ≤ sizeLine ∧ Q (.str (i ++ j)) H) ∨ rCatA K x y H Q ∨ rCat x y H Q
theorem opAdd {X : Cx} : OpR X (binaryOp .Add) (rAdd X.K) := op_add.or (op_addB.or (op_add_str.or (op_catA.or op_cat)))
theorem sndAdd {K : PySem.W.Frag} {C : NC} : Snd2 K C fAdd (rAdd K) := by
  intro W ρ N H σ d e x y Q R rd re q
  unfold fAdd at q
  split at q
  · exact .inl ⟨_, _, rd, re, q.ok R rfl⟩
  · exact .inr (.inl ⟨_, _, rd, re, q.ok R rfl⟩)
  · split at q
    · rename_i h
      exact .inr (.inr (.inl ⟨_, _, rd, re, h, q.ok R rfl⟩))
    · exact q.elim
  · rename_i as bs
    split at q
    · rename_i h
      obtain ⟨a, xs, rfl, ta, ra⟩ := rd
      obtain ⟨b, ys, rfl, tb, rb⟩ := re
      have l1 := ra.length
      have l2 := rb.length
      refine .inr (.inr (.inr (.inl ⟨a, b, xs, ys, rfl, rfl, ta.sq, tb.sq, by omega, fun e => ?_, fun _ e => ?_, fun _ _ p hp => ?_⟩)))
      · subst e
        cases as with
        | nil => exact q.ok R ⟨b, ys, rfl, tb, rb⟩
        | cons _ _ => simp at l1
      · subst e
        cases bs with
        | nil => exact q.ok R ⟨a, xs, rfl, ta, by rw [List.append_nil]; exact ra⟩
        | cons _ _ => simp at l2
      · exact q.newT R (ra.append rb) hp
    · exact q.elim
  · rename_i as bs
    split at q
    · rename_i h
      obtain ⟨h0, h1, h⟩ := h
      obtain ⟨a, xs, rfl, ta, ra⟩ := rd
      obtain ⟨b, ys, rfl, tb, rb⟩ := re
      have l1 := ra.length
      have l2 := rb.length
      refine .inr (.inr (.inr (.inl ⟨a, b, xs, ys, rfl, rfl, ta.sq, tb.sq, by omega, fun e => ?_, fun _ e => ?_, fun _ _ p hp => q.newT R (ra.append rb) hp⟩)))
      · subst e
        cases as with
        | nil => exact absurd rfl h0
        | cons _ _ => simp at l1
      · subst e
        cases bs with
        | nil => exact absurd rfl h1
        | cons _ _ => simp at l2
    · exact q.elim
  · split at q
    · rename_i n m _ _ x y e1 e2
      split at q
      · rename_i h
        obtain ⟨a, xs, rfl, _, ha, ra⟩ := R.lst rd e1
        obtain ⟨b, ys, rfl, _, hb, rb⟩ := R.lst re e2
        have l1 := ra.length
        have l2 := rb.length
        exact .inr (.inr (.inr (.inr ⟨a, b, xs, ys, rfl, rfl, ha, hb, by omega, fun p hp => q.newL R (ra.append rb) hp⟩)))
      · exact q.elim
    · exact q.elim
  · exact q.elim

def fSub : D → D → NH → R D
  | .int i, .int j, N => .ok (.int (i - j)) N
  | .bl k, .int j, N => .ok (.int ((if k = true then (1 : Int) else 0) - j)) N
  | _, _, _ => .bad
def rSub : R2 := fun x y H Q => rI0 (fun i j => .int (i - j)) x y H Q ∨ rSubB x y H Q
theorem opSub {X : Cx} : OpR X (binaryOp .Sub) rSub := op_sub.or op_subB
theorem sndSub {K : PySem.W.Frag} {C : NC} : Snd2 K C fSub rSub := by
  intro W ρ N H σ d e x y Q R rd re q
  unfold fSub at q
  split at q
  · exact .inl ⟨_, _, rd, re, q.ok R rfl⟩
  · exact .inr ⟨_, _, rd, re, q.ok R rfl⟩
  · exact q.elim
instance {i j : Int} : Decidable (CMul i j) := inferInstanceAs (Decidable (_ ∨ _))
def fMul : D → D → NH → R D
  | .int i, .int j, N => if CMul i j then .ok (.int (i * j)) N else .bad
  | .tup a, .int k, N => if -1000000 ≤ k ∧ k ≤ 1000000 ∧ a.length * k.toNat ≤ 1000000 then .ok (.tup (List.replicate k.toNat a).flatten) N else .bad
  | .ref a, .int k, N => match N[a]? with
    | some (.lst x) => if 0 ≤ k ∧ k < 1000000 ∧ x.length * k.toNat ≤ sizeLine then N.new (.lst (List.replicate k.toNat x).flatten) else .bad
    | _ => .bad
  | .str s, .int k, N => if 0 ≤ k ∧ k ≤ 1000 ∧ s.length ≤ 1000 then .ok (.str (Txt.mul s k)) N else .bad
  | _, _, _ => .bad
theorem RDs.rep {K : PySem.W.Frag} {ρ : List Addr} {H : Hp} {ds : List D} {xs : List V} (h : RDs K ρ H ds xs) : ∀ k : Nat, RDs K ρ H (List.replicate k ds).flatten (List.replicate k xs).flatten
  | 0 => by simp; rfl
  | k + 1 => by rw [List.replicate_succ, List.replicate_succ, List.flatten_cons, List.flatten_cons]; exact h.append (RDs.rep h k)
def rMul (K : PySem.W.Frag) : R2 := fun x y H Q => rI CMul (fun i j => .int (i * j)) x y H Q ∨ rRepA K x y H Q ∨ rRep x y H Q ∨ rMulS x y H Q
theorem opMul {X : Cx} : OpR X (binaryOp .Mult) (rMul X.K) := op_mul.or (op_repA.or (op_rep.or op_mulS))
theorem sndMul {K : PySem.W.Frag} {C : NC} : Snd2 K C fMul (rMul K) := by
  intro W ρ N H σ d e x y Q R rd re q
  unfold fMul at q
  split at q
  · split at q
    · rename_i h
      exact .inl ⟨_, _, rd, re, h, q.ok R rfl⟩
    · exact q.elim
  · rename_i as k
    split at q
    · rename_i h
      obtain ⟨a, xs, rfl, ta, ra⟩ := rd
      have l1 := ra.length
      refine .inr (.inl ⟨a, _, xs, rfl, re, ta.sq, h.1, h.2.1, by rw [l1]; exact h.2.2, fun e => ?_, fun _ p hp => q.newT R (ra.rep _) hp⟩)
      refine q.ok R ⟨a, xs, rfl, ta, ?_⟩
      rcases e with e | e
      · have e2 : as = [] := by cases as with | nil => rfl | cons _ _ => rw [e] at l1; simp at l1
        subst e2
        rw [show (List.replicate k.toNat ([] : List D)).flatten = [] by simp]
        exact ra
      · subst e
        rw [show (List.replicate (Int.toNat 1) as).flatten = as by simp]
        exact ra
    · exact q.elim
  · split at q
    · rename_i n k _ x e1
      split at q
      · rename_i h
        obtain ⟨a, xs, rfl, _, ha, ra⟩ := R.lst rd e1
        have l1 := ra.length
        exact .inr (.inr (.inl ⟨a, _, xs, rfl, re, ha, by omega, by omega, by rw [l1]; exact h.2.2, fun p hp => q.newL R (ra.rep _) hp⟩))
      · exact q.elim
    · exact q.elim
  · split at q
    · rename_i h
      exact .inr (.inr (.inr ⟨_, _, rd, re, mulS_ok h.1 h.2.1 h.2.2, q.ok R rfl⟩))
    · exact q.elim
  · exact q.elim
instance {i j : Int} : Decidable (CDivW i j) := inferInstanceAs (Decidable (_ ∧ _))
def fDiv : D → D → NH → R D
  | .int i, .int j, N => if CDivW i j then .ok (.int (i / j)) N else .bad
  | _, _, _ => .bad
theorem sndDiv {K : PySem.W.Frag} {C : NC} : Snd2 K C fDiv (rI CDivW fun i j => .int (i / j)) := by
  intro W ρ N H σ d e x y Q R rd re q
  unfold fDiv at q
  split at q
  · split at q
    · rename_i h
      exact ⟨_, _, rd, re, h, q.ok R rfl⟩
    · exact q.elim
  · exact q.elim
def fMod : D → D → NH → R D
  | .int i, .int j, N => if 0 < j then .ok (.int (i % j)) N else .bad
  | _, _, _ => .bad
theorem sndMod {K : PySem.W.Frag} {C : NC} : Snd2 K C fMod (rI (fun _ j => 0 < j) fun i j => .int (i % j)) := by
  intro W ρ N H σ d e x y Q R rd re q
  unfold fMod at q
  split at q
  · split at q
    · rename_i h
      exact ⟨_, _, rd, re, h, q.ok R rfl⟩
    · exact q.elim
  · exact q.elim
instance {i j : Int} : Decidable (CPow i j) := inferInstanceAs (Decidable (_ ∧ _))
def fPow : D → D → NH → R D
  | .int i, .int j, N => if CPow i j then .ok (.int (i ^ j.toNat)) N else .bad
  | _, _, _ => .bad
theorem sndPow {K : PySem.W.Frag} {C : NC} : Snd2 K C fPow (rI CPow fun i j => .int (i ^ j.toNat)) := by
  intro W ρ N H σ d e x y Q R rd re q
  unfold fPow at q
  split at q
  · split at q
    · rename_i h
      exact ⟨_, _, rd, re, h, q.ok R rfl⟩
    · exact q.elim
  · exact q.elim
def fNeg : D → NH → R D
  | .int i, N => .ok (.int (-i)) N
  | _, _ => .bad
/-! ### order -/
def fOrd (p : Int → Int → Bool) (s : List Nat → List Nat → Bool) : D → D → NH → R D
  | .int i, .int j, N => .ok (.bl (p i j)) N
  | .str a, .str b, N => .ok (.bl (s a.cps.toList b.cps.toList)) N
  | _, _, _ => .bad
def fLt := fOrd (fun i j => decide (i < j)) (fun a b => decide (a < b))
def fLe := fOrd (fun i j => decide (i ≤ j)) (fun a b => !decide (b < a))
def fGt := fOrd (fun i j => decide (j < i)) (fun a b => decide (b < a))
def fGe := fOrd (fun i j => decide (j ≤ i)) (fun a b => !decide (a < b))
def rOrd (p : Int → Int → Bool) (s : List Nat → List Nat → Bool) : R2 := fun x y H Q => rI0 (fun i j => .bl (p i j)) x y H Q ∨ (∃ i j, x = .str i ∧ y = .str j ∧ Q (.bl (s i.cps.toList j.cps.toList)) H)
theorem sndOrd {K : PySem.W.Frag} {C : NC} {p : Int → Int → Bool} {s : List Nat → List Nat → Bool} : Snd2 K C (fOrd p s) (rOrd p s) := by
  intro W ρ N H σ d e x y Q R rd re q
  unfold fOrd at q
  split at q
  · exact .inl ⟨_, _, rd, re, q.ok R rfl⟩
  · exact .inr ⟨_, _, rd, re, q.ok R rfl⟩
  · exact q.elim
theorem opLt {X : Cx} : OpR X (compareOp .Lt) (rOrd (fun i j => decide (i < j)) (fun a b => decide (a < b))) := op_lt.or op_lt_str
theorem opGt {X : Cx} : OpR X (compareOp .Gt) (rOrd (fun i j => decide (j < i)) (fun a b => decide (b < a))) := op_gt.or op_gt_str
theorem opGe {X : Cx} : OpR X (compareOp .GtE) (rOrd (fun i j => decide (j ≤ i)) (fun a b => !decide (a < b))) := op_ge.or op_ge_str

/-! ### is None, is True -/
def fIs : D → D → NH → R D
  | d, .non, N => .ok (.bl (decide (d = .non))) N
  | .bl a, .bl b, N => .ok (.bl (decide (a = b))) N
  | _, _, _ => .bad
def fIsNot : D → D → NH → R D
  | d, .non, N => .ok (.bl (!decide (d = .non))) N
  | .bl a, .bl b, N => .ok (.bl (!decide (a = b))) N
  | _, _, _ => .bad
/-! ### equality: of data at any depth -/
mutual
/-- Python's == of plain data -/
def eqD : D → D → Bool
  | .non, .non => true
  | .bl a, .bl b => a == b
  | .bl a, .int j => (if a then 1 else 0) == j
  | .int i, .bl b => i == (if b then 1 else 0)
  | .int i, .int j => i == j
  | .str x, .str y => x == y
  | .tup xs, .tup ys => eqDs xs ys
  | _, _ => false
def eqDs : List D → List D → Bool
  | [], [] => true
  | x :: xs, y :: ys => eqD x y && eqDs xs ys
  | _, _ => false
end
mutual
/-- plain data, its texts of real signs -/
def plain : D → Bool
  | .non | .bl _ | .int _ => true
  | .str x => x.cps.all (· < 0x110000)
  | .tup xs => plains xs
  | .ctup _ | .lsc _ | .ref _ => false
def plains : List D → Bool
  | [] => true
  | x :: xs => plain x && plains xs
end
mutual
def dep : D → Nat
  | .tup xs => deps xs + 1
  | _ => 0
def deps : List D → Nat
  | [] => 0
  | x :: xs => max (dep x) (deps xs)
end
mutual
def toPy : D → PyData
  | .non => .none
  | .bl b => .bool b
  | .int i => .int i
  | .str x => .str x
  | .tup xs => .tuple (toPys xs)
  | .ctup _ | .lsc _ | .ref _ => .none
def toPys : List D → List PyData
  | [] => []
  | x :: xs => toPy x :: toPys xs
end
mutual
theorem eqv_toPy : ∀ (d e : D), plain d = true → plain e = true → PyData.eqv (toPy d) (toPy e) = eqD d e
  | .tup xs, .tup ys, h, h' => by
    simp only [toPy, PyData.eqv, eqD]
    exact eqv_toPys xs ys h h'
  | .ctup _, _, h, _ => nomatch h
  | .lsc _, _, h, _ => nomatch h
  | .ref _, _, h, _ => nomatch h
  | .non, .ctup _, _, h | .bl _, .ctup _, _, h | .int _, .ctup _, _, h | .str _, .ctup _, _, h | .tup _, .ctup _, _, h => nomatch h
  | .non, .lsc _, _, h | .bl _, .lsc _, _, h | .int _, .lsc _, _, h | .str _, .lsc _, _, h | .tup _, .lsc _, _, h => nomatch h
  | .non, .ref _, _, h | .bl _, .ref _, _, h | .int _, .ref _, _, h | .str _, .ref _, _, h | .tup _, .ref _, _, h => nomatch h
  | .non, .non, _, _ | .non, .bl _, _, _ | .non, .int _, _, _ | .non, .str _, _, _ | .non, .tup _, _, _ => by simp only [toPy, PyData.eqv, eqD]
  | .bl _, .non, _, _ | .bl _, .bl _, _, _ | .bl _, .int _, _, _ | .bl _, .str _, _, _ | .bl _, .tup _, _, _ => by simp only [toPy, PyData.eqv, eqD]
  | .int _, .non, _, _ | .int _, .bl _, _, _ | .int _, .int _, _, _ | .int _, .str _, _, _ | .int _, .tup _, _, _ => by simp only [toPy, PyData.eqv, eqD]
  | .str _, .non, _, _ | .str _, .bl _, _, _ | .str _, .int _, _, _ | .str _, .str _, _, _ | .str _, .tup _, _, _ => by simp only [toPy, PyData.eqv, eqD]
  | .tup _, .non, _, _ | .tup _, .bl _, _, _ | .tup _, .int _, _, _ | .tup _, .str _, _, _ => by simp only [toPy, PyData.eqv, eqD]
theorem eqv_toPys : ∀ (d e : List D), plains d = true → plains e = true → PyData.eqvAll (toPys d) (toPys e) = eqDs d e
  | [], [], _, _ => by simp only [toPys, PyData.eqvAll, eqDs]
  | [], _ :: _, _, _ => by simp only [toPys, PyData.eqvAll, eqDs]
  | _ :: _, [], _, _ => by simp only [toPys, PyData.eqvAll, eqDs]
  | x :: xs, y :: ys, h, h' => by
    have h1 := Bool.and_eq_true_iff.mp (show (plain x && plains xs) = true from h)
    have h2 := Bool.and_eq_true_iff.mp (show (plain y && plains ys) = true from h')
    simp only [toPys, PyData.eqvAll, eqDs]
    rw [eqv_toPy x y h1.1 h2.1, eqv_toPys xs ys h1.2 h2.2]
end
mutual
theorem lay_toPy : ∀ (d : D), plain d = true → (toPy d).canLay0 = true
  | .non, _ | .bl _, _ | .int _, _ => by simp only [toPy, PyData.canLay0]
  | .str x, h => by simp only [toPy, PyData.canLay0]; exact h
  | .tup xs, h => by simp only [toPy, PyData.canLay0]; exact lay_toPys xs h
  | .ctup _, h => nomatch h
  | .lsc _, h => nomatch h
  | .ref _, h => nomatch h
theorem lay_toPys : ∀ (d : List D), plains d = true → PyData.canLayAll0 (toPys d) = true
  | [], _ => by simp only [toPys, PyData.canLayAll0]
  | x :: xs, h => by
    have h1 := Bool.and_eq_true_iff.mp (show (plain x && plains xs) = true from h)
    simp only [toPys, PyData.canLayAll0, lay_toPy x h1.1, lay_toPys xs h1.2, Bool.and_self]
end
mutual
theorem dep_toPy : ∀ (d : D), (toPy d).depth ≤ dep d
  | .non | .bl _ | .int _ | .str _ | .ctup _ | .lsc _ | .ref _ => by simp only [toPy, PyData.depth, dep]; exact Nat.le_refl _
  | .tup xs => by
    have := dep_toPys xs
    simp only [toPy, PyData.depth, dep]; omega
theorem dep_toPys : ∀ (d : List D), PyData.depthAll (toPys d) ≤ deps d
  | [] => by simp only [toPys, PyData.depthAll, deps]; exact Nat.le_refl _
  | x :: xs => by
    have h1 := dep_toPy x
    have h2 := dep_toPys xs
    simp only [toPys, PyData.depthAll, deps]; omega
end
mutual
theorem RD.dp {K : PySem.W.Frag} {ρ : List Addr} {H : Hp} : ∀ (d : D) {v : V}, plain d = true → RD K ρ H d v → Dp K H v (toPy d)
  | .non, _, _, h => by rw [show _ = V.non from h]; exact .non
  | .bl b, _, _, h => by rw [show _ = V.bl b from h]; exact .bl b
  | .int b, _, _, h => by rw [show _ = V.int b from h]; exact .int b
  | .str b, _, _, h => by rw [show _ = V.str b from h]; exact .str b
  | .tup ds, _, hp, h => by
    obtain ⟨a, xs, rfl, ta, ra⟩ := h
    exact .tup ta.sq (RDs.dp ds hp ra)
  | .ctup _, _, hp, _ => nomatch hp
  | .lsc _, _, hp, _ => nomatch hp
  | .ref _, _, hp, _ => nomatch hp
theorem RDs.dp {K : PySem.W.Frag} {ρ : List Addr} {H : Hp} : ∀ (d : List D) {v : List V}, plains d = true → RDs K ρ H d v → DpAll K H v (toPys d)
  | [], _, _, h => by cases h; exact .nil
  | d :: ds, _, hp, h => by
    have h1 := Bool.and_eq_true_iff.mp (show (plain d && plains ds) = true from hp)
    obtain ⟨x, r, rfl, r1, r2⟩ := h
    exact .cons (RD.dp d h1.1 r1) (RDs.dp ds h1.2 r2)
end
def okD (d : D) : Bool := plain d && decide (dep d ≤ 60)
def okDs (d : List D) : Bool := plains d && decide (deps d ≤ 60)
theorem okD_shaped {d : D} (h : okD d = true) : SeqAt.shaped (toPy d) = true := by
  obtain ⟨h1, h2⟩ := Bool.and_eq_true_iff.mp h
  have h3 := of_decide_eq_true h2
  have h4 := dep_toPy d
  exact Bool.and_eq_true_iff.mpr ⟨lay_toPy d h1, decide_eq_true (by omega)⟩
theorem okDs_shaped {d : List D} (h : okDs d = true) : SeqAt.shaped (.list (toPys d)) = true := by
  obtain ⟨h1, h2⟩ := Bool.and_eq_true_iff.mp h
  have h3 := of_decide_eq_true h2
  have h4 := dep_toPys d
  refine Bool.and_eq_true_iff.mpr ⟨by simp only [PyData.canLay0]; exact lay_toPys d h1, decide_eq_true ?_⟩
  simp only [PyData.depth]; omega
/-- what == gives: of scalars at once, of plain data, of two lists of plain data -/
def eqN (N : NH) : D → D → Option Bool
  | .int i, .int j => some (decide (i = j))
  | .str a, .str b => some (decide (a = b))
  | .ref a, .ref b => match N[a]?, N[b]? with
    | some (.lst x), some (.lst y) => if okDs x && okDs y then some (eqDs x y) else none
    | _, _ => none
  | d, e => if okD d && okD e then some (eqD d e) else none
def fEq : D → D → NH → R D := fun d e N => match eqN N d e with | some b => .ok (.bl b) N | none => .bad
def fNe : D → D → NH → R D := fun d e N => match eqN N d e with | some b => .ok (.bl (!b)) N | none => .bad
theorem snd_eqN {K : PySem.W.Frag} {C : NC} {ρ : List Addr} {N : NH} {H : Hp} {d e : D} {x y : V} {b : Bool} (R : NRel K C ρ N H) (rd : RD K ρ H d x) (re : RD K ρ H e y) (q : eqN N d e = some b) :
    (scal x y = true ∧ b = decide (x = y)) ∨ ∃ p q, Dp K H x p ∧ Dp K H y q ∧ SeqAt.shaped p = true ∧ SeqAt.shaped q = true ∧ b = PyData.eqv p q := by
  unfold eqN at q
  split at q
  · cases q
    rw [show x = V.int _ from rd, show y = V.int _ from re]
    refine .inl ⟨rfl, ?_⟩
    rw [dec_int]; exact (Bool.beq_eq_decide_eq _ _).symm
  · cases q
    rw [show x = V.str _ from rd, show y = V.str _ from re]
    refine .inl ⟨rfl, ?_⟩
    rw [dec_str]; exact (Bool.beq_eq_decide_eq _ _).symm
  · split at q
    · rename_i n m _ _ xs ys e1 e2
      split at q
      · rename_i h
        obtain ⟨h1, h2⟩ := Bool.and_eq_true_iff.mp h
        cases q
        obtain ⟨a, us, rfl, _, ha, ra⟩ := R.lst rd e1
        obtain ⟨c, ws, rfl, _, hb, rb⟩ := R.lst re e2
        have p1 := (Bool.and_eq_true_iff.mp h1).1
        have p2 := (Bool.and_eq_true_iff.mp h2).1
        refine .inr ⟨_, _, .lst (SqL.of ha) (RDs.dp _ p1 ra), .lst (SqL.of hb) (RDs.dp _ p2 rb), okDs_shaped h1, okDs_shaped h2, ?_⟩
        simp only [PyData.eqv]
        exact (eqv_toPys _ _ p1 p2).symm
      · cases q
    · cases q
  · split at q
    · rename_i h
      obtain ⟨h1, h2⟩ := Bool.and_eq_true_iff.mp h
      cases q
      have p1 := (Bool.and_eq_true_iff.mp h1).1
      have p2 := (Bool.and_eq_true_iff.mp h2).1
      exact .inr ⟨_, _, RD.dp _ p1 rd, RD.dp _ p2 re, okD_shaped h1, okD_shaped h2, (eqv_toPy _ _ p1 p2).symm⟩
    · cases q
def rEqA (K : PySem.W.Frag) : R2 := fun x y H Q => rEq x y H Q ∨ rEqD K x y H Q
def rNeA (K : PySem.W.Frag) : R2 := fun x y H Q => rNe x y H Q ∨ rNeD K x y H Q
theorem opEq {X : Cx} (hu : X.A.units + 64 < cLine) : OpR X (compareOp .Eq) (rEqA X.K) := op_eq.or (op_eqD hu)
theorem opNe {X : Cx} (hu : X.A.units + 64 < cLine) : OpR X (compareOp .NotEq) (rNeA X.K) := op_ne.or (op_neD hu)
theorem sndEq {K : PySem.W.Frag} {C : NC} : Snd2 K C fEq (rEqA K) := by
  intro W ρ N H σ d e x y Q R rd re q
  unfold fEq at q
  split at q
  · rename_i b hb
    have q' := q.ok (b := V.bl b) R rfl
    rcases snd_eqN R rd re hb with ⟨h1, rfl⟩ | ⟨p, p', h1, h2, h3, h4, rfl⟩
    · exact .inl ⟨h1, q'⟩
    · exact .inr ⟨p, p', h1, h2, h3, h4, q'⟩
  · exact q.elim
theorem sndNe {K : PySem.W.Frag} {C : NC} : Snd2 K C fNe (rNeA K) := by
  intro W ρ N H σ d e x y Q R rd re q
  unfold fNe at q
  split at q
  · rename_i b hb
    have q' := q.ok (b := V.bl (!b)) R rfl
    rcases snd_eqN R rd re hb with ⟨h1, rfl⟩ | ⟨p, p', h1, h2, h3, h4, rfl⟩
    · exact .inl ⟨h1, q'⟩
    · exact .inr ⟨p, p', h1, h2, h3, h4, q'⟩
  · exact q.elim
end NY

set_option Elab.async false
set_option linter.all false
set_option maxRecDepth 100000
set_option maxHeartbeats 4000000
/-! NYI: a list's element by True or False -/
namespace NY
open PySem PySem.Spec PyProof.Rows L2
def b2n (k : Bool) : Nat := if k = true then 1 else 0
section
variable {prog : Program} {w : World} {A : Around} {E : Value → Shared → Prop} {s : Shared}
theorem listSub_bool {M : World} {k : Bool} {Q : Option Int → Shared → Prop} (h : Q (some (b2n k : Int)) s) :
    wpAny (model prog w) A (Builtin.List.listSubscript? (.bool k)) Q E s := by
  unfold Builtin.List.listSubscript?
  refine wpAny_bind (wpAny_specialOf (T := "bool") rfl F.slot_bool_index.lookup ?_)
  show wpAny (model prog w) A (asIndex (.bool k) >>= _) Q E s
  refine wpAny_bind (wpAny_of_eq (a := (b2n k : Int)) (by cases k <;> rfl) ?_)
  show wpAny (model prog w) A (if (!Builtin.List.listFitsIndex (b2n k : Int)) = true then _ else _) Q E s
  rw [if_neg (by cases k <;> decide)]
  exact wpAny_pure h
theorem getItem_list_bool {l : Addr} {items : Array Value} {k : Bool} {x : Value} {Q : Value → Shared → Prop} (hl : s.heap.IsList l items)
    (hx : items[b2n k]? = some x) (h : Q x s) : wpAny (model prog w) A (getItem (.ref l) (.bool k)) Q E s := by
  obtain ⟨o, ho, hc, ne, hd⟩ := id hl
  unfold getItem
  try with_reducible refine wpAny_holding ?_
  first | refine wpAny_bind (wpAny_pure ?_) | skip
  refine wpAny_bind (wpAny_sequenceKey hl.typeIs (by decide) ?_)
  refine wpAny_bind (wpAny_callSpecial?_slot (name := Str.ofString "__getitem__") hl.typeIs slot_list_getitem
    (wpAny_call_entry slot_list_getitem hl.typeIs entry_list_getitem ?_ (args_list_getitem _ _)))
  show wpAny _ _ (Builtin.List.listSubscript? (.bool k) >>= _) _ _ s
  refine wpAny_bind (listSub_bool (M := w) ?_)
  show wpAny _ _ ((seqItemAt l (b2n k) >>= fun r => pure (r.map (b2n k, ·))) >>= _) _ _ s
  refine wpAny_bind (wpAny_bind (wpAny_seqItemAt ho hd (wpAny_pure ?_)))
  rw [hx]
  first
    | exact wpAny_bind (wpAny_pure (wpAny_pure ⟨x, rfl, wpAny_pure h⟩))
    | exact wpAny_pure ⟨x, rfl, wpAny_pure h⟩
end
def rIxB (K : PySem.W.Frag) : R2 := fun x y H Q => ∃ p xs k v, x = .ref p ∧ y = .bl k ∧ SqL K H p xs ∧ atI xs (b2n k : Int) = some v ∧ Q v H
theorem ix_listB {X : Cx} : IxR X (rIxB X.K) := by
  intro value slice pins s σ H x y v u Q I rx ry h hs
  obtain ⟨p, xs, k, z, rfl, rfl, hq, he, q⟩ := h
  cases rx
  cases ry
  obtain ⟨its, r, pl, hz⟩ := I.list hq
  obtain ⟨j, h1, h2, h3, h4, h5⟩ := atI_get he
  obtain ⟨w, ew, rw'⟩ := r.get h2
  have hl := r.length
  have fin : EP X pins σ Q w s := ⟨z, H, I, rw', q⟩
  have hj : b2n k = j := by
    rw [seqIndex_of (by omega) h5] at h1
    have := Option.some.inj h1
    rw [Int.toNat_natCast] at this
    exact this
  exact subscriptTail_builtinR (x := w) pl.isList.typeIs slot_list_getitem.lookup
    (getItem_list_bool (Q := fun r s' => r = w ∧ EP X pins σ Q r s') pl.isList (by rw [hj]; simpa using ew) ⟨rfl, fin⟩) hs
end NY

set_option Elab.async false
set_option linter.all false
set_option maxRecDepth 100000
set_option maxHeartbeats 4000000
/-! NY4: dicts, in, subscripts, slices, truth -/
namespace NY
open PySem PySem.Spec PyProof.Rows L2

/-! ### dicts of nice values -/
section
variable {κ : Type} [DecidableEq κ] {K : PySem.W.Frag} {ρ : List Addr} {H : Hp}
def valD (kvs : List (κ × D)) (k : κ) : Option D := match kvs with
  | [] => none
  | (j, d) :: r => if j = k then some d else valD r k
def repD (kvs : List (κ × D)) (k : κ) (d : D) : List (κ × D) := match kvs with
  | [] => []
  | (j, e) :: r => (j, if j = k then d else e) :: repD r k d
def putD (kvs : List (κ × D)) (k : κ) (d : D) : List (κ × D) := if (valD kvs k).isSome then repD kvs k d else kvs ++ [(k, d)]
def dropD (kvs : List (κ × D)) (k : κ) : List (κ × D) := match kvs with
  | [] => []
  | (j, d) :: r => if j = k then dropD r k else (j, d) :: dropD r k
theorem RK.length : ∀ {kvs : List (κ × D)} {l : List (κ × V)}, RK K ρ H kvs l → l.length = kvs.length
  | [], _, h => by cases h; rfl
  | (k, d) :: r, _, h => by
    obtain ⟨v, s, rfl, _, h2⟩ := h
    rw [List.length_cons, List.length_cons, RK.length h2]
theorem RK.valNone : ∀ {kvs : List (κ × D)} {l : List (κ × V)} {k : κ}, RK K ρ H kvs l → valD kvs k = none → valV l k = none
  | [], _, _, h, _ => by cases h; rfl
  | (j, d) :: r, _, k, h, e => by
    obtain ⟨v, s, rfl, _, h2⟩ := h
    unfold valD at e
    by_cases q : j = k
    · rw [if_pos q] at e; cases e
    · rw [if_neg q] at e
      rw [valV_neg (p := (j, v)) q]; exact RK.valNone h2 e
theorem RK.valSome : ∀ {kvs : List (κ × D)} {l : List (κ × V)} {k : κ} {d : D}, RK K ρ H kvs l → valD kvs k = some d → ∃ v, valV l k = some v ∧ RD K ρ H d v
  | [], _, _, _, _, e => nomatch e
  | (j, d) :: r, _, k, d', h, e => by
    obtain ⟨v, s, rfl, h1, h2⟩ := h
    unfold valD at e
    by_cases q : j = k
    · rw [if_pos q] at e; cases e
      exact ⟨v, valV_pos (p := (j, v)) q, h1⟩
    · rw [if_neg q] at e
      obtain ⟨w, e1, e2⟩ := RK.valSome h2 e
      exact ⟨w, by rw [valV_neg (p := (j, v)) q]; exact e1, e2⟩
theorem RK.rep {k : κ} {d : D} {v : V} (hd : RD K ρ H d v) : ∀ {kvs : List (κ × D)} {l : List (κ × V)}, RK K ρ H kvs l → RK K ρ H (repD kvs k d) (l.map fun kv => if kv.1 = k then (kv.1, v) else kv)
  | [], _, h => by cases h; rfl
  | (j, e) :: r, _, h => by
    obtain ⟨w, s, rfl, h1, h2⟩ := h
    refine ⟨if j = k then v else w, _, ?_, ?_, RK.rep hd h2⟩
    · rw [List.map_cons]; by_cases q : j = k
      · rw [if_pos q, if_pos q]
      · rw [if_neg q, if_neg q]
    · by_cases q : j = k
      · rw [if_pos q, if_pos q]; exact hd
      · rw [if_neg q, if_neg q]; exact h1
theorem RK.app : ∀ {kvs es : List (κ × D)} {l m : List (κ × V)}, RK K ρ H kvs l → RK K ρ H es m → RK K ρ H (kvs ++ es) (l ++ m)
  | [], _, _, _, h, h' => by cases h; exact h'
  | (j, e) :: r, _, _, _, h, h' => by
    obtain ⟨w, s, rfl, h1, h2⟩ := h
    exact ⟨w, s ++ _, rfl, h1, RK.app h2 h'⟩
theorem RK.put {kvs : List (κ × D)} {l : List (κ × V)} {k : κ} {d : D} {v : V} (h : RK K ρ H kvs l) (hd : RD K ρ H d v) : RK K ρ H (putD kvs k d) (putK l k v) := by
  unfold putD putK
  rw [valV_any]
  cases e : valD kvs k with
  | none => rw [h.valNone e]; exact h.app ⟨v, [], rfl, hd, rfl⟩
  | some d' =>
    obtain ⟨w, e1, _⟩ := h.valSome e
    rw [e1]; exact h.rep hd
theorem RK.drop {k : κ} : ∀ {kvs : List (κ × D)} {l : List (κ × V)}, RK K ρ H kvs l → RK K ρ H (dropD kvs k) (dropK l k)
  | [], _, h => by cases h; rfl
  | (j, e) :: r, _, h => by
    obtain ⟨w, s, rfl, h1, h2⟩ := h
    unfold dropD
    by_cases q : j = k
    · rw [if_pos q, dropK_pos (p := (j, w)) q]; exact RK.drop h2
    · rw [if_neg q, dropK_neg (p := (j, w)) q]; exact ⟨w, _, rfl, h1, RK.drop h2⟩
theorem RK.get : ∀ {kvs : List (κ × D)} {l : List (κ × V)} {i : Nat} {p : κ × V}, RK K ρ H kvs l → l[i]? = some p → ∃ d, kvs[i]? = some (p.1, d) ∧ RD K ρ H d p.2
  | [], _, _, _, h, e => by cases h; simp at e
  | (j, d) :: r, _, 0, _, h, e => by
    obtain ⟨w, s, rfl, h1, h2⟩ := h
    simp at e; subst e; exact ⟨d, rfl, h1⟩
  | (j, d) :: r, _, i + 1, _, h, e => by
    obtain ⟨w, s, rfl, h1, h2⟩ := h
    obtain ⟨d', e1, e2⟩ := RK.get h2 (by simpa using e)
    exact ⟨d', by simpa using e1, e2⟩
end
/-- a value as a key: an int, a text; a tuple of them -/
def keyD : D → Option Key
  | .int i => some (.inl i)
  | .str x => some (.inr x)
  | _ => none
def keysD : List D → Option (List Key)
  | [] => some []
  | d :: ds => match keyD d, keysD ds with
    | some k, some ks => some (k :: ks)
    | _, _ => none
def dKey : Key → D
  | .inl i => .int i
  | .inr x => .str x
theorem keyD_ok {K : PySem.W.Frag} {ρ : List Addr} {H : Hp} {d : D} {v : V} {k : Key} (h : RD K ρ H d v) (e : keyD d = some k) : v = kV k := by
  cases d with
  | int i => cases e; exact h
  | str i => cases e; exact h
  | _ => cases e
theorem keysD_ok {K : PySem.W.Frag} {ρ : List Addr} {H : Hp} : ∀ {ds : List D} {vs : List V} {ks : List Key}, RDs K ρ H ds vs → keysD ds = some ks → vs = ks.map kV
  | [], _, _, h, e => by cases e; exact h
  | d :: ds, _, _, h, e => by
    obtain ⟨x, r, rfl, h1, h2⟩ := h
    unfold keysD at e
    split at e
    · rename_i k ks e1 e2
      cases e
      rw [keyD_ok h1 e1, keysD_ok h2 e2]; rfl
    · cases e
theorem dKey_ok {K : PySem.W.Frag} {ρ : List Addr} {H : Hp} (k : Key) : RD K ρ H (dKey k) (kV k) := by
  cases k <;> rfl
theorem dKeys_ok {K : PySem.W.Frag} {ρ : List Addr} {H : Hp} : ∀ ks : List Key, RDs K ρ H (ks.map dKey) (ks.map kV)
  | [] => rfl
  | k :: ks => ⟨_, _, rfl, dKey_ok k, dKeys_ok ks⟩

/-- what d[k] gives: none: no such dict or key kind; some none: not there -/
def getN (N : NH) (n : Nat) (k : D) : Option (Option D) := match N[n]? with
  | some (.dK kvs) | some (.fK kvs) => match keyD k with
    | some k => some (valD kvs k)
    | none => none
  | some (.dT kvs) | some (.fT kvs) => match k with
    | .tup ks => match keysD ks with
      | some ks => some (valD kvs ks)
      | none => none
    | _ => none
  | _ => none
section
variable {K : PySem.W.Frag} {C : NC} {ρ : List Addr} {N : NH} {H : Hp}
theorem getN_ok {n : Nat} {k : D} {x y : V} {o : Option D} (R : NRel K C ρ N H) (rx : RD K ρ H (.ref n) x) (ry : RD K ρ H k y) (e : getN N n k = some o) :
    ∃ a r, x = .ref a ∧ DGet H a y r ∧ (o = none → r = none) ∧ ∀ d, o = some d → ∃ v, r = some v ∧ RD K ρ H d v := by
  obtain ⟨a, rfl, ha⟩ := rx
  have fin : ∀ {κ : Type} [DecidableEq κ] {kvs : List (κ × D)} {l : List (κ × V)} {kk : κ}, RK K ρ H kvs l → valD kvs kk = o → (o = none → valV l kk = none) ∧ ∀ d, o = some d → ∃ v, valV l kk = some v ∧ RD K ρ H d v :=
    fun {κ _ kvs l kk} r q => ⟨fun z => r.valNone (q.trans z), fun d z => r.valSome (q.trans z)⟩
  unfold getN at e
  split at e
  · rename_i kvs hN
    obtain ⟨l, h1, h2⟩ := R.obj n a _ ha hN
    split at e
    · rename_i kk hk
      cases e
      obtain ⟨f1, f2⟩ := fin h2 rfl
      exact ⟨a, _, rfl, .inl ⟨l, kk, .inl h1, keyD_ok ry hk, rfl⟩, f1, f2⟩
    · cases e
  · rename_i kvs hN
    obtain ⟨ob, l, h1, h2⟩ := R.obj n a _ ha hN
    split at e
    · rename_i kk hk
      cases e
      obtain ⟨f1, f2⟩ := fin h2 rfl
      exact ⟨a, _, rfl, .inl ⟨l, kk, .inr ⟨ob, h1⟩, keyD_ok ry hk, rfl⟩, f1, f2⟩
    · cases e
  · rename_i kvs hN
    obtain ⟨l, h1, h2⟩ := R.obj n a _ ha hN
    split at e
    · split at e
      · rename_i ks' kk hk
        cases e
        obtain ⟨b, xs, rfl, tb, rb⟩ := ry
        obtain ⟨f1, f2⟩ := fin h2 rfl
        exact ⟨a, _, rfl, .inr ⟨l, kk, b, .inl h1, rfl, by rw [← keysD_ok rb hk]; exact tb.2, rfl⟩, f1, f2⟩
      · cases e
    · cases e
  · rename_i kvs hN
    obtain ⟨ob, l, h1, h2⟩ := R.obj n a _ ha hN
    split at e
    · split at e
      · rename_i ks' kk hk
        cases e
        obtain ⟨b, xs, rfl, tb, rb⟩ := ry
        obtain ⟨f1, f2⟩ := fin h2 rfl
        exact ⟨a, _, rfl, .inr ⟨l, kk, b, .inr ⟨ob, h1⟩, rfl, by rw [← keysD_ok rb hk]; exact tb.2, rfl⟩, f1, f2⟩
      · cases e
    · cases e
  · cases e
end

/-! ### in -/
def flatD : D → Bool
  | .non | .bl _ | .int _ | .str _ => true
  | _ => false
def inN (N : NH) (x : D) : D → Option Bool
  | .ref n => match N[n]? with
    | some (.lst l) => if okD x && okDs l then some (l.any fun z => eqD z x) else none
    | _ => (getN N n x).map (·.isSome)
  | .tup l | .ctup l => if flatD x && l.all flatD then some (l.any fun z => eqD z x) else none
  | .str s => match x with
    | .str z => match z.cps.toList with
      | [c] => some (decide (c ∈ s.cps.toList))
      | _ => none
    | _ => none
  | _ => none
def fIn : D → D → NH → R D := fun x y N => match inN N x y with | some b => .ok (.bl b) N | none => .bad
theorem flatD_ok {K : PySem.W.Frag} {ρ : List Addr} {H : Hp} {d : D} {v : V} (h : RD K ρ H d v) (f : flatD d = true) : flatV v = true := by
  cases d with
  | non => rw [show v = _ from h]; rfl
  | bl _ => rw [show v = _ from h]; rfl
  | int _ => rw [show v = _ from h]; rfl
  | str _ => rw [show v = _ from h]; rfl
  | _ => cases f
theorem eqV_ok {K : PySem.W.Frag} {ρ : List Addr} {H : Hp} {d e : D} {v w : V} (h : RD K ρ H d v) (h' : RD K ρ H e w) (f : flatD d = true) (f' : flatD e = true) : eqV v w = eqD d e := by
  cases d with
  | non => cases e with
    | non => rw [show v = _ from h, show w = _ from h']; simp only [eqV, eqD]
    | bl _ => rw [show v = _ from h, show w = _ from h']; simp only [eqV, eqD]
    | int _ => rw [show v = _ from h, show w = _ from h']; simp only [eqV, eqD]
    | str _ => rw [show v = _ from h, show w = _ from h']; simp only [eqV, eqD]
    | _ => cases f'
  | bl _ => cases e with
    | non => rw [show v = _ from h, show w = _ from h']; simp only [eqV, eqD]
    | bl _ => rw [show v = _ from h, show w = _ from h']; simp only [eqV, eqD]
    | int _ => rw [show v = _ from h, show w = _ from h']; simp only [eqV, eqD]
    | str _ => rw [show v = _ from h, show w = _ from h']; simp only [eqV, eqD]
    | _ => cases f'
  | int _ => cases e with
    | non => rw [show v = _ from h, show w = _ from h']; simp only [eqV, eqD]
    | bl _ => rw [show v = _ from h, show w = _ from h']; simp only [eqV, eqD]
    | int _ => rw [show v = _ from h, show w = _ from h']; simp only [eqV, eqD]
    | str _ => rw [show v = _ from h, show w = _ from h']; simp only [eqV, eqD]
    | _ => cases f'
  | str _ => cases e with
    | non => rw [show v = _ from h, show w = _ from h']; simp only [eqV, eqD]
    | bl _ => rw [show v = _ from h, show w = _ from h']; simp only [eqV, eqD]
    | int _ => rw [show v = _ from h, show w = _ from h']; simp only [eqV, eqD]
    | str _ => rw [show v = _ from h, show w = _ from h']; simp only [eqV, eqD]
    | _ => cases f'
  | _ => cases f
theorem inV_ok {K : PySem.W.Frag} {ρ : List Addr} {H : Hp} {d : D} {v : V} (h : RD K ρ H d v) (f : flatD d = true) : ∀ {l : List D} {xs : List V}, RDs K ρ H l xs → l.all flatD = true → xs.all flatV = true ∧ inV v xs = l.any fun z => eqD z d
  | [], _, r, _ => by cases r; exact ⟨rfl, rfl⟩
  | e :: l, _, r, q => by
    obtain ⟨x, s, rfl, h1, h2⟩ := r
    obtain ⟨q1, q2⟩ := Bool.and_eq_true_iff.mp (show (flatD e && l.all flatD) = true from by simpa using q)
    obtain ⟨i1, i2⟩ := inV_ok h f h2 q2
    refine ⟨by rw [List.all_cons, flatD_ok h1 q1, i1]; rfl, ?_⟩
    show (eqV x v || inV v s) = (eqD e d || l.any fun z => eqD z d)
    rw [eqV_ok h1 h q1 f, i2]
theorem any_toPys : ∀ {l : List D} {x : D}, plain x = true → plains l = true → ((toPys l).any fun z => PyData.eqv z (toPy x)) = l.any fun z => eqD z x
  | [], _, _, _ => by simp [toPys]
  | e :: l, x, p, q => by
    obtain ⟨q1, q2⟩ := Bool.and_eq_true_iff.mp (show (plain e && plains l) = true from q)
    simp only [toPys, List.any_cons, eqv_toPy e x q1 p, any_toPys p q2]
def rInA (K : PySem.W.Frag) : R2 := fun x y H Q => rInD K x y H Q ∨ rIn K false x y H Q ∨ (∃ (c : Nat) (z : Str), x = .str ⟨#[c]⟩ ∧ y = .str z ∧ Q (.bl (decide (c ∈ z.cps.toList))) H) ∨ ∃ a o, y = .ref a ∧ DGet H a x o ∧ Q (.bl o.isSome) H
theorem op_in_dict {X : Cx} (hu : X.A.units + 1 < cLine) : OpR X (compareOp .In) (fun x y H Q => ∃ a o, y = .ref a ∧ DGet H a x o ∧ Q (.bl o.isSome) H) := by
  intro pins s σ H x y v u Q I rx ry h
  obtain ⟨a, o, rfl, g, q⟩ := h
  obtain rfl : u = Value.ref a := ry
  exact d_in hu I g rx fun s3 I3 => ⟨.bl o.isSome, H, I3, rfl, q⟩
theorem opIn {X : Cx} (hu : X.A.units + 65 < cLine) : OpR X (compareOp .In) (rInA X.K) := (op_inD hu).or (op_in_seq.or (op_in_sign.or (op_in_dict (by omega))))
/-- the four roads of in -/
theorem snd_inN {K : PySem.W.Frag} {C : NC} {ρ : List Addr} {N : NH} {H : Hp} {d e : D} {x y : V} {b : Bool} (R : NRel K C ρ N H) (rd : RD K ρ H d x) (re : RD K ρ H e y) (q : inN N d e = some b) :
    (∃ p ds, Dp K H x p ∧ Dp K H y (.list ds) ∧ SeqAt.shaped p = true ∧ SeqAt.shaped (.list ds) = true ∧ b = (ds.any fun z => PyData.eqv z p)) ∨
    (∃ p xs, y = .ref p ∧ (SqL K H p xs ∨ SqT K H p xs) ∧ flatV x = true ∧ xs.all flatV = true ∧ b = inV x xs) ∨
    (∃ (c : Nat) (z : Str), x = .str ⟨#[c]⟩ ∧ y = .str z ∧ b = decide (c ∈ z.cps.toList)) ∨ ∃ a o, y = .ref a ∧ DGet H a x o ∧ b = o.isSome := by
  unfold inN at q
  split at q
  · rename_i n
    split at q
    · rename_i l hN
      split at q
      · rename_i h
        cases q
        obtain ⟨h1, h2⟩ := Bool.and_eq_true_iff.mp h
        obtain ⟨a, xs, rfl, _, ha, ra⟩ := R.lst re hN
        have p1 := (Bool.and_eq_true_iff.mp h1).1
        have p2 := (Bool.and_eq_true_iff.mp h2).1
        exact .inl ⟨toPy d, toPys l, RD.dp d p1 rd, .lst (SqL.of ha) (RDs.dp l p2 ra), okD_shaped h1, okDs_shaped h2, (any_toPys p1 p2).symm⟩
      · cases q
    · cases g : getN N n d with
      | none => rw [g] at q; cases q
      | some o =>
        rw [g] at q; cases q
        obtain ⟨a, r, e1, e2, e3, e4⟩ := getN_ok R re rd g
        refine .inr (.inr (.inr ⟨a, r, e1, e2, ?_⟩))
        cases o with
        | none => rw [e3 rfl]; rfl
        | some d' => obtain ⟨v, ev, _⟩ := e4 d' rfl; rw [ev]; rfl
  · split at q
    · rename_i h
      cases q
      obtain ⟨h1, h2⟩ := Bool.and_eq_true_iff.mp h
      obtain ⟨a, xs, rfl, ta, ra⟩ := re
      obtain ⟨i1, i2⟩ := inV_ok rd h1 ra h2
      exact .inr (.inl ⟨a, xs, rfl, .inr ta.sq, flatD_ok rd h1, i1, i2.symm⟩)
    · cases q
  · split at q
    · rename_i h
      cases q
      obtain ⟨h1, h2⟩ := Bool.and_eq_true_iff.mp h
      obtain ⟨a, xs, rfl, ta, ra⟩ := re
      obtain ⟨i1, i2⟩ := inV_ok rd h1 ra h2
      exact .inr (.inl ⟨a, xs, rfl, .inr ta.sq, flatD_ok rd h1, i1, i2.symm⟩)
    · cases q
  · split at q
    · split at q
      · rename_i _ z _ c hz
        cases q
        refine .inr (.inr (.inl ⟨c, _, ?_, re, rfl⟩))
        rw [show x = _ from rd]
        have : z = ⟨#[c]⟩ := by cases z with | mk a => cases a with | mk l => simp at hz; subst hz; rfl
        rw [this]
      · cases q
    · cases q
  · cases q
theorem sndIn {K : PySem.W.Frag} {C : NC} : Snd2 K C fIn (rInA K) := by
  intro W ρ N H σ d e x y Q R rd re q
  unfold fIn at q
  split at q
  · rename_i b hb
    have q' := q.ok (b := V.bl b) R rfl
    rcases snd_inN R rd re hb with ⟨p, ds, h1, h2, h3, h4, rfl⟩ | ⟨p, xs, h1, h2, h3, h4, rfl⟩ | ⟨c, z, h1, h2, rfl⟩ | ⟨a, o, h1, h2, rfl⟩
    · exact .inl ⟨p, ds, h1, h2, h3, h4, q'⟩
    · exact .inr (.inl ⟨p, xs, h1, h2, h3, h4, q'⟩)
    · exact .inr (.inr (.inl ⟨c, z, h1, h2, q'⟩))
    · exact .inr (.inr (.inr ⟨a, o, h1, h2, q'⟩))
  · exact q.elim
/-! ### subscripts -/
def atD (l : List D) (i : Int) : Option D := (ixN l.length i).bind fun j => l[j]?
def getIx (N : NH) : D → D → Option D
  | .ref n, k => match N[n]?, k with
    | some (.lst l), .int i => atD l i
    | some (.lst l), .bl k => atD l (b2n k : Int)
    | some (.lst _), _ => none
    | _, _ => (getN N n k).join
  | .tup l, .int i | .ctup l, .int i | .lsc l, .int i => atD l i
  | .str z, .int i => if z.length ≤ sizeLine then (atI z.cps.toList i).map fun c => .str ⟨#[c]⟩ else none
  | _, _ => none
def fGet : D → D → NH → R D := fun x y N => match getIx N x y with | some d => .ok d N | none => .bad
theorem atD_ok {K : PySem.W.Frag} {ρ : List Addr} {H : Hp} {l : List D} {xs : List V} {i : Int} {d : D} (r : RDs K ρ H l xs) (e : atD l i = some d) : ∃ v, atI xs i = some v ∧ RD K ρ H d v := by
  unfold atD at e
  obtain ⟨j, h1, h2⟩ := Option.bind_eq_some_iff.mp e
  obtain ⟨v, h3, h4⟩ := r.get' h2
  refine ⟨v, ?_, h4⟩
  unfold atI
  rw [r.length, h1]; exact h3
theorem ix_dict {X : Cx} (hu : X.A.units + 1 < cLine) : IxR X (fun x y H Q => ∃ a v, x = .ref a ∧ DGet H a y (some v) ∧ Q v H) := by
  intro value slice pins s σ H x y v u Q I rx ry h hs
  obtain ⟨a, w, rfl, g, q⟩ := h
  obtain rfl : v = Value.ref a := rx
  have hT := dict_typeIs I g
  unfold subscriptTail
  refine wpAny_bind ?_
  rw [getitemInPython_of_ne hT.not_modules]
  refine wpAny_bind (wpAny_specialOf hT PySem.F.slot_dict_getitem.lookup ?_)
  have fin : wpAny (model X.prog X.w) X.A (subscripted slice false (.ref a) u) (fun r s₃ => wpAny (model X.prog X.w) X.A (letTemporaryGo value (.ref a) r >>= fun _ => pure r) (EP X pins σ Q) X.xe s₃) X.xe s := by
    rw [hs]
    exact wpAny_operating (wpAny_mono (d_getItem (Q := EP X pins σ Q) hu I g ry fun w' s3 I3 rw' => ⟨w, H, I3, rw', q⟩) (fun r s₃ h₃ => wpAny_bind (wpAny_letTemporaryGo (wpAny_pure h₃))) fun _ _ x => x)
  first
    | exact wpAny_pure (wpAny_bind fin)
    | exact wpAny_bind (wpAny_pure (wpAny_bind fin))
    | exact wpAny_bind fin
def rGet (K : PySem.W.Frag) : R2 := fun x y H Q => rIx K x y H Q ∨ rIxB K x y H Q ∨ ∃ a v, x = .ref a ∧ DGet H a y (some v) ∧ Q v H
theorem ixGet {X : Cx} (hu : X.A.units + 1 < cLine) : IxR X (rGet X.K) := ix_seq.or (ix_listB.or (ix_dict hu))
theorem sndGet {K : PySem.W.Frag} {C : NC} : Snd2 K C fGet (rGet K) := by
  intro W ρ N H σ d e x y Q R rd re q
  unfold fGet at q
  split at q
  · rename_i b hb
    unfold getIx at hb
    split at hb
    · split at hb
      · rename_i n _ _ l i hN
        obtain ⟨a, xs, rfl, _, ha, ra⟩ := R.lst rd hN
        obtain ⟨v, h1, h2⟩ := atD_ok ra hb
        exact .inl (.inl ⟨a, xs, _, v, rfl, re, SqL.of ha, h1, q.ok R h2⟩)
      · rename_i n _ _ l k hN
        obtain ⟨a, xs, rfl, _, ha, ra⟩ := R.lst rd hN
        obtain ⟨v, h1, h2⟩ := atD_ok ra hb
        exact .inr (.inl ⟨a, xs, _, v, rfl, re, SqL.of ha, h1, q.ok R h2⟩)
      · cases hb
      · have h1 := Option.join_eq_some_iff.mp hb
        obtain ⟨a, r, e1, e2, _, e4⟩ := getN_ok R rd re h1
        obtain ⟨v, ev, rv⟩ := e4 b rfl
        subst ev
        exact .inr (.inr ⟨a, v, e1, e2, q.ok R rv⟩)
    · obtain ⟨a, xs, rfl, ta, ra⟩ := rd
      obtain ⟨v, h1, h2⟩ := atD_ok ra hb
      exact .inl (.inr (.inl ⟨a, xs, _, v, rfl, re, ta.sq, h1, q.ok R h2⟩))
    · obtain ⟨a, xs, rfl, ta, ra⟩ := rd
      obtain ⟨v, h1, h2⟩ := atD_ok ra hb
      exact .inl (.inr (.inl ⟨a, xs, _, v, rfl, re, ta.sq, h1, q.ok R h2⟩))
    · obtain ⟨a, xs, rfl, ta, ra⟩ := rd
      obtain ⟨v, h1, h2⟩ := atD_ok ra hb
      exact .inl (.inl ⟨a, xs, _, v, rfl, re, ta.sq, h1, q.ok R h2⟩)
    · split at hb
      · rename_i hz
        obtain ⟨c, h1, h2⟩ := Option.map_eq_some_iff.mp hb
        subst h2
        exact .inl (.inr (.inr ⟨_, _, c, rd, re, hz, h1, q.ok R rfl⟩))
      · cases hb
    · cases hb
  · exact q.elim
theorem n_get {X : Cx} {C : NC} {W : WX} {a b : Expr} {pos : Pos} {ma mb : NE} (hu : X.A.units + 1 < cLine) (ha : PE X a (tE X.K C W ma)) (hb : PE X b (tE X.K C W mb)) (hs : PlainIx b) : PE X (.Subscript a b pos) (tE X.K C W (nOp2 fGet ma mb)) :=
  pe_weak (pe_ix (ixGet hu) ha hb hs) fun σ H Q q => snd_op sndGet q

/-! ### slices -/
def cutD (l : List D) (lo hi : Option Int) : List D := (l.drop (HT.sIx l.length 0 lo)).take (HT.sIx l.length l.length hi - HT.sIx l.length 0 lo)
def fCut (x : D) (lo hi : Option Int) (N : NH) : R D := match x with
  | .tup l => .ok (.tup (cutD l lo hi)) N
  | .str z => if z.length ≤ sizeLine then .ok (.str (cutS z lo hi)) N else .bad
  | .lsc l => N.new (.lst (cutD l lo hi))
  | .ref n => match N[n]? with
    | some (.lst l) => N.new (.lst (cutD l lo hi))
    | _ => .bad
  | _ => .bad
abbrev NO := NEnv → NH → R (Option Int)
def nNoPart : NO := fun _ N => .ok none N
def nPart (a : NE) : NO := fun σ N => (a σ N).bind fun x N => match x with | .int i => .ok (some i) N | _ => .bad
def nCut (e : NE) (lo hi : NO) : NE := fun σ N => (e σ N).bind fun x N => (lo σ N).bind fun l N => (hi σ N).bind fun u N => fCut x l u N
abbrev rOpt : List Addr → Hp → Option Int → Option Int → Prop := fun _ _ a b => b = a
def tO (K : PySem.W.Frag) (C : NC) (W : WX) (m : NO) : TO := tR rOpt K C W m
section
variable {X : Cx} {C : NC} {W : WX} {a b e : Expr} {pos p2 : Pos} {lo hi : Option Expr}
theorem po_weak {t t' : TO} {e : Option Expr} (h : PO X e t) (w : ∀ σ H Q, t' σ H Q → t σ H Q) : PO X e t' := ⟨fun pins s σ H Q I q => h.run pins s σ H Q I (w σ H Q q)⟩
theorem n_noPart : PO X none (tO X.K C W nNoPart) := po_weak po_none fun σ H Q ⟨ρ, σn, N, R, S, q⟩ => q.ok R rfl
theorem n_part {ma : NE} (ha : PE X a (tE X.K C W ma)) : PO X (some a) (tO X.K C W (nPart ma)) := po_weak (po_some ha) fun σ H Q ⟨ρ, σn, N, R, S, q⟩ => PostR.then R S q fun x H1 ρ1 N1 d E1 R1 S1 rd q1 => by
  cases d with
  | int i => exact ⟨i, rd, q1.ok R1 rfl⟩
  | _ => exact q1.elim
theorem cutD_ok {K : PySem.W.Frag} {ρ : List Addr} {H : Hp} {l : List D} {xs : List V} (r : RDs K ρ H l xs) (lo hi : Option Int) : RDs K ρ H (cutD l lo hi) (cutV xs lo hi) := by
  unfold cutD cutV
  rw [r.length]
  exact (r.drop _).take _
def rCut (K : PySem.W.Frag) : V → Option Int → Option Int → Hp → VK → Prop := fun x lo hi H Q => rSlA K x lo hi H Q ∨ rSlL K x lo hi H Q ∨ rSlS x lo hi H Q
theorem cutD_whole {l : List D} {lo hi : Option Int} (h : HT.sIx l.length 0 lo = 0 ∧ HT.sIx l.length l.length hi = l.length) : cutD l lo hi = l := by
  unfold cutD
  rw [h.1, h.2, List.drop_zero, Nat.sub_zero, List.take_length]
theorem snd_cut {K : PySem.W.Frag} {ρ : List Addr} {N : NH} {H : Hp} {σ : L2.St} {d : D} {x : V} {lo hi : Option Int} {Q : VK} (R : NRel K C ρ N H) (rd : RD K ρ H d x) (q : PostR (RD K) K C W ρ H σ Q (fCut d lo hi N)) : rCut K x lo hi H Q := by
  unfold fCut at q
  split at q
  · rename_i l
    obtain ⟨a, xs, rfl, ta, ra⟩ := rd
    refine .inl ⟨a, xs, rfl, ta.sq, fun h => ?_, fun _ p hp => q.newT R (cutD_ok ra lo hi) hp⟩
    rw [ra.length] at h
    exact q.ok R ⟨a, xs, rfl, ta, by rw [cutD_whole h]; exact ra⟩
  · split at q
    · rename_i hz
      exact .inr (.inr ⟨_, rd, hz, q.ok R rfl⟩)
    · exact q.elim
  · obtain ⟨a, xs, rfl, ta, ra⟩ := rd
    exact .inr (.inl ⟨a, xs, rfl, ta.sq, fun p hp => q.newL R (cutD_ok ra lo hi) hp⟩)
  · split at q
    · rename_i n _ l hN
      obtain ⟨a, xs, rfl, _, ha, ra⟩ := R.lst rd hN
      exact .inr (.inl ⟨a, xs, rfl, SqL.of ha, fun p hp => q.newL R (cutD_ok ra lo hi) hp⟩)
    · exact q.elim
  · exact q.elim
theorem n_cut {me : NE} {ml mh : NO} (he : PE X e (tE X.K C W me)) (hl : PO X lo (tO X.K C W ml)) (hh : PO X hi (tO X.K C W mh)) : PE X (.Subscript e (.Slice lo hi none p2) pos) (tE X.K C W (nCut me ml mh)) :=
  pe_weak (pe_slice (sl_tupA.or (sl_list.or sl_str)) he hl hh) fun σ H Q ⟨ρ, σn, N, R, S, q⟩ => PostR.then R S q fun x H1 ρ1 N1 d E1 R1 S1 rd q1 =>
    PostR.then R1 S1 q1 fun l H2 ρ2 N2 l' E2 R2 S2 rl q2 => PostR.then R2 S2 q2 fun u H3 ρ3 N3 u' E3 R3 S3 ru q3 => by
      have rl : l = l' := rl
      have ru : u = u' := ru
      subst rl ru
      exact snd_cut R3 ((rd.ext E2).ext E3) q3

/-! ### truth -/
def truN (N : NH) : D → Option Bool
  | .non => some false
  | .bl b => some b
  | .int i => some (i != 0)
  | .str z => if z.length ≤ sizeLine then some ((z.length : Int) != 0) else none
  | .tup l | .ctup l | .lsc l => some (!l.isEmpty)
  | .ref n => match N[n]? with
    | some (.lst l) => some (!l.isEmpty)
    | some (.dK l) => some (!l.isEmpty)
    | _ => none
def nTru (a : NE) : NT := fun σ N => (a σ N).bind fun x N => match truN N x with | some b => .ok b N | none => .bad
theorem truN_ok {K : PySem.W.Frag} {ρ : List Addr} {N : NH} {H : Hp} {d : D} {x : V} {b : Bool} (R : NRel K C ρ N H) (rd : RD K ρ H d x) (e : truN N d = some b) : TruV K x H b := by
  unfold truN at e
  split at e
  · cases e; rw [show x = _ from rd]; rfl
  · cases e; rw [show x = _ from rd]; rfl
  · cases e; rw [show x = _ from rd]; rfl
  · split at e
    · rename_i hz
      cases e; rw [show x = _ from rd]; exact ⟨hz, rfl⟩
    · cases e
  · cases e
    obtain ⟨a, xs, rfl, ta, ra⟩ := rd
    exact .inr (.inl ⟨xs, ta.sq, by rw [ra.empty_iff]⟩)
  · cases e
    obtain ⟨a, xs, rfl, ta, ra⟩ := rd
    exact .inr (.inl ⟨xs, ta.sq, by rw [ra.empty_iff]⟩)
  · cases e
    obtain ⟨a, xs, rfl, ta, ra⟩ := rd
    exact .inl ⟨xs, ta.sq, by rw [ra.empty_iff]⟩
  · split at e
    · rename_i n _ l hN
      cases e
      obtain ⟨a, xs, rfl, _, ha, ra⟩ := R.lst rd hN
      exact .inl ⟨xs, SqL.of ha, by rw [ra.empty_iff]⟩
    · rename_i n _ l hN
      cases e
      obtain ⟨a, rfl, ha⟩ := rd
      obtain ⟨m, h1, h2⟩ := R.obj n a _ ha hN
      have hl := h2.length
      exact .inr (.inr ⟨m, h1, by cases l <;> cases m <;> simp_all⟩)
    · cases e
theorem n_tru {ma : NE} (ha : PE X a (tE X.K C W ma)) (he : ∀ whole, isTrue a X.env whole = (do let v ← whole; standAt a.pos; holding [v] (truthy v)) := by intro _; rfl) : PT X a (tT X.K C W (nTru ma)) :=
  pt_weak (pt_truth ha he) fun σ H Q ⟨ρ, σn, N, R, S, q⟩ => PostR.then R S q fun x H1 ρ1 N1 d E1 R1 S1 rd q1 => by
    cases e : truN N1 d with
    | none => rw [e] at q1; exact q1.elim
    | some b =>
      rw [e] at q1
      exact ⟨b, truN_ok R1 rd e, q1.ok R1 rfl⟩

/-! ### and, or, not, if -/
variable {rest : List Expr}
theorem n_orT {ma mb : NT} (ha : PT X a (tT X.K C W ma)) (hb : PW X (.BoolOp .Or (b :: rest) pos) (tT X.K C W mb)) : PW X (.BoolOp .Or (a :: b :: rest) pos) (tT X.K C W (nOrT ma mb)) :=
  pw_weak (pw_or ha hb) fun σ H Q ⟨ρ, σn, N, R, S, q⟩ => PostR.then R S q fun x H1 ρ1 N1 d E1 R1 S1 rd q1 => by
    have rd : x = d := rd
    subst rd
    cases x with
    | true => exact iteT (q1.ok R1 rfl)
    | false => exact iteF ⟨ρ1, σn, N1, R1, S1, q1⟩
theorem n_orT1 {ma : NT} (ha : PT X a (tT X.K C W ma)) : PW X (.BoolOp .Or [a] pos) (tT X.K C W ma) := pw_or1 ha
end
end NY

set_option Elab.async false
set_option linter.all false
set_option maxRecDepth 100000
set_option maxHeartbeats 4000000
/-! NY5: attributes, displays, calls of defs, methods, classes -/
namespace NY
open PySem PySem.Spec PyProof.Rows L2

section
variable {X : Cx} {C : NC} {W : WX} {a b e o : Expr} {es : List Expr} {pos p apos : Pos}
theorem n_nil : PA X [] (tA X.K C W nNil) := pa_weak pa_nil fun σ H Q ⟨ρ, σn, N, R, S, q⟩ => q.ok R rfl
theorem n_cons {ma : NE} {mr : NA} (ha : PE X e (tE X.K C W ma)) (hr : PA X es (tA X.K C W mr)) (hs : starEach (e :: es) X.env = (false, eval e X.env) :: starEach es X.env := by rfl) : PA X (e :: es) (tA X.K C W (nCons ma mr)) :=
  pa_weak (pa_cons ha hr hs) fun σ H Q ⟨ρ, σn, N, R, S, q⟩ => PostR.then R S q fun x H1 ρ1 N1 d E1 R1 S1 rd q1 => PostR.then R1 S1 q1 fun xs H2 ρ2 N2 ds E2 R2 S2 rs q2 => q2.ok R2 ⟨x, xs, rfl, rd.ext E2, rs⟩

/-! ### displays -/
def nTup (m : NA) : NE := fun σ N => (m σ N).bind fun ds N => if ds.length ≤ sizeLine then .ok (.tup ds) N else .bad
def nLst (m : NA) : NE := fun σ N => (m σ N).bind fun ds N => if ds.length ≤ sizeLine then N.new (.lst ds) else .bad
theorem n_tup {k : Nat} {m : NA} (h : PA X es (tA X.K C W m)) : PE X (.Tuple es k pos) (tE X.K C W (nTup m)) :=
  pe_weak (pe_tup h) fun σ H Q ⟨ρ, σn, N, R, S, q⟩ => PostR.then R S q fun xs H1 ρ1 N1 ds E1 R1 S1 rs q1 => by
    have hl := rs.length
    split at q1
    · rename_i h
      exact ⟨by omega, fun p hp => q1.newT R1 rs hp⟩
    · exact q1.elim
theorem n_lst {m : NA} (h : PA X es (tA X.K C W m)) : PE X (.List es pos) (tE X.K C W (nLst m)) :=
  pe_weak (pe_lst h) fun σ H Q ⟨ρ, σn, N, R, S, q⟩ => PostR.then R S q fun xs H1 ρ1 N1 ds E1 R1 S1 rs q1 => by
    have hl := rs.length
    split at q1
    · rename_i h
      exact ⟨by omega, fun p hp => q1.newL R1 rs hp⟩
    · exact q1.elim
def nDK : NE := fun _ N => N.new (.dK [])
def nDT : NE := fun _ N => N.new (.dT [])
/-! ### attributes -/
def lookF (f : Nat) : List (Nat × D) → Option D
  | [] => none
  | (g, d) :: r => if g = f then some d else lookF f r
def putFD (f : Nat) (d : D) : List (Nat × D) → List (Nat × D)
  | [] => [(f, d)]
  | (g, e) :: r => if g = f then (g, d) :: r else (g, e) :: putFD f d r
theorem RF.no {K : PySem.W.Frag} {ρ : List Addr} {H : Hp} {names : List Str} {x : Str} (hx : x ∉ names) : ∀ {fs : List (Nat × D)} {l : List (Str × V)}, RF K ρ H names fs l → l.lookup x = none
  | [], _, h => by cases h; rfl
  | (g, d') :: r, _, h => by
    obtain ⟨y, v, s, rfl, h1, h2, h3⟩ := h
    have ne : (x == y) = false := beq_eq_false_iff_ne.mpr fun z => hx (z ▸ List.mem_of_getElem? h1)
    rw [List.lookup_cons, ne]; exact RF.no hx h3
theorem RF.length {K : PySem.W.Frag} {ρ : List Addr} {H : Hp} {names : List Str} : ∀ {fs : List (Nat × D)} {l : List (Str × V)}, RF K ρ H names fs l → l.length = fs.length
  | [], _, h => by cases h; rfl
  | (g, d') :: r, _, h => by
    obtain ⟨y, v, s, rfl, h1, h2, h3⟩ := h
    rw [List.length_cons, List.length_cons, RF.length h3]
theorem RF.put {K : PySem.W.Frag} {ρ : List Addr} {H : Hp} {names : List Str} (nd : names.Nodup) {f : Nat} {x : Str} (hx : names[f]? = some x) {d : D} {v : V} (hd : RD K ρ H d v) : ∀ {fs : List (Nat × D)} {l : List (Str × V)}, RF K ρ H names fs l → RF K ρ H names (putFD f d fs) (putF x v l)
  | [], _, h => by cases h; exact ⟨x, v, [], rfl, hx, hd, rfl⟩
  | (g, d') :: r, _, h => by
    obtain ⟨y, w, s, rfl, h1, h2, h3⟩ := h
    unfold putFD putF
    by_cases q : g = f
    · subst q
      rw [hx] at h1; cases h1
      rw [if_pos rfl, if_pos rfl]
      exact ⟨x, v, s, rfl, hx, hd, h3⟩
    · have ne : ¬ y = x := fun z => q (nd_ix nd h1 (z ▸ hx))
      rw [if_neg q, if_neg ne]
      exact ⟨y, w, _, rfl, h1, h2, RF.put nd hx hd h3⟩
/-- a.f of instances of the classes cs -/
def nFld (cs : List Nat) (f : Nat) (a : NE) : NE := fun σ N => (a σ N).bind fun x N => match x with
  | .ref n => match N[n]? with
    | some (.ins c fs) => if c ∈ cs then (match lookF f fs with | some d => .ok d N | none => .bad) else .bad
    | _ => .bad
  | _ => .bad
def Attr (K : PySem.W.Frag) (C : NC) (x : Str) (cs : List Nat) : Prop := ∀ c ∈ cs, Cls K (C.cls c) ∧ NoAttr K (C.cls c) x
theorem Attr.one {K : PySem.W.Frag} {C : NC} {x : Str} {c : Nat} (h : Cls K (C.cls c)) (h' : NoAttr K (C.cls c) x) : Attr K C x [c] := fun c' hc => by rw [List.mem_singleton.mp hc]; exact ⟨h, h'⟩
theorem Attr.cons {K : PySem.W.Frag} {C : NC} {x : Str} {c : Nat} {cs : List Nat} (h : Cls K (C.cls c)) (h' : NoAttr K (C.cls c) x) (r : Attr K C x cs) : Attr K C x (c :: cs) := fun c' hc => by
  rcases List.mem_cons.mp hc with e | e
  · rw [e]; exact ⟨h, h'⟩
  · exact r c' e
end

/-- a part and what follows it, its equation told -/
theorem PostR.bindE {α β γ δ : Type} {rel : List Addr → Hp → α → β → Prop} {rel' : List Addr → Hp → γ → δ → Prop} {K : PySem.W.Frag} {C : NC} {W : WX} {ρ : List Addr} {H : Hp} {σ : L2.St} {Q : δ → Hp → Prop} {r : R α} {k : α → NH → R γ} (h : PostR rel' K C W ρ H σ Q (r.bind k)) :
    PostR rel K C W ρ H σ (fun b H1 => ∃ a ρ1 N1, Ext ρ H ρ1 H1 ∧ NRel K C ρ1 N1 H1 ∧ rel ρ1 H1 a b ∧ PostR rel' K C W ρ1 H1 σ Q (k a N1) ∧ r = .ok a N1) r := by
  cases r with
  | ok d N => exact fun v H' ρ' e n q => ⟨d, ρ', N, e, n, q, PostR.ext e h, rfl⟩
  | exc x N => exact h
  | bad => exact h
/-! ### promises of defs -/
/-- what a def promises: what the nice function says -/
def spN (K : PySem.W.Frag) (C : NC) (n : Nat) (m : NF) : Sp := fun vs H Q E => vs.length = n ∧ ∃ (ρ : List Addr) (N : NH) (ds : List D), NRel K C ρ N H ∧ RDs K ρ H ds vs ∧ PostR (RD K) K C (fun c d _ H => E c d H) ρ H [] Q (m ds N)
theorem PostR.at {α β : Type} {rel : List Addr → Hp → α → β → Prop} {K : PySem.W.Frag} {C : NC} {W : WX} {ρ : List Addr} {H : Hp} {σ : L2.St} {Q : β → Hp → Prop} {r : R α} (h : PostR rel K C W ρ H σ Q r) : PostR rel K C (fun c d _ H => W c d σ H) ρ H [] Q r := by
  cases r with
  | ok d N => exact h
  | exc x N => exact h
  | bad => exact h
section
variable (P : Program) (w : World) (K : PySem.W.Frag) (mg : Str → Option Value) (base : Heap) (C : NC)
structure FunN (k : Nat) (x : Str) (n : Nat) (m : NF) : Prop where
  ex : ∃ (f : Addr) (fd : FuncData) (ps : List Str), mg x = some (.ref f) ∧ PySem.W.keepIn K (.ref f) = true ∧ Binds K fd ps [] ∧ FnOk P w K mg base (L2.CX P w) k f fd ps (spN K C n m)
structure MthN (k : Nat) (c : Nat) (x : Str) (n : Nat) (m : NF) : Prop where
  cls : Cls K (C.cls c)
  no : x ∉ C.names
  ex : ∃ (f : Addr) (fd : FuncData) (ps : List Str), Meth K (C.cls c) x f ∧ Binds K fd ps [] ∧ FnOk P w K mg base (L2.CX P w) k f fd ps (spN K C n m)
structure MakN (k : Nat) (c : Nat) (x : Str) (n : Nat) (m : NF) : Prop where
  at_ : mg x = some (.ref (C.cls c))
  ex : ∃ (f : Addr) (fd : FuncData) (ps : List Str), Mk K (C.cls c) f ∧ Binds K fd ps [] ∧ FnOk P w K mg base (L2.CX P w) k f fd ps (spN K C n m)
end
/-- what a call lets out reaches the wish -/
abbrev PX (X : Cx) (W : WX) : Prop := ∀ σ, PassesAt (L2.CX X.prog X.w) X σ (WE W σ)
theorem px {X : Cx} {W : WX} (tk : Takes X W) : PX X W := fun σ => passAt tk σ
abbrev W0 : WX := fun _ _ _ _ => False
theorem px0 {X : Cx} : PX X W0 := fun _ _ _ _ _ _ _ h => by
  obtain ⟨_, _, _, _, _, _, _, _, _, _, _, _, z⟩ := h
  exact z.elim

def nCall (f : NF) (m : NA) : NE := fun σ N => (m σ N).bind fun ds N => f ds N
section
variable {X : Cx} {C : NC} {W : WX} {k n c : Nat} {x : Str} {f : NF} {p pos apos : Pos} {e o : Expr} {es : List Expr} {m : NA}
theorem n_call (F : FunN X.prog X.w X.K X.mg X.base C k x n f) (hr : Room k X.A) (hx : PX X W) (hn : (e :: es).length = n) (ha : PA X (e :: es) (tA X.K C W m)) (hg : Gl X x := by rfl)
    (hdb : (x == ("__debug__" : Str)) = false := by decide) (he : starEach (e :: es) X.env = (false, eval e X.env) :: starEach es X.env := by rfl) (hpl : (backTo pos (starEach es X.env)).any (·.1) = false := by rfl) (hm : ∀ σ N ds N', m σ N = .ok ds N' → ds.length = n) :
    PE X (.Call (.Name x p) (e :: es) [] pos) (tE X.K C W (nCall f m)) := by
  obtain ⟨fa, fd, ps, h1, h2, h3, h4⟩ := F.ex
  refine pe_weak (pe_callS h4 hr hg h1 h2 h3 hx ha hdb he hpl) fun σ H Q ⟨ρ, σn, N, R, S, q⟩ => ?_
  have hl : ∀ ds N', m σn N = .ok ds N' → ds.length = n := hm σn N
  refine ⟨ρ, σn, N, R, S, ?_⟩
  revert q
  show PostR (RD X.K) X.K C W ρ H σ Q ((m σn N).bind fun ds N => f ds N) → PostR (RDs X.K) X.K C W ρ H σ _ (m σn N)
  intro q
  cases e : m σn N with
  | ok ds N' =>
    rw [e] at q
    exact fun vs H' ρ' E' R' rs => ⟨by rw [rs.length]; exact hl ds N' e, ρ', N', ds, R', rs, (PostR.ext E' q).at⟩
  | exc x N' => rw [e] at q; exact q
  | bad => rw [e] at q; exact q
theorem nNil_len (σ : NEnv) (N : NH) (ds : List D) (N' : NH) (h : nNil σ N = .ok ds N') : ds.length = 0 := by cases h; rfl
theorem nCons_len {a : NE} {r : NA} {j : Nat} (hr : ∀ σ N ds N', r σ N = .ok ds N' → ds.length = j) (σ : NEnv) (N : NH) (ds : List D) (N' : NH) (h : nCons a r σ N = .ok ds N') : ds.length = j + 1 := by
  unfold nCons at h
  cases e : a σ N with
  | ok x N1 =>
    rw [e] at h
    replace h : ((r σ N1).bind fun xs N => NY.R.ok (x :: xs) N) = .ok ds N' := h
    cases e2 : r σ N1 with
    | ok xs N2 =>
      rw [e2] at h
      cases h
      rw [List.length_cons, hr _ _ _ _ e2]
    | exc y N2 => rw [e2] at h; cases h
    | bad => rw [e2] at h; cases h
  | exc y N2 => rw [e] at h; cases h
  | bad => rw [e] at h; cases h
/-! ### methods -/
/-- o.m(..): the receiver's class chooses the def -/
def nMeth (fs : List (Nat × NF)) (o : NE) (m : NA) : NE := fun σ N => (o σ N).bind fun x N => match x with
  | .ref n => match N[n]? with
    | some (.ins c _) => match fs.find? (fun p => decide (p.1 = c)) with
      | some (_, f) => (m σ N).bind fun ds N => f (x :: ds) N
      | none => .bad
    | _ => .bad
  | _ => .bad
/-- the receiver is of one of the classes, each with its def -/
def MthsN (X : Cx) (C : NC) (k : Nat) (x : Str) (n : Nat) (fs : List (Nat × NF)) : Prop := ∀ p ∈ fs, MthN X.prog X.w X.K X.mg X.base C k p.1 x n p.2
theorem MthsN.nil {X : Cx} : MthsN X C k x n [] := fun p h => nomatch h
theorem MthsN.cons {X : Cx} {fs : List (Nat × NF)} (h : MthN X.prog X.w X.K X.mg X.base C k c x n f) (r : MthsN X C k x n fs) : MthsN X C k x n ((c, f) :: fs) := fun p hp => by
  rcases List.mem_cons.mp hp with e | e
  · rw [e]; exact h
  · exact r p e
theorem MthN.mono {P : Program} {w : World} {K : PySem.W.Frag} {mg : Str → Option Value} {base : Heap} {j : Nat} (h : MthN P w K mg base C j c x n f) (l : j ≤ k) : MthN P w K mg base C k c x n f :=
  ⟨h.cls, h.no, let ⟨fa, fd, ps, a, b, d⟩ := h.ex; ⟨fa, fd, ps, a, b, d.mono l⟩⟩
theorem FunN.mono {P : Program} {w : World} {K : PySem.W.Frag} {mg : Str → Option Value} {base : Heap} {j : Nat} (h : FunN P w K mg base C j x n f) (l : j ≤ k) : FunN P w K mg base C k x n f :=
  ⟨let ⟨fa, fd, ps, a, b, d, g⟩ := h.ex; ⟨fa, fd, ps, a, b, d, g.mono l⟩⟩
theorem MakN.mono {P : Program} {w : World} {K : PySem.W.Frag} {mg : Str → Option Value} {base : Heap} {j : Nat} (h : MakN P w K mg base C j c x n f) (l : j ≤ k) : MakN P w K mg base C k c x n f :=
  ⟨h.at_, let ⟨fa, fd, ps, a, b, d⟩ := h.ex; ⟨fa, fd, ps, a, b, d.mono l⟩⟩
/-! ### objects made -/
def nMake (c : Nat) (f : NF) (m : NA) : NE := fun σ N => (m σ N).bind fun ds N => (f (.ref N.length :: ds) (N ++ [.ins c []])).bind fun d N' => if d = .non then .ok (.ref N.length) N' else .bad
end
end NY

set_option Elab.async false
set_option linter.all false
set_option maxRecDepth 100000
set_option maxHeartbeats 4000000
/-! NY6: calls of built-ins, methods of built-in types, isinstance -/
namespace NY
open PySem PySem.Spec PyProof.Rows L2

def SndN (K : PySem.W.Frag) (C : NC) (f : NF) (r : List V → Hp → VK → Prop) : Prop :=
  ∀ (W : WX) (ρ : List Addr) (N : NH) (H : Hp) (σ : L2.St) (ds : List D) (xs : List V) (Q : VK), NRel K C ρ N H → RDs K ρ H ds xs → PostR (RD K) K C W ρ H σ Q (f ds N) → r xs H Q
def SndM (K : PySem.W.Frag) (C : NC) (f : D → List D → NH → R D) (T : String) (r : V → List V → Hp → VK → Prop) : Prop :=
  ∀ (W : WX) (ρ : List Addr) (N : NH) (H : Hp) (σ : L2.St) (d : D) (ds : List D) (x : V) (xs : List V) (Q : VK), NRel K C ρ N H → RD K ρ H d x → RDs K ρ H ds xs → PostR (RD K) K C W ρ H σ Q (f d ds N) → r x xs H Q
section
variable {X : Cx} {C : NC} {W : WX} {e o : Expr} {es : List Expr} {pos p apos cpos : Pos} {x name : Str} {id T : String} {m : NA} {f : NF}
theorem n_callB {r : List V → Hp → VK → Prop} (hc : CallR X (.builtin id) r) (h : SndN X.K C f r) (hm : X.mg x = none) (hv : bootBuiltins x = some (.builtin id)) (ha : PA X (e :: es) (tA X.K C W m)) (hg : Gl X x := by rfl)
    (hn : x ≠ "__name__" := by decide) (hdb : (x == ("__debug__" : Str)) = false := by decide) (he : starEach (e :: es) X.env = (false, eval e X.env) :: starEach es X.env := by rfl) (hpl : (backTo pos (starEach es X.env)).any (·.1) = false := by rfl) :
    PE X (.Call (.Name x p) (e :: es) [] pos) (tE X.K C W (nCall f m)) :=
  pe_weak (pe_callB hc hg hm hv ha hn hdb he hpl) fun σ H Q ⟨ρ, σn, N, R, S, q⟩ => PostR.then R S q fun xs H1 ρ1 N1 ds E1 R1 S1 rs q1 => h W ρ1 N1 H1 σ ds xs Q R1 rs q1
theorem n_callTy {r : List V → Hp → VK → Prop} (hc : CallR X (.type T) r) (h : SndN X.K C f r) (hm : X.mg x = none) (hv : bootBuiltins x = some (.type T)) (ha : PA X (e :: es) (tA X.K C W m)) (hg : Gl X x := by rfl)
    (hn : x ≠ "__name__" := by decide) (hdb : (x == ("__debug__" : Str)) = false := by decide) (he : starEach (e :: es) X.env = (false, eval e X.env) :: starEach es X.env := by rfl) (hpl : (backTo pos (starEach es X.env)).any (·.1) = false := by rfl) :
    PE X (.Call (.Name x p) (e :: es) [] pos) (tE X.K C W (nCall f m)) :=
  pe_weak (pe_callTy hc hg hm hv ha hn hdb he hpl) fun σ H Q ⟨ρ, σn, N, R, S, q⟩ => PostR.then R S q fun xs H1 ρ1 N1 ds E1 R1 S1 rs q1 => h W ρ1 N1 H1 σ ds xs Q R1 rs q1
/-- of what type the receiver is seen to be -/
def tyN (N : NH) (T : String) : D → Bool
  | .str _ => T == "str"
  | .ref n => match N[n]? with
    | some (.lst _) => T == "list"
    | some (.dK _) | some (.dT _) => T == "dict"
    | _ => false
  | .ctup _ => false
  | _ => false
def nBM (T : String) (f : D → List D → NH → R D) (o : NE) (m : NA) : NE := fun σ N => (o σ N).bind fun x N => if tyN N T x = true then (m σ N).bind fun ds N => f x ds N else .bad
theorem tyN_ok {K : PySem.W.Frag} {ρ : List Addr} {N : NH} {H : Hp} {d : D} {v : V} (R : NRel K C ρ N H) (h : RD K ρ H d v) (e : tyN N T d = true) : tyV K T v H := by
  unfold tyN at e
  split at e
  · rw [show v = _ from h]; exact beq_iff_eq.mp e
  · split at e
    · rename_i n _ l hN
      obtain ⟨a, xs, rfl, _, ha, _⟩ := R.lst h hN
      exact .inl ⟨beq_iff_eq.mp e, xs, SqL.of ha⟩
    · rename_i n _ l hN
      obtain ⟨a, rfl, ha⟩ := h
      obtain ⟨l', h1, _⟩ := R.obj n a _ ha hN
      exact .inr (.inr (.inl ⟨beq_iff_eq.mp e, .inl ⟨l', h1⟩⟩))
    · rename_i n _ l hN
      obtain ⟨a, rfl, ha⟩ := h
      obtain ⟨l', h1, _⟩ := R.obj n a _ ha hN
      exact .inr (.inr (.inl ⟨beq_iff_eq.mp e, .inr ⟨l', h1⟩⟩))
    · cases e
  · cases e
  · cases e
theorem n_bm {r : V → List V → Hp → VK → Prop} {f : D → List D → NH → R D} {mo : NE} (pa : PlainAttrs T) (slot : Slot T name id) (hty : typeOf (.builtin id) = pure (.type "method_descriptor")) (hm : MtR X id r) (h : SndM X.K C f T r) (ho : PE X o (tE X.K C W mo)) (ha : PA X (e :: es) (tA X.K C W m))
    (hbase : attributeBase o name X.env (eval o X.env) = eval o X.env := by rfl)
    (hfew : ((backTo cpos (starEach (e :: es) X.env)).all (fun x => !x.1) && (backToKw cpos (keywordEach [] X.env)).all (fun x => x.1.isSome)
      && decide ((e :: es).length + ([] : List Keyword).length + (if ([] : List Keyword).isEmpty then 0 else 1) < 30)) = true := by rfl)
    (hline : (apos.endLine == cpos.line) = true := by rfl) (hs : starEach (e :: es) X.env = (false, eval e X.env) :: starEach es X.env := by rfl) (hplain : (backTo cpos (starEach es X.env)).any (·.1) = false := by rfl) :
    PE X (.Call (.Attribute o name apos) (e :: es) [] cpos) (tE X.K C W (nBM T f mo m)) :=
  pe_weak (pe_bm pa slot hty hm ho ha hbase hfew hline hs hplain) fun σ H Q ⟨ρ, σn, N, R, S, q⟩ => PostR.then R S q fun v H1 ρ1 N1 d E1 R1 S1 rd q1 => by
    split at q1
    · rename_i ht
      exact ⟨tyN_ok R1 rd ht, PostR.then R1 S1 q1 fun xs H2 ρ2 N2 ds E2 R2 S2 rs q2 => h W ρ2 N2 H2 σ d ds v xs Q R2 (rd.ext E2) rs q2⟩
    · exact q1.elim
theorem n_bm0 {r : V → List V → Hp → VK → Prop} {f : D → List D → NH → R D} {mo : NE} (pa : PlainAttrs T) (slot : Slot T name id) (hty : typeOf (.builtin id) = pure (.type "method_descriptor")) (hm : MtR X id r) (h : SndM X.K C f T r) (ho : PE X o (tE X.K C W mo))
    (hbase : attributeBase o name X.env (eval o X.env) = eval o X.env := by rfl) (hline : (apos.endLine == cpos.line) = true := by rfl) :
    PE X (.Call (.Attribute o name apos) [] [] cpos) (tE X.K C W (nBM T f mo nNil)) :=
  pe_weak (pe_bm0 pa slot hty hm ho hbase hline) fun σ H Q ⟨ρ, σn, N, R, S, q⟩ => PostR.then R S q fun v H1 ρ1 N1 d E1 R1 S1 rd q1 => by
    split at q1
    · rename_i ht
      exact ⟨tyN_ok R1 rd ht, h W ρ1 N1 H1 σ d [] v [] Q R1 rd rfl q1⟩
    · exact q1.elim
end

/-! ### what the built-ins give -/
def intsOf : List D → Option (List Int)
  | [] => some []
  | .int i :: r => (intsOf r).map (i :: ·)
  | _ :: _ => none
def strsOf : List D → Option (List Str)
  | [] => some []
  | .str i :: r => (strsOf r).map (i :: ·)
  | _ :: _ => none
theorem intsOf_eq : ∀ {l : List D} {ns : List Int}, intsOf l = some ns → l = ns.map D.int
  | [], _, h => by cases h; rfl
  | .int i :: r, ns, h => by
    obtain ⟨m, h1, rfl⟩ := Option.map_eq_some_iff.mp (show (intsOf r).map (i :: ·) = some ns from h)
    rw [intsOf_eq h1]; rfl
  | .non :: _, _, h | .bl _ :: _, _, h | .str _ :: _, _, h | .tup _ :: _, _, h | .ctup _ :: _, _, h | .lsc _ :: _, _, h | .ref _ :: _, _, h => nomatch h
theorem strsOf_eq : ∀ {l : List D} {ns : List Str}, strsOf l = some ns → l = ns.map D.str
  | [], _, h => by cases h; rfl
  | .str i :: r, ns, h => by
    obtain ⟨m, h1, rfl⟩ := Option.map_eq_some_iff.mp (show (strsOf r).map (i :: ·) = some ns from h)
    rw [strsOf_eq h1]; rfl
  | .non :: _, _, h | .bl _ :: _, _, h | .int _ :: _, _, h | .tup _ :: _, _, h | .ctup _ :: _, _, h | .lsc _ :: _, _, h | .ref _ :: _, _, h => nomatch h
theorem intsOf_map : ∀ ns : List Int, intsOf (ns.map D.int) = some ns
  | [] => rfl
  | n :: ns => by rw [List.map_cons]; unfold intsOf; rw [intsOf_map ns]; rfl
theorem strsOf_map : ∀ ns : List Str, strsOf (ns.map D.str) = some ns
  | [] => rfl
  | n :: ns => by rw [List.map_cons]; unfold strsOf; rw [strsOf_map ns]; rfl
/-- a list or tuple that can be walked -/
def seqN (N : NH) : D → Option (List D)
  | .ref n => match N[n]? with
    | some (.lst l) => some l
    | _ => none
  | .tup l | .ctup l | .lsc l => some l
  | _ => none
/-- a list -/
def lstN (N : NH) : D → Option (List D)
  | .ref n => match N[n]? with
    | some (.lst l) => some l
    | _ => none
  | .lsc l => some l
  | _ => none
section
variable {K : PySem.W.Frag} {C : NC} {ρ : List Addr} {N : NH} {H : Hp}
theorem seqN_ok {d : D} {v : V} {l : List D} (R : NRel K C ρ N H) (h : RD K ρ H d v) (e : seqN N d = some l) : ∃ a xs, v = .ref a ∧ (SqL K H a xs ∨ SqT K H a xs) ∧ RDs K ρ H l xs := by
  unfold seqN at e
  split at e
  · split at e
    · rename_i n _ l' hN
      cases e
      obtain ⟨a, xs, rfl, _, ha, ra⟩ := R.lst h hN
      exact ⟨a, xs, rfl, .inl (SqL.of ha), ra⟩
    · cases e
  · cases e
    obtain ⟨a, xs, rfl, ta, ra⟩ := h
    exact ⟨a, xs, rfl, .inr ta.sq, ra⟩
  · cases e
    obtain ⟨a, xs, rfl, ta, ra⟩ := h
    exact ⟨a, xs, rfl, .inr ta.sq, ra⟩
  · cases e
    obtain ⟨a, xs, rfl, ta, ra⟩ := h
    exact ⟨a, xs, rfl, .inl ta.sq, ra⟩
  · cases e
theorem lstN_ok {d : D} {v : V} {l : List D} (R : NRel K C ρ N H) (h : RD K ρ H d v) (e : lstN N d = some l) : ∃ a xs, v = .ref a ∧ SqL K H a xs ∧ RDs K ρ H l xs := by
  unfold lstN at e
  split at e
  · split at e
    · rename_i n _ l' hN
      cases e
      obtain ⟨a, xs, rfl, _, ha, ra⟩ := R.lst h hN
      exact ⟨a, xs, rfl, SqL.of ha, ra⟩
    · cases e
  · cases e
    obtain ⟨a, xs, rfl, ta, ra⟩ := h
    exact ⟨a, xs, rfl, ta.sq, ra⟩
  · cases e
theorem RDs.one_of {d : D} {xs : List V} (h : RDs K ρ H [d] xs) : ∃ x, xs = [x] ∧ RD K ρ H d x := by
  obtain ⟨x, r, rfl, h1, h2⟩ := h
  rw [show r = [] from h2]
  exact ⟨x, rfl, h1⟩
theorem RDs.two_of {d e : D} {xs : List V} (h : RDs K ρ H [d, e] xs) : ∃ x y, xs = [x, y] ∧ RD K ρ H d x ∧ RD K ρ H e y := by
  obtain ⟨x, r, rfl, h1, h2⟩ := h
  obtain ⟨y, rfl, h3⟩ := RDs.one_of h2
  exact ⟨x, y, rfl, h1, h3⟩
end

/-- len -/
def lenN (N : NH) : D → Option Int
  | .str z => if z.length ≤ sizeLine then some z.length else none
  | .ref n => match N[n]? with
    | some (.lst l) => some l.length
    | some (.dK l) => some l.length
    | some (.dT l) => some l.length
    | _ => none
  | .tup l | .ctup l | .lsc l => some l.length
  | _ => none
def fLen : NF
  | [d], N => match lenN N d with | some i => .ok (.int i) N | none => .bad
  | _, _ => .bad
def rLen (K : PySem.W.Frag) : List V → Hp → VK → Prop := fun xs H Q => (∃ x n, xs = [x] ∧ LenV K x H n ∧ Q (.int n) H) ∨ (∃ a kvs, xs = [V.ref a] ∧ H a = some (.dK kvs) ∧ Q (.int kvs.length) H) ∨ rLenT xs H Q
theorem crLen {X : Cx} : CallR X (.builtin "len") (rLen X.K) := call_len.or (call_lenD.or call_len_dT)
theorem sndLen {K : PySem.W.Frag} {C : NC} : SndN K C fLen (rLen K) := by
  intro W ρ N H σ ds xs Q R rs q
  unfold fLen at q
  split at q
  · rename_i d _
    obtain ⟨x, rfl, rd⟩ := rs.one_of
    split at q
    · rename_i i hi
      have q' := q.ok (b := V.int i) R rfl
      unfold lenN at hi
      split at hi
      · split at hi
        · rename_i hz
          cases hi
          exact .inl ⟨_, _, rfl, by rw [show x = _ from rd]; exact ⟨hz, rfl⟩, q'⟩
        · cases hi
      · split at hi
        · rename_i n _ l hN
          cases hi
          obtain ⟨a, us, rfl, _, ha, ra⟩ := R.lst rd hN
          exact .inl ⟨_, _, rfl, .inl ⟨us, SqL.of ha, rfl⟩, by rw [ra.length]; exact q'⟩
        · rename_i n _ l hN
          cases hi
          obtain ⟨a, rfl, ha⟩ := rd
          obtain ⟨l', h1, h2⟩ := R.obj n a _ ha hN
          exact .inr (.inl ⟨a, l', rfl, h1, by rw [h2.length]; exact q'⟩)
        · rename_i n _ l hN
          cases hi
          obtain ⟨a, rfl, ha⟩ := rd
          obtain ⟨l', h1, h2⟩ := R.obj n a _ ha hN
          exact .inr (.inr ⟨a, l', rfl, h1, by rw [h2.length]; exact q'⟩)
        · cases hi
      · cases hi
        obtain ⟨a, us, rfl, ta, ra⟩ := rd
        exact .inl ⟨_, _, rfl, .inr ⟨us, ta.sq, rfl⟩, by rw [ra.length]; exact q'⟩
      · cases hi
        obtain ⟨a, us, rfl, ta, ra⟩ := rd
        exact .inl ⟨_, _, rfl, .inr ⟨us, ta.sq, rfl⟩, by rw [ra.length]; exact q'⟩
      · cases hi
        obtain ⟨a, us, rfl, ta, ra⟩ := rd
        exact .inl ⟨_, _, rfl, .inl ⟨us, ta.sq, rfl⟩, by rw [ra.length]; exact q'⟩
      · cases hi
    · exact q.elim
  · exact q.elim
/-- abs, min, max of two -/
def fAbs : NF
  | [.int i], N => .ok (.int (if i < 0 then -i else i)) N
  | _, _ => .bad
theorem sndAbs {K : PySem.W.Frag} {C : NC} : SndN K C fAbs (fun xs H Q => ∃ i, xs = [.int i] ∧ Q (.int (if i < 0 then -i else i)) H) := by
  intro W ρ N H σ ds xs Q R rs q
  unfold fAbs at q
  split at q
  · obtain ⟨x, rfl, rd⟩ := rs.one_of
    exact ⟨_, by rw [show x = _ from rd], q.ok R rfl⟩
  · exact q.elim
/-- int -/
def fInt : NF
  | [.int i], N => .ok (.int i) N
  | [.bl k], N => .ok (.int (if k then 1 else 0)) N
  | [.str a], N => match PySem.intText? a with
    | some n => if a.length ≤ 640 then .ok (.int n) N else .bad
    | none => .bad
  | _, _ => .bad
def rInt : List V → Hp → VK → Prop := fun xs H Q => ((∃ i, xs = [.int i] ∧ Q (.int i) H) ∨ ∃ k, xs = [.bl k] ∧ Q (.int (if k then 1 else 0)) H) ∨ (∃ a n, xs = [.str a] ∧ PySem.intText? a = some n ∧ a.length ≤ 640 ∧ Q (.int n) H)
theorem crInt {X : Cx} : CallR X (.type "int") rInt := call_int1.or call_int_str
theorem sndInt {K : PySem.W.Frag} {C : NC} : SndN K C fInt rInt := by
  intro W ρ N H σ ds xs Q R rs q
  unfold fInt at q
  split at q
  · obtain ⟨x, rfl, rd⟩ := rs.one_of
    exact .inl (.inl ⟨_, by rw [show x = _ from rd], q.ok R rfl⟩)
  · obtain ⟨x, rfl, rd⟩ := rs.one_of
    exact .inl (.inr ⟨_, by rw [show x = _ from rd], q.ok R rfl⟩)
  · obtain ⟨x, rfl, rd⟩ := rs.one_of
    split at q
    · rename_i n hn
      split at q
      · rename_i hz
        exact .inr ⟨_, n, by rw [show x = _ from rd], hn, hz, q.ok R rfl⟩
      · exact q.elim
    · exact q.elim
  · exact q.elim
def fStr : NF
  | [.int i], N => if i.natAbs.log2 < 1920 then .ok (.str (toString i)) N else .bad
  | _, _ => .bad
theorem sndStr {K : PySem.W.Frag} {C : NC} : SndN K C fStr (fun xs H Q => ∃ i, xs = [.int i] ∧ i.natAbs.log2 < 1920 ∧ Q (.str (toString i)) H) := by
  intro W ρ N H σ ds xs Q R rs q
  unfold fStr at q
  split at q
  · obtain ⟨x, rfl, rd⟩ := rs.one_of
    split at q
    · rename_i h
      exact ⟨_, by rw [show x = _ from rd], h, q.ok R rfl⟩
    · exact q.elim
  · exact q.elim
/-- list -/
def fList : NF
  | [d], N => match seqN N d with
    | some l => N.new (.lst l)
    | none => match d with
      | .ref n => match N[n]? with
        | some (.dK kvs) | some (.fK kvs) => N.new (.lst (kvs.map fun p => dKey p.1))
        | some (.dT kvs) | some (.fT kvs) => N.new (.lst (kvs.map fun p => .tup (p.1.map dKey)))
        | _ => .bad
      | _ => .bad
  | _, _ => .bad
/-- tuple -/
def fTuple : NF
  | [.tup l], N => .ok (.tup l) N
  | [d], N => match lstN N d with
    | some l => .ok (.tup l) N
    | none => .bad
  | _, _ => .bad
theorem sndTuple {K : PySem.W.Frag} {C : NC} : SndN K C fTuple (fun xs H Q => ∃ p ys, xs = [.ref p] ∧ ((SqL K H p ys ∧ ∀ l, H l = none → Q (.ref l) (upd H l (.tup ys))) ∨ (SqT K H p ys ∧ Q (.ref p) H))) := by
  intro W ρ N H σ ds xs Q R rs q
  unfold fTuple at q
  split at q
  · obtain ⟨x, rfl, rd⟩ := rs.one_of
    obtain ⟨a, us, rfl, ta, ra⟩ := _root_.id rd
    exact ⟨a, us, rfl, .inr ⟨ta.sq, q.ok R rd⟩⟩
  · obtain ⟨x, rfl, rd⟩ := rs.one_of
    split at q
    · rename_i l hl
      obtain ⟨a, us, rfl, hs, ra⟩ := lstN_ok R rd hl
      exact ⟨a, us, rfl, .inl ⟨hs, fun p hp => q.newT R ra hp⟩⟩
    · exact q.elim
  · exact q.elim
/-- sum, all, any of a list -/
def fSum : NF
  | [d], N => match (lstN N d).bind intsOf with
    | some ns => .ok (.int ns.sum) N
    | none => .bad
  | _, _ => .bad
theorem lst_ints {K : PySem.W.Frag} {C : NC} {ρ : List Addr} {N : NH} {H : Hp} {d : D} {v : V} {ns : List Int} (R : NRel K C ρ N H) (h : RD K ρ H d v) (e : (lstN N d).bind intsOf = some ns) : ∃ a, v = .ref a ∧ SqL K H a (ns.map V.int) := by
  obtain ⟨l, h1, h2⟩ := Option.bind_eq_some_iff.mp e
  obtain ⟨a, us, rfl, hs, ra⟩ := lstN_ok R h h1
  rw [intsOf_eq h2] at ra
  rw [ra.ints] at hs
  exact ⟨a, rfl, hs⟩
theorem sndSum {K : PySem.W.Frag} {C : NC} : SndN K C fSum (rSum K) := by
  intro W ρ N H σ ds xs Q R rs q
  unfold fSum at q
  split at q
  · obtain ⟨x, rfl, rd⟩ := rs.one_of
    split at q
    · rename_i ns hn
      obtain ⟨a, rfl, hs⟩ := lst_ints R rd hn
      exact ⟨a, ns, rfl, hs, q.ok R rfl⟩
    · exact q.elim
  · exact q.elim
/-- min, max: of two ints, of a list of ints -/
def minOf : List Int → Option Int
  | [] => none
  | [a] => some a
  | a :: r => (minOf r).map fun b => min a b
def fMin : NF
  | [.int i, .int j], N => .ok (.int (if j < i then j else i)) N
  | [d], N => match ((lstN N d).bind intsOf).bind minOf with
    | some n => .ok (.int n) N
    | none => .bad
  | _, _ => .bad
theorem minOf_ok : ∀ {ns : List Int} {m : Int}, minOf ns = some m → m ∈ ns ∧ ∀ y ∈ ns, m ≤ y
  | [], _, h => nomatch h
  | [a], _, h => by cases h; simp
  | a :: b :: r, m, h => by
    obtain ⟨k, h1, rfl⟩ := Option.map_eq_some_iff.mp (show (minOf (b :: r)).map (fun b => min a b) = some m from h)
    obtain ⟨h2, h3⟩ := minOf_ok h1
    refine ⟨?_, fun y hy => ?_⟩
    · by_cases q : a ≤ k
      · rw [Int.min_eq_left q]; exact List.mem_cons_self
      · rw [Int.min_eq_right (by omega)]; exact List.mem_cons_of_mem _ h2
    · rcases List.mem_cons.mp hy with e | e
      · subst e; omega
      · have := h3 y e; omega
def rMinA (K : PySem.W.Frag) : List V → Hp → VK → Prop := fun xs H Q => (∃ i j, xs = [.int i, .int j] ∧ Q (.int (if j < i then j else i)) H) ∨ rMin K xs H Q
theorem crMin {X : Cx} (hc : X.calm = true) : CallR X (.builtin "min") (rMinA X.K) := (call_min2 hc).or (cr_min hc)
theorem sndMin {K : PySem.W.Frag} {C : NC} : SndN K C fMin (rMinA K) := by
  intro W ρ N H σ ds xs Q R rs q
  unfold fMin at q
  split at q
  · obtain ⟨x, y, rfl, rx, ry⟩ := rs.two_of
    exact .inl ⟨_, _, by rw [show x = _ from rx, show y = _ from ry], q.ok R rfl⟩
  · obtain ⟨x, rfl, rd⟩ := rs.one_of
    split at q
    · rename_i n hn
      obtain ⟨ns, h1, h2⟩ := Option.bind_eq_some_iff.mp hn
      obtain ⟨a, rfl, hs⟩ := lst_ints R rd h1
      obtain ⟨h3, h4⟩ := minOf_ok h2
      refine .inr ⟨a, ns, rfl, hs, List.length_pos_of_mem h3, fun m hm hle => ?_⟩
      have e : m = n := Int.le_antisymm (hle n h3) (h4 m hm)
      subst e
      exact q.ok R rfl
    · exact q.elim
  · exact q.elim
end NY

set_option Elab.async false
set_option linter.all false
set_option maxRecDepth 100000
set_option maxHeartbeats 4000000
/-! NY7: statements -/
namespace NY
open PySem PySem.Spec PyProof.Rows L2

def PostS (K : PySem.W.Frag) (C : NC) (W : WX) (D : Ends) (ρ : List Addr) (H : Hp) : RS → Prop
  | .nx σn N => ∀ σ H' ρ', Ext ρ H ρ' H' → NRel K C ρ' N H' → RSt K ρ' H' σn σ → D.nx σ H'
  | .rt d N => ∀ v H' ρ', Ext ρ H ρ' H' → NRel K C ρ' N H' → RD K ρ' H' d v → D.rt v H'
  | .bk σn N => ∀ σ H' ρ', Ext ρ H ρ' H' → NRel K C ρ' N H' → RSt K ρ' H' σn σ → D.bk σ H'
  | .exc x σn N => ∀ c dx σ H' ρ', Ext ρ H ρ' H' → NRel K C ρ' N H' → RSt K ρ' H' σn σ → RX K C ρ' H' x c dx → W c dx σ H'
  | .bad => False
def tS (K : PySem.W.Frag) (C : NC) (W : WX) (m : NS) : TS := fun D σ H => ∃ (ρ : List Addr) (σn : NEnv) (N : NH), NRel K C ρ N H ∧ RSt K ρ H σn σ ∧ PostS K C W D ρ H (m σn N)
theorem ps_weak {X : Cx} {st : Stmt} {t t' : TS} (h : PS X st t) (w : ∀ D σ H, t' D σ H → t D σ H) : PS X st t' := ⟨fun pins s σ H D I q => h.run pins s σ H D I (w D σ H q)⟩
theorem pss_weak {X : Cx} {st : List Stmt} {t t' : TS} (h : PSs X st t) (w : ∀ D σ H, t' D σ H → t D σ H) : PSs X st t' := ⟨fun pins s σ H D I q => h.run pins s σ H D I (w D σ H q)⟩
theorem pg_or {X : Cx} {e : Expr} {t t' : TG} (h : PG X e t) (h' : PG X e t') : PG X e (fun v σ H Q => t v σ H Q ∨ t' v σ H Q) := ⟨fun pins s σ H v u Q I r q => q.elim (h.run pins s σ H v u Q I r) (h'.run pins s σ H v u Q I r)⟩
theorem pi_or {X : Cx} {tg e : Expr} {t t' : TI} (h : PI X tg e t) (h' : PI X tg e t') : PI X tg e (fun σ H R => t σ H R ∨ t' σ H R) := ⟨fun pins s σ H R I q => q.elim (h.run pins s σ H R I) (h'.run pins s σ H R I)⟩
theorem pi_weak {X : Cx} {tg e : Expr} {t t' : TI} (h : PI X tg e t) (w : ∀ σ H R, t' σ H R → t σ H R) : PI X tg e t' := ⟨fun pins s σ H R I q => h.run pins s σ H R I (w σ H R q)⟩
theorem pg_weak {X : Cx} {e : Expr} {t t' : TG} (h : PG X e t) (w : ∀ v σ H Q, t' v σ H Q → t v σ H Q) : PG X e t' := ⟨fun pins s σ H v u Q I r q => h.run pins s σ H v u Q I r (w v σ H Q q)⟩

section
variable {K : PySem.W.Frag} {C : NC} {W : WX} {D : Ends} {ρ ρ' : List Addr} {H H' : Hp} {σ : L2.St} {σn : NEnv} {N : NH}
theorem PostS.ext {r : RS} (e : Ext ρ H ρ' H') (h : PostS K C W D ρ H r) : PostS K C W D ρ' H' r := by
  cases r with
  | nx s N => exact fun σ H1 ρ1 e' n q => h σ H1 ρ1 (e.trans e') n q
  | rt d N => exact fun σ H1 ρ1 e' n q => h σ H1 ρ1 (e.trans e') n q
  | bk s N => exact fun σ H1 ρ1 e' n q => h σ H1 ρ1 (e.trans e') n q
  | exc x s N => exact fun c dx σ H1 ρ1 e' n q => h c dx σ H1 ρ1 (e.trans e') n q
  | bad => exact h
/-- the value part of a statement -/
def R.stm {α : Type} (r : R α) (σ : NEnv) (k : α → NH → RS) : RS := match r with
  | .ok a N => k a N
  | .exc x N => .exc x σ N
  | .bad => .bad
theorem PostS.stm {α β : Type} {rel : List Addr → Hp → α → β → Prop} {r : R α} {k : α → NH → RS} (S : RSt K ρ H σn σ) (h : PostS K C W D ρ H (r.stm σn k)) :
    PostR rel K C W ρ H σ (fun b H1 => ∃ ρ1 N1 a, Ext ρ H ρ1 H1 ∧ NRel K C ρ1 N1 H1 ∧ rel ρ1 H1 a b ∧ PostS K C W D ρ1 H1 (k a N1)) r := by
  cases r with
  | ok d N => exact fun v H' ρ' e n q => ⟨ρ', N, d, e, n, q, PostS.ext e h⟩
  | exc x N => exact fun c dx H' ρ' e n q => h c dx σ H' ρ' e n (S.ext e) q
  | bad => exact h
theorem PostS.part {α β : Type} {rel : List Addr → Hp → α → β → Prop} {m : NEnv → NH → R α} {k : α → NH → RS} {Q' : β → Hp → Prop} (R : NRel K C ρ N H) (S : RSt K ρ H σn σ) (h : PostS K C W D ρ H ((m σn N).stm σn k))
    (hk : ∀ b H1 ρ1 N1 a, Ext ρ H ρ1 H1 → NRel K C ρ1 N1 H1 → RSt K ρ1 H1 σn σ → rel ρ1 H1 a b → PostS K C W D ρ1 H1 (k a N1) → Q' b H1) : tR rel K C W m σ H Q' :=
  ⟨ρ, σn, N, R, S, (PostS.stm (rel := rel) S h).imp fun b H1 ⟨ρ1, N1, a, e, n, q, p⟩ => hk b H1 ρ1 N1 a e n (S.ext e) q p⟩
theorem PostS.nx (R : NRel K C ρ N H) (S : RSt K ρ H σn σ) (h : PostS K C W D ρ H (.nx σn N)) : D.nx σ H := h σ H ρ .refl R S
theorem PostS.rt {d : NY.D} {v : V} (R : NRel K C ρ N H) (r : RD K ρ H d v) (h : PostS K C W D ρ H (.rt d N)) : D.rt v H := h v H ρ .refl R r
theorem RSt.set {d : NY.D} {v : V} (S : RSt K ρ H σn σ) (r : RD K ρ H d v) (i : Nat) : RSt K ρ H (σn.set i (some d)) (σ.set i (some v)) := by
  refine ⟨by rw [List.length_set, List.length_set]; exact S.1, fun j e h => ?_⟩
  by_cases q : i = j
  · subst q
    by_cases hl : i < σn.length
    · rw [List.getElem?_set_self hl] at h
      cases h
      exact ⟨v, by rw [List.getElem?_set_self (by rw [← S.1]; exact hl)], r⟩
    · rw [List.getElem?_eq_none (by rw [List.length_set]; omega)] at h; cases h
  · rw [List.getElem?_set_ne q] at h
    obtain ⟨w, h1, h2⟩ := S.2 j e h
    exact ⟨w, by rw [List.getElem?_set_ne q]; exact h1, h2⟩
end

/-! ### the simple statements -/
def sPass : NS := fun σ N => .nx σ N
def RS.then (r : RS) (k : NEnv → NH → RS) : RS := match r with
  | .nx σ N => k σ N
  | r => r
def sSeq (a b : NS) : NS := fun σ N => (a σ N).then b
def sRet (a : NE) : NS := fun σ N => (a σ N).stm σ fun d N => .rt d N
def sExpr (a : NE) : NS := fun σ N => (a σ N).stm σ fun _ N => .nx σ N
def sIf (t : NT) (a b : NS) : NS := fun σ N => (t σ N).stm σ fun c N => if c = true then a σ N else b σ N
/-- a target: what the names hold behind it -/
structure NP where
  is : List Nat
  put : D → NEnv → NH → Option NEnv
def pName (i : Nat) : NP := ⟨[i], fun d σ _ => some (σ.set i (some d))⟩
def setAll : List Nat → List D → NEnv → NEnv
  | i :: is, d :: ds, σ => setAll is ds (σ.set i (some d))
  | _, _, σ => σ
def pTup (is : List Nat) : NP := ⟨is, fun d σ N => match seqN N d with
  | some l => if l.length = is.length then some (setAll is l σ) else none
  | none => none⟩
def sAsg (a : NE) (p : NP) : NS := fun σ N => (a σ N).stm σ fun d N => match p.put d σ N with
  | some σ' => .nx σ' N
  | none => .bad
/-- only the slots is differ -/
def Only (is : List Nat) (σ σ' : L2.St) : Prop := σ'.length = σ.length ∧ ∀ j, j ∉ is → σ'[j]? = σ[j]?
theorem Only.refl {is : List Nat} {σ : L2.St} : Only is σ σ := ⟨rfl, fun _ _ => rfl⟩
theorem Only.set {is : List Nat} {σ : L2.St} {i : Nat} {v : Option V} (h : i ∈ is) : Only is σ (σ.set i v) := ⟨List.length_set, fun j hj => List.getElem?_set_ne (fun (z : i = j) => hj (z ▸ h))⟩
theorem Only.trans {is : List Nat} {σ σ1 σ2 : L2.St} (h : Only is σ σ1) (h' : Only is σ1 σ2) : Only is σ σ2 := ⟨h'.1.trans h.1, fun j hj => (h'.2 j hj).trans (h.2 j hj)⟩
theorem Only.mono {is js : List Nat} {σ σ1 : L2.St} (h : Only is σ σ1) (l : ∀ i ∈ is, i ∈ js) : Only js σ σ1 := ⟨h.1, fun j hj => h.2 j (fun z => hj (l j z))⟩
def tG (K : PySem.W.Frag) (C : NC) (p : NP) : TG := fun v σ H Q => ∃ (ρ : List Addr) (σn : NEnv) (N : NH) (d : D), NRel K C ρ N H ∧ RSt K ρ H σn σ ∧ RD K ρ H d v ∧ match p.put d σn N with
  | some σn' => ∀ σ', RSt K ρ H σn' σ' → Only p.is σ σ' → Q σ' H
  | none => False
section
variable {X : Cx} {C : NC} {W : WX} {e o i : Expr} {st : Stmt} {sts : List Stmt} {pos p pos' tpos : Pos}
theorem s_pass : PS X (.Pass pos) (tS X.K C W sPass) := ps_weak ps_pass fun D σ H ⟨ρ, σn, N, R, S, q⟩ => q.nx R S
theorem s_nil : PSs X [] (tS X.K C W sPass) := pss_weak pss_nil fun D σ H ⟨ρ, σn, N, R, S, q⟩ => q.nx R S
theorem s_one {m : NS} (h : PS X st (tS X.K C W m)) : PSs X [st] (tS X.K C W m) := pss_one h
theorem s_cons {st2 : Stmt} {a b : NS} (h : PS X st (tS X.K C W a)) (h2 : PSs X (st2 :: sts) (tS X.K C W b)) : PSs X (st :: st2 :: sts) (tS X.K C W (sSeq a b)) :=
  pss_weak (pss_cons h h2) fun D σ H ⟨ρ, σn, N, R, S, q⟩ => ⟨ρ, σn, N, R, S, by
    unfold sSeq at q
    cases e : a σn N with
    | nx s1 N1 =>
      rw [e] at q
      exact fun σ2 H2 ρ2 E2 R2 S2 => ⟨ρ2, s1, N1, R2, S2, PostS.ext E2 (show PostS X.K C W D ρ H (b s1 N1) from q)⟩
    | rt d N1 => rw [e] at q; exact q
    | bk s1 N1 => rw [e] at q; exact q
    | exc x s1 N1 => rw [e] at q; exact q
    | bad => rw [e] at q; exact q⟩
theorem s_ret {a : NE} (h : PE X e (tE X.K C W a)) : PS X (.Return (some e) pos) (tS X.K C W (sRet a)) :=
  ps_weak (ps_ret h) fun D σ H ⟨ρ, σn, N, R, S, q⟩ => PostS.part R S q fun v H1 ρ1 N1 d E1 R1 S1 rd q1 => q1.rt R1 rd
theorem s_expr {a : NE} (h : PE X e (tE X.K C W a)) (hs : swapsWith e none pos.line X.env = pure false := by rfl) : PS X (.Expr e pos) (tS X.K C W (sExpr a)) :=
  ps_weak (ps_expr h hs) fun D σ H ⟨ρ, σn, N, R, S, q⟩ => PostS.part R S q fun v H1 ρ1 N1 d E1 R1 S1 rd q1 => q1.nx R1 S1
theorem s_if {c : Expr} {b1 b2 : List Stmt} {t : NT} {m1 m2 : NS} (hc : PT X c (tT X.K C W t)) (h1 : PSs X b1 (tS X.K C W m1)) (h2 : PSs X b2 (tS X.K C W m2)) : PS X (.If c b1 b2 pos) (tS X.K C W (sIf t m1 m2)) :=
  ps_weak (ps_if hc h1 h2) fun D σ H ⟨ρ, σn, N, R, S, q⟩ => PostS.part R S q fun b H1 ρ1 N1 c E1 R1 S1 rd q1 => by
    have rd' : b = c := rd
    subst rd'
    by_cases hb : b = true
    · rw [if_pos hb] at q1 ⊢; exact ⟨ρ1, σn, N1, R1, S1, q1⟩
    · rw [if_neg hb] at q1 ⊢; exact ⟨ρ1, σn, N1, R1, S1, q1⟩
/-! targets -/
theorem g_name {x : Str} (i : Nat) (hN : X.N.Nodup) (hi : X.N[i]? = some x := by rfl) (hx : L2.Loc X.env.scope x := by first | exact Or.inl rfl | exact Or.inr rfl) (hf : X.fn x = true ∨ X.env.scope.names.lookup x = some .local := by first | exact Or.inl rfl | exact Or.inr rfl) : PG X (.Name x pos) (tG X.K C (pName i)) :=
  pg_weak (pg_name hN hi hx hf) fun v σ H Q ⟨ρ, σn, N, d, R, S, rd, q⟩ => q _ (S.set rd i) (Only.set (List.mem_singleton.mpr rfl))
/-- the names of a tuple target -/
def tGs (K : PySem.W.Frag) (is : List Nat) : TGs := fun vs σ H Q => ∃ (ρ : List Addr) (σn : NEnv) (ds : List D), RSt K ρ H σn σ ∧ RDs K ρ H ds vs ∧ ds.length = is.length ∧ ∀ σ', RSt K ρ H (setAll is ds σn) σ' → Only is σ σ' → Q σ' H
theorem pgs_weak {es : List Expr} {t t' : TGs} (h : PGs X es t) (w : ∀ v σ H Q, t' v σ H Q → t v σ H Q) : PGs X es t' := ⟨fun pins s σ H v u Q I r q => h.run pins s σ H v u Q I r (w v σ H Q q)⟩
theorem g_nil : PGs X [] (tGs X.K []) := pgs_weak pgs_nil fun v σ H Q ⟨ρ, σn, ds, S, rd, hl, q⟩ => by
  cases ds with
  | nil => exact ⟨rd, q σ S .refl⟩
  | cons => simp at hl
theorem g_cons {x : Str} {es : List Expr} {is : List Nat} (i : Nat) (hN : X.N.Nodup) (hr : PGs X es (tGs X.K is)) (hi : X.N[i]? = some x := by rfl) (hx : L2.Loc X.env.scope x := by first | exact Or.inl rfl | exact Or.inr rfl) (hf : X.fn x = true ∨ X.env.scope.names.lookup x = some .local := by first | exact Or.inl rfl | exact Or.inr rfl)
    (he : List.map (fun x => x.snd) (assignEach (.Name x pos :: es) X.env) = assign (.Name x pos) X.env :: List.map (fun x => x.snd) (assignEach es X.env) := by rfl) : PGs X (.Name x pos :: es) (tGs X.K (i :: is)) :=
  pgs_weak (pgs_cons (pg_name hN hi hx hf) hr he) fun v σ H Q ⟨ρ, σn, ds, S, rd, hl, q⟩ => by
    cases ds with
    | nil => simp at hl
    | cons d ds =>
      obtain ⟨y, r, rfl, h1, h2⟩ := rd
      exact ⟨y, r, rfl, ρ, _, ds, S.set h1 i, h2, by simpa using hl, fun σ' S' O' => q σ' S' ((Only.set (by simp)).trans (O'.mono (fun j hj => List.mem_cons_of_mem _ hj)))⟩
theorem g_tup {es : List Expr} {k : Nat} {is : List Nat} (hc : X.calm = true) (h : PGs X es (tGs X.K is)) (hl : (assignEach es X.env).length = is.length := by rfl) (hp : List.findIdx? (fun x => x.fst) (assignEach es X.env) = none := by rfl) : PG X (.Tuple es k pos) (tG X.K C (pTup is)) :=
  pg_weak (pg_or (pg_tup (n := is.length) hc h hl hp) (pg_lst (n := is.length) hc h hl hp)) fun v σ H Q ⟨ρ, σn, N, d, R, S, rd, q⟩ => by
    unfold pTup at q
    dsimp only at q
    split at q
    · rename_i h0
      split at h0
      · rename_i l hs
        split at h0
        · rename_i hl2
          cases h0
          obtain ⟨a, xs, rfl, hsq, ra⟩ := seqN_ok R rd hs
          rcases hsq with hq | hq
          · exact .inr ⟨a, xs, rfl, hq, by rw [ra.length]; exact hl2, ρ, σn, l, S, ra, hl2, q⟩
          · exact .inl ⟨a, xs, rfl, hq, by rw [ra.length]; exact hl2, ρ, σn, l, S, ra, hl2, q⟩
        · cases h0
      · cases h0
    · exact q.elim
theorem s_asg {tg : Expr} {a : NE} {pt : NP} (h : PE X e (tE X.K C W a)) (hg : PG X tg (tG X.K C pt)) (h1 : swapsWithSole [tg] e pos.line X.env = pure false := by rfl) (h2 : swappedStores [tg] e X.env = pure none := by rfl) (h3 : List.map (fun x => x.snd) (assignEach [tg] X.env) = [assign tg X.env] := by rfl) :
    PS X (.Assign [tg] e pos) (tS X.K C W (sAsg a pt)) :=
  ps_weak (ps_asg h hg h1 h2 h3) fun D σ H ⟨ρ, σn, N, R, S, q⟩ => PostS.part R S q fun v H1 ρ1 N1 d E1 R1 S1 rd q1 => by
    refine ⟨ρ1, σn, N1, d, R1, S1, rd, ?_⟩
    cases e : pt.put d σn N1 with
    | none => rw [e] at q1; exact q1
    | some s => rw [e] at q1; exact fun σ' S' _ => q1.nx R1 S'
/-! o[i] = v -/
def putIx (N : NH) (o i v : D) : Option NH := match o with
  | .ref n => match N[n]? with
    | some (.lst l) => match i with
      | .int k => (ixN l.length k).map fun j => N.set n (.lst (l.set j v))
      | _ => none
    | some (.dK kvs) => (keyD i).bind fun k => if kvs.length < sizeLine then some (N.set n (.dK (putD kvs k v))) else none
    | some (.dT kvs) => match i with
      | .tup ds => (keysD ds).bind fun k => if kvs.length < sizeLine then some (N.set n (.dT (putD kvs k v))) else none
      | _ => none
    | _ => none
  | _ => none
def sPut (o i v : NE) : NS := fun σ N => (v σ N).stm σ fun v N => (o σ N).stm σ fun o N => (i σ N).stm σ fun i N => match putIx N o i v with
  | some N' => .nx σ N'
  | none => .bad
def rPut : TSet := fun o i v H Q => rSetL o i v H Q ∨ rSetD o i v H Q
theorem setPut {X : Cx} (hu : X.A.units + 1 < cLine) : PSet X rPut := fun pins s σ H o i v ov iv u Q I ro ri rv h => h.elim (set_list pins s σ H o i v ov iv u Q I ro ri rv) (set_dict hu pins s σ H o i v ov iv u Q I ro ri rv)
theorem snd_put {K : PySem.W.Frag} {ρ : List Addr} {N N' : NH} {H : Hp} {o i v : D} {x y z : V} {Q : Hp → Prop} (R : NRel K C ρ N H) (ro : RD K ρ H o x) (ri : RD K ρ H i y) (rv : RD K ρ H v z) (e : putIx N o i v = some N')
    (q : ∀ H', Ext ρ H ρ H' → NRel K C ρ N' H' → Q H') : rPut x y z H Q := by
  unfold putIx at e
  split at e
  · rename_i n
    obtain ⟨a, rfl, ha⟩ := ro
    split at e
    · rename_i l hN
      split at e
      · rename_i k
        obtain ⟨j, hj, rfl⟩ := Option.map_eq_some_iff.mp e
        obtain ⟨xs, h1, h2⟩ := R.obj n a _ ha hN
        obtain ⟨E, R'⟩ := R.write (o' := .lst (l.set j v)) (u := .lst (xs.set j z)) ha (fun _ _ z => by rw [h1] at z; cases z) (by
          have E0 : Ext ρ H ρ (upd H a (.lst (xs.set j z))) := Ext.write (memOf ha) (fun _ z => by rw [h1] at z; cases z) (fun _ _ z => by rw [h1] at z; cases z)
          exact ⟨_, upd_same, (h2.set rv j).ext E0⟩)
        exact .inl ⟨a, xs, k, j, rfl, ri, h1, by rw [h2.length]; exact hj, q _ E R'⟩
      · cases e
    · rename_i kvs hN
      obtain ⟨k, hk, e2⟩ := Option.bind_eq_some_iff.mp e
      split at e2
      · rename_i hl
        cases e2
        obtain ⟨l, h1, h2⟩ := R.obj n a _ ha hN
        obtain ⟨E, R'⟩ := R.write (o' := .dK (putD kvs k v)) (u := .dK (putK l k z)) ha (fun _ _ z => by rw [h1] at z; cases z) (by
          have E0 : Ext ρ H ρ (upd H a (.dK (putK l k z))) := Ext.write (memOf ha) (fun _ z => by rw [h1] at z; cases z) (fun _ _ z => by rw [h1] at z; cases z)
          exact ⟨_, upd_same, (h2.put rv).ext E0⟩)
        exact .inr ⟨a, _, rfl, .inl ⟨l, k, h1, keyD_ok ri hk, by rw [h2.length]; exact hl, rfl⟩, q _ E R'⟩
      · cases e2
    · rename_i kvs hN
      split at e
      · rename_i ds
        obtain ⟨k, hk, e2⟩ := Option.bind_eq_some_iff.mp e
        split at e2
        · rename_i hl
          cases e2
          obtain ⟨l, h1, h2⟩ := R.obj n a _ ha hN
          obtain ⟨b, xs, rfl, tb, rb⟩ := ri
          obtain ⟨E, R'⟩ := R.write (o' := .dT (putD kvs k v)) (u := .dT (putK l k z)) ha (fun _ _ z => by rw [h1] at z; cases z) (by
            have E0 : Ext ρ H ρ (upd H a (.dT (putK l k z))) := Ext.write (memOf ha) (fun _ z => by rw [h1] at z; cases z) (fun _ _ z => by rw [h1] at z; cases z)
            exact ⟨_, upd_same, (h2.put rv).ext E0⟩)
          exact .inr ⟨a, _, rfl, .inr ⟨l, k, b, h1, rfl, by rw [← keysD_ok rb hk]; exact tb.2, by rw [h2.length]; exact hl, rfl⟩, q _ E R'⟩
        · cases e2
      · cases e
    · cases e
  · cases e
theorem s_put {mo mi mv : NE} {value : Expr} (hu : X.A.units + 1 < cLine) (hv : PE X value (tE X.K C W mv)) (ho : PE X o (tE X.K C W mo)) (hi : PE X i (tE X.K C W mi))
    (h0 : ∀ (v : Value), (assign (o.Subscript i p) X.env v = do
      let ov ← holding [v] (eval o X.env)
      let iv ← holding [v, ov] (eval i X.env)
      standAt p
      holding [v, ov, iv] (setItem ov iv v)
      release [v, ov, iv] []) := by intro _; rfl)
    (h1 : swapsWithSole [.Subscript o i p] value pos.line X.env = pure false := by rfl) (h2 : swappedStores [.Subscript o i p] value X.env = pure none := by rfl) (h3 : List.map (fun x => x.snd) (assignEach [.Subscript o i p] X.env) = [assign (.Subscript o i p) X.env] := by rfl) :
    PS X (.Assign [.Subscript o i p] value pos) (tS X.K C W (sPut mo mi mv)) :=
  ps_weak (ps_asg hv (pg_sub ho hi (setPut hu) h0) h1 h2 h3) fun D σ H ⟨ρ, σn, N, R, S, q⟩ => PostS.part R S q fun v H1 ρ1 N1 d E1 R1 S1 rd q1 => PostS.part R1 S1 q1 fun x H2 ρ2 N2 do' E2 R2 S2 ro q2 => PostS.part R2 S2 q2 fun y H3 ρ3 N3 di E3 R3 S3 ri q3 => by
    split at q3
    · rename_i N4 hN4
      exact snd_put R3 (ro.ext E3) ri ((rd.ext E2).ext E3) hN4 fun H' E' R' => q3 σ H' ρ3 E' R' (S3.ext E')
    · exact q3.elim
/-! o.f = v -/
def sFldPut (cs : List Nat) (f : Nat) (o v : NE) : NS := fun σ N => (v σ N).stm σ fun v N => (o σ N).stm σ fun o N => match o with
  | .ref n => match N[n]? with
    | some (.ins c fs) => if c ∈ cs ∧ fs.length < 1000 then .nx σ (N.set n (.ins c (putFD f v fs))) else .bad
    | _ => .bad
  | _ => .bad
end
end NY

set_option Elab.async false
set_option linter.all false
set_option maxRecDepth 100000
set_option maxHeartbeats 4000000
/-! NY8: loops -/
namespace NY
open PySem PySem.Spec PyProof.Rows L2

/-! ### a write that no plain value sees -/
def Same (ρ : List Addr) (H H' : Hp) : Prop := ∀ a, a ∉ ρ → ((∃ xs, H a = some (.tup xs)) ∨ (∃ o xs, H a = some (.frz o (.lst xs)))) → H' a = H a
section
variable {K : PySem.W.Frag} {C : NC} {ρ : List Addr} {H H' : Hp}
mutual
theorem RD.same (s : Same ρ H H') : ∀ (d : D) {v : V}, RD K ρ H d v → RD K ρ H' d v
  | .non, _, h => h
  | .bl _, _, h => h
  | .int _, _, h => h
  | .str _, _, h => h
  | .tup ds, _, h => by
    obtain ⟨a, xs, rfl, h1, h2⟩ := h
    exact ⟨a, xs, rfl, ⟨h1.1, (s a h1.1 (.inl ⟨_, h1.2⟩)).trans h1.2⟩, RDs.same s ds h2⟩
  | .ctup ds, _, h => by
    obtain ⟨a, xs, rfl, h1, h2⟩ := h
    exact ⟨a, xs, rfl, h1, RDs.same s ds h2⟩
  | .lsc ds, _, h => by
    obtain ⟨a, xs, rfl, h1, h2⟩ := h
    refine ⟨a, xs, rfl, ?_, RDs.same s ds h2⟩
    rcases h1 with ⟨n, o, h⟩ | h
    · exact .inl ⟨n, o, (s a n (.inr ⟨_, _, h⟩)).trans h⟩
    · exact .inr h
  | .ref n, _, h => h
theorem RDs.same (s : Same ρ H H') : ∀ (ds : List D) {xs : List V}, RDs K ρ H ds xs → RDs K ρ H' ds xs
  | [], _, h => h
  | d :: ds, _, h => by
    obtain ⟨x, r, rfl, h1, h2⟩ := h
    exact ⟨x, r, rfl, RD.same s d h1, RDs.same s ds h2⟩
end
theorem RF.same (e : Same ρ H H') {names : List Str} : ∀ (fs : List (Nat × D)) {l : List (Str × V)}, RF K ρ H names fs l → RF K ρ H' names fs l
  | [], _, h => h
  | (n, d) :: r, _, h => by
    obtain ⟨x, v, s, rfl, h1, h2, h3⟩ := h
    exact ⟨x, v, s, rfl, h1, h2.same e, RF.same e r h3⟩
theorem RK.same {κ : Type} (e : Same ρ H H') : ∀ (fs : List (κ × D)) {l : List (κ × V)}, RK K ρ H fs l → RK K ρ H' fs l
  | [], _, h => h
  | (k, d) :: r, _, h => by
    obtain ⟨v, s, rfl, h2, h3⟩ := h
    exact ⟨v, s, rfl, h2.same e, RK.same e r h3⟩
theorem RO.same {a : Addr} {o : O} (e : Same ρ H H') (hs : H' a = H a) (h : RO K C ρ H a o) : RO K C ρ H' a o := by
  cases o with
  | lst ds => obtain ⟨xs, e1, r⟩ := h; exact ⟨xs, hs.trans e1, r.same e⟩
  | dK _ => obtain ⟨xs, e1, r⟩ := h; exact ⟨xs, hs.trans e1, r.same e⟩
  | dT _ => obtain ⟨xs, e1, r⟩ := h; exact ⟨xs, hs.trans e1, r.same e⟩
  | fK _ => obtain ⟨ob, xs, e1, r⟩ := h; exact ⟨ob, xs, hs.trans e1, r.same e⟩
  | fT _ => obtain ⟨ob, xs, e1, r⟩ := h; exact ⟨ob, xs, hs.trans e1, r.same e⟩
  | ins _ _ => obtain ⟨dx, xs, e1, r⟩ := h; exact ⟨dx, xs, hs.trans e1, r.same e⟩
theorem RSt.same {σn : NEnv} {σ : L2.St} (e : Same ρ H H') (h : RSt K ρ H σn σ) : RSt K ρ H' σn σ :=
  ⟨h.1, fun i d q => let ⟨v, a, b⟩ := h.2 i d q; ⟨v, a, b.same e⟩⟩
theorem Same.mem {a : Addr} {u : HO} (m : a ∈ ρ) : Same ρ H (upd H a u) := fun b n _ => upd_ne (fun z => n (z ▸ m))
theorem Same.lst {a : Addr} {u : HO} {xs : List V} (m : H a = some (.lst xs)) : Same ρ H (upd H a u) := fun b _ h => upd_ne (fun z => by
  subst z
  rcases h with ⟨_, h⟩ | ⟨_, _, h⟩
  · rw [m] at h; cases h
  · rw [m] at h; cases h)
theorem NRel.unlock {N : NH} {a : Addr} {n : Nat} {o' : O} (R : NRel K C ρ N H) (h : ρ[n]? = some a) {u : HO} (new : RO K C ρ (upd H a u) a o') : NRel K C ρ (N.set n o') (upd H a u) := by
  have m := memOf h
  have E : Same ρ H (upd H a u) := Same.mem m
  refine ⟨by rw [List.length_set]; exact R.len, R.nd, R.names, fun k b o hk ho => ?_, fun P hP => ?_⟩
  · by_cases e : k = n
    · subst e
      rw [h] at hk; cases hk
      rw [List.getElem?_set_self (by have := (List.getElem?_eq_some_iff.mp h).1; have := R.len; omega)] at ho
      cases ho
      exact new
    · rw [List.getElem?_set_ne (fun z => e z.symm)] at ho
      have ne : b ≠ a := fun z => e (nd_ix R.nd (z ▸ hk) h)
      exact (R.obj k b o hk ho).same E (upd_ne ne)
  · obtain ⟨ps, e, t⟩ := R.tab P hP
    exact ⟨ps, by rw [upd_ne (show P ≠ a from fun z => R.notab hP (z ▸ m))]; exact e, t⟩
/-- a write at a list that is none of the nice objects -/
theorem NRel.aside {N : NH} {a : Addr} {xs : List V} (R : NRel K C ρ N H) (m : H a = some (.lst xs)) (n : a ∉ ρ) {u : HO} : NRel K C ρ N (upd H a u) := by
  have E : Same ρ H (upd H a u) := Same.lst m
  refine ⟨R.len, R.nd, R.names, fun k b o hk ho => ?_, fun P hP => ?_⟩
  · exact (R.obj k b o hk ho).same E (upd_ne (fun z => n (z ▸ memOf hk)))
  · obtain ⟨ps, e, t⟩ := R.tab P hP
    exact ⟨ps, by rw [upd_ne (show P ≠ a from fun z => by rw [z, m] at e; cases e)]; exact e, t⟩
/-- a list joins the nice objects -/
theorem NRel.adopt {N : NH} {a : Addr} {xs : List V} {ds : List D} (R : NRel K C ρ N H) (m : H a = some (.lst xs)) (n : a ∉ ρ) (r : RDs K ρ H ds xs) (ρ0 : List Addr) (H0 : Hp) (E0 : Ext ρ0 H0 ρ H) (h0 : H0 a = none) :
    Ext ρ0 H0 (ρ ++ [a]) H ∧ NRel K C (ρ ++ [a]) (N ++ [.lst ds]) H := by
  have hin : ∀ b, H b ≠ some (.lst xs) → b ∉ ρ → b ∉ ρ ++ [a] := fun b hb nb hm => by
    rcases List.mem_append.mp hm with q | q
    · exact nb q
    · rw [List.mem_singleton.mp q] at hb; exact hb m
  have rd : (∀ (d : D) (v : V), RD K ρ H d v → RD K (ρ ++ [a]) H d v) ∧ (∀ (d : List D) (v : List V), RDs K ρ H d v → RDs K (ρ ++ [a]) H d v) := by
    have hT : ∀ (b : Addr) (ys : List V), TupAt ρ H b ys → TupAt (ρ ++ [a]) H b ys := fun b ys h => ⟨hin b (by rw [h.2]; exact fun z => nomatch z) h.1, h.2⟩
    have hL : ∀ (b : Addr) (ys : List V), LscAt K ρ H b ys → LscAt K (ρ ++ [a]) H b ys := fun b ys h => by
      rcases h with ⟨n, o, h⟩ | h
      · exact .inl ⟨hin b (by rw [h]; exact fun z => nomatch z) n, o, h⟩
      · exact .inr h
    have key : ∀ (d : D) (v : V), RD K ρ H d v → RD K (ρ ++ [a]) H d v := fun d =>
      D.rec (motive_1 := fun d => ∀ v, RD K ρ H d v → RD K (ρ ++ [a]) H d v) (motive_2 := fun ds => ∀ vs, RDs K ρ H ds vs → RDs K (ρ ++ [a]) H ds vs)
        (fun _ h => h) (fun _ _ h => h) (fun _ _ h => h) (fun _ _ h => h)
        (fun ds ih v ⟨b, ys, e, h1, h2⟩ => ⟨b, ys, e, hT b ys h1, ih ys h2⟩)
        (fun ds ih v ⟨b, ys, e, h1, h2⟩ => ⟨b, ys, e, h1, ih ys h2⟩)
        (fun ds ih v ⟨b, ys, e, h1, h2⟩ => ⟨b, ys, e, hL b ys h1, ih ys h2⟩)
        (fun n v ⟨b, e, h⟩ => ⟨b, e, by rw [List.getElem?_append_left (List.getElem?_eq_some_iff.mp h).1]; exact h⟩)
        (fun _ h => h) (fun d ds ih1 ih2 vs ⟨x, r, e, h1, h2⟩ => ⟨x, r, e, ih1 x h1, ih2 r h2⟩) d
    refine ⟨key, fun d => ?_⟩
    induction d with
    | nil => exact fun v h => h
    | cons d ds ih => exact fun v ⟨x, r, e, h1, h2⟩ => ⟨x, r, e, key d x h1, ih r h2⟩
  have rf : ∀ (names : List Str) (fs : List (Nat × D)) (l : List (Str × V)), RF K ρ H names fs l → RF K (ρ ++ [a]) H names fs l := fun names fs => by
    induction fs with
    | nil => exact fun v h => h
    | cons p ds ih => exact fun v ⟨x, v', s, e, h1, h2, h3⟩ => ⟨x, v', s, e, h1, rd.1 _ _ h2, ih s h3⟩
  have rk : ∀ {κ : Type} (fs : List (κ × D)) (l : List (κ × V)), RK K ρ H fs l → RK K (ρ ++ [a]) H fs l := fun fs => by
    induction fs with
    | nil => exact fun v h => h
    | cons p ds ih => exact fun v ⟨v', s, e, h2, h3⟩ => ⟨v', s, e, rd.1 _ _ h2, ih s h3⟩
  have ro : ∀ (b : Addr) (o : O), RO K C ρ H b o → RO K C (ρ ++ [a]) H b o := fun b o h => by
    cases o with
    | lst ds => obtain ⟨xs, e1, r⟩ := h; exact ⟨xs, e1, rd.2 _ _ r⟩
    | dK _ => obtain ⟨xs, e1, r⟩ := h; exact ⟨xs, e1, rk _ _ r⟩
    | dT _ => obtain ⟨xs, e1, r⟩ := h; exact ⟨xs, e1, rk _ _ r⟩
    | fK _ => obtain ⟨ob, xs, e1, r⟩ := h; exact ⟨ob, xs, e1, rk _ _ r⟩
    | fT _ => obtain ⟨ob, xs, e1, r⟩ := h; exact ⟨ob, xs, e1, rk _ _ r⟩
    | ins _ _ => obtain ⟨dx, xs, e1, r⟩ := h; exact ⟨dx, xs, e1, rf _ _ _ r⟩
  refine ⟨⟨?_, fun b hb nb => ?_, E0.keep, E0.tbl, E0.frz⟩, by simp [R.len], List.nodup_append.mpr ⟨R.nd, by simp, fun x hx y hy z => n (by rw [List.mem_singleton.mp hy] at z; exact z ▸ hx)⟩, R.names, fun k b o hk ho => ?_, R.tab⟩
  · obtain ⟨t, e⟩ := E0.pre
    exact ⟨t ++ [a], by rw [e, List.append_assoc]⟩
  · rcases List.mem_append.mp hb with q | q
    · exact E0.new b q nb
    · rw [List.mem_singleton.mp q]; exact h0
  · by_cases e : k < ρ.length
    · rw [List.getElem?_append_left e] at hk
      rw [List.getElem?_append_left (by have := R.len; omega)] at ho
      exact ro b o (R.obj k b o hk ho)
    · have hk1 := (List.getElem?_eq_some_iff.mp hk).1
      rw [List.length_append, List.length_singleton] at hk1
      have e2 : k = ρ.length := by omega
      subst e2
      rw [List.getElem?_concat_length] at hk
      rw [R.len, List.getElem?_concat_length] at ho
      cases hk; cases ho
      exact ⟨xs, m, rd.2 _ _ r⟩
end

/-! ### what is walked -/
structure NIt where
  items : List D
  ok : NH → Bool
abbrev NI := NEnv → NH → R NIt
def JOk (K : PySem.W.Frag) (C : NC) (ρ0 : List Addr) (H0 : Hp) (t : NIt) (J : It) : Prop := ∀ ρ H N, Ext ρ0 H0 ρ H → NRel K C ρ N H → t.ok N = true →
  (∀ (i : Nat) (d : D), t.items[i]? = some d → J.go i H ∧ ∀ x H', J.yld i H x H' → ∃ ρ', Ext ρ H ρ' H' ∧ NRel K C ρ' N H' ∧ RD K ρ' H' d x) ∧ J.stop t.items.length H
def tI (K : PySem.W.Frag) (C : NC) (W : WX) (m : NI) : TI := tR (JOk K C) K C W m
def chars (s : Str) : List D := s.cps.toList.map fun c => .str ⟨#[c]⟩
/-- a list, a tuple, a text, a dict that is locked -/
def itOf (N : NH) : D → Option NIt
  | .tup l | .ctup l | .lsc l => some ⟨l, fun _ => true⟩
  | .str s => some ⟨chars s, fun _ => true⟩
  | .ref n => match N[n]? with
    | some (.lst l) => some ⟨l, fun N => decide (N[n]? = some (.lst l))⟩
    | some (.fK kvs) => some ⟨kvs.map fun p => dKey p.1, fun _ => true⟩
    | some (.fT kvs) => some ⟨kvs.map fun p => .tup (p.1.map dKey), fun _ => true⟩
    | _ => none
  | _ => none
def iSeq (a : NE) : NI := fun σ N => (a σ N).bind fun d N => match itOf N d with | some t => .ok t N | none => .bad
section
variable {K : PySem.W.Frag} {C : NC} {ρ : List Addr} {N : NH} {H : Hp}
theorem jok_lst {n : Nat} {l : List D} {a : Addr} (ha : ρ[n]? = some a) : JOk K C ρ H ⟨l, fun N => decide (N[n]? = some (.lst l))⟩ (Itl K a) := fun ρ1 H1 N1 E R h => by
  obtain ⟨xs, h1, h2⟩ := R.obj n a _ (E.get ha) (of_decide_eq_true h)
  refine ⟨fun i d hd => ?_, xs, SqL.of h1, by rw [h2.length]; exact Nat.le_refl _⟩
  obtain ⟨x, e1, e2⟩ := h2.get' hd
  refine ⟨⟨xs, x, SqL.of h1, e1⟩, fun y H' ⟨hH, hy⟩ => ⟨ρ1, ?_⟩⟩
  subst hH
  have := hy xs (SqL.of h1)
  rw [e1] at this; cases this
  exact ⟨.refl, R, e2⟩
theorem jok_lsc {l : List D} {a : Addr} {xs : List V} (ha : LscAt K ρ H a xs) (hr : RDs K ρ H l xs) : JOk K C ρ H ⟨l, fun N => true⟩ (Itl K a) := fun ρ1 H1 N1 E R h => by
  have h1 := (ha.ext E).sq
  have h2 := RDs.ext E l hr
  refine ⟨fun i d hd => ?_, xs, h1, by rw [h2.length]; exact Nat.le_refl _⟩
  obtain ⟨x, e1, e2⟩ := h2.get' hd
  refine ⟨⟨xs, x, h1, e1⟩, fun y H' ⟨hH, hy⟩ => ⟨ρ1, ?_⟩⟩
  subst hH
  have := hy xs h1
  rw [e1] at this; cases this
  exact ⟨.refl, R, e2⟩
theorem jok_tup {l : List D} {a : Addr} {xs : List V} (ha : TupAt ρ H a xs ∨ CtupAt K a xs) (hr : RDs K ρ H l xs) : JOk K C ρ H ⟨l, fun N => true⟩ (Itt K a) := fun ρ1 H1 N1 E R h => by
  have h1 : SqT K H1 a xs := by
    rcases ha with h | h
    · exact (h.ext E).sq
    · exact h.sq
  have h2 := RDs.ext E l hr
  refine ⟨fun i d hd => ?_, xs, h1, by rw [h2.length]; exact Nat.le_refl _⟩
  obtain ⟨x, e1, e2⟩ := h2.get' hd
  refine ⟨⟨xs, x, h1, e1⟩, fun y H' ⟨hH, hy⟩ => ⟨ρ1, ?_⟩⟩
  subst hH
  have := hy xs h1
  rw [e1] at this; cases this
  exact ⟨.refl, R, e2⟩
theorem jok_str {x : Str} : JOk K C ρ H ⟨chars x, fun N => true⟩ (Its x) := fun ρ1 H1 N1 E R h => by
  have hl : (chars x).length = x.cps.size := by unfold chars; simp
  refine ⟨fun i d hd => ?_, by rw [show (NIt.mk (chars x) fun _ => true).items = chars x from rfl, hl]; exact Nat.le_refl _⟩
  have hi := (List.getElem?_eq_some_iff.mp hd).1
  refine ⟨by rw [show (NIt.mk (chars x) fun _ => true).items = chars x from rfl, hl] at hi; exact hi, fun y H' ⟨hH, c, hc, hy⟩ => ⟨ρ1, ?_⟩⟩
  subst hH
  refine ⟨.refl, R, ?_⟩
  have e : (chars x)[i]? = some (.str ⟨#[c]⟩) := by
    unfold chars
    rw [List.getElem?_map, show x.cps.toList[i]? = some c by rw [Array.getElem?_toList]; exact hc]; rfl
  rw [show (NIt.mk (chars x) fun _ => true).items = chars x from rfl, e] at hd
  cases hd
  exact hy
theorem RK.dkeys_get {kvs : List (Key × D)} {l : List (Key × V)} {i : Nat} {d : D} (h : RK K ρ H kvs l) (hd : (kvs.map fun p => dKey p.1)[i]? = some d) : ∃ k v, l[i]? = some (k, v) ∧ d = dKey k := by
  rw [List.getElem?_map] at hd
  obtain ⟨p, h1, rfl⟩ := Option.map_eq_some_iff.mp hd
  have hl : i < l.length := by rw [h.length]; exact (List.getElem?_eq_some_iff.mp h1).1
  have e : l[i]? = some (l[i]'hl) := List.getElem?_eq_getElem _
  obtain ⟨d', h2, _⟩ := h.get e
  rw [h1] at h2
  refine ⟨(l[i]'hl).1, (l[i]'hl).2, e, ?_⟩
  rw [Option.some.inj h2]
theorem RK.tkeys_get {kvs : List (List Key × D)} {l : List (List Key × V)} {i : Nat} {d : D} (h : RK K ρ H kvs l) (hd : (kvs.map fun p => D.tup (p.1.map dKey))[i]? = some d) : ∃ k v, l[i]? = some (k, v) ∧ d = .tup (k.map dKey) := by
  rw [List.getElem?_map] at hd
  obtain ⟨p, h1, rfl⟩ := Option.map_eq_some_iff.mp hd
  have hl : i < l.length := by rw [h.length]; exact (List.getElem?_eq_some_iff.mp h1).1
  have e : l[i]? = some (l[i]'hl) := List.getElem?_eq_getElem _
  obtain ⟨d', h2, _⟩ := h.get e
  rw [h1] at h2
  refine ⟨(l[i]'hl).1, (l[i]'hl).2, e, ?_⟩
  rw [Option.some.inj h2]
theorem jok_fK {kvs : List (Key × D)} {l : List (Key × V)} {a : Addr} {ob : Obj} (ha : H a = some (.frz ob (.dK l))) (hr : RK K ρ H kvs l) : JOk K C ρ H ⟨kvs.map fun p => dKey p.1, fun N => true⟩ (Itk a ob l) := fun ρ1 H1 N1 E R h => by
  have h1 := E.frz a _ _ ha
  refine ⟨fun i d hd => ?_, h1, by simp [hr.length]⟩
  obtain ⟨k, v, e1, rfl⟩ := hr.dkeys_get hd
  refine ⟨⟨h1, (List.getElem?_eq_some_iff.mp e1).1⟩, fun y H' ⟨hH, k', v', e2, hy⟩ => ⟨ρ1, ?_⟩⟩
  subst hH
  rw [e1] at e2; cases e2
  exact ⟨.refl, R, by rw [hy]; exact dKey_ok k⟩
theorem jok_fT {kvs : List (List Key × D)} {l : List (List Key × V)} {a : Addr} {ob : Obj} (ha : H a = some (.frz ob (.dT l))) (hr : RK K ρ H kvs l) : JOk K C ρ H ⟨kvs.map fun p => .tup (p.1.map dKey), fun N => true⟩ (Itkt a ob l) := fun ρ1 H1 N1 E R h => by
  have h1 := E.frz a _ _ ha
  refine ⟨fun i d hd => ?_, h1, by simp [hr.length]⟩
  obtain ⟨k, v, e1, rfl⟩ := hr.tkeys_get hd
  refine ⟨⟨h1, (List.getElem?_eq_some_iff.mp e1).1⟩, fun y H' ⟨hH, k', v', b, e2, hy, hb⟩ => ⟨ρ1, ?_⟩⟩
  subst hH
  rw [e1] at e2; cases e2
  refine ⟨.refl, R, ⟨b, k.map kV, hy, ⟨fun m => ?_, hb⟩, dKeys_ok k⟩⟩
  obtain ⟨u, e, nt, _⟩ := R.tracked m
  rw [hb] at e
  exact nt _ (Option.some.inj e).symm
end
section
variable {X : Cx} {C : NC} {W : WX} {e a b c tg iter : Expr} {body : List Stmt} {pos p : Pos}
theorem n_it {ma : NE} (h : PE X e (tE X.K C W ma)) : PI X tg e (tI X.K C W (iSeq ma)) :=
  pi_weak (pi_or (pi_list h) (pi_or (pi_tup h) (pi_or (pi_str h) (pi_keys h)))) fun σ H R' ⟨ρ, σn, N, R, S, q⟩ => by
    have hb := PostR.bind (rel := RD X.K) q
    have hS : ∀ {P : V → Hp → Prop}, (PostR (RD X.K) X.K C W ρ H σ P (ma σn N)) → tE X.K C W ma σ H P := fun h => ⟨ρ, σn, N, R, S, h⟩
    cases e : ma σn N with
    | exc x N' => rw [e] at hb; exact .inl (hS (by rw [e]; exact hb))
    | bad => rw [e] at hb; exact hb.elim
    | ok d N' =>
      have q0 := q
      unfold iSeq at q0
      rw [e] at q0
      replace q0 : PostR (JOk X.K C) X.K C W ρ H σ R' (match itOf N' d with | some t => NY.R.ok t N' | none => .bad) := q0
      unfold itOf at q0
      cases d with
      | tup l =>
        refine .inr (.inl (hS ?_)); rw [e]
        intro v H1 ρ1 E1 R1 rd
        obtain ⟨a, xs, rfl, ta, ra⟩ := rd
        exact ⟨a, rfl, ⟨xs, ta.sq⟩, q0 _ H1 ρ1 E1 R1 (jok_tup (.inl ta) ra)⟩
      | ctup l =>
        refine .inr (.inl (hS ?_)); rw [e]
        intro v H1 ρ1 E1 R1 rd
        obtain ⟨a, xs, rfl, ta, ra⟩ := rd
        exact ⟨a, rfl, ⟨xs, ta.sq⟩, q0 _ H1 ρ1 E1 R1 (jok_tup (.inr ta) ra)⟩
      | lsc l =>
        refine .inl (hS ?_); rw [e]
        intro v H1 ρ1 E1 R1 rd
        obtain ⟨a, xs, rfl, ta, ra⟩ := rd
        exact ⟨a, rfl, ⟨xs, ta.sq⟩, q0 _ H1 ρ1 E1 R1 (jok_lsc ta ra)⟩
      | str x =>
        refine .inr (.inr (.inl (hS ?_))); rw [e]
        intro v H1 ρ1 E1 R1 rd
        exact ⟨x, rd, q0 _ H1 ρ1 E1 R1 jok_str⟩
      | ref n =>
        dsimp only at q0
        split at q0
        · rename_i t ht
          split at ht
          · rename_i l hN
            cases ht
            refine .inl (hS ?_); rw [e]
            intro v H1 ρ1 E1 R1 rd
            obtain ⟨a, us, rfl, ha, h1, ra⟩ := R1.lst rd hN
            exact ⟨a, rfl, ⟨us, SqL.of h1⟩, q0 _ H1 ρ1 E1 R1 (jok_lst ha)⟩
          · rename_i kvs hN
            cases ht
            refine .inr (.inr (.inr (hS ?_))); rw [e]
            intro v H1 ρ1 E1 R1 rd
            obtain ⟨a, rfl, ha⟩ := rd
            obtain ⟨ob, l, h1, h2⟩ := R1.obj n a _ ha hN
            exact ⟨a, ob, rfl, .inl ⟨l, h1, q0 _ H1 ρ1 E1 R1 (jok_fK h1 h2)⟩⟩
          · rename_i kvs hN
            cases ht
            refine .inr (.inr (.inr (hS ?_))); rw [e]
            intro v H1 ρ1 E1 R1 rd
            obtain ⟨a, rfl, ha⟩ := rd
            obtain ⟨ob, l, h1, h2⟩ := R1.obj n a _ ha hN
            exact ⟨a, ob, rfl, .inr ⟨l, h1, q0 _ H1 ρ1 E1 R1 (jok_fT h1 h2)⟩⟩
          · cases ht
        · exact q0.elim
      | _ => exact q0.elim
/-! range -/
def iRng (a : NA) : NI := fun σ N => (a σ N).bind fun ds N => match ds with
  | [.int j] => if -(2 ^ 62) ≤ j ∧ j < 2 ^ 62 then .ok ⟨(List.range j.toNat).map fun (i : Nat) => .int (i : Int), fun _ => true⟩ N else .bad
  | [.int i, .int j] => if -(2 ^ 62) ≤ i ∧ i < 2 ^ 62 ∧ -(2 ^ 62) ≤ j ∧ j < 2 ^ 62 then .ok ⟨(List.range (j - i).toNat).map fun (k : Nat) => .int (i + (k : Int)), fun _ => true⟩ N else .bad
  | _ => .bad
theorem jok_rng {K : PySem.W.Frag} {ρ : List Addr} {H : Hp} {lo : Int} {n : Nat} {l : List D} (hl : l = (List.range n).map fun (k : Nat) => .int (lo + (k : Int))) : JOk K C ρ H ⟨l, fun N => true⟩ (Itr lo n) := fun ρ1 H1 N1 E R h => by
  subst hl
  refine ⟨fun i d hd => ?_, by simp [Itr]⟩
  rw [List.getElem?_map] at hd
  obtain ⟨k, h1, rfl⟩ := Option.map_eq_some_iff.mp hd
  obtain ⟨h2, h3⟩ := List.getElem?_eq_some_iff.mp h1
  rw [List.length_range] at h2
  rw [List.getElem_range] at h3
  subst h3
  refine ⟨h2, fun y H' ⟨hH, hy⟩ => ⟨ρ1, ?_⟩⟩
  subst hH
  exact ⟨.refl, R, hy⟩
theorem n_range1 {ma : NA} (hm : X.mg "range" = none) (h : PA X [a] (tA X.K C W ma)) (hg : Gl X "range" := by rfl) (hs : starEach [a] X.env = [(false, eval a X.env)] := by rfl) (hl : ∀ σ N ds N', ma σ N = .ok ds N' → ds.length = 1) : PI X tg (.Call (.Name "range" p) [a] [] pos) (tI X.K C W (iRng ma)) :=
  pi_weak (pi_range1 hg hm h hs) fun σ H R' ⟨ρ, σn, N, R, S, q⟩ => ⟨ρ, σn, N, R, S, (PostR.bindE (rel := RDs X.K) q).imp fun us H1 ⟨ds, ρ1, N1, E1, R1, rs, q1, em⟩ => by
    have h1 := hl _ _ _ _ em
    split at q1
    · split at q1
      · rename_i hj
        obtain ⟨x, rfl, rx⟩ := rs.one_of
        exact ⟨_, by rw [show x = _ from rx], hj.1, hj.2, q1 _ H1 ρ1 .refl R1 (jok_rng (by simp))⟩
      · exact q1.elim
    · simp at h1
    · exact q1.elim⟩
def iRng3 (a : NA) : NI := fun σ N => (a σ N).bind fun ds N => match ds with
  | [.int i, .int j, .int c] => if c ≠ 0 ∧ c.natAbs < 1073741824 ∧ Builtin.Range.small i j c = true ∧ 0 ≤ Builtin.Range.rangeSize i j c then .ok ⟨(List.range (Builtin.Range.rangeSize i j c).toNat).map fun (k : Nat) => .int (i + (k : Int) * c), fun _ => true⟩ N else .bad
  | _ => .bad
theorem jok_rngC {K : PySem.W.Frag} {ρ : List Addr} {H : Hp} {lo c : Int} {n : Nat} : JOk K C ρ H ⟨(List.range n).map fun (k : Nat) => .int (lo + (k : Int) * c), fun N => true⟩ (Itc lo c n) := fun ρ1 H1 N1 E R h => by
  refine ⟨fun i d hd => ?_, by simp [Itc]⟩
  rw [List.getElem?_map] at hd
  obtain ⟨k, h1, rfl⟩ := Option.map_eq_some_iff.mp hd
  obtain ⟨h2, h3⟩ := List.getElem?_eq_some_iff.mp h1
  rw [List.length_range] at h2
  rw [List.getElem_range] at h3
  subst h3
  refine ⟨h2, fun y H' ⟨hH, hy⟩ => ⟨ρ1, ?_⟩⟩
  subst hH
  exact ⟨.refl, R, hy⟩
theorem n_range3 {ma : NA} (hm : X.mg "range" = none) (h : PA X [a, b, c] (tA X.K C W ma)) (hg : Gl X "range" := by rfl) (hs : starEach [a, b, c] X.env = (false, eval a X.env) :: starEach [b, c] X.env := by rfl) (hs2 : ((backTo pos (starEach [b, c] X.env)).any fun x => x.fst) = false := by rfl) : PI X tg (.Call (.Name "range" p) [a, b, c] [] pos) (tI X.K C W (iRng3 ma)) :=
  pi_weak (pi_range3 hg hm h hs hs2) fun σ H R' ⟨ρ, σn, N, R, S, q⟩ => ⟨ρ, σn, N, R, S, (PostR.bindE (rel := RDs X.K) q).imp fun us H1 ⟨ds, ρ1, N1, E1, R1, rs, q1, em⟩ => by
    split at q1
    · split at q1
      · rename_i hj
        obtain ⟨x, r, rfl, rx, r'⟩ := rs
        obtain ⟨y, z, rfl, ry, rz⟩ := RDs.two_of r'
        exact ⟨_, _, _, _, by rw [show x = _ from rx, show y = _ from ry, show z = _ from rz], ⟨hj.1, hj.2.1, hj.2.2.1, (Int.toNat_of_nonneg hj.2.2.2).symm⟩, q1 _ H1 ρ1 .refl R1 jok_rngC⟩
      · exact q1.elim
    · exact q1.elim⟩
end

/-! ### for -/
def loopN (p : NP) (body : NS) (ok : NH → Bool) : List D → NS
  | [], σ, N => if ok N = true then .nx σ N else .bad
  | x :: r, σ, N => if ok N = true then (match p.put x σ N with
    | some σ1 => match body σ1 N with
      | .nx σ2 N2 => loopN p body ok r σ2 N2
      | .bk σ2 N2 => .nx σ2 N2
      | q => q
    | none => .bad) else .bad
def sFor (it : NI) (p : NP) (body : NS) : NS := fun σ N => (it σ N).stm σ fun t N => loopN p body t.ok t.items σ N
section
variable {X : Cx} {C : NC} {W : WX} {e a b c tg iter : Expr} {body : List Stmt} {pos p : Pos}
theorem s_for {mi : NI} {pt : NP} {mb : NS} (hp : PassesOwn (model X.prog X.w) X.A X.env X.xe) (hc : X.calm = true) (hi : PI X tg iter (tI X.K C W mi)) (hg : PG X tg (tG X.K C pt)) (hb : PSs X body (tS X.K C W mb)) (hf : ∀ (x : Value), foldedSetIterable iter X.env x = pure x := by intro _; rfl) :
    PS X (.For tg iter body [] pos) (tS X.K C W (sFor mi pt mb)) :=
  ps_weak (ps_for hp hc hi hg hb hf) fun D σ H ⟨ρ, σn, N, R, S, q⟩ => PostS.part R S q fun J H1 ρ1 N1 t E1 R1 S1 hJ q1 => by
    refine ⟨fun i m σ H => ∃ ρ σn N, Ext ρ1 H1 ρ H ∧ NRel X.K C ρ N H ∧ RSt X.K ρ H σn σ ∧ i ≤ t.items.length ∧ m = t.items.length - i ∧ PostS X.K C W D ρ H (loopN pt mb t.ok (t.items.drop i) σn N), ⟨_, ρ1, σn, N1, .refl, R1, S1, Nat.zero_le _, rfl, q1⟩, ?_⟩
    intro i m σ2 H2 ⟨ρ2, σn2, N2, E2, R2, S2, hi, hm, q2⟩
    by_cases hlt : i < t.items.length
    · have hd : t.items.drop i = t.items[i] :: t.items.drop (i + 1) := List.drop_eq_getElem_cons hlt
      rw [hd] at q2
      unfold loopN at q2
      split at q2
      · rename_i hok
        have ⟨hJ1, _⟩ := hJ ρ2 H2 N2 E2 R2 hok
        have ⟨hgo, hy⟩ := hJ1 i t.items[i] (List.getElem?_eq_getElem hlt)
        refine .inr ⟨hgo, fun σ3 H3 => ∃ ρ3 σn3 N3, Ext ρ1 H1 ρ3 H3 ∧ NRel X.K C ρ3 N3 H3 ∧ RSt X.K ρ3 H3 σn3 σ3 ∧ PostS X.K C W D ρ3 H3 (loopN pt mb t.ok (t.items.drop (i + 1)) σn3 N3), fun σ3 H3 ⟨ρ3, σn3, N3, E3, R3, S3, q3⟩ => ⟨_, by omega, ρ3, σn3, N3, E3, R3, S3, hlt, rfl, q3⟩, ?_⟩
        intro x H3 hx
        obtain ⟨ρ3, E3, R3, rd⟩ := hy x H3 hx
        refine ⟨ρ3, σn2, N2, _, R3, S2.ext E3, rd, ?_⟩
        split
        · rename_i σn4 hp4
          rw [hp4] at q2
          intro σ4 S4 _
          refine ⟨ρ3, σn4, N2, R3, S4, ?_⟩
          have E13 := E2.trans E3
          cases eb : mb σn4 N2 with
          | nx σ5 N5 =>
            dsimp only at q2
            rw [eb] at q2
            exact fun σ' H' ρ' E' R' S' => ⟨ρ', σ5, N5, E13.trans E', R', S', PostS.ext (E3.trans E') q2⟩
          | rt d N5 => dsimp only at q2; rw [eb] at q2; exact PostS.ext E3 q2
          | bk σ5 N5 => dsimp only at q2; rw [eb] at q2; exact PostS.ext E3 q2
          | exc x σ5 N5 => dsimp only at q2; rw [eb] at q2; exact PostS.ext E3 q2
          | bad => dsimp only at q2; rw [eb] at q2; exact q2
        · rename_i hp4
          rw [hp4] at q2
          exact q2.elim
      · exact q2.elim
    · have hil : i = t.items.length := by omega
      subst hil
      rw [List.drop_length] at q2
      unfold loopN at q2
      split at q2
      · rename_i hok
        have ⟨_, hJ2⟩ := hJ ρ2 H2 N2 E2 R2 hok
        exact .inl ⟨hJ2, q2.nx R2 S2⟩
      · exact q2.elim
end
end NY

set_option Elab.async false
set_option linter.all false
set_option maxRecDepth 100000
set_option maxHeartbeats 4000000
/-! NY9: list comprehensions -/
namespace NY
open PySem PySem.Spec PyProof.Rows L2

def wipeN (σ : NEnv) : List Nat → NEnv
  | [] => σ
  | i :: is => (wipeN σ is).set i none
theorem wipe_len : ∀ (vs : List Nat) (σ : L2.St), (wipe σ vs).length = σ.length
  | [], σ => rfl
  | i :: is, σ => by rw [show wipe σ (i :: is) = (wipe σ is).set i none from rfl, List.length_set, wipe_len is]
theorem wipe_get : ∀ (vs : List Nat) (σ : L2.St) (j : Nat), (wipe σ vs)[j]? = if j ∈ vs ∧ j < σ.length then some none else σ[j]?
  | [], σ, j => by simp [L2.wipe]
  | i :: is, σ, j => by
    rw [show wipe σ (i :: is) = (wipe σ is).set i none from rfl]
    by_cases h2 : i = j
    · subst h2
      by_cases h3 : i < σ.length
      · rw [if_pos ⟨List.mem_cons_self, h3⟩, List.getElem?_set_self (by rw [wipe_len]; exact h3)]
      · rw [if_neg (fun z => h3 z.2), List.getElem?_eq_none (by rw [List.length_set, wipe_len]; omega), List.getElem?_eq_none (by omega)]
    · rw [List.getElem?_set_ne h2, wipe_get is σ j]
      by_cases h1 : j ∈ is
      · by_cases h3 : j < σ.length
        · rw [if_pos ⟨h1, h3⟩, if_pos ⟨List.mem_cons_of_mem _ h1, h3⟩]
        · rw [if_neg (fun z => h3 z.2), if_neg (fun z => h3 z.2)]
      · rw [if_neg (fun z => h1 z.1), if_neg (fun z => by rcases List.mem_cons.mp z.1 with e | e; exact h2 e.symm; exact h1 e)]
theorem wipe_only {vs : List Nat} {σ σ' : L2.St} (h : Only vs (wipe σ vs) σ') : wipe σ' vs = wipe σ vs := by
  apply List.ext_getElem?
  intro j
  have hl : σ'.length = σ.length := h.1.trans (wipe_len vs σ)
  rw [wipe_get, hl]
  by_cases q : j ∈ vs
  · by_cases q2 : j < σ.length
    · rw [if_pos ⟨q, q2⟩, wipe_get, if_pos ⟨q, q2⟩]
    · rw [if_neg (fun z => q2 z.2), List.getElem?_eq_none (by omega), List.getElem?_eq_none (by rw [wipe_len]; omega)]
  · rw [if_neg (fun z => q z.1)]; exact h.2 j q
section
variable {K : PySem.W.Frag} {C : NC} {ρ ρ' : List Addr} {H H' : Hp}
theorem RSt.setNone {σn : NEnv} {σ : L2.St} (S : RSt K ρ H σn σ) (i : Nat) : RSt K ρ H (σn.set i none) (σ.set i none) := by
  refine ⟨by rw [List.length_set, List.length_set]; exact S.1, fun j e h => ?_⟩
  by_cases q : i = j
  · subst q
    by_cases hl : i < σn.length
    · rw [List.getElem?_set_self hl] at h; cases h
    · rw [List.getElem?_eq_none (by rw [List.length_set]; omega)] at h; cases h
  · rw [List.getElem?_set_ne q] at h
    obtain ⟨w, h1, h2⟩ := S.2 j e h
    exact ⟨w, by rw [List.getElem?_set_ne q]; exact h1, h2⟩
theorem RSt.wipe : ∀ (vs : List Nat) {σn : NEnv} {σ : L2.St}, RSt K ρ H σn σ → RSt K ρ H (wipeN σn vs) (L2.wipe σ vs)
  | [], _, _, S => S
  | i :: is, _, _, S => (RSt.wipe is S).setNone i
/-- a list beside the nice objects, that a comprehension fills -/
def Fill (K : PySem.W.Frag) (ρ : List Addr) (H : Hp) (a : Addr) (acc : List D) : Prop := a ∉ ρ ∧ ∃ xs, H a = some (.lst xs) ∧ RDs K ρ H acc xs
theorem Fill.ext {a : Addr} {acc : List D} (e : Ext ρ H ρ' H') (h : Fill K ρ H a acc) : Fill K ρ' H' a acc := by
  obtain ⟨n, xs, h1, h2⟩ := h
  refine ⟨fun m => ?_, xs, e.keep a _ h1 n (fun _ z => nomatch z), h2.ext e⟩
  rw [e.new a m n] at h1; cases h1
theorem Fill.push {a : Addr} {acc : List D} {xs : List V} {N : NH} {ρ0 : List Addr} {H0 : Hp} {y : D} {v : V} (R : NRel K C ρ N H) (n : a ∉ ρ) (h1 : H a = some (.lst xs)) (h2 : RDs K ρ H acc xs) (hy : RD K ρ H y v) (E0 : Ext ρ0 H0 ρ H) (h0 : H0 a = none) :
    Ext ρ0 H0 ρ (upd H a (.lst (xs ++ [v]))) ∧ NRel K C ρ N (upd H a (.lst (xs ++ [v]))) ∧ Fill K ρ (upd H a (.lst (xs ++ [v]))) a (acc ++ [y]) := by
  have hs : Same ρ H (upd H a (.lst (xs ++ [v]))) := Same.lst h1
  refine ⟨⟨E0.pre, E0.new, fun b o hb nb nt => ?_, fun b ps hb => ?_, fun b o w hb => ?_⟩, R.aside h1 n, n, _, upd_same, (RDs.same hs _ h2).append (RDs.one (hy.same hs))⟩
  · rw [upd_ne (ne_of_none hb h0)]; exact E0.keep b o hb nb nt
  · rw [upd_ne (ne_of_none hb h0)]; exact E0.tbl b ps hb
  · rw [upd_ne (ne_of_none hb h0)]; exact E0.frz b o w hb
theorem Fill.new {a : Addr} {N : NH} (R : NRel K C ρ N H) (h : H a = none) : Ext ρ H ρ (upd H a (.lst [])) ∧ NRel K C ρ N (upd H a (.lst [])) ∧ Fill K ρ (upd H a (.lst [])) a [] := by
  obtain ⟨E, R'⟩ := R.side (u := .lst []) h
  exact ⟨E, R', R.fresh h, [], upd_same, rfl⟩
end

/-- a comprehension's row: what follows the list so far -/
def lcLoop (p : NP) (c : NT) (elt : NE) (ok : NH → Bool) (σ0 : NEnv) : List D → List D → NH → R (List D)
  | [], acc, N => if ok N = true then .ok acc N else .bad
  | x :: r, acc, N => if ok N = true then (match p.put x σ0 N with
    | some σ1 => match c σ1 N with
      | .ok true N1 => match elt σ1 N1 with
        | .ok y N2 => if acc.length < sizeLine then lcLoop p c elt ok σ0 r (acc ++ [y]) N2 else .bad
        | _ => .bad
      | .ok false N1 => lcLoop p c elt ok σ0 r acc N1
      | _ => .bad
    | none => .bad) else .bad
def nLc (it : NI) (p : NP) (c : NT) (elt : NE) (vs : List Nat) : NE := fun σ N => (it σ N).bind fun t N => (lcLoop p c elt t.ok (wipeN σ vs) t.items [] N).bind fun l N => N.new (.lst l)
def nYes : NT := fun _ N => .ok true N
theorem pts_weak {X : Cx} {e : List Expr} {t t' : TT} (h : PTs X e t) (w : ∀ σ H Q, t' σ H Q → t σ H Q) : PTs X e t' := ⟨fun pins s σ H Q I q => h.run pins s σ H Q I (w σ H Q q)⟩
section
variable {X : Cx} {C : NC} {W : WX} {elt tg iter tg1 iter1 : Expr} {ifs ifs1 : List Expr} {scope : Scope} {own : List (Str × Nat)} {pos p : Pos} {vs1 : List Nat}
theorem n_noif : PTs X [] (tT X.K C W nYes) := pts_weak pts_nil fun σ H Q ⟨ρ, σn, N, R, S, q⟩ => q true H ρ .refl R rfl
theorem snd_lc {mi : NI} {pt : NP} {mc : NT} {me : NE} {vs : List Nat} {σ : L2.St} {H : Hp} {Q : VK} (hv : ∀ i ∈ pt.is, i ∈ vs) (q : tE X.K C W (nLc mi pt mc me vs) σ H Q) :
    tLc (tI X.K C W mi) (tG X.K C pt) (tT X.K C W0 mc) (tE X.K C W0 me) vs σ H Q := by
  obtain ⟨ρ, σn, N, R, S, q⟩ := q
  refine PostR.then R S q fun J H1 ρ1 N1 t E1 R1 S1 hJ q1 => ?_
  intro Da hDa
  obtain ⟨E2, R2, F2⟩ := Fill.new R1 hDa
  refine ⟨fun i m H => ∃ ρ N acc, Ext ρ1 H1 ρ H ∧ NRel X.K C ρ N H ∧ Fill X.K ρ H Da acc ∧ i ≤ t.items.length ∧ m = t.items.length - i ∧ PostR (RD X.K) X.K C W ρ1 H1 σ Q ((lcLoop pt mc me t.ok (wipeN σn vs) (t.items.drop i) acc N).bind fun l N => N.new (.lst l)), ⟨_, ρ1, N1, [], E2, R2, F2, Nat.zero_le _, rfl, q1⟩, ?_⟩
  intro i m H3 ⟨ρ3, N3, acc, E3, R3, F3, hi, hm, q3⟩
  by_cases hlt : i < t.items.length
  · have hd : t.items.drop i = t.items[i] :: t.items.drop (i + 1) := List.drop_eq_getElem_cons hlt
    rw [hd] at q3
    unfold lcLoop at q3
    by_cases hok : t.ok N3 = true
    · rw [if_pos hok] at q3
      have ⟨hJ1, _⟩ := hJ ρ3 H3 N3 E3 R3 hok
      have ⟨hgo, hy⟩ := hJ1 i t.items[i] (List.getElem?_eq_getElem hlt)
      refine .inr ⟨hgo, fun H4 => ∃ ρ N acc, Ext ρ1 H1 ρ H4 ∧ NRel X.K C ρ N H4 ∧ Fill X.K ρ H4 Da acc ∧ PostR (RD X.K) X.K C W ρ1 H1 σ Q ((lcLoop pt mc me t.ok (wipeN σn vs) (t.items.drop (i + 1)) acc N).bind fun l N => N.new (.lst l)), fun H4 ⟨ρ4, N4, acc4, E4, R4, F4, q4⟩ => ⟨_, by omega, ρ4, N4, acc4, E4, R4, F4, hlt, rfl, q4⟩, ?_⟩
      intro x H4 hx
      obtain ⟨ρ4, E4, R4, rd⟩ := hy x H4 hx
      have E14 := E3.trans E4
      refine ⟨ρ4, wipeN σn vs, N3, _, R4, RSt.wipe vs (S1.ext E14), rd, ?_⟩
      cases hp4 : pt.put t.items[i] (wipeN σn vs) N3 with
      | none => rw [hp4] at q3; exact q3.elim
      | some σ1 =>
        rw [hp4] at q3
        dsimp only at q3 ⊢
        intro σ5 S5 O5
        refine ⟨wipe_only (O5.mono hv), ρ4, σ1, N3, R4, S5, ?_⟩
        cases hc : mc σ1 N3 with
        | exc y N5 => rw [hc] at q3; exact q3.elim
        | bad => rw [hc] at q3; exact q3.elim
        | ok k N5 =>
          rw [hc] at q3
          intro b H5 ρ5 E5 R5 rk
          have rk' : b = k := rk
          subst rk'
          cases b with
          | false =>
            rw [if_neg (by simp)]
            exact ⟨ρ5, N5, acc, E14.trans E5, R5, (F3.ext E4).ext E5, q3⟩
          | true =>
            rw [if_pos rfl]
            refine ⟨ρ5, σ1, N5, R5, S5.ext E5, ?_⟩
            dsimp only at q3
            cases he : me σ1 N5 with
            | exc y N6 => rw [he] at q3; exact q3.elim
            | bad => rw [he] at q3; exact q3.elim
            | ok y N6 =>
              rw [he] at q3
              intro v H6 ρ6 E6 R6 rv
              obtain ⟨n6, xs, h1, h2⟩ := ((F3.ext E4).ext E5).ext E6
              dsimp only at q3
              by_cases hl : acc.length < sizeLine
              · rw [if_pos hl] at q3
                obtain ⟨E7, R7, F7⟩ := Fill.push R6 n6 h1 h2 rv ((E14.trans E5).trans E6) hDa
                exact ⟨xs, h1, by rw [h2.length]; exact hl, ρ6, N6, _, E7, R7, F7, q3⟩
              · rw [if_neg hl] at q3; exact q3.elim
    · rw [if_neg hok] at q3; exact q3.elim
  · have hil : i = t.items.length := by omega
    subst hil
    rw [List.drop_length] at q3
    unfold lcLoop at q3
    by_cases hok : t.ok N3 = true
    · rw [if_pos hok] at q3
      have ⟨_, hJ2⟩ := hJ ρ3 H3 N3 E3 R3 hok
      obtain ⟨n3, xs, h1, h2⟩ := F3
      obtain ⟨E8, R8⟩ := R3.adopt h1 n3 h2 ρ1 H1 E3 hDa
      exact .inl ⟨hJ2, q3 _ H3 _ E8 R8 ⟨Da, rfl, by rw [← R3.len]; exact get_last⟩⟩
    · rw [if_neg hok] at q3; exact q3.elim
theorem n_lc {mi : NI} {pt : NP} {mc : NT} {me : NE} (own : List (Str × Nat)) (hc : X.calm = true) (hN : X.N.Nodup) (ok : BlkOk X.N X.env.scope scope own) (hv : ∀ i ∈ pt.is, i ∈ own.map (fun x => x.2)) (hi : PI X tg iter (tI X.K C W mi))
    (hg : ∀ (s : Shared) (H : Hp) (Cc : Addr) (cl : List (Str × Addr)) (fp : List Addr), PG (X.blk s H scope (compEnvC scope cl Cc X.env) fp) tg (tG X.K C pt))
    (ht : ∀ (s : Shared) (H : Hp) (Cc : Addr) (cl : List (Str × Addr)) (fp : List Addr), PTs (X.blk s H scope (compEnvC scope cl Cc X.env) fp) ifs (tT X.K C W0 mc))
    (he : ∀ (s : Shared) (H : Hp) (Cc : Addr) (cl : List (Str × Addr)) (fp : List Addr), PE (X.blk s H scope (compEnvC scope cl Cc X.env) fp) elt (tE X.K C W0 me))
    (hf : ∀ (x : Value), foldedSetIterable iter X.env x = pure x := by intro _; rfl) : PE X (.ListComp elt [⟨tg, iter, ifs, 0⟩] scope pos) (tE X.K C W (nLc mi pt mc me (own.map fun x => x.2))) :=
  pe_weak (pe_lc hc hN hi ok hg ht he hf) fun σ H Q q => snd_lc hv q
end
end NY

set_option Elab.async false
set_option linter.all false
set_option maxRecDepth 100000
set_option maxHeartbeats 4000000
/-! NY10: defs, methods, classes, the law's end -/
namespace NY
open PySem PySem.Spec PyProof.Rows L2

def nFun (slots : Nat) (m : NS) : NF := fun ds N => match m (ds.map some ++ List.replicate (slots - ds.length) none) N with
  | .nx _ N => .ok .non N
  | .rt d N => .ok d N
  | .exc x _ N => .exc x N
  | _ => .bad
theorem RSt.start {K : PySem.W.Frag} {ρ : List Addr} {H : Hp} {ds : List D} {vs : List V} (Ns : List Str) (r : RDs K ρ H ds vs) : RSt K ρ H (ds.map some ++ List.replicate (Ns.length - ds.length) none) (L2.start Ns vs) := by
  have hl := r.length
  refine ⟨by unfold L2.start; simp [hl], fun i d h => ?_⟩
  by_cases hi : i < ds.length
  · rw [List.getElem?_append_left (by simpa using hi), List.getElem?_map] at h
    obtain ⟨e, h1, h2⟩ := Option.map_eq_some_iff.mp h
    cases h2
    obtain ⟨x, e1, e2⟩ := r.get' h1
    exact ⟨x, by unfold L2.start; rw [List.getElem?_append_left (by simp [hl]; exact hi), List.getElem?_map, e1]; rfl, e2⟩
  · rw [List.getElem?_append_right (by simp; omega)] at h
    have := List.getElem?_eq_some_iff.mp h
    obtain ⟨h1, h2⟩ := this
    rw [List.getElem_replicate] at h2; cases h2

section
variable {P : Program} {w : World} {K : PySem.W.Frag} {mg : Str → Option Value} {base : Heap} {C : NC}
/-- a context that a def's body is walked in -/
structure Go (X : Cx) (W : WX) (k : Nat) : Prop where
  tk : Takes X W
  po : PassesOwn (model X.prog X.w) X.A X.env X.xe
  hr : Room k X.A
theorem Go.px {X : Cx} {W : WX} {k : Nat} (g : Go X W k) : PX X W := NY.px g.tk
theorem Go.room {X : Cx} {W : WX} {k j : Nat} (g : Go X W k) (h : j ≤ k := by decide) : Room j X.A := g.hr.mono h
theorem Go.u1 {X : Cx} {W : WX} {k : Nat} (g : Go X W k) : X.A.units + 1 < cLine := by have := g.hr.un; omega
theorem Go.u64 {X : Cx} {W : WX} {k : Nat} (g : Go X W k) : X.A.units + 64 < cLine := by have := g.hr.un; omega
theorem Go.u65 {X : Cx} {W : WX} {k : Nat} (g : Go X W k) : X.A.units + 65 < cLine := by have := g.hr.un; omega
abbrev WOf (E : XK) : WX := fun c d _ H => E c d H
theorem n_fun {x qual : Str} {st : Stmt} {f : Addr} {fd : FuncData} {Ns ps : List Str} {k n : Nat} {m : NS} (F : L2.Fun K x qual st f fd) (Sc : FnScope Ns ps (defScope st)) (hn : ps.length = n)
    (hb : ∀ (cdv : Value) (A : Around) (outer : List Env) (s : Shared) (H : Hp) (E : XK), Go (cxOf (L2.CX P w) P w K mg base Ns qual (defScope st) f cdv A outer s H E) (WOf E) k → PSs (cxOf (L2.CX P w) P w K mg base Ns qual (defScope st) f cdv A outer s H E) (defBody st) (tS K C (WOf E) m)) :
    FnOk P w K mg base (L2.CX P w) (k + 1) f fd ps (spN K C n (nFun Ns.length m)) := by
  refine F.okX Sc (fun vs H Q E h => by rw [h.1, hn]) fun cdv A outer s H vs Q E hr ⟨hl, ρ, N, ds, R, rs, q⟩ => ?_
  refine ⟨_, hb cdv A outer s H E ⟨takes_of rfl rfl rfl rfl, passes_of rfl, hr⟩, ρ, _, N, R, RSt.start Ns rs, ?_⟩
  unfold nFun at q
  cases e : m (ds.map some ++ List.replicate (Ns.length - ds.length) none) N with
  | nx s1 N1 => rw [e] at q; exact fun σ' H' ρ' E' R' S' => q .non H' ρ' E' R' rfl
  | rt d N1 => rw [e] at q; exact q
  | bk s1 N1 => rw [e] at q; exact q.elim
  | exc x s1 N1 => rw [e] at q; exact fun c dx σ' H' ρ' E' R' S' rx => q c dx H' ρ' E' R' rx
  | bad => rw [e] at q; exact q.elim
/-! ### the law -/
/-- the heap ahead of the law: no nice object yet -/
theorem nrel0 {ρ : List Addr} {H : Hp} (hn : C.names.Nodup) (ht : ∀ P ∈ C.tabs, GxR.TabG H P) : NRel K C [] [] H := ⟨rfl, .nil, hn, (fun n a o h _ => by simp at h), ht⟩
/-- the script as the law gets it: a list that it alone reads, or the first nice object -/
def Scr (N : NH) (d : D) (l : List D) : Prop := (N = [] ∧ d = .lsc l) ∨ (N = [.lst l] ∧ d = .ref 0)
theorem law_sp {m : NF} {H : Hp} {a : Addr} {ns : List Int} (hn : C.names.Nodup) (ht : ∀ P ∈ C.tabs, GxR.TabG H P) (hS : SqL K H a (ns.map V.int))
    (hm : ∀ N d, Scr N d (ns.map .int) → ∃ N', m [d] N = .ok (.bl true) N') : spN K C 1 m [V.ref a] H (fun v _ => v = V.bl true) (fun _ _ _ => False) := by
  have h1 : ∀ (hl : LscAt K [] H a (ns.map V.int)), spN K C 1 m [V.ref a] H (fun v _ => v = V.bl true) (fun _ _ _ => False) := fun hl => by
    refine ⟨rfl, [], [], [.lsc (ns.map .int)], nrel0 (ρ := []) hn ht, ⟨V.ref a, [], rfl, ⟨a, ns.map V.int, rfl, hl, RDs.of_ints ns⟩, rfl⟩, ?_⟩
    obtain ⟨N, hm⟩ := hm [] _ (.inl ⟨rfl, rfl⟩)
    rw [hm]
    exact fun v H' ρ' E R r => r
  rcases hS with (h | ⟨o, h⟩) | h
  · refine ⟨rfl, [a], [.lst (ns.map .int)], [.ref 0], ⟨rfl, by simp, hn, fun n b o hb ho => ?_, ht⟩, ⟨V.ref a, [], rfl, ⟨a, rfl, rfl⟩, rfl⟩, ?_⟩
    · cases n with
      | zero =>
        simp at hb ho
        subst hb ho
        exact ⟨_, h, RDs.of_ints ns⟩
      | succ n => simp at hb
    · obtain ⟨N, hm⟩ := hm _ _ (.inr ⟨rfl, rfl⟩)
      rw [hm]
      exact fun v H' ρ' E R r => r
  · exact h1 (.inl ⟨by simp, o, h⟩)
  · exact h1 (.inr h)
end
end NY

set_option Elab.async false
set_option linter.all false
set_option maxRecDepth 100000
set_option maxHeartbeats 4000000
/-! NY11: isinstance, methods of built-in types -/
namespace NY
open PySem PySem.Spec PyProof.Rows L2

/-! ### isinstance -/
inductive Kd where
  | non | bl | int | str | tup | lst | dic
  deriving DecidableEq
def Kd.nm : Kd → String
  | .non => "NoneType" | .bl => "bool" | .int => "int" | .str => "str" | .tup => "tuple" | .lst => "list" | .dic => "dict"
def isiK : Kd → Kd → Bool
  | .bl, .int => true
  | a, b => decide (a = b)
def kindN (N : NH) : D → Option Kd
  | .non => some .non
  | .bl _ => some .bl
  | .int _ => some .int
  | .str _ => some .str
  | .tup _ | .ctup _ => some .tup
  | .lsc _ => some .lst
  | .ref n => match N[n]? with
    | some (.lst _) => some .lst
    | some (.dK _) | some (.dT _) => some .dic
    | _ => none
def nIsi (T : Kd) (a : NE) : NE := fun σ N => (a σ N).bind fun d N => match kindN N d with | some k => .ok (.bl (isiK k T)) N | none => .bad
section
variable {X : Cx} {C : NC} {W : WX} {e o f : Expr} {es : List Expr} {pos p p2 apos cpos : Pos} {x : Str}
/-! ### methods of lists -/
def fAppend : D → List D → NH → R D
  | .ref n, [y], N => match N[n]? with
    | some (.lst l) => if l.length < sizeLine then .ok .non (N.set n (.lst (l ++ [y]))) else .bad
    | _ => .bad
  | _, _, _ => .bad
def fPopAt : D → List D → NH → R D
  | .ref n, [.int i], N => match N[n]? with
    | some (.lst l) => if -(2 ^ 63) ≤ i ∧ i < 2 ^ 63 then (match seqIndex? i l.length with
      | some k => match l[k]? with
        | some y => .ok y (N.set n (.lst (l.eraseIdx k)))
        | none => .bad
      | none => .bad) else .bad
    | _ => .bad
  | _, _, _ => .bad
theorem PostR.lstSet {K : PySem.W.Frag} {ρ : List Addr} {N : NH} {H : Hp} {σ : L2.St} {n : Nat} {a : Addr} {l' : List D} {xs xs' : List V} {d : D} {v : V} {Q : VK} (R : NRel K C ρ N H) (ha : ρ[n]? = some a) (h1 : H a = some (.lst xs)) (h2 : RDs K ρ H l' xs') (hv : RD K ρ H d v)
    (q : PostR (RD K) K C W ρ H σ Q (.ok d (N.set n (.lst l')))) : Q v (upd H a (.lst xs')) := by
  have hz : ∀ o w, H a ≠ some (.frz o w) := fun _ _ z => by rw [h1] at z; cases z
  have E0 : Ext ρ H ρ (upd H a (.lst xs')) := Ext.write (memOf ha) (fun _ z => by rw [h1] at z; cases z) hz
  obtain ⟨E, R'⟩ := R.write (o' := .lst l') (u := .lst xs') ha hz ⟨_, upd_same, h2.ext E0⟩
  exact q v _ ρ E R' (hv.ext E)
theorem sndAppend {K : PySem.W.Frag} : SndM K C fAppend "list" rAppend := by
  intro W ρ N H σ d ds x xs Q R rd rs q
  unfold fAppend at q
  split at q
  · rename_i n y
    obtain ⟨v, rfl, rv⟩ := rs.one_of
    split at q
    · rename_i l hN
      split at q
      · rename_i hl
        obtain ⟨a, us, rfl, ha, h1, ra⟩ := R.lst rd hN
        exact ⟨a, us, v, rfl, rfl, h1, by rw [ra.length]; exact hl, PostR.lstSet (d := .non) R ha h1 (ra.append (RDs.one rv)) rfl q⟩
      · exact q.elim
    · exact q.elim
  · exact q.elim
/-! ### methods of texts -/
def fSplit : D → List D → NH → R D
  | .str a, [.str b], N => if (b.length == 0) = false ∧ a.length + 2 ≤ sizeLine then N.new (.lst ((Txt.split a b).map .str)) else .bad
  | _, _, _ => .bad
def fJoin : D → List D → NH → R D
  | .str a, [d], N => match (seqN N d).bind strsOf with
    | some ys => if (ys.map (·.length)).sum + ys.length * a.length ≤ 16777216 then .ok (.str (Txt.join a ys)) N else .bad
    | none => .bad
  | _, _, _ => .bad
def fStrip : D → List D → NH → R D
  | .str a, [], N => if a.length ≤ sizeLine then .ok (.str (Txt.strip a)) N else .bad
  | _, _, _ => .bad
def fUpper : D → List D → NH → R D
  | .str a, [], N => if a.length ≤ 5592405 then .ok (.str (Txt.upper a)) N else .bad
  | _, _, _ => .bad
theorem sndSplit {K : PySem.W.Frag} : SndM K C fSplit "str" (fun x xs H Q => ∃ a b, x = .str a ∧ xs = [.str b] ∧ (b.length == 0) = false ∧ a.length + 2 ≤ sizeLine ∧ rNewStrs (Txt.split a b) H Q) := by
  intro W ρ N H σ d ds x xs Q R rd rs q
  unfold fSplit at q
  split at q
  · obtain ⟨v, rfl, rv⟩ := rs.one_of
    split at q
    · rename_i h
      exact ⟨_, _, rd, by rw [show v = _ from rv], h.1, h.2, fun p hp => q.newL R (RDs.of_strs _) hp⟩
    · exact q.elim
  · exact q.elim
theorem sndJoin {K : PySem.W.Frag} : SndM K C fJoin "str" (fun x xs H Q => ∃ a p, ∃ ys : List Str, x = .str a ∧ xs = [.ref p] ∧ (SqL K H p (ys.map V.str) ∨ SqT K H p (ys.map V.str)) ∧ (ys.map (·.length)).sum + ys.length * a.length ≤ 16777216 ∧ Q (.str (Txt.join a ys)) H) := by
  intro W ρ N H σ d ds x xs Q R rd rs q
  unfold fJoin at q
  split at q
  · obtain ⟨v, rfl, rv⟩ := rs.one_of
    split at q
    · rename_i ys hy
      obtain ⟨l, h1, h2⟩ := Option.bind_eq_some_iff.mp hy
      split at q
      · rename_i h
        obtain ⟨a, us, rfl, hs, ra⟩ := seqN_ok R rv h1
        rw [strsOf_eq h2] at ra
        rw [ra.strs] at hs
        exact ⟨_, a, ys, rd, rfl, hs, h, q.ok R rfl⟩
      · exact q.elim
    · exact q.elim
  · exact q.elim
theorem sndUpper {K : PySem.W.Frag} : SndM K C fUpper "str" (fun x xs H Q => ∃ a, x = .str a ∧ xs = [] ∧ a.length ≤ 5592405 ∧ Q (.str (Txt.upper a)) H) := by
  intro W ρ N H σ d ds x xs Q R rd rs q
  unfold fUpper at q
  split at q
  · split at q
    · rename_i h
      exact ⟨_, rd, rs, h, q.ok R rfl⟩
    · exact q.elim
  · exact q.elim
end
end NY

set_option Elab.async false
set_option linter.all false
set_option maxRecDepth 100000
set_option maxHeartbeats 4000000
/-! NY12: dict displays, x = [..] over dicts -/
namespace NY
open PySem PySem.Spec PyProof.Rows L2
section
variable {K : PySem.W.Frag} {C : NC} {ρ : List Addr} {H : Hp}
theorem Same.dK {a : Addr} {u : HO} {l : List (Key × V)} (m : H a = some (.dK l)) : Same ρ H (upd H a u) := fun b _ h => upd_ne (fun z => by
  subst z
  rcases h with ⟨_, h⟩ | ⟨_, _, h⟩
  · rw [m] at h; cases h
  · rw [m] at h; cases h)
theorem NRel.asideD {N : NH} {a : Addr} {l : List (Key × V)} (R : NRel K C ρ N H) (m : H a = some (.dK l)) (n : a ∉ ρ) {u : HO} : NRel K C ρ N (upd H a u) := by
  have E : Same ρ H (upd H a u) := Same.dK m
  refine ⟨R.len, R.nd, R.names, fun k b o hk ho => ?_, fun P hP => ?_⟩
  · exact (R.obj k b o hk ho).same E (upd_ne (fun z => n (z ▸ memOf hk)))
  · obtain ⟨ps, e, t⟩ := R.tab P hP
    exact ⟨ps, by rw [upd_ne (show P ≠ a from fun z => by rw [z, m] at e; cases e)]; exact e, t⟩
/-- a thing beside the nice objects joins them: the values stay what they were -/
theorem RD.lift {a : Addr} {u : HO} (m : H a = some u) (ht : ∀ xs, u ≠ .tup xs) (hz : ∀ o w, u ≠ .frz o w) : (∀ (d : D) (v : V), RD K ρ H d v → RD K (ρ ++ [a]) H d v) ∧ (∀ (d : List D) (v : List V), RDs K ρ H d v → RDs K (ρ ++ [a]) H d v) := by
  have hin : ∀ b w, H b = some w → w ≠ u → b ∉ ρ → b ∉ ρ ++ [a] := fun b w hb hw nb hm => by
    rcases List.mem_append.mp hm with q | q
    · exact nb q
    · rw [List.mem_singleton.mp q, m] at hb; exact hw (Option.some.inj hb).symm
  have hT : ∀ (b : Addr) (ys : List V), TupAt ρ H b ys → TupAt (ρ ++ [a]) H b ys := fun b ys h => ⟨hin b _ h.2 (fun z => ht _ z.symm) h.1, h.2⟩
  have hL : ∀ (b : Addr) (ys : List V), LscAt K ρ H b ys → LscAt K (ρ ++ [a]) H b ys := fun b ys h => by
    rcases h with ⟨n, o, h⟩ | h
    · exact .inl ⟨hin b _ h (fun z => hz _ _ z.symm) n, o, h⟩
    · exact .inr h
  have key : ∀ (d : D) (v : V), RD K ρ H d v → RD K (ρ ++ [a]) H d v := fun d =>
    D.rec (motive_1 := fun d => ∀ v, RD K ρ H d v → RD K (ρ ++ [a]) H d v) (motive_2 := fun ds => ∀ vs, RDs K ρ H ds vs → RDs K (ρ ++ [a]) H ds vs)
      (fun _ h => h) (fun _ _ h => h) (fun _ _ h => h) (fun _ _ h => h)
      (fun ds ih v ⟨b, ys, e, h1, h2⟩ => ⟨b, ys, e, hT b ys h1, ih ys h2⟩)
      (fun ds ih v ⟨b, ys, e, h1, h2⟩ => ⟨b, ys, e, h1, ih ys h2⟩)
      (fun ds ih v ⟨b, ys, e, h1, h2⟩ => ⟨b, ys, e, hL b ys h1, ih ys h2⟩)
      (fun n v ⟨b, e, h⟩ => ⟨b, e, by rw [List.getElem?_append_left (List.getElem?_eq_some_iff.mp h).1]; exact h⟩)
      (fun _ h => h) (fun d ds ih1 ih2 vs ⟨x, r, e, h1, h2⟩ => ⟨x, r, e, ih1 x h1, ih2 r h2⟩) d
  refine ⟨key, fun d => ?_⟩
  induction d with
  | nil => exact fun v h => h
  | cons d ds ih => exact fun v ⟨x, r, e, h1, h2⟩ => ⟨x, r, e, key d x h1, ih r h2⟩
theorem RK.lift {κ : Type} {a : Addr} {u : HO} (m : H a = some u) (ht : ∀ xs, u ≠ .tup xs) (hz : ∀ o w, u ≠ .frz o w) : ∀ (fs : List (κ × D)) (l : List (κ × V)), RK K ρ H fs l → RK K (ρ ++ [a]) H fs l := fun fs => by
  induction fs with
  | nil => exact fun v h => h
  | cons p ds ih => exact fun v ⟨v', s, e, h2, h3⟩ => ⟨v', s, e, (RD.lift m ht hz).1 _ _ h2, ih s h3⟩
theorem NRel.adoptO {N : NH} {a : Addr} {u : HO} {o' : O} (R : NRel K C ρ N H) (m : H a = some u) (ht : ∀ xs, u ≠ .tup xs) (hz : ∀ o w, u ≠ .frz o w) (n : a ∉ ρ) (new : RO K C (ρ ++ [a]) H a o') (ρ0 : List Addr) (H0 : Hp) (E0 : Ext ρ0 H0 ρ H) (h0 : H0 a = none) :
    Ext ρ0 H0 (ρ ++ [a]) H ∧ NRel K C (ρ ++ [a]) (N ++ [o']) H := by
  have rd := RD.lift (K := K) (ρ := ρ) m ht hz
  have rk := fun {κ : Type} => RK.lift (K := K) (ρ := ρ) (κ := κ) m ht hz
  have rf : ∀ (names : List Str) (fs : List (Nat × D)) (l : List (Str × V)), RF K ρ H names fs l → RF K (ρ ++ [a]) H names fs l := fun names fs => by
    induction fs with
    | nil => exact fun v h => h
    | cons p ds ih => exact fun v ⟨x, v', s, e, h1, h2, h3⟩ => ⟨x, v', s, e, h1, rd.1 _ _ h2, ih s h3⟩
  have ro : ∀ (b : Addr) (o : O), RO K C ρ H b o → RO K C (ρ ++ [a]) H b o := fun b o h => by
    cases o with
    | lst ds => obtain ⟨xs, e1, r⟩ := h; exact ⟨xs, e1, rd.2 _ _ r⟩
    | dK _ => obtain ⟨xs, e1, r⟩ := h; exact ⟨xs, e1, rk _ _ r⟩
    | dT _ => obtain ⟨xs, e1, r⟩ := h; exact ⟨xs, e1, rk _ _ r⟩
    | fK _ => obtain ⟨ob, xs, e1, r⟩ := h; exact ⟨ob, xs, e1, rk _ _ r⟩
    | fT _ => obtain ⟨ob, xs, e1, r⟩ := h; exact ⟨ob, xs, e1, rk _ _ r⟩
    | ins _ _ => obtain ⟨dx, xs, e1, r⟩ := h; exact ⟨dx, xs, e1, rf _ _ _ r⟩
  refine ⟨⟨?_, fun b hb nb => ?_, E0.keep, E0.tbl, E0.frz⟩, by simp [R.len], List.nodup_append.mpr ⟨R.nd, by simp, fun x hx y hy z => n (by rw [List.mem_singleton.mp hy] at z; exact z ▸ hx)⟩, R.names, fun k b o hk ho => ?_, R.tab⟩
  · obtain ⟨t, e⟩ := E0.pre
    exact ⟨t ++ [a], by rw [e, List.append_assoc]⟩
  · rcases List.mem_append.mp hb with q | q
    · exact E0.new b q nb
    · rw [List.mem_singleton.mp q]; exact h0
  · by_cases e : k < ρ.length
    · rw [List.getElem?_append_left e] at hk
      rw [List.getElem?_append_left (by have := R.len; omega)] at ho
      exact ro b o (R.obj k b o hk ho)
    · have hk1 := (List.getElem?_eq_some_iff.mp hk).1
      rw [List.length_append, List.length_singleton] at hk1
      have e2 : k = ρ.length := by omega
      subst e2
      rw [List.getElem?_concat_length] at hk
      rw [R.len, List.getElem?_concat_length] at ho
      cases hk; cases ho
      exact new
end
/-! ### dict displays -/
abbrev NPs := NEnv → NH → R (List (Key × D))
def nPsNil : NPs := fun _ N => .ok [] N
def nPsCons (k v : NE) (r : NPs) : NPs := fun σ N => (k σ N).bind fun x N => (v σ N).bind fun y N => (r σ N).bind fun l N => match keyD x with
  | some key => .ok ((key, y) :: l) N
  | none => .bad
def mergeD (kvs more : List (Key × D)) : List (Key × D) := more.foldl (fun acc kv => putD acc kv.1 kv.2) kvs
def nDisp (m : NPs) : NE := fun σ N => (m σ N).bind fun l N => if l.length ≤ 15 then N.new (.dK (mergeD [] l)) else .bad
def relP (K : PySem.W.Frag) (ρ : List Addr) (H : Hp) (kvs : List (Key × D)) (ps : List (V × V)) : Prop := ∃ l : List (Key × V), ps = l.map (fun kv => (kV kv.1, kv.2)) ∧ RK K ρ H kvs l
theorem RK.merge {K : PySem.W.Frag} {ρ : List Addr} {H : Hp} : ∀ {more : List (Key × D)} {l : List (Key × V)} {kvs : List (Key × D)} {l0 : List (Key × V)}, RK K ρ H kvs l0 → RK K ρ H more l → RK K ρ H (mergeD kvs more) (mergeK l0 l)
  | [], _, _, _, h, h' => by cases h'; exact h
  | (k, d) :: r, _, _, _, h, h' => by
    obtain ⟨v, s, rfl, h1, h2⟩ := h'
    exact RK.merge (kvs := putD _ k d) (l0 := putK _ k v) (h.put h1) h2
section
variable {X : Cx} {C : NC} {W : WX} {pos : Pos} {keys : List (Option Expr)} {values : List Expr} {k v : Expr}
def PD (X : Cx) (C : NC) (W : WX) (pos : Pos) (keys : List (Option Expr)) (values : List Expr) (m : NPs) : Prop :=
  ∃ trs, PPs X pos keys values trs ∧ ∀ σ H Q, tR (relP X.K) X.K C W m σ H Q → tPairs trs σ H Q
theorem d_nil : PD X C W pos [] [] nPsNil := ⟨_, pps_nil, fun σ H Q ⟨ρ, σn, N, R, S, q⟩ => q [] H ρ .refl R ⟨[], rfl, rfl⟩⟩
theorem d_cons {mk mv : NE} {m : NPs} (hk : PE X k (tE X.K C W mk)) (hv : PE X v (tE X.K C W mv)) (hr : PD X C W pos keys values m) : PD X C W pos (some k :: keys) (v :: values) (nPsCons mk mv m) := by
  obtain ⟨trs, h1, h2⟩ := hr
  refine ⟨_, pps_cons hk hv h1, fun σ H Q ⟨ρ, σn, N, R, S, q⟩ => ?_⟩
  refine PostR.then R S q fun x H1 ρ1 N1 dx E1 R1 S1 rx q1 => PostR.then R1 S1 q1 fun y H2 ρ2 N2 dy E2 R2 S2 ry q2 => h2 _ _ _ (PostR.then (rel := relP X.K) R2 S2 q2 fun ps H3 ρ3 N3 l E3 R3 S3 rp q3 => ?_)
  obtain ⟨l', rfl, hl⟩ := rp
  split at q3
  · rename_i key hkey
    exact q3 _ H3 ρ3 .refl R3 ⟨(key, y) :: l', by rw [List.map_cons, ← keyD_ok ((rx.ext E2).ext E3) hkey], ⟨y, l', rfl, ry.ext E3, hl⟩⟩
  · exact q3.elim
theorem n_disp {m : NPs} (h : PD X C W pos keys values m) (h1 : (keys.all fun x => x.isSome) = true := by rfl) (h2 : keys.length = values.length := by rfl) (h3 : keys ≠ [] := by exact (fun z => nomatch z)) (h4 : keys.length ≤ 15 := by decide) : PE X (.Dict keys values pos) (tE X.K C W (nDisp m)) := by
  obtain ⟨trs, hp, hw⟩ := h
  refine pe_weak (pe_disp hp h1 h2 h3 h4) fun σ H Q ⟨ρ, σn, N, R, S, q⟩ p hp => ?_
  obtain ⟨E0, R0⟩ := R.side (u := .dK []) hp
  refine hw σ _ _ ⟨ρ, σn, N, R0, S.ext E0, ?_⟩
  have hb : PostR (relP X.K) X.K C W ρ (upd H p (.dK [])) σ _ (m σn N) := ((PostR.bindE (rel := relP X.K) q).ext E0).imp fun _ _ h => h
  unfold nDisp at q
  cases e : m σn N with
  | exc x N' => rw [e] at hb; exact hb
  | bad => rw [e] at hb; exact hb
  | ok l N' =>
    rw [e] at q
    replace q : PostR (RD X.K) X.K C W ρ H σ Q (if l.length ≤ 15 then N'.new (.dK (mergeD [] l)) else .bad) := q
    intro ps H' ρ' E' R' ⟨l', e1, hl⟩
    by_cases hlen : l.length ≤ 15
    · rw [if_pos hlen] at q
      have np : p ∉ ρ' := fun hm => by
        have := E'.new p hm (R.fresh hp)
        rw [upd_same] at this; cases this
      have h2p : H' p = some (.dK []) := E'.keep p _ upd_same (R.fresh hp) (fun _ z => nomatch z)
      refine ⟨h2p, l', e1, by rw [hl.length]; exact hlen, ?_⟩
      have hs : Same ρ' H' (upd H' p (.dK (mergeK [] l'))) := Same.dK h2p
      have R2 := R'.asideD (u := .dK (mergeK [] l')) h2p np
      have hl2 : RK X.K ρ' (upd H' p (.dK (mergeK [] l'))) l l' := RK.same hs _ hl
      have E2 : Ext ρ H ρ' (upd H' p (.dK (mergeK [] l'))) := by
        have E3 := E0.trans E'
        refine ⟨E3.pre, E3.new, fun b o hb nb nt => ?_, fun b ps hb => ?_, fun b o w hb => ?_⟩
        · rw [upd_ne (ne_of_none hb hp)]; exact E3.keep b o hb nb nt
        · rw [upd_ne (ne_of_none hb hp)]; exact E3.tbl b ps hb
        · rw [upd_ne (ne_of_none hb hp)]; exact E3.frz b o w hb
      have hlift := RK.lift (κ := Key) (K := X.K) (ρ := ρ') (H := upd H' p (.dK (mergeK [] l'))) (a := p) upd_same (fun _ z => nomatch z) (fun _ _ z => nomatch z)
      obtain ⟨E4, R4⟩ := R2.adoptO (o' := .dK (mergeD [] l)) upd_same (fun _ z => nomatch z) (fun _ _ z => nomatch z) np ⟨_, upd_same, RK.merge rfl (hlift _ _ hl2)⟩ ρ H E2 hp
      exact q _ _ _ E4 R4 ⟨p, rfl, by rw [← R2.len]; exact get_last⟩
    · rw [if_neg hlen] at q; exact q.elim
end
/-! ### x = [.. for .. in a dict] -/
end NY

set_option Elab.async false
set_option linter.all false
set_option maxRecDepth 100000
set_option maxHeartbeats 4000000
/-! NY13: names of the module -/
namespace NY
open PySem PySem.Spec PyProof.Rows L2
/-- a name of the top holds a plain value -/
def GD (K : PySem.W.Frag) (mg : Str → Option Value) (x : Str) (d : D) : Prop := ∃ u v, mg x = some u ∧ RelV v u ∧ ∀ ρ H, RD K ρ H d v
theorem GD.int {K : PySem.W.Frag} {mg : Str → Option Value} {x : Str} {i : Int} {t : Tok} (h : mg x = some (.int i t)) : GD K mg x (.int i) := ⟨_, .int i, h, ⟨t, rfl⟩, fun _ _ => rfl⟩
theorem GD.str {K : PySem.W.Frag} {mg : Str → Option Value} {x : Str} {i : Str} {t : Tok} (h : mg x = some (.str i t)) : GD K mg x (.str i) := ⟨_, .str i, h, ⟨t, rfl⟩, fun _ _ => rfl⟩
/-- a written tuple of numbers and texts -/
def relC : List D → List Value → Prop
  | [], us => us = []
  | .int i :: ds, us => ∃ t r, us = .int i t :: r ∧ relC ds r
  | .str i :: ds, us => ∃ t r, us = .str i t :: r ∧ relC ds r
  | _ :: _, _ => False
theorem relC_ok {K : PySem.W.Frag} : ∀ {ds : List D} {us : List Value}, relC ds us → ∃ xs, Vals xs us ∧ ∀ ρ H, RDs K ρ H ds xs
  | [], _, h => by
    have e : _ = [] := h
    subst e; exact ⟨[], .nil, fun _ _ => rfl⟩
  | .int i :: ds, _, h => by
    obtain ⟨t, r, rfl, h1⟩ := h
    obtain ⟨xs, e1, e2⟩ := relC_ok (K := K) h1
    exact ⟨.int i :: xs, .cons ⟨t, rfl⟩ e1, fun ρ H => ⟨_, _, rfl, rfl, e2 ρ H⟩⟩
  | .str i :: ds, _, h => by
    obtain ⟨t, r, rfl, h1⟩ := h
    obtain ⟨xs, e1, e2⟩ := relC_ok (K := K) h1
    exact ⟨.str i :: xs, .cons ⟨t, rfl⟩ e1, fun ρ H => ⟨_, _, rfl, rfl, e2 ρ H⟩⟩
  | .non :: _, _, h | .bl _ :: _, _, h | .tup _ :: _, _, h | .ctup _ :: _, _, h | .lsc _ :: _, _, h | .ref _ :: _, _, h => nomatch h
theorem GD.ctup {K : PySem.W.Frag} {mg : Str → Option Value} {x : Str} {a : Addr} {ds : List D} {us : List Value} {dd : Option Addr} {n : Nat} {sl : Array (Option Value)} (h : mg x = some (.ref a)) (hl : K.lookup a = some ⟨.type "tuple", dd, .seq us.toArray n, sl⟩) (hr : relC ds us) (hz : us.length ≤ 1000) : GD K mg x (.ctup ds) := by
  obtain ⟨xs, e1, e2⟩ := relC_ok (K := K) hr
  refine ⟨_, .ref a, h, rfl, fun ρ H => ⟨a, xs, rfl, ⟨_, us.toArray, n, hl, rfl, rfl, ?_, by simpa using e1⟩, e2 ρ H⟩⟩
  have : (1000 : Nat) ≤ sizeLine := by decide
  simp; omega
end NY

set_option Elab.async false
set_option linter.all false
set_option maxRecDepth 100000
set_option maxHeartbeats 4000000
/-! NY14: what holds behind a nice program: plain rules, applied from the goal -/
namespace NY
open PySem PySem.Spec PyProof.Rows L2

abbrev XP := Exn → NH → Prop
abbrev X0 : XP := fun _ _ => False
@[irreducible] def wpR {α : Type} (r : R α) (Q : α → NH → Prop) (E : XP := X0) : Prop := match r with
  | .ok a N => Q a N
  | .exc x N => E x N
  | .bad => False
/-- how a row of statements ends -/
structure En where
  nx : NEnv → NH → Prop
  rt : D → NH → Prop := fun _ _ => False
  bk : NEnv → NH → Prop := fun _ _ => False
  ex : Exn → NEnv → NH → Prop := fun _ _ _ => False
@[irreducible] def wpS (r : RS) (e : En) : Prop := match r with
  | .nx σ N => e.nx σ N
  | .rt d N => e.rt d N
  | .bk σ N => e.bk σ N
  | .exc x σ N => e.ex x σ N
  | .bad => False
theorem wpR.mono {α : Type} {r : R α} {Q Q' : α → NH → Prop} {E E' : XP} (h : wpR r Q E) (hq : ∀ a N, Q a N → Q' a N) (he : ∀ x N, E x N → E' x N) : wpR r Q' E' := by
  with_unfolding_all
    cases r with
    | ok a N => exact hq a N h
    | exc x N => exact he x N h
    | bad => exact h
theorem wpR.ex {α : Type} {r : R α} {Q : α → NH → Prop} (h : wpR r Q) : ∃ a N, r = .ok a N ∧ Q a N := by
  with_unfolding_all
    cases r with
    | ok a N => exact ⟨a, N, rfl, h⟩
    | exc x N => exact h.elim
    | bad => exact h.elim
theorem wpS.mono {r : RS} {e e' : En} (h : wpS r e) (h1 : ∀ σ N, e.nx σ N → e'.nx σ N) (h2 : ∀ d N, e.rt d N → e'.rt d N) (h3 : ∀ σ N, e.bk σ N → e'.bk σ N) (h4 : ∀ x σ N, e.ex x σ N → e'.ex x σ N) : wpS r e' := by
  with_unfolding_all
    cases r with
    | nx s N => exact h1 _ _ h
    | rt d N => exact h2 _ _ h
    | bk s N => exact h3 _ _ h
    | exc x s N => exact h4 _ _ _ h
    | bad => exact h
theorem wp_law {m : NF} {d : D} {N : NH} (h : wpR (m [d] N) fun v _ => v = .bl true) : ∃ N', m [d] N = .ok (.bl true) N' := by
  with_unfolding_all
    obtain ⟨a, N', h1, h2⟩ := h.ex
    exact ⟨N', by rw [h1, h2]⟩
section
variable {α β : Type} {Q : D → NH → Prop} {E : XP} {σ : NEnv} {N : NH} {e : En} {d x y z : D} {i j : Int} {n : Nat} {s t : Str} {l : List D} {a b c : NE} {p q r : NS} {T U : NT} {A B : NA} {f g : D → D → NH → R D}
theorem wp_bind {r : R α} {k : α → NH → R β} {Q : β → NH → Prop} (h : wpR r (fun a N => wpR (k a N) Q E) E) : wpR (r.bind k) Q E := by
  with_unfolding_all
    cases r with
    | ok a N => exact h
    | exc x N => exact h
    | bad => exact h
theorem wp_stm {r : R α} {k : α → NH → RS} (h : wpR r (fun a N => wpS (k a N) e) (fun x N => e.ex x σ N)) : wpS (r.stm σ k) e := by
  with_unfolding_all
    cases r with
    | ok a N => exact h
    | exc x N => exact h
    | bad => exact h
/-! expressions -/
theorem wp_C (h : Q d N) : wpR (nC d σ N) Q E := by with_unfolding_all exact (h)
theorem wp_V (i : Nat) (hd : σ[i]? = some (some d)) (h : Q d N) : wpR (nV i σ N) Q E := by with_unfolding_all (unfold nV; rw [hd]; exact h)
theorem wp_op2 (h : wpR (a σ N) (fun x N => wpR (b σ N) (fun y N => wpR (f x y N) Q E) E) E) : wpR (nOp2 f a b σ N) Q E := by with_unfolding_all exact (wp_bind (h.mono (fun _ _ h => wp_bind h) fun _ _ h => h))
theorem wp_op1 {f : D → NH → R D} (h : wpR (a σ N) (fun x N => wpR (f x N) Q E) E) : wpR (nOp1 f a σ N) Q E := by with_unfolding_all exact (wp_bind h)
theorem wp_bool {Q : Bool → NH → Prop} (h : wpR (a σ N) (fun x N => ∃ b, x = .bl b ∧ Q b N) E) : wpR (nBool a σ N) Q E := by with_unfolding_all exact (wp_bind (h.mono (fun x N ⟨b, e, h⟩ => by subst e; exact h) fun _ _ h => h))
theorem wp_if (h : wpR (T σ N) (fun c N => if c = true then wpR (a σ N) Q E else wpR (b σ N) Q E) E) : wpR (nIf T a b σ N) Q E := by with_unfolding_all exact (wp_bind (h.mono (fun c N h => by split <;> rename_i q <;> simpa [q] using h) fun _ _ h => h))
theorem wp_andT {Q : Bool → NH → Prop} (h : wpR (T σ N) (fun c N => if c = true then wpR (U σ N) Q E else Q false N) E) : wpR (nAndT T U σ N) Q E := by with_unfolding_all exact (wp_bind (h.mono (fun c N h => by split <;> rename_i q <;> simpa [q, wpR] using h) fun _ _ h => h))
theorem wp_orT {Q : Bool → NH → Prop} (h : wpR (T σ N) (fun c N => if c = true then Q true N else wpR (U σ N) Q E) E) : wpR (nOrT T U σ N) Q E := by with_unfolding_all exact (wp_bind (h.mono (fun c N h => by split <;> rename_i q <;> simpa [q, wpR] using h) fun _ _ h => h))
theorem wp_notT {Q : Bool → NH → Prop} (h : wpR (T σ N) (fun c N => Q (!c) N) E) : wpR (nNotT T σ N) Q E := by with_unfolding_all exact (wp_bind h)
theorem wp_and (h : wpR (a σ N) (fun x N => ∃ k, x = .bl k ∧ if k = true then wpR (b σ N) Q E else Q (.bl false) N) E) : wpR (nAnd a b σ N) Q E := by with_unfolding_all exact (wp_bind (h.mono (fun x N ⟨k, e, h⟩ => by subst e; cases k <;> simpa [wpR] using h) fun _ _ h => h))
theorem wp_or (h : wpR (a σ N) (fun x N => ∃ k, x = .bl k ∧ if k = true then Q (.bl true) N else wpR (b σ N) Q E) E) : wpR (nOr a b σ N) Q E := by with_unfolding_all exact (wp_bind (h.mono (fun x N ⟨k, e, h⟩ => by subst e; cases k <;> simpa [wpR] using h) fun _ _ h => h))
theorem wp_not (h : wpR (a σ N) (fun x N => ∃ k, x = .bl k ∧ Q (.bl (!k)) N) E) : wpR (nNot a σ N) Q E := by with_unfolding_all exact (wp_bind (h.mono (fun x N ⟨k, e, h⟩ => by subst e; exact h) fun _ _ h => h))
theorem wp_tru {Q : Bool → NH → Prop} (h : wpR (a σ N) (fun x N => ∃ k, truN N x = some k ∧ Q k N) E) : wpR (nTru a σ N) Q E := by with_unfolding_all exact (wp_bind (h.mono (fun x N ⟨k, e, h⟩ => by rw [e]; exact h) fun _ _ h => h))
theorem wp_chain (h : wpR (a σ N) (fun x N => wpR (b σ N) (fun y N => wpR (f x y N) (fun z N => ∃ k, z = .bl k ∧ if k = true then wpR (c σ N) (fun z N => wpR (g y z N) Q E) E else Q (.bl false) N) E) E) E) : wpR (nChain f g a b c σ N) Q E := by with_unfolding_all exact (wp_bind (h.mono (fun x N h => wp_bind (h.mono (fun y N h => wp_bind (h.mono (fun z N ⟨k, e, h⟩ => by subst e; cases k; exact h; exact wp_bind h) fun _ _ h => h)) fun _ _ h => h)) fun _ _ h => h))
theorem wp_nil {Q : List D → NH → Prop} (h : Q [] N) : wpR (nNil σ N) Q E := by with_unfolding_all exact (h)
theorem wp_cons {Q : List D → NH → Prop} (h : wpR (a σ N) (fun x N => wpR (A σ N) (fun l N => Q (x :: l) N) E) E) : wpR (nCons a A σ N) Q E := by with_unfolding_all exact (wp_bind (h.mono (fun x N h => wp_bind (h.mono (fun _ _ h => h) fun _ _ h => h)) fun _ _ h => h))
theorem wp_call {F : NF} (h : wpR (A σ N) (fun l N => wpR (F l N) Q E) E) : wpR (nCall F A σ N) Q E := by with_unfolding_all exact (wp_bind h)
theorem wp_bm {f : D → List D → NH → R D} {T : String} (h : wpR (a σ N) (fun x N => tyN N T x = true ∧ wpR (A σ N) (fun l N => wpR (f x l N) Q E) E) E) : wpR (nBM T f a A σ N) Q E := by with_unfolding_all exact (wp_bind (h.mono (fun x N ⟨e, h⟩ => by rw [if_pos e]; exact wp_bind h) fun _ _ h => h))
theorem wp_tup (h : wpR (A σ N) (fun l N => l.length ≤ sizeLine ∧ Q (.tup l) N) E) : wpR (nTup A σ N) Q E := by with_unfolding_all exact (wp_bind (h.mono (fun x N ⟨e, h⟩ => by rw [if_pos e]; exact h) fun _ _ h => h))
theorem wp_lst (h : wpR (A σ N) (fun l N => l.length ≤ sizeLine ∧ Q (.ref N.length) (N ++ [.lst l])) E) : wpR (nLst A σ N) Q E := by with_unfolding_all exact (wp_bind (h.mono (fun x N ⟨e, h⟩ => by rw [if_pos e]; exact h) fun _ _ h => h))
theorem wp_dK (h : Q (.ref N.length) (N ++ [.dK []])) : wpR (nDK σ N) Q E := by with_unfolding_all exact (h)
theorem wp_dT (h : Q (.ref N.length) (N ++ [.dT []])) : wpR (nDT σ N) Q E := by with_unfolding_all exact (h)
theorem wp_psNil {Q : List (Key × D) → NH → Prop} (h : Q [] N) : wpR (nPsNil σ N) Q E := by with_unfolding_all exact (h)
theorem wp_psCons {m : NPs} {Q : List (Key × D) → NH → Prop} (h : wpR (a σ N) (fun x N => wpR (b σ N) (fun y N => wpR (m σ N) (fun l N => ∃ k, keyD x = some k ∧ Q ((k, y) :: l) N) E) E) E) : wpR (nPsCons a b m σ N) Q E := by with_unfolding_all exact (wp_bind (h.mono (fun x N h => wp_bind (h.mono (fun y N h => wp_bind (h.mono (fun l N ⟨k, e, h⟩ => by rw [e]; exact h) fun _ _ h => h)) fun _ _ h => h)) fun _ _ h => h))
theorem wp_disp {m : NPs} (h : wpR (m σ N) (fun l N => l.length ≤ 15 ∧ Q (.ref N.length) (N ++ [.dK (mergeD [] l)])) E) : wpR (nDisp m σ N) Q E := by with_unfolding_all exact (wp_bind (h.mono (fun x N ⟨e, h⟩ => by rw [if_pos e]; exact h) fun _ _ h => h))
theorem wp_noPart {Q : Option Int → NH → Prop} (h : Q none N) : wpR (nNoPart σ N) Q E := by with_unfolding_all exact (h)
theorem wp_part {Q : Option Int → NH → Prop} (h : wpR (a σ N) (fun x N => ∃ i, x = .int i ∧ Q (some i) N) E) : wpR (nPart a σ N) Q E := by with_unfolding_all exact (wp_bind (h.mono (fun x N ⟨i, e, h⟩ => by subst e; exact h) fun _ _ h => h))
theorem wp_cut {lo hi : NO} (h : wpR (a σ N) (fun x N => wpR (lo σ N) (fun l N => wpR (hi σ N) (fun u N => wpR (fCut x l u N) Q E) E) E) E) : wpR (nCut a lo hi σ N) Q E := by with_unfolding_all exact (wp_bind (h.mono (fun x N h => wp_bind (h.mono (fun _ _ h => wp_bind h) fun _ _ h => h)) fun _ _ h => h))
theorem wp_isi {k : Kd} (h : wpR (a σ N) (fun x N => ∃ k', kindN N x = some k' ∧ Q (.bl (isiK k' k)) N) E) : wpR (nIsi k a σ N) Q E := by with_unfolding_all exact (wp_bind (h.mono (fun x N ⟨i, e, h⟩ => by rw [e]; exact h) fun _ _ h => h))
theorem wp_fld {cs : List Nat} {f : Nat} (h : wpR (a σ N) (fun x N => ∃ n c fs d, x = .ref n ∧ N[n]? = some (.ins c fs) ∧ c ∈ cs ∧ lookF f fs = some d ∧ Q d N) E) : wpR (nFld cs f a σ N) Q E := by with_unfolding_all exact (wp_bind (h.mono (fun x N ⟨n, c, fs, d, e1, e2, e3, e4, h⟩ => by subst e1; show wpR (match N[n]? with | some (.ins c fs) => _ | _ => _) Q E; rw [e2]; show wpR (if c ∈ cs then _ else _) Q E; rw [if_pos e3]; show wpR (match lookF f fs with | some d => _ | none => _) Q E; rw [e4]; exact h) fun _ _ h => h))
theorem wp_meth {fs : List (Nat × NF)} (h : wpR (a σ N) (fun x N => ∃ n c fl F, x = .ref n ∧ N[n]? = some (.ins c fl) ∧ fs.find? (fun p => decide (p.1 = c)) = some (c, F) ∧ wpR (A σ N) (fun l N => wpR (F (.ref n :: l) N) Q E) E) E) : wpR (nMeth fs a A σ N) Q E := by with_unfolding_all exact (wp_bind (h.mono (fun x N ⟨n, c, fl, F, e1, e2, e3, h⟩ => by subst e1; show wpR (match N[n]? with | some (.ins c _) => _ | _ => _) Q E; rw [e2]; show wpR (match fs.find? (fun p => decide (p.1 = c)) with | some (_, f) => _ | none => _) Q E; rw [e3]; exact wp_bind h) fun _ _ h => h))
theorem wp_make {F : NF} {c : Nat} (h : wpR (A σ N) (fun l N => wpR (F (.ref N.length :: l) (N ++ [.ins c []])) (fun v N' => v = .non ∧ Q (.ref N.length) N') E) E) : wpR (nMake c F A σ N) Q E := by with_unfolding_all exact (wp_bind (h.mono (fun l N h => wp_bind (h.mono (fun v N' ⟨e, h⟩ => by rw [if_pos e]; exact h) fun _ _ h => h)) fun _ _ h => h))
/-! defs -/
theorem wp_fun {m : NS} {ds : List D} {k : Nat} (h : wpS (m (ds.map some ++ List.replicate (k - ds.length) none) N) ⟨fun _ N => Q .non N, Q, fun _ _ => False, fun x _ N => E x N⟩) : wpR (nFun k m ds N) Q E := by
  with_unfolding_all
    unfold nFun
    revert h
    cases m (ds.map some ++ List.replicate (k - ds.length) none) N <;> exact fun h => h
theorem wp_fun1 {m : NS} {k : Nat} (h : wpS (m (some x :: List.replicate k none) N) ⟨fun _ N => Q .non N, Q, fun _ _ => False, fun x _ N => E x N⟩) : wpR (nFun (k + 1) m [x] N) Q E := by with_unfolding_all exact (wp_fun h)
theorem wp_fun2 {m : NS} {k : Nat} (h : wpS (m (some x :: some y :: List.replicate k none) N) ⟨fun _ N => Q .non N, Q, fun _ _ => False, fun x _ N => E x N⟩) : wpR (nFun (k + 2) m [x, y] N) Q E := by with_unfolding_all exact (wp_fun h)
theorem wp_fun3 {m : NS} {k : Nat} (h : wpS (m (some x :: some y :: some z :: List.replicate k none) N) ⟨fun _ N => Q .non N, Q, fun _ _ => False, fun x _ N => E x N⟩) : wpR (nFun (k + 3) m [x, y, z] N) Q E := by with_unfolding_all exact (wp_fun h)
/-! statements -/
theorem wp_seq (h : wpS (p σ N) { e with nx := fun σ N => wpS (q σ N) e }) : wpS (sSeq p q σ N) e := by
  with_unfolding_all
    unfold sSeq
    revert h
    cases p σ N <;> exact fun h => h
theorem wp_pass (h : e.nx σ N) : wpS (sPass σ N) e := by with_unfolding_all exact (h)
theorem wp_ret (h : wpR (a σ N) e.rt (fun x N => e.ex x σ N)) : wpS (sRet a σ N) e := by with_unfolding_all exact (wp_stm h)
theorem wp_expr (h : wpR (a σ N) (fun _ N => e.nx σ N) (fun x N => e.ex x σ N)) : wpS (sExpr a σ N) e := by with_unfolding_all exact (wp_stm h)
theorem wp_asg (n : Nat) (h : wpR (a σ N) (fun d N => e.nx (σ.set n (some d)) N) (fun x N => e.ex x σ N)) : wpS (sAsg a (pName n) σ N) e := by with_unfolding_all exact (wp_stm (h.mono (fun _ _ h => h) fun _ _ h => h))
theorem wp_asgT {is : List Nat} (h : wpR (a σ N) (fun d N => ∃ l, seqN N d = some l ∧ l.length = is.length ∧ e.nx (setAll is l σ) N) (fun x N => e.ex x σ N)) : wpS (sAsg a (pTup is) σ N) e := by with_unfolding_all exact (wp_stm (h.mono (fun d N ⟨l, e1, e2, h⟩ => by
    have : (pTup is).put d σ N = some (setAll is l σ) := by unfold pTup; simp [e1, e2]
    rw [this]; exact h) fun _ _ h => h))
theorem wp_sif (h : wpR (T σ N) (fun c N => if c = true then wpS (p σ N) e else wpS (q σ N) e) (fun x N => e.ex x σ N)) : wpS (sIf T p q σ N) e := by with_unfolding_all exact (wp_stm (h.mono (fun c N h => by split <;> rename_i q <;> simpa [q] using h) fun _ _ h => h))
theorem wp_put (h : wpR (c σ N) (fun v N => wpR (a σ N) (fun o N => wpR (b σ N) (fun i N => ∃ N', putIx N o i v = some N' ∧ e.nx σ N') (fun x N => e.ex x σ N)) (fun x N => e.ex x σ N)) (fun x N => e.ex x σ N)) : wpS (sPut a b c σ N) e := by with_unfolding_all exact (wp_stm (h.mono (fun v N h => wp_stm (h.mono (fun o N h => wp_stm (h.mono (fun i N ⟨N', e1, h⟩ => by rw [e1]; exact h) fun _ _ h => h)) fun _ _ h => h)) fun _ _ h => h))
theorem wp_fldput {cs : List Nat} {f : Nat} (h : wpR (b σ N) (fun v N => wpR (a σ N) (fun o N => ∃ n c fs, o = .ref n ∧ N[n]? = some (.ins c fs) ∧ c ∈ cs ∧ fs.length < 1000 ∧ e.nx σ (N.set n (.ins c (putFD f v fs)))) (fun x N => e.ex x σ N)) (fun x N => e.ex x σ N)) : wpS (sFldPut cs f a b σ N) e := by with_unfolding_all exact (wp_stm (h.mono (fun v N h => wp_stm (h.mono (fun o N ⟨n, c, fs, e1, e2, e3, e4, h⟩ => by subst e1; show wpS (match N[n]? with | some (.ins c fs) => _ | _ => _) e; rw [e2]; show wpS (if c ∈ cs ∧ fs.length < 1000 then _ else _) e; rw [if_pos ⟨e3, e4⟩]; exact h) fun _ _ h => h)) fun _ _ h => h))
theorem wp_for {it : NI} {pt : NP} (h : wpR (it σ N) (fun t N => wpS (loopN pt p t.ok t.items σ N) e) (fun x N => e.ex x σ N)) : wpS (sFor it pt p σ N) e := by with_unfolding_all exact (wp_stm h)
theorem wp_it {Q : NIt → NH → Prop} (h : wpR (a σ N) (fun d N => ∃ t, itOf N d = some t ∧ Q t N) E) : wpR (iSeq a σ N) Q E := by with_unfolding_all exact (wp_bind (h.mono (fun d N ⟨t, e1, h⟩ => by rw [e1]; exact h) fun _ _ h => h))
theorem wp_rng1 {Q : NIt → NH → Prop} (h : wpR (A σ N) (fun l N => ∃ j, l = [.int j] ∧ -(2 ^ 62) ≤ j ∧ j < 2 ^ 62 ∧ Q ⟨(List.range j.toNat).map fun (i : Nat) => .int (i : Int), fun _ => true⟩ N) E) : wpR (iRng A σ N) Q E := by with_unfolding_all exact (wp_bind (h.mono (fun l N ⟨j, e1, e2, e3, h⟩ => by subst e1; show wpR (if _ ∧ _ then _ else _) Q E; rw [if_pos ⟨e2, e3⟩]; exact h) fun _ _ h => h))
/-- a loop's invariant -/
theorem wp_loop (I : Nat → NEnv → NH → Prop) {pt : NP} {ok : NH → Bool} {l : List D} (h0 : I 0 σ N) (hok : ∀ i σ N, I i σ N → ok N = true)
    (hs : ∀ i x σ N, l[i]? = some x → I i σ N → ∃ σ1, pt.put x σ N = some σ1 ∧ wpS (p σ1 N) ⟨I (i + 1), e.rt, e.nx, e.ex⟩) (he : ∀ σ N, I l.length σ N → e.nx σ N) : wpS (loopN pt p ok l σ N) e := by
  with_unfolding_all
    have key : ∀ (r : List D) (i : Nat) (σ : NEnv) (N : NH), l.drop i = r → i ≤ l.length → I i σ N → wpS (loopN pt p ok r σ N) e := by
      intro r
      induction r with
      | nil =>
        intro i σ N hd hi h
        have : i = l.length := by
          have := congrArg List.length hd
          simp at this; omega
        subst this
        unfold loopN
        rw [if_pos (hok _ _ _ h)]
        exact he σ N h
      | cons x r ih =>
        intro i σ N hd hi h
        have hx : l[i]? = some x := by
          have := congrArg (·[0]?) hd
          simpa using this
        have hd2 : l.drop (i + 1) = r := by
          have := congrArg List.tail hd
          simpa using this
        have hi2 : i + 1 ≤ l.length := (List.getElem?_eq_some_iff.mp hx).1
        obtain ⟨σ1, h1, h2⟩ := hs i x σ N hx h
        unfold loopN
        rw [if_pos (hok _ _ _ h), h1]
        dsimp only
        revert h2
        cases p σ1 N with
        | nx σ2 N2 => exact fun h2 => ih (i + 1) σ2 N2 hd2 hi2 h2
        | rt d N2 => exact fun h2 => h2
        | bk σ2 N2 => exact fun h2 => h2
        | exc x σ2 N2 => exact fun h2 => h2
        | bad => exact fun h2 => h2
    exact key l 0 σ N rfl (Nat.zero_le _) h0
theorem wp_lc {it : NI} {pt : NP} {me : NE} {vs : List Nat} (h : wpR (it σ N) (fun t N => wpR (lcLoop pt T me t.ok (wipeN σ vs) t.items [] N) (fun l N => Q (.ref N.length) (N ++ [.lst l])) E) E) : wpR (nLc it pt T me vs σ N) Q E := by with_unfolding_all exact (wp_bind (h.mono (fun t N h => wp_bind h) fun _ _ h => h))
theorem wp_lcLoop (I : Nat → List D → NH → Prop) {pt : NP} {ok : NH → Bool} {l : List D} {me : NE} {Q : List D → NH → Prop} (h0 : I 0 [] N) (hok : ∀ i acc N, I i acc N → ok N = true ∧ acc.length < sizeLine)
    (hs : ∀ i x acc N, l[i]? = some x → I i acc N → ∃ σ1, pt.put x σ N = some σ1 ∧ wpR (T σ1 N) (fun k N => if k = true then wpR (me σ1 N) (fun y N => I (i + 1) (acc ++ [y]) N) else I (i + 1) acc N)) (he : ∀ acc N, I l.length acc N → Q acc N) : wpR (lcLoop pt T me ok σ l [] N) Q E := by
  with_unfolding_all
    have key : ∀ (r : List D) (i : Nat) (acc : List D) (N : NH), l.drop i = r → i ≤ l.length → I i acc N → wpR (lcLoop pt T me ok σ r acc N) Q E := by
      intro r
      induction r with
      | nil =>
        intro i acc N hd hi h
        have : i = l.length := by
          have := congrArg List.length hd
          simp at this; omega
        subst this
        unfold lcLoop
        rw [if_pos (hok _ _ _ h).1]
        exact he acc N h
      | cons x r ih =>
        intro i acc N hd hi h
        have hx : l[i]? = some x := by
          have := congrArg (·[0]?) hd
          simpa using this
        have hd2 : l.drop (i + 1) = r := by
          have := congrArg List.tail hd
          simpa using this
        have hi2 : i + 1 ≤ l.length := (List.getElem?_eq_some_iff.mp hx).1
        obtain ⟨σ1, h1, h2⟩ := hs i x acc N hx h
        unfold lcLoop
        rw [if_pos (hok _ _ _ h).1, h1]
        dsimp only
        revert h2
        cases T σ1 N with
        | exc x N2 => exact fun h2 => h2.elim
        | bad => exact fun h2 => h2.elim
        | ok k N2 =>
          cases k with
          | false => exact fun h2 => ih (i + 1) acc N2 hd2 hi2 h2
          | true =>
            intro h2
            replace h2 : wpR (me σ1 N2) (fun y N => I (i + 1) (acc ++ [y]) N) := h2
            dsimp only
            revert h2
            cases me σ1 N2 with
            | exc x N3 => exact fun h2 => h2.elim
            | bad => exact fun h2 => h2.elim
            | ok y N3 =>
              intro h2
              dsimp only
              rw [if_pos (hok _ _ _ h).2]
              exact ih (i + 1) _ N3 hd2 hi2 h2
    exact key l 0 [] N rfl (Nat.zero_le _) h0
/-! values -/
theorem wp_addI (h : Q (.int (i + j)) N) : wpR (fAdd (.int i) (.int j) N) Q E := by with_unfolding_all exact (h)
theorem wp_addS (hl : s.length + t.length ≤ sizeLine) (h : Q (.str (s ++ t)) N) : wpR (fAdd (.str s) (.str t) N) Q E := by with_unfolding_all (show wpR (if s.length + t.length ≤ sizeLine then _ else _) Q E; rw [if_pos hl]; exact h)
theorem wp_subI (h : Q (.int (i - j)) N) : wpR (fSub (.int i) (.int j) N) Q E := by with_unfolding_all exact (h)
theorem wp_mulI (hc : CMul i j) (h : Q (.int (i * j)) N) : wpR (fMul (.int i) (.int j) N) Q E := by with_unfolding_all (show wpR (if CMul i j then _ else _) Q E; rw [if_pos hc]; exact h)
theorem wp_divI (hc : CDivW i j) (h : Q (.int (i / j)) N) : wpR (fDiv (.int i) (.int j) N) Q E := by with_unfolding_all (show wpR (if CDivW i j then _ else _) Q E; rw [if_pos hc]; exact h)
theorem wp_modI (hc : 0 < j) (h : Q (.int (i % j)) N) : wpR (fMod (.int i) (.int j) N) Q E := by with_unfolding_all (show wpR (if 0 < j then _ else _) Q E; rw [if_pos hc]; exact h)
theorem wp_powI (hc : CPow i j) (h : Q (.int (i ^ j.toNat)) N) : wpR (fPow (.int i) (.int j) N) Q E := by with_unfolding_all (show wpR (if CPow i j then _ else _) Q E; rw [if_pos hc]; exact h)
theorem wp_negI (h : Q (.int (-i)) N) : wpR (fNeg (.int i) N) Q E := by with_unfolding_all exact (h)
theorem wp_ltI (h : Q (.bl (decide (i < j))) N) : wpR (fLt (.int i) (.int j) N) Q E := by with_unfolding_all exact (h)
theorem wp_leI (h : Q (.bl (decide (i ≤ j))) N) : wpR (fLe (.int i) (.int j) N) Q E := by with_unfolding_all exact (h)
theorem wp_gtI (h : Q (.bl (decide (j < i))) N) : wpR (fGt (.int i) (.int j) N) Q E := by with_unfolding_all exact (h)
theorem wp_geI (h : Q (.bl (decide (j ≤ i))) N) : wpR (fGe (.int i) (.int j) N) Q E := by with_unfolding_all exact (h)
theorem wp_ne {k : Bool} (hk : eqN N x y = some k) (h : Q (.bl (!k)) N) : wpR (fNe x y N) Q E := by with_unfolding_all (unfold fNe; rw [hk]; exact h)
theorem wp_in {k : Bool} (hk : inN N x y = some k) (h : Q (.bl k) N) : wpR (fIn x y N) Q E := by with_unfolding_all (unfold fIn; rw [hk]; exact h)
theorem wp_get (hk : getIx N x y = some d) (h : Q d N) : wpR (fGet x y N) Q E := by with_unfolding_all (unfold fGet; rw [hk]; exact h)
theorem wp_intI (h : Q (.int i) N) : wpR (fInt [.int i] N) Q E := by with_unfolding_all exact (h)
theorem wp_len (hk : lenN N x = some i) (h : Q (.int i) N) : wpR (fLen [x] N) Q E := by with_unfolding_all (show wpR (match lenN N x with | some i => _ | none => _) Q E; rw [hk]; exact h)
theorem wp_abs (h : Q (.int (if i < 0 then -i else i)) N) : wpR (fAbs [.int i] N) Q E := by with_unfolding_all exact (h)
theorem wp_list (hk : seqN N x = some l) (h : Q (.ref N.length) (N ++ [.lst l])) : wpR (fList [x] N) Q E := by with_unfolding_all (show wpR (match seqN N x with | some l => _ | none => _) Q E; rw [hk]; exact h)
theorem wp_tupleR {n : Nat} (hk : lstN N (.ref n) = some l) (h : Q (.tup l) N) : wpR (fTuple [.ref n] N) Q E := by
  with_unfolding_all
    show wpR (match lstN N (.ref n) with | some l => _ | none => _) Q E
    rw [hk]; exact h
theorem wp_append (hk : N[n]? = some (.lst l)) (hl : l.length < sizeLine) (h : Q .non (N.set n (.lst (l ++ [y])))) : wpR (fAppend (.ref n) [y] N) Q E := by
  with_unfolding_all
    show wpR (match N[n]? with | some (.lst l) => _ | _ => _) Q E
    rw [hk]
    show wpR (if l.length < sizeLine then _ else _) Q E
    rw [if_pos hl]; exact h
end
end NY

set_option Elab.async false
set_option linter.all false
set_option maxRecDepth 100000
set_option maxHeartbeats 4000000
/-! NY15: rules that look into the heap, rules that write -/
namespace NY
open PySem PySem.Spec PyProof.Rows L2
theorem fr_set {N : NH} {n : Nat} {o : O} : ∀ (m : Nat) (o' : O), m ≠ n → N[m]? = some o' → (N.set n o)[m]? = some o' := fun m o' h e => by rw [List.getElem?_set_ne h.symm]; exact e
theorem set_at {N : NH} {n : Nat} {o o' : O} (h : N[n]? = some o') : (N.set n o)[n]? = some o := List.getElem?_set_self (List.getElem?_eq_some_iff.mp h).1
theorem new_at {N : NH} {o : O} : (N ++ [o])[N.length]? = some o := List.getElem?_concat_length ..
theorem new_fr {N : NH} {o : O} : ∀ (m : Nat) (o' : O), N[m]? = some o' → (N ++ [o])[m]? = some o' := fun m o' e => by rw [List.getElem?_append_left (List.getElem?_eq_some_iff.mp e).1]; exact e
theorem new_none {N : NH} : N[N.length]? = none := List.getElem?_eq_none (Nat.le_refl _)
section
variable {Q : D → NH → Prop} {E : XP} {σ : NEnv} {N : NH} {e : En} {d x y z : D} {i j : Int} {n k : Nat} {s t : Str} {l l' : List D} {a b c : NE} {A : NA}
theorem wp_getL (h : N[n]? = some (.lst l)) (hi : atD l i = some d) (hq : Q d N) : wpR (fGet (.ref n) (.int i) N) Q E := wp_get (by unfold getIx; simp [h, hi]) hq
theorem wp_getT (hi : atD l i = some d) (hq : Q d N) : wpR (fGet (.tup l) (.int i) N) Q E := wp_get (by unfold getIx; simp [hi]) hq
theorem wp_lenL (h : N[n]? = some (.lst l)) (hq : Q (.int (l.length : Nat)) N) : wpR (fLen [.ref n] N) Q E := wp_len (i := (l.length : Nat)) (by unfold lenN; simp [h]) hq
theorem wp_lenT (hq : Q (.int (l.length : Nat)) N) : wpR (fLen [.tup l] N) Q E := wp_len (i := (l.length : Nat)) rfl hq
theorem wp_mulR (hj : -2 ^ 64 < j ∧ j < 2 ^ 64) (hq : Q (.int (i * j)) N) : wpR (fMul (.int i) (.int j) N) Q E := wp_mulI (.inr hj) hq
theorem wp_mulL (hj : -2 ^ 64 < i ∧ i < 2 ^ 64) (hq : Q (.int (i * j)) N) : wpR (fMul (.int i) (.int j) N) Q E := wp_mulI (.inl hj) hq
theorem ifT {c : Bool} {A B : Prop} (h : c = true) (ha : A) : if c = true then A else B := by rw [if_pos h]; exact ha
theorem ifF {c : Bool} {A B : Prop} (h : c = false) (hb : B) : if c = true then A else B := by rw [if_neg (by rw [h]; exact Bool.false_ne_true)]; exact hb
theorem wp_eqI (h : Q (.bl (decide (i = j))) N) : wpR (fEq (.int i) (.int j) N) Q E := by with_unfolding_all exact (h)
theorem wp_neI (h : Q (.bl (!decide (i = j))) N) : wpR (fNe (.int i) (.int j) N) Q E := by with_unfolding_all exact (h)
theorem wp_eqS (h : Q (.bl (decide (s = t))) N) : wpR (fEq (.str s) (.str t) N) Q E := by with_unfolding_all exact (h)
theorem wp_neS (h : Q (.bl (!decide (s = t))) N) : wpR (fNe (.str s) (.str t) N) Q E := by with_unfolding_all exact (h)
theorem wp_isN (h : Q (.bl (decide (d = .non))) N) : wpR (fIs d .non N) Q E := by
  with_unfolding_all
    have : fIs d .non N = .ok (.bl (decide (d = .non))) N := by unfold fIs; cases d <;> rfl
    rw [this]; exact h
theorem wp_isNotN (h : Q (.bl (!decide (d = .non))) N) : wpR (fIsNot d .non N) Q E := by
  with_unfolding_all
    have : fIsNot d .non N = .ok (.bl (!decide (d = .non))) N := by unfold fIsNot; cases d <;> rfl
    rw [this]; exact h
theorem wp_isN0 (h : Q (.bl true) N) : wpR (fIs .non .non N) Q E := wp_isN (by simpa using h)
theorem wp_isNotN0 (h : Q (.bl false) N) : wpR (fIsNot .non .non N) Q E := wp_isNotN (by simpa using h)
theorem wp_isNI (h : Q (.bl false) N) : wpR (fIs (.int i) .non N) Q E := wp_isN (by simpa using h)
theorem wp_isNotNI (h : Q (.bl true) N) : wpR (fIsNot (.int i) .non N) Q E := wp_isNotN (by simpa using h)
theorem wp_isNS (h : Q (.bl false) N) : wpR (fIs (.str s) .non N) Q E := wp_isN (by simpa using h)
theorem wp_isNotNS (h : Q (.bl true) N) : wpR (fIsNot (.str s) .non N) Q E := wp_isNotN (by simpa using h)
theorem wp_isNT (h : Q (.bl false) N) : wpR (fIs (.tup l) .non N) Q E := wp_isN (by simpa using h)
theorem wp_isNotNT (h : Q (.bl true) N) : wpR (fIsNot (.tup l) .non N) Q E := wp_isNotN (by simpa using h)
theorem wp_isNR (h : Q (.bl false) N) : wpR (fIs (.ref n) .non N) Q E := wp_isN (by simpa using h)
theorem wp_isNotNR (h : Q (.bl true) N) : wpR (fIsNot (.ref n) .non N) Q E := wp_isNotN (by simpa using h)
theorem atD_int {l : List Int} (h0 : 0 ≤ i) (h1 : i < l.length) : atD (l.map .int) i = some (.int (l.getD i.toNat 0)) := by
  unfold atD ixN
  rw [List.length_map, if_pos h0, if_pos h1]
  have : i.toNat < l.length := by omega
  simp [List.getElem?_eq_getElem this, List.getD_eq_getElem?_getD]
theorem atD_map {α : Type} {f : α → D} {l : List α} {y : α} (h0 : 0 ≤ i) (h1 : l[i.toNat]? = some y) : atD (l.map f) i = some (f y) := by
  have hl := (List.getElem?_eq_some_iff.mp h1).1
  unfold atD ixN
  rw [List.length_map, if_pos h0, if_pos (by omega)]
  simp [h1]
theorem wp_getTI {l : List Int} (h0 : 0 ≤ i) (h1 : i < l.length) (hq : Q (.int (l.getD i.toNat 0)) N) : wpR (fGet (.tup (l.map .int)) (.int i) N) Q E := wp_getT (atD_int h0 h1) hq
theorem le_size {n : Nat} (h : n ≤ 1000000) : n ≤ sizeLine := Nat.le_trans h (by decide)
theorem lt_size {n : Nat} (h : n ≤ 1000000) : n < sizeLine := Nat.lt_of_le_of_lt h (by decide)
theorem ex_refL {K : Nat → List D → Prop} (h : N[n]? = some (.lst l)) (hk : K n l) : ∃ (m : Nat) (l' : List D), D.ref n = .ref m ∧ N[m]? = some (.lst l') ∧ K m l' := ⟨n, l, rfl, h, hk⟩
theorem ex_bl {K : Bool → Prop} {k : Bool} (hk : K k) : ∃ b, D.bl k = .bl b ∧ K b := ⟨k, rfl, hk⟩
theorem ex_int {K : Int → Prop} (hk : K i) : ∃ j, D.int i = .int j ∧ K j := ⟨i, rfl, hk⟩
theorem ex_str {K : Str → Prop} (hk : K s) : ∃ t, D.str s = .str t ∧ K t := ⟨s, rfl, hk⟩
theorem ex_tup {K : List D → Prop} {k : Nat} (hl : l.length = k) (hk : K l) : ∃ l', seqN N (.tup l) = some l' ∧ l'.length = k ∧ K l' := ⟨l, rfl, hl, hk⟩
theorem ex_tru {K : Bool → Prop} {k : Bool} (hk : K k) : ∃ b, truN N (.bl k) = some b ∧ K b := ⟨k, rfl, hk⟩
theorem ex_kd0 {K : Kd → Prop} (hk : K .non) : ∃ q, kindN N .non = some q ∧ K q := ⟨_, rfl, hk⟩
theorem ex_kdB {K : Kd → Prop} {k : Bool} (hk : K .bl) : ∃ q, kindN N (.bl k) = some q ∧ K q := ⟨_, rfl, hk⟩
theorem ex_kdI {K : Kd → Prop} (hk : K .int) : ∃ q, kindN N (.int i) = some q ∧ K q := ⟨_, rfl, hk⟩
theorem ex_kdS {K : Kd → Prop} (hk : K .str) : ∃ q, kindN N (.str s) = some q ∧ K q := ⟨_, rfl, hk⟩
theorem ex_kdT {K : Kd → Prop} (hk : K .tup) : ∃ q, kindN N (.tup l) = some q ∧ K q := ⟨_, rfl, hk⟩
theorem ex_kdL {K : Kd → Prop} (h : N[n]? = some (.lst l)) (hk : K .lst) : ∃ q, kindN N (.ref n) = some q ∧ K q := ⟨.lst, by simp [kindN, h], hk⟩
theorem ex_kdD {K : Kd → Prop} {kvs : List (Key × D)} (h : N[n]? = some (.dK kvs)) (hk : K .dic) : ∃ q, kindN N (.ref n) = some q ∧ K q := ⟨.dic, by simp [kindN, h], hk⟩
theorem and_size {P : Prop} {k : Nat} (h : k ≤ sizeLine) (hp : P) : k ≤ sizeLine ∧ P := ⟨h, hp⟩
theorem ex_fld {K : Nat → Nat → List (Nat × D) → D → Prop} {c f : Nat} {cs : List Nat} {fs : List (Nat × D)} (h : N[n]? = some (.ins c fs)) (hc : c ∈ cs) (hf : lookF f fs = some d) (hk : K n c fs d) : ∃ m c fs d, D.ref n = .ref m ∧ N[m]? = some (.ins c fs) ∧ c ∈ cs ∧ lookF f fs = some d ∧ K m c fs d := ⟨n, c, fs, d, rfl, h, hc, hf, hk⟩
theorem wp_getKS {kvs : List (Key × D)} (h : N[n]? = some (.dK kvs)) (hv : valD kvs (Sum.inr s : Key) = some d) (hq : Q d N) : wpR (fGet (.ref n) (.str s) N) Q E := wp_get (by unfold getIx; simp [h, getN, keyD, hv]) hq
theorem wp_divL (hj : 0 < j ∧ j.natAbs.log2 < 9000) (hq : Q (.int (i / j)) N) : wpR (fDiv (.int i) (.int j) N) Q E := wp_divI hj hq
theorem wp_catT (h0 : l.length + l'.length ≤ sizeLine) (hq : Q (.tup (l ++ l')) N) : wpR (fAdd (.tup l) (.tup l') N) Q E := by
  with_unfolding_all
    show wpR (if l.length + l'.length ≤ sizeLine then _ else _) Q E
    rw [if_pos h0]
    exact hq
theorem wp_cutT {lo hi : Option Int} (hq : Q (.tup (cutD l lo hi)) N) : wpR (fCut (.tup l) lo hi N) Q E := by with_unfolding_all exact (hq)
theorem wp_bmL {f : D → List D → NH → R D} (h : wpR (a σ N) (fun x N => ∃ (n : Nat) (l : List D), x = .ref n ∧ N[n]? = some (.lst l) ∧ wpR (A σ N) (fun l N => wpR (f (.ref n) l N) Q E) E) E) : wpR (nBM "list" f a A σ N) Q E :=
  wp_bm (h.mono (fun x N ⟨n, l, e1, e2, h⟩ => by subst e1; exact ⟨by simp [tyN, e2], h⟩) fun _ _ h => h)
theorem wp_bmS {f : D → List D → NH → R D} (h : wpR (a σ N) (fun x N => ∃ s, x = .str s ∧ wpR (A σ N) (fun l N => wpR (f (.str s) l N) Q E) E) E) : wpR (nBM "str" f a A σ N) Q E :=
  wp_bm (h.mono (fun x N ⟨s, e1, h⟩ => by subst e1; exact ⟨by simp [tyN], h⟩) fun _ _ h => h)
end
end NY

set_option Elab.async false
set_option linter.all false
set_option maxRecDepth 100000
set_option maxHeartbeats 4000000
/-! NY16: dicts walked, sorted, sums -/
namespace NY
open PySem PySem.Spec PyProof.Rows L2
section
variable {Q : D → NH → Prop} {E : XP} {σ : NEnv} {N : NH} {e : En} {d x y z : D} {i j : Int} {n k : Nat} {s t : Str} {l l' : List D} {a b c : NE} {A : NA} {T : NT} {me : NE} {pt : NP} {vs : List Nat}
theorem wp_sumL {ns : List Int} (h : N[n]? = some (.lst (ns.map .int))) (hq : Q (.int ns.sum) N) : wpR (fSum [.ref n] N) Q E := by
  have e : fSum [.ref n] N = .ok (.int ns.sum) N := by
    show (match (lstN N (.ref n)).bind intsOf with | some ns => _ | none => _) = _
    have : lstN N (.ref n) = some (ns.map .int) := by simp [lstN, h]
    rw [this, Option.bind_some, intsOf_map]
  rw [e]
  with_unfolding_all exact hq
end
end NY

set_option Elab.async false
set_option linter.all false
set_option maxRecDepth 100000
set_option maxHeartbeats 4000000
/-! NYG1: all(..), any(..) of a generator expression whose element may call: its frame, its turns -/
namespace NY
open PySem PySem.Spec PyProof.Rows L2 GxR

end NY

set_option Elab.async false
set_option linter.all false
set_option maxRecDepth 100000
set_option maxHeartbeats 4000000
/-! NYG2: the turns of a generator expression, its consumer -/
namespace NY
open PySem PySem.Spec PyProof.Rows L2 GxR

section
variable {X : Cx} {scope : Scope} {x : Str} {fr : List (Str × Nat)} {C : Addr} {code : Value} {A A0 : Around} {s4 : Shared} {H4 : Hp} {fp : List Addr} {pn : List (Addr × Obj)} {elt iter : Expr} {px pos : Pos} {J : It} {it : Addr} {tn : Nat → Heap → Prop} {te : TE} {vs : List (Option V)}
  {W : Nat → Nat → Hp → Prop} {Q : Bool → Hp → Prop} {any : Bool}
end
end NY

set_option Elab.async false
set_option linter.all false
set_option maxRecDepth 100000
set_option maxHeartbeats 4000000
/-! NYG3: all(..), any(..) of a generator expression: the consumer, the rule -/
namespace NY
open PySem PySem.Spec PyProof.Rows L2 GxR GenW

end NY

set_option Elab.async false
set_option linter.all false
set_option maxRecDepth 100000
set_option maxHeartbeats 4000000
/-! NYG4: the rule for all(..), any(..) of a generator expression -/
namespace NY
open PySem PySem.Spec PyProof.Rows L2 GxR GenW
end NY

set_option Elab.async false
set_option linter.all false
set_option maxRecDepth 100000
set_option maxHeartbeats 4000000
/-! NYG5: all(..), any(..) over nice programs; defs with a table; the end of a law's row with tables -/
namespace NY
open PySem PySem.Spec PyProof.Rows L2 GxR


/-- the end of a law's row, with the top -/
theorem n_walkT {l : PySem.W.OpenLaw} {q : Program} {loose : List Str} {XP : (Str → Option Value) → Heap → Prop} {YP : World → Heap → Prop} {d : DefRec} {Kw : Params → PySem.W.Frag} {x : Str} (k : Nat) (m : NF) (hn : l.most = some 63) (hdf : d.params.defaults = []) (hr : Room k callerA)
    (hY : ∀ (w : World) (h : Heap), YP w h → (Kw w.params).In h)
    (F : ∀ (w : World) (mg mb : Str → Option Value) (fa : Addr) (h : Heap) (mean : ExcName → Option Value), YP w h → (Kw w.params).In h → Top q (PySem.W.looseW q loose) mean mg mb h → h.Ns mainGlobals mg → mg d.name = some (.ref fa) →
      ∃ (C : NC) (cs : List (Addr × Addr)) (fd : FuncData), C.names.Nodup ∧ C.tabs = cs.map (fun p => p.2) ∧ (∀ p ∈ cs, h.get? p.2 = some { cls := Value.none, data := Data.fields #[] }) ∧ (∀ p ∈ cs, (Kw w.params).lookup p.2 = none) ∧ (∀ p ∈ cs, PySem.W.CodeHd h p.1 p.2) ∧
        (∀ (s : Shared) (u : Value), BindsTo s fd { pos := [u] } [(x, u)]) ∧ ∀ (base : Heap), (Kw w.params).In base → base.Ns mainGlobals mg → (∀ p ∈ cs, LamX.TabB base mg p.1 p.2) → FnOk l.prog w (Kw w.params) mg base (L2.CX l.prog w) k fa fd [x] (spN (Kw w.params) C 1 m))
    (hm : ∀ (ns : List Int), ns.length ≤ 63 → (∀ z ∈ ns, Builtin.Int.intBits z ≤ 1048576) → ∀ N d, Scr N d (ns.map .int) → ∃ N', m [d] N = .ok (.bl true) N') :
    PySem.W.WalkO q loose XP YP l.row.toRowW d [] (fun f vs => PySem.call f vs) := by
  refine Att.attach_callB hn hdf fun w s₀ s₁ mg mb fa o pm cd doc a vs ns G Y ho hd hcd hmg hobj hints hlen hbits hg => ?_
  have KX := hY w _ Y
  obtain ⟨C, cs, fd, h1, h2, h3, h4, h5, h6, h7⟩ := F w mg mb fa _ _ Y KX G.T G.T.g hmg
  exact LamX.law_callTs KX G.T.g G.T.b G.T.builtins G.T.nolimit hg h3 h4 h5 G.T.bmain hobj hints (Nat.le_trans hlen (by decide)) hr h7 h6 (fun H hH hS => by
    refine law_sp h1 (fun P hP => ?_) hS (hm ns hlen hbits)
    rw [h2] at hP
    obtain ⟨p, hp, rfl⟩ := List.mem_map.mp hP
    exact ⟨#[], hH p hp, trivial⟩) fun H e s' z => by
      obtain ⟨_, _, _, _, _, _, _, _, _, _, _, _, z⟩ := z
      exact z
end NY

set_option Elab.async false
set_option linter.all false
set_option maxRecDepth 100000
set_option maxHeartbeats 4000000
/-! NYG6: what is never reached; scopes of generator expressions, checked; raise -/
namespace NY
open PySem PySem.Spec PyProof.Rows L2 GxR


/-! ### defs called by another name -/
structure DefA (K : PySem.W.Frag) (mg : Str → Option Value) (g x : Str) (st : Stmt) (ps : List Str) : Prop where
  ex : ∃ (f : Addr) (fd : FuncData), mg g = some (.ref f) ∧ L2.Fun K x x st f fd ∧ L2.Binds K fd ps []
section
variable {P : Program} {w : World} {K : PySem.W.Frag} {mg : Str → Option Value} {base : Heap} {C : NC}
theorem n_defA {g x : Str} {st : Stmt} {Ns ps : List Str} {k n : Nat} {m : NS} (F : DefA K mg g x st ps) (Sc : FnScope Ns ps (defScope st)) (hn : ps.length = n)
    (hb : ∀ (f : Addr) (cdv : Value) (A : Around) (outer : List Env) (s : Shared) (H : Hp) (E : XK), Go (cxOf (L2.CX P w) P w K mg base Ns x (defScope st) f cdv A outer s H E) (WOf E) k → PSs (cxOf (L2.CX P w) P w K mg base Ns x (defScope st) f cdv A outer s H E) (defBody st) (tS K C (WOf E) m)) :
    FunN P w K mg base C (k + 1) g n (nFun Ns.length m) := by
  obtain ⟨f, fd, h1, h2, h3⟩ := F.ex
  exact ⟨f, fd, ps, h1, h2.kp, h3, n_fun h2 Sc hn (hb f)⟩
end
end NY

set_option Elab.async false
set_option linter.all false
set_option maxRecDepth 100000
set_option maxHeartbeats 4000000
/-! NYS1: the nice heap by parts: what stands where, apart from each other; what is not named may be anything -/
namespace NY
open PySem PySem.Spec PyProof.Rows L2

abbrev PH := Nat → Option O
def PH.le (h h' : PH) : Prop := ∀ a o, h a = some o → h' a = some o
def PH.dj (h h' : PH) : Prop := ∀ a, h a = none ∨ h' a = none
def HP := PH → Prop
/-- the object at a -/
def pt (a : Nat) (o : O) : HP := fun h => h a = some o
def emp : HP := fun _ => True
def star (P Q : HP) : HP := fun h => ∃ h1 h2, PH.dj h1 h2 ∧ PH.le h1 h ∧ PH.le h2 h ∧ P h1 ∧ Q h2
def exH {α : Type} (P : α → HP) : HP := fun h => ∃ x, P x h
/-- a plain fact and a part -/
def andP (p : Prop) (P : HP) : HP := fun h => p ∧ P h
def Sat : List HP → PH → Prop
  | [], _ => True
  | P :: L, h => ∃ h1 h2, PH.dj h1 h2 ∧ PH.le h1 h ∧ PH.le h2 h ∧ P h1 ∧ Sat L h2
/-- these parts stand in the heap, apart -/
def At (N : NH) (L : List HP) : Prop := Sat L fun a => N[a]?
theorem PH.le.refl (h : PH) : PH.le h h := fun _ _ e => e
theorem PH.le.trans {a b c : PH} (x : PH.le a b) (y : PH.le b c) : PH.le a c := fun _ _ e => y _ _ (x _ _ e)
theorem PH.dj.symm {a b : PH} (x : PH.dj a b) : PH.dj b a := fun i => (x i).symm
theorem PH.dj.mono {a b a' b' : PH} (x : PH.dj a b) (h1 : PH.le a' a) (h2 : PH.le b' b) : PH.dj a' b' := fun i => by
  rcases x i with h | h
  · left
    cases e : a' i with
    | none => rfl
    | some o => rw [h1 i o e] at h; cases h
  · right
    cases e : b' i with
    | none => rfl
    | some o => rw [h2 i o e] at h; cases h
def PH.un (a b : PH) : PH := fun i => match a i with | some o => some o | none => b i
theorem PH.un_l (a b : PH) : PH.le a (PH.un a b) := fun i o e => by simp [PH.un, e]
theorem PH.un_r {a b : PH} (d : PH.dj a b) : PH.le b (PH.un a b) := fun i o e => by
  rcases d i with h | h
  · simp [PH.un, h, e]
  · rw [h] at e; cases e
theorem PH.un_le {a b c : PH} (h1 : PH.le a c) (h2 : PH.le b c) : PH.le (PH.un a b) c := fun i o e => by
  unfold PH.un at e
  cases q : a i with
  | none => rw [q] at e; exact h2 i o e
  | some u => rw [q] at e; cases e; exact h1 i _ q
theorem PH.dj_un {a b c : PH} (h1 : PH.dj a c) (h2 : PH.dj b c) : PH.dj (PH.un a b) c := fun i => by
  rcases h1 i with x | x
  · rcases h2 i with y | y
    · left; simp [PH.un, x, y]
    · exact .inr y
  · exact .inr x
theorem Sat.mono : ∀ {L : List HP} {h h' : PH}, PH.le h h' → Sat L h → Sat L h'
  | [], _, _, _, _ => trivial
  | _ :: _, _, _, l, ⟨h1, h2, d, l1, l2, p, q⟩ => ⟨h1, h2, d, l1.trans l, l2.trans l, p, q⟩
theorem Sat.swap {P Q : HP} {L : List HP} {h : PH} (x : Sat (P :: Q :: L) h) : Sat (Q :: P :: L) h := by
  obtain ⟨h1, h2, d, l1, l2, p, g1, g2, d', m1, m2, q, r⟩ := x
  refine ⟨g1, PH.un h1 g2, ?_, m1.trans l2, PH.un_le l1 (m2.trans l2), q, h1, g2, d.mono (PH.le.refl _) m2, PH.un_l _ _, PH.un_r (d.mono (PH.le.refl _) m2), p, r⟩
  exact (PH.dj_un (d.mono (PH.le.refl _) m1) d'.symm).symm
theorem Sat.cons {P : HP} {L L' : List HP} {h : PH} (f : ∀ g, Sat L g → Sat L' g) (x : Sat (P :: L) h) : Sat (P :: L') h := by
  obtain ⟨h1, h2, d, l1, l2, p, q⟩ := x
  exact ⟨h1, h2, d, l1, l2, p, f _ q⟩
theorem Sat.tail {P : HP} {L : List HP} {h : PH} (x : Sat (P :: L) h) : Sat L h := by
  obtain ⟨h1, h2, d, l1, l2, p, q⟩ := x
  exact q.mono l2
/-- a part taken out: the rest is R -/
inductive Pick : List HP → HP → List HP → Prop
  | head {P : HP} {L : List HP} : Pick (P :: L) P L
  | tail {P Q : HP} {L R : List HP} : Pick L P R → Pick (Q :: L) P (Q :: R)
theorem Pick.sat {L : List HP} {P : HP} {R : List HP} (x : Pick L P R) : ∀ {h : PH}, Sat L h → Sat (P :: R) h := by
  induction x with
  | head => exact fun s => s
  | tail _ ih => exact fun s => (s.cons fun _ q => ih q).swap
theorem At.pick {N : NH} {L R : List HP} {P : HP} (H : At N L) (x : Pick L P R) : At N (P :: R) := x.sat H
/-- some of them, in their order -/
inductive Sub : List HP → List HP → Prop
  | refl {L : List HP} : Sub L L
  | drop {L L' : List HP} {P : HP} : Sub L L' → Sub (P :: L) L'
theorem Sub.sat {L L' : List HP} (x : Sub L L') : ∀ {h : PH}, Sat L h → Sat L' h := by
  induction x with
  | refl => exact fun s => s
  | drop _ ih => exact fun s => ih s.tail
/-- all of these -/
inductive Covers : List HP → List HP → Prop
  | nil {L : List HP} : Covers L []
  | cons {L R Ps : List HP} {P : HP} : Pick L P R → Covers R Ps → Covers L (P :: Ps)
  | sub {L L' : List HP} : Sub L L' → Covers L L'
theorem Covers.sat {L L' : List HP} (x : Covers L L') : ∀ {h : PH}, Sat L h → Sat L' h := by
  induction x with
  | nil => exact fun _ => trivial
  | cons p _ ih => exact fun s => (p.sat s).cons fun _ q => ih q
  | sub p => exact fun s => p.sat s
theorem At.cover {N : NH} {L L' : List HP} (H : At N L) (x : Covers L L') : At N L' := x.sat H
theorem At.get {N : NH} {L R : List HP} {a : Nat} {o : O} (H : At N L) (x : Pick L (pt a o) R) : N[a]? = some o := by
  obtain ⟨h1, h2, d, l1, l2, p, q⟩ := H.pick x
  exact l1 a o p
theorem At.nil {N : NH} : At N [] := trivial
/-- a heap that goes on -/
theorem At.ext {N N' : NH} {L : List HP} (H : At N L) (h : ∀ (m : Nat) (o : O), N[m]? = some o → N'[m]? = some o) : At N' L := Sat.mono h H
def PH.one (a : Nat) (o : O) : PH := fun i => if i = a then some o else none
theorem PH.one_ne {a i : Nat} {o : O} (h : i ≠ a) : PH.one a o i = none := if_neg h
theorem PH.one_eq {a : Nat} {o : O} : PH.one a o a = some o := if_pos rfl
/-- a new object -/
theorem At.new {N : NH} {L : List HP} {o : O} (H : At N L) : At (N ++ [o]) (pt N.length o :: L) := by
  refine ⟨PH.one N.length o, fun i => N[i]?, fun i => ?_, fun i u e => ?_, fun i u e => new_fr i u e, PH.one_eq, H⟩
  · by_cases h : i = N.length
    · right; rw [h]; exact new_none
    · left; exact PH.one_ne h
  · by_cases h : i = N.length
    · rw [h, PH.one_eq] at e; cases e; rw [h]; exact new_at
    · rw [PH.one_ne h] at e; cases e
/-- an object written -/
theorem At.set {N : NH} {L : List HP} {a : Nat} {o o' : O} (H : At N (pt a o :: L)) : At (N.set a o') (pt a o' :: L) := by
  obtain ⟨h1, h2, d, l1, l2, p, q⟩ := H
  have ha := l1 a o p
  have h2a : h2 a = none := by
    rcases d a with x | x
    · rw [show h1 a = some o from p] at x; cases x
    · exact x
  refine ⟨PH.one a o', h2, fun i => ?_, fun i u e => ?_, fun i u e => ?_, PH.one_eq, q⟩
  · by_cases h : i = a
    · right; rw [h]; exact h2a
    · left; exact PH.one_ne h
  · by_cases h : i = a
    · rw [h, PH.one_eq] at e; cases e; rw [h]; exact set_at ha
    · rw [PH.one_ne h] at e; cases e
  · have h : i ≠ a := fun z => by rw [z, h2a] at e; cases e
    exact fr_set i u h (l2 i u e)
theorem At.put {N : NH} {L R : List HP} {a : Nat} {o o' : O} (H : At N L) (x : Pick L (pt a o) R) : At (N.set a o') (pt a o' :: R) := (H.pick x).set
/-! parts of parts -/
theorem At.unstar {N : NH} {P Q : HP} {L : List HP} (H : At N (star P Q :: L)) : At N (P :: Q :: L) := by
  obtain ⟨h1, h2, d, l1, l2, ⟨g1, g2, d', m1, m2, p, q⟩, r⟩ := H
  exact ⟨g1, PH.un g2 h2, (PH.dj_un d'.symm (d.mono m1 (PH.le.refl _)).symm).symm, m1.trans l1, PH.un_le (m2.trans l1) l2, p, g2, h2, d.mono m2 (PH.le.refl _), PH.un_l _ _, PH.un_r (d.mono m2 (PH.le.refl _)), q, r⟩
theorem At.star {N : NH} {P Q : HP} {L : List HP} (H : At N (P :: Q :: L)) : At N (star P Q :: L) := by
  obtain ⟨h1, h2, d, l1, l2, p, g1, g2, d', m1, m2, q, r⟩ := H
  refine ⟨PH.un h1 g1, g2, PH.dj_un (d.mono (PH.le.refl _) m2) d', PH.un_le l1 (m1.trans l2), m2.trans l2, ?_, r⟩
  exact ⟨h1, g1, d.mono (PH.le.refl _) m1, PH.un_l _ _, PH.un_r (d.mono (PH.le.refl _) m1), p, q⟩
theorem At.unex {N : NH} {α : Type} {P : α → HP} {L : List HP} (H : At N (exH P :: L)) : ∃ x, At N (P x :: L) := by
  obtain ⟨h1, h2, d, l1, l2, ⟨x, p⟩, q⟩ := H
  exact ⟨x, h1, h2, d, l1, l2, p, q⟩
theorem At.ex {N : NH} {α : Type} {P : α → HP} {L : List HP} (x : α) (H : At N (P x :: L)) : At N (exH P :: L) := by
  obtain ⟨h1, h2, d, l1, l2, p, q⟩ := H
  exact ⟨h1, h2, d, l1, l2, ⟨x, p⟩, q⟩
theorem At.unand {N : NH} {p : Prop} {P : HP} {L : List HP} (H : At N (andP p P :: L)) : p ∧ At N (P :: L) := by
  obtain ⟨h1, h2, d, l1, l2, ⟨p, q⟩, r⟩ := H
  exact ⟨p, h1, h2, d, l1, l2, q, r⟩
theorem At.and {N : NH} {p : Prop} {P : HP} {L : List HP} (hp : p) (H : At N (P :: L)) : At N (andP p P :: L) := by
  obtain ⟨h1, h2, d, l1, l2, q, r⟩ := H
  exact ⟨h1, h2, d, l1, l2, ⟨hp, q⟩, r⟩
theorem At.drop {N : NH} {P : HP} {L : List HP} (H : At N (P :: L)) : At N L := Sat.tail H
/-- parts by a list -/
def allH {α : Type} (P : α → HP) : List α → HP
  | [] => emp
  | x :: r => star (P x) (allH P r)

section
variable {Q : D → NH → Prop} {E : XP} {σ : NEnv} {N : NH} {e : En} {d x y z : D} {i j : Int} {n k : Nat} {s t : Str} {l l' : List D} {a b c : NE} {A : NA} {L R R2 : List HP}
/-! ### rules -/
theorem ex_at {K : List HP → Prop} (H : At N L) (h : K L) : ∃ L, At N L ∧ K L := ⟨L, H, h⟩
theorem sl_lst (h : wpR (A σ N) (fun l N => l.length ≤ sizeLine ∧ ∃ L, At N L ∧ ∀ (k : Nat) (N' : NH), At N' (pt k (.lst l) :: L) → Q (.ref k) N') E) : wpR (nLst A σ N) Q E :=
  wp_lst (h.mono (fun l N ⟨h1, L, H, h2⟩ => ⟨h1, h2 _ _ H.new⟩) fun _ _ h => h)
theorem sl_list (hk : seqN N x = some l) (H : At N L) (h : ∀ (k : Nat) (N' : NH), At N' (pt k (.lst l) :: L) → Q (.ref k) N') : wpR (fList [x] N) Q E := wp_list hk (h _ _ H.new)
theorem sl_dK (H : At N L) (h : ∀ (k : Nat) (N' : NH), At N' (pt k (.dK []) :: L) → Q (.ref k) N') : wpR (nDK σ N) Q E := wp_dK (h _ _ H.new)
theorem sl_dT (H : At N L) (h : ∀ (k : Nat) (N' : NH), At N' (pt k (.dT []) :: L) → Q (.ref k) N') : wpR (nDT σ N) Q E := wp_dT (h _ _ H.new)
theorem sl_disp {m : NPs} (h : wpR (m σ N) (fun l N => l.length ≤ 15 ∧ ∃ L, At N L ∧ ∀ (k : Nat) (N' : NH), At N' (pt k (.dK (mergeD [] l)) :: L) → Q (.ref k) N') E) : wpR (nDisp m σ N) Q E :=
  wp_disp (h.mono (fun l N ⟨h1, L, H, h2⟩ => ⟨h1, h2 _ _ H.new⟩) fun _ _ h => h)
theorem sl_lc {it : NI} {pt' : NP} {T : NT} {me : NE} {vs : List Nat} (h : wpR (it σ N) (fun t N => wpR (lcLoop pt' T me t.ok (wipeN σ vs) t.items [] N) (fun l N => ∃ L, At N L ∧ ∀ (k : Nat) (N' : NH), At N' (pt k (.lst l) :: L) → Q (.ref k) N') E) E) : wpR (nLc it pt' T me vs σ N) Q E :=
  wp_lc (h.mono (fun t N h => h.mono (fun l N ⟨L, H, h⟩ => h _ _ H.new) fun _ _ h => h) fun _ _ h => h)
theorem sl_cutL {lo hi : Option Int} (H : At N L) (hp : Pick L (pt n (.lst l)) R) (hq : ∀ (k : Nat) (N' : NH), At N' (pt k (.lst (NY.cutD l lo hi)) :: L) → Q (.ref k) N') : wpR (fCut (.ref n) lo hi N) Q E := by
  have e : fCut (.ref n) lo hi N = N.new (.lst (NY.cutD l lo hi)) := by unfold fCut; simp [H.get hp]
  rw [e]
  with_unfolding_all exact hq _ _ H.new
theorem sl_repL (H : At N L) (hp : Pick L (pt n (.lst l)) R) (h0 : 0 ≤ i ∧ i < 1000000 ∧ l.length * i.toNat ≤ sizeLine) (hq : ∀ (k : Nat) (N' : NH), At N' (pt k (.lst (List.replicate i.toNat l).flatten) :: L) → Q (.ref k) N') : wpR (fMul (.ref n) (.int i) N) Q E := by
  have h := H.get hp
  with_unfolding_all
    show wpR (match N[n]? with | some (.lst x) => _ | _ => _) Q E
    rw [h]
    show wpR (if 0 ≤ i ∧ i < 1000000 ∧ l.length * i.toNat ≤ sizeLine then _ else _) Q E
    rw [if_pos h0]
    exact hq _ _ H.new
theorem sl_catL {m : Nat} (H : At N L) (hp : Pick L (pt n (.lst l)) R) (hp2 : Pick L (pt m (.lst l')) R2) (hl : l.length + l'.length ≤ sizeLine) (hq : ∀ (k : Nat) (N' : NH), At N' (pt k (.lst (l ++ l')) :: L) → Q (.ref k) N') : wpR (fAdd (.ref n) (.ref m) N) Q E := by
  have e : fAdd (.ref n) (.ref m) N = N.new (.lst (l ++ l')) := by
    show (match N[n]?, N[m]? with | some (.lst x), some (.lst y) => if x.length + y.length ≤ sizeLine then N.new (.lst (x ++ y)) else .bad | _, _ => .bad) = _
    rw [H.get hp, H.get hp2]
    exact if_pos hl
  rw [e]
  with_unfolding_all exact hq _ _ H.new
theorem sl_app (H : At N L) (hp : Pick L (pt n (.lst l)) R) (hl : l.length < sizeLine) (hq : ∀ (N' : NH), At N' (pt n (.lst (l ++ [y])) :: R) → Q .non N') : wpR (fAppend (.ref n) [y] N) Q E :=
  wp_append (H.get hp) hl (hq _ (H.put hp))
theorem sl_pop0 (H : At N L) (hp : Pick L (pt n (.lst (y :: l))) R) (hq : ∀ (N' : NH), At N' (pt n (.lst l) :: R) → Q y N') : wpR (fPopAt (.ref n) [.int 0] N) Q E := by
  have h := H.get hp
  with_unfolding_all
    show wpR (match N[n]? with | some (.lst l) => _ | _ => _) Q E
    rw [h]
    have e : seqIndex? 0 (y :: l).length = some 0 := by unfold seqIndex?; simp
    show wpR (if -(2 ^ 63) ≤ (0 : Int) ∧ (0 : Int) < 2 ^ 63 then (match seqIndex? 0 (y :: l).length with | some k => _ | none => _) else _) Q E
    rw [if_pos (by decide), e]
    exact hq _ (H.put hp)
/-- o[i] = v of a list, d[k] = v of a dict -/
def PutAt (N : NH) (o i v : D) (K : NH → Prop) : Prop := ∃ N', putIx N o i v = some N' ∧ K N'
theorem sl_put (h : wpR (c σ N) (fun v N => wpR (a σ N) (fun o N => wpR (b σ N) (fun i N => PutAt N o i v (e.nx σ)) (fun x N => e.ex x σ N)) (fun x N => e.ex x σ N)) (fun x N => e.ex x σ N)) : wpS (sPut a b c σ N) e := wp_put h
theorem put_L {K : NH → Prop} {v : D} {j : Nat} (H : At N L) (hp : Pick L (pt n (.lst l)) R) (hj : ixN l.length i = some j) (hq : ∀ N', At N' (pt n (.lst (l.set j v)) :: R) → K N') : PutAt N (.ref n) (.int i) v K :=
  ⟨_, by simp [putIx, H.get hp, hj], hq _ (H.put hp)⟩
theorem put_K {K : NH → Prop} {v : D} {kvs : List (Key × D)} {k : Key} {i' : D} (H : At N L) (hp : Pick L (pt n (.dK kvs)) R) (hk : keyD i' = some k) (hl : kvs.length < sizeLine) (hq : ∀ N', At N' (pt n (.dK (putD kvs k v)) :: R) → K N') : PutAt N (.ref n) i' v K :=
  ⟨_, by simp [putIx, H.get hp, hl, hk], hq _ (H.put hp)⟩
theorem sl_fldput {cs : List Nat} {f : Nat} (h : wpR (b σ N) (fun v N => wpR (a σ N) (fun o N => ∃ n c fs L R, o = .ref n ∧ At N L ∧ Pick L (pt n (.ins c fs)) R ∧ c ∈ cs ∧ fs.length < 1000 ∧ ∀ N', At N' (pt n (.ins c (putFD f v fs)) :: R) → e.nx σ N') (fun x N => e.ex x σ N)) (fun x N => e.ex x σ N)) : wpS (sFldPut cs f a b σ N) e :=
  wp_fldput (h.mono (fun v N h => h.mono (fun o N ⟨n, c, fs, L, R, e1, H, hp, e3, e4, h⟩ => ⟨n, c, fs, e1, H.get hp, e3, e4, h _ (H.put hp)⟩) fun _ _ h => h) fun _ _ h => h)
theorem ex_fldput {K : Nat → Nat → List (Nat × D) → List HP → Prop} {c : Nat} {cs : List Nat} {fs : List (Nat × D)} (H : At N L) (hp : Pick L (pt n (.ins c fs)) R) (hc : c ∈ cs) (hl : fs.length < 1000) (hk : K n c fs R) :
    ∃ m c fs L R, D.ref n = .ref m ∧ At N L ∧ Pick L (pt m (.ins c fs)) R ∧ c ∈ cs ∧ fs.length < 1000 ∧ K m c fs R := ⟨n, c, fs, L, R, rfl, H, hp, hc, hl, hk⟩
theorem sl_make {F : NF} {c : Nat} (h : wpR (A σ N) (fun l N => ∃ L, At N L ∧ ∀ k N', At N' (pt k (.ins c []) :: L) → wpR (F (.ref k :: l) N') (fun v N' => v = .non ∧ Q (.ref k) N') E) E) : wpR (nMake c F A σ N) Q E :=
  wp_make (h.mono (fun l N ⟨L, H, h⟩ => h _ _ H.new) fun _ _ h => h)
theorem ex_meth {c : Nat} {fl : List (Nat × D)} {fs : List (Nat × NF)} {F : NF} {K : Nat → NF → Prop} (h : N[n]? = some (.ins c fl)) (hf : fs.find? (fun p => decide (p.1 = c)) = some (c, F)) (hk : K n F) :
    ∃ m c fl F, D.ref n = .ref m ∧ N[m]? = some (.ins c fl) ∧ fs.find? (fun p => decide (p.1 = c)) = some (c, F) ∧ K m F := ⟨n, c, fl, F, rfl, h, hf, hk⟩
theorem atD0 {x : D} {r : List D} : atD (x :: r) 0 = some x := by
  unfold atD ixN
  rw [if_pos (by omega), if_pos (by rw [List.length_cons]; omega)]
  rfl
theorem wp_getT0 (hq : Q d N) : wpR (fGet (.tup (d :: l)) (.int 0) N) Q E := wp_getT atD0 hq
/-- a <= b <= c of numbers, the third looked at alone -/
theorem wp_chI {f g : D → D → NH → NY.R D} {p q : Int → Int → Bool} (hf : ∀ i j N, f (.int i) (.int j) N = .ok (.bl (p i j)) N) (hg : ∀ i j N, g (.int i) (.int j) N = .ok (.bl (q i j)) N)
    (h : wpR (a σ N) (fun x N => wpR (b σ N) (fun y N => wpR (c σ N) (fun z N' => N' = N ∧ ∃ i j k, x = .int i ∧ y = .int j ∧ z = .int k ∧ Q (.bl (p i j && q j k)) N)) E) E) : wpR (nChain f g a b c σ N) Q E := by
  refine wp_chain (h.mono (fun x N h => h.mono (fun y N h => ?_) fun _ _ h => h) fun _ _ h => h)
  obtain ⟨z, N', hc, rfl, i, j, k, rfl, rfl, rfl, h⟩ := h.ex
  rw [hf]
  with_unfolding_all
    refine ⟨_, rfl, ?_⟩
    cases hp : p i j with
    | false => rw [hp] at h; exact h
    | true =>
      rw [hp] at h
      rw [if_pos rfl, hc]
      show wpR (g (.int j) (.int k) N') Q E
      rw [hg]
      exact h
theorem wp_chLL (h : wpR (a σ N) (fun x N => wpR (b σ N) (fun y N => wpR (c σ N) (fun z N' => N' = N ∧ ∃ i j k, x = .int i ∧ y = .int j ∧ z = .int k ∧ Q (.bl (decide (i ≤ j) && decide (j ≤ k))) N)) E) E) : wpR (nChain fLe fLe a b c σ N) Q E := wp_chI (fun _ _ _ => rfl) (fun _ _ _ => rfl) h
theorem wp_chLl (h : wpR (a σ N) (fun x N => wpR (b σ N) (fun y N => wpR (c σ N) (fun z N' => N' = N ∧ ∃ i j k, x = .int i ∧ y = .int j ∧ z = .int k ∧ Q (.bl (decide (i ≤ j) && decide (j < k))) N)) E) E) : wpR (nChain fLe fLt a b c σ N) Q E := wp_chI (fun _ _ _ => rfl) (fun _ _ _ => rfl) h
theorem ex_ch {K : Int → Int → Int → Prop} {i j k : Int} (hk : K i j k) : N = N ∧ ∃ i' j' k', D.int i = .int i' ∧ D.int j = .int j' ∧ D.int k = .int k' ∧ K i' j' k' := ⟨rfl, i, j, k, rfl, rfl, rfl, hk⟩
theorem wp_eqB {p q : Bool} (h : Q (.bl (decide (p = q))) N) : wpR (fEq (.bl p) (.bl q) N) Q E := by with_unfolding_all exact (h)
theorem wp_neB {p q : Bool} (h : Q (.bl (!decide (p = q))) N) : wpR (fNe (.bl p) (.bl q) N) Q E := by with_unfolding_all exact (h)
theorem ex_kdC {K : Kd → Prop} (hk : K .tup) : ∃ q, kindN N (.ctup l) = some q ∧ K q := ⟨_, rfl, hk⟩
theorem wp_isB {p q : Bool} (h : Q (.bl (decide (p = q))) N) : wpR (fIs (.bl p) (.bl q) N) Q E := by with_unfolding_all exact (h)
theorem wp_isNotB {p q : Bool} (h : Q (.bl (!decide (p = q))) N) : wpR (fIsNot (.bl p) (.bl q) N) Q E := by with_unfolding_all exact (h)
theorem sl_split {r : List Str} (h1 : (t.length == 0) = false ∧ s.length + 2 ≤ sizeLine) (hr : Txt.split s t = r) (H : At N L) (h : ∀ (k : Nat) (N' : NH), At N' (pt k (.lst (r.map .str)) :: L) → Q (.ref k) N') : wpR (fSplit (.str s) [.str t] N) Q E := by
  have e : fSplit (.str s) [.str t] N = N.new (.lst (r.map .str)) := by
    show (if (t.length == 0) = false ∧ s.length + 2 ≤ sizeLine then N.new (.lst ((Txt.split s t).map .str)) else .bad) = _
    rw [if_pos h1, hr]
  rw [e]
  with_unfolding_all exact h _ _ H.new
theorem sl_tuple (H : At N L) (hp : Pick L (pt n (.lst l)) R) (h : Q (.tup l) N) : wpR (fTuple [.ref n] N) Q E := wp_tupleR (by simp [lstN, H.get hp]) h
end
end NY

set_option Elab.async false
set_option linter.all false
set_option maxRecDepth 100000
set_option maxHeartbeats 4000000
/-! NYE1: own exceptions: raise, try .. except X, try .. except X as n with return isinstance(n, Y) -/
namespace NY
open PySem PySem.Spec PyProof.Rows L2

end NY

set_option Elab.async false
set_option linter.all false
set_option maxRecDepth 100000
set_option maxHeartbeats 4000000
/-! NYE2: what a row says of an own exception class, and the statements by it -/
namespace NY
open PySem PySem.Spec PyProof.Rows L2
end NY

set_option Elab.async false
set_option linter.all false
set_option maxRecDepth 100000
set_option maxHeartbeats 4000000
/-! NYE3: return isinstance(n, Y) and isinstance(n, Z), Z a built-in class -/
namespace NY
open PySem PySem.Spec PyProof.Rows L2
end NY

set_option Elab.async false
set_option linter.all false
set_option maxRecDepth 100000
set_option maxHeartbeats 4000000
/-! NYE4: try .. except X as n: t = t + int(isinstance(n, Y)) -/
namespace NY
open PySem PySem.Spec PyProof.Rows L2
end NY

set_option Elab.async false
set_option linter.all false
set_option maxRecDepth 100000
set_option maxHeartbeats 4000000
/-! NYE5: methods whose name is a field of another class, too -/
namespace NY
open PySem PySem.Spec PyProof.Rows L2
structure MthW (P : Program) (w : World) (K : PySem.W.Frag) (mg : Str → Option Value) (base : Heap) (C : NC) (fb k : Nat) (c : Nat) (x : Str) (n : Nat) (m : NF) : Prop where
  cls : Cls K (C.cls c)
  no : ∀ i, C.names[i]? = some x → i = fb
  ex : ∃ (f : Addr) (fd : FuncData) (ps : List Str), Meth K (C.cls c) x f ∧ Binds K fd ps [] ∧ FnOk P w K mg base (L2.CX P w) k f fd ps (spN K C n m)
/-- o.m(..): the receiver's class chooses the def; the receiver has not the field fb -/
def nMethW (fb : Nat) (fs : List (Nat × NF)) (o : NE) (m : NA) : NE := fun σ N => (o σ N).bind fun x N => match x with
  | .ref n => match N[n]? with
    | some (.ins c fl) => if fl.all (fun p => decide (p.1 ≠ fb)) = true then (match fs.find? (fun p => decide (p.1 = c)) with
      | some (_, f) => (m σ N).bind fun ds N => f (x :: ds) N
      | none => .bad) else .bad
    | _ => .bad
  | _ => .bad
section
variable {X : Cx} {C : NC} {W : WX} {fb k n c : Nat} {x : Str} {f : NF} {p pos apos : Pos} {e o : Expr} {es : List Expr} {m : NA}
/-- the receiver is of one of the classes, each with its def -/
def MthsW (X : Cx) (C : NC) (fb k : Nat) (x : Str) (n : Nat) (fs : List (Nat × NF)) : Prop := ∀ p ∈ fs, MthW X.prog X.w X.K X.mg X.base C fb k p.1 x n p.2
theorem MthsW.nil {X : Cx} : MthsW X C fb k x n [] := fun p h => nomatch h
theorem MthsW.cons {X : Cx} {fs : List (Nat × NF)} (h : MthW X.prog X.w X.K X.mg X.base C fb k c x n f) (r : MthsW X C fb k x n fs) : MthsW X C fb k x n ((c, f) :: fs) := fun p hp => by
  rcases List.mem_cons.mp hp with e | e
  · rw [e]; exact h
  · exact r p e
theorem MthW.mono {P : Program} {w : World} {K : PySem.W.Frag} {mg : Str → Option Value} {base : Heap} {j : Nat} (h : MthW P w K mg base C fb j c x n f) (l : j ≤ k) : MthW P w K mg base C fb k c x n f :=
  ⟨h.cls, h.no, let ⟨fa, fd, ps, a, b, d⟩ := h.ex; ⟨fa, fd, ps, a, b, d.mono l⟩⟩
end
section
variable {σ : NEnv} {N : NH} {a : NE} {A : NA} {Q : D → NH → Prop} {E : XP}
theorem wp_methW {fb : Nat} {fs : List (Nat × NF)} (h : wpR (a σ N) (fun x N => ∃ n c fl F, x = .ref n ∧ N[n]? = some (.ins c fl) ∧ fl.all (fun p => decide (p.1 ≠ fb)) = true ∧ fs.find? (fun p => decide (p.1 = c)) = some (c, F) ∧ wpR (A σ N) (fun l N => wpR (F (.ref n :: l) N) Q E) E) E) : wpR (nMethW fb fs a A σ N) Q E := by with_unfolding_all exact (wp_bind (h.mono (fun x N ⟨n, c, fl, F, e1, e2, e4, e3, h⟩ => by subst e1; show wpR (match N[n]? with | some (.ins c fl) => _ | _ => _) Q E; rw [e2]; show wpR (if _ then _ else _) Q E; rw [if_pos e4]; show wpR (match fs.find? (fun p => decide (p.1 = c)) with | some (_, f) => _ | none => _) Q E; rw [e3]; exact wp_bind h) fun _ _ h => h))
end
end NY

set_option Elab.async false
set_option linter.all false
set_option maxRecDepth 100000
set_option maxHeartbeats 4000000
/-! NYZ1: sorted(set(xs)) of a list of numbers -/
namespace NY
open PySem PySem.Spec PyProof.Rows L2
end NY

set_option Elab.async false
set_option linter.all false
set_option maxRecDepth 100000
set_option maxHeartbeats 4000000
/-! NYZ2: [.. for .. in .. for .. in ..] -/
namespace NY
open PySem PySem.Spec PyProof.Rows L2
theorem R.bind_bind {α β γ : Type} {r : R α} {f : α → NH → R β} {g : β → NH → R γ} : (r.bind f).bind g = r.bind fun a N => (f a N).bind g := by cases r <;> rfl
def tupOf : D → Option (List D)
  | .tup l | .ctup l => some l
  | _ => none
def lc2Loop (p : NP) (c : NT) (it1 : NE) (p1 : NP) (c1 : NT) (elt : NE) (vs1 : List Nat) (ok : NH → Bool) (σ0 : NEnv) : List D → List D → NH → R (List D)
  | [], acc, N => if ok N = true then .ok acc N else .bad
  | x :: r, acc, N => if ok N = true then (match p.put x σ0 N with
    | some σ1 => match c σ1 N with
      | .ok true N1 => match it1 σ1 N1 with
        | .ok d N2 => match tupOf d with
          | some l => (lcLoop p1 c1 elt (fun _ => true) (wipeN σ1 vs1) l acc N2).bind fun acc N3 => lc2Loop p c it1 p1 c1 elt vs1 ok σ0 r acc N3
          | none => .bad
        | _ => .bad
      | .ok false N1 => lc2Loop p c it1 p1 c1 elt vs1 ok σ0 r acc N1
      | _ => .bad
    | none => .bad) else .bad
def nLc2 (it : NI) (p : NP) (c : NT) (it1 : NE) (p1 : NP) (c1 : NT) (elt : NE) (vs vs1 : List Nat) : NE := fun σ N => (it σ N).bind fun t N => (lc2Loop p c it1 p1 c1 elt vs1 t.ok (wipeN σ vs) t.items [] N).bind fun l N => N.new (.lst l)
section
variable {X : Cx} {C : NC} {W : WX} {elt tg iter tg1 iter1 : Expr} {ifs ifs1 : List Expr} {scope : Scope} {own : List (Str × Nat)} {pos p : Pos}
def TA (K : PySem.W.Frag) (ρ : List Addr) (H : Hp) (a : Addr) (xs : List V) (l : List D) : Prop := (TupAt ρ H a xs ∨ CtupAt K a xs) ∧ RDs K ρ H l xs
theorem TA.sq {K : PySem.W.Frag} {ρ : List Addr} {H : Hp} {a : Addr} {xs : List V} {l : List D} (h : TA K ρ H a xs l) : SqT K H a xs := by
  rcases h.1 with h | h
  · exact h.sq
  · exact h.sq
theorem TA.ext {K : PySem.W.Frag} {ρ ρ' : List Addr} {H H' : Hp} {a : Addr} {xs : List V} {l : List D} (e : Ext ρ H ρ' H') (h : TA K ρ H a xs l) : TA K ρ' H' a xs l := by
  refine ⟨?_, h.2.ext e⟩
  rcases h.1 with h | h
  · exact .inl (h.ext e)
  · exact .inr h
theorem TA.push {K : PySem.W.Frag} {ρ : List Addr} {H : Hp} {a Da : Addr} {xs ys zs : List V} {l : List D} (h1 : H Da = some (.lst ys)) (h : TA K ρ H a xs l) : TA K ρ (upd H Da (.lst zs)) a xs l := by
  refine ⟨?_, RDs.same (Same.lst h1) _ h.2⟩
  rcases h.1 with h | h
  · refine .inl ⟨h.1, ?_⟩
    rw [upd_ne (fun z => by have := h.2; rw [z, h1] at this; cases this)]
    exact h.2
  · exact .inr h
theorem snd_lc2 {mi : NI} {mi1 : NE} {pt pt1 : NP} {mc mc1 : NT} {me : NE} {vs vs1 : List Nat} {σ : L2.St} {H : Hp} {Q : VK} (hv : ∀ i ∈ pt.is, i ∈ vs) (hv1 : ∀ i ∈ pt1.is, i ∈ vs1) (q : tE X.K C W (nLc2 mi pt mc mi1 pt1 mc1 me vs vs1) σ H Q) :
    tLc2 (tI X.K C W mi) (tG X.K C pt) (tT X.K C W0 mc) (iTup X.K (tE X.K C W0 mi1)) (tG X.K C pt1) (tT X.K C W0 mc1) (tE X.K C W0 me) vs vs1 σ H Q := by
  obtain ⟨ρ, σn, N, R, S, q⟩ := q
  refine PostR.then R S q fun J H1 ρ1 N1 t E1 R1 S1 hJ q1 => ?_
  intro Da hDa
  obtain ⟨E2, R2, F2⟩ := Fill.new R1 hDa
  let GO : List D → List D → NH → NY.R (List D) := lc2Loop pt mc mi1 pt1 mc1 me vs1 t.ok (wipeN σn vs)
  refine ⟨fun i m H => ∃ ρ N acc, Ext ρ1 H1 ρ H ∧ NRel X.K C ρ N H ∧ Fill X.K ρ H Da acc ∧ i ≤ t.items.length ∧ m = t.items.length - i ∧ PostR (RD X.K) X.K C W ρ1 H1 σ Q ((GO (t.items.drop i) acc N).bind fun l N => N.new (.lst l)), ⟨_, ρ1, N1, [], E2, R2, F2, Nat.zero_le _, rfl, q1⟩, ?_⟩
  intro i m H3 ⟨ρ3, N3, acc, E3, R3, F3, hi, hm, q3⟩
  by_cases hlt : i < t.items.length
  · have hd : t.items.drop i = t.items[i] :: t.items.drop (i + 1) := List.drop_eq_getElem_cons hlt
    rw [hd] at q3
    have q3 : PostR (RD X.K) X.K C W ρ1 H1 σ Q ((lc2Loop pt mc mi1 pt1 mc1 me vs1 t.ok (wipeN σn vs) (t.items[i] :: t.items.drop (i + 1)) acc N3).bind fun l N => N.new (.lst l)) := q3
    unfold lc2Loop at q3
    by_cases hok : t.ok N3 = true
    · rw [if_pos hok] at q3
      have ⟨hJ1, _⟩ := hJ ρ3 H3 N3 E3 R3 hok
      have ⟨hgo, hy⟩ := hJ1 i t.items[i] (List.getElem?_eq_getElem hlt)
      refine .inr ⟨hgo, fun H4 => ∃ ρ N acc, Ext ρ1 H1 ρ H4 ∧ NRel X.K C ρ N H4 ∧ Fill X.K ρ H4 Da acc ∧ PostR (RD X.K) X.K C W ρ1 H1 σ Q ((GO (t.items.drop (i + 1)) acc N).bind fun l N => N.new (.lst l)), fun H4 ⟨ρ4, N4, acc4, E4, R4, F4, q4⟩ => ⟨_, by omega, ρ4, N4, acc4, E4, R4, F4, hlt, rfl, q4⟩, ?_⟩
      intro x H4 hx
      obtain ⟨ρ4, E4, R4, rd⟩ := hy x H4 hx
      have E14 := E3.trans E4
      refine ⟨ρ4, wipeN σn vs, N3, _, R4, RSt.wipe vs (S1.ext E14), rd, ?_⟩
      cases hp4 : pt.put t.items[i] (wipeN σn vs) N3 with
      | none => rw [hp4] at q3; exact q3.elim
      | some σ1 =>
        rw [hp4] at q3
        dsimp only at q3 ⊢
        intro σ5 S5 O5
        refine ⟨wipe_only (O5.mono hv), ρ4, σ1, N3, R4, S5, ?_⟩
        cases hc : mc σ1 N3 with
        | exc y N5 => rw [hc] at q3; exact q3.elim
        | bad => rw [hc] at q3; exact q3.elim
        | ok k N5 =>
          rw [hc] at q3
          intro b H5 ρ5 E5 R5 rk
          have rk' : b = k := rk
          subst rk'
          cases b with
          | false =>
            rw [if_neg (by simp)]
            exact ⟨ρ5, N5, acc, E14.trans E5, R5, (F3.ext E4).ext E5, q3⟩
          | true =>
            rw [if_pos rfl]
            refine ⟨ρ5, σ1, N5, R5, S5.ext E5, ?_⟩
            dsimp only at q3
            cases hi1 : mi1 σ1 N5 with
            | exc y N6 => rw [hi1] at q3; exact q3.elim
            | bad => rw [hi1] at q3; exact q3.elim
            | ok d1 N6 =>
              rw [hi1] at q3
              dsimp only at q3
              intro x1 H6 ρ6 E6 R6 rd1
              have hta : ∃ l1, tupOf d1 = some l1 ∧ ∃ a xs, x1 = .ref a ∧ TA X.K ρ6 H6 a xs l1 := by
                cases d1 with
                | tup l => obtain ⟨a, xs, rfl, ta, ra⟩ := rd1; exact ⟨l, rfl, a, xs, rfl, .inl ta, ra⟩
                | ctup l => obtain ⟨a, xs, rfl, ta, ra⟩ := rd1; exact ⟨l, rfl, a, xs, rfl, .inr ta, ra⟩
                | _ => exact q3.elim
              obtain ⟨l1, hl1, a1, xs1, rfl, hta⟩ := hta
              rw [hl1] at q3
              dsimp only at q3
              rw [NY.R.bind_bind] at q3
              refine ⟨a1, rfl, ⟨xs1, hta.sq⟩, ?_⟩
              have E16 := (E14.trans E5).trans E6
              have F6 := ((F3.ext E4).ext E5).ext E6
              have S6 := (S5.ext E5).ext E6
              refine ⟨fun j k H => ∃ ρ N acc, Ext ρ1 H1 ρ H ∧ TA X.K ρ H a1 xs1 l1 ∧ RSt X.K ρ H σ1 σ5 ∧ NRel X.K C ρ N H ∧ Fill X.K ρ H Da acc ∧ j ≤ l1.length ∧ k = l1.length - j ∧ PostR (RD X.K) X.K C W ρ1 H1 σ Q ((lcLoop pt1 mc1 me (fun _ => true) (wipeN σ1 vs1) (l1.drop j) acc N).bind fun acc N3 => (GO (t.items.drop (i + 1)) acc N3).bind fun l N => N.new (.lst l)), ⟨_, ρ6, N6, acc, E16, hta, S6, R6, F6, Nat.zero_le _, rfl, q3⟩, ?_⟩
              intro j k H7 ⟨ρ7, N7, acc7, E17, ta7, S7, R7, F7, hj, hk, q7⟩
              by_cases hlt1 : j < l1.length
              · have hd1 : l1.drop j = l1[j] :: l1.drop (j + 1) := List.drop_eq_getElem_cons hlt1
                rw [hd1] at q7
                unfold lcLoop at q7
                rw [if_pos rfl] at q7
                have hlx : xs1.length = l1.length := ta7.2.length
                obtain ⟨x7, e7, r7⟩ := ta7.2.get' (List.getElem?_eq_getElem hlt1)
                · have hgo1 : (Itt X.K a1).go j H7 := ⟨xs1, x7, ta7.sq, e7⟩
                  refine .inr ⟨hgo1, fun H8 => ∃ ρ N acc, Ext ρ1 H1 ρ H8 ∧ TA X.K ρ H8 a1 xs1 l1 ∧ RSt X.K ρ H8 σ1 σ5 ∧ NRel X.K C ρ N H8 ∧ Fill X.K ρ H8 Da acc ∧ PostR (RD X.K) X.K C W ρ1 H1 σ Q ((lcLoop pt1 mc1 me (fun _ => true) (wipeN σ1 vs1) (l1.drop (j + 1)) acc N).bind fun acc N3 => (GO (t.items.drop (i + 1)) acc N3).bind fun l N => N.new (.lst l)), fun H8 ⟨ρ8, N8, acc8, E18, ta8, S8, R8, F8, q8⟩ => ⟨_, by omega, ρ8, N8, acc8, E18, ta8, S8, R8, F8, hlt1, rfl, q8⟩, ?_⟩
                  intro x8 H8 hx8
                  obtain ⟨hH, hx8⟩ := hx8
                  subst hH
                  have hx9 := hx8 xs1 ta7.sq
                  rw [e7] at hx9
                  cases hx9
                  refine ⟨ρ7, wipeN σ1 vs1, N7, _, R7, RSt.wipe vs1 S7, r7, ?_⟩
                  cases hp8 : pt1.put l1[j] (wipeN σ1 vs1) N7 with
                  | none => rw [hp8] at q7; exact q7.elim
                  | some σ9 =>
                    rw [hp8] at q7
                    dsimp only at q7 ⊢
                    intro σa Sa Oa
                    refine ⟨wipe_only (Oa.mono hv1), ρ7, σ9, N7, R7, Sa, ?_⟩
                    cases hc1 : mc1 σ9 N7 with
                    | exc y N9 => rw [hc1] at q7; exact q7.elim
                    | bad => rw [hc1] at q7; exact q7.elim
                    | ok kk N9 =>
                      rw [hc1] at q7
                      intro b H9 ρ9 E9 R9 rk9
                      have rk' : b = kk := rk9
                      subst rk'
                      cases b with
                      | false =>
                        rw [if_neg (by simp)]
                        exact ⟨ρ9, N9, acc7, E17.trans E9, ta7.ext E9, S7.ext E9, R9, F7.ext E9, q7⟩
                      | true =>
                        rw [if_pos rfl]
                        refine ⟨ρ9, σ9, N9, R9, Sa.ext E9, ?_⟩
                        dsimp only at q7
                        cases he : me σ9 N9 with
                        | exc y N10 => rw [he] at q7; exact q7.elim
                        | bad => rw [he] at q7; exact q7.elim
                        | ok y N10 =>
                          rw [he] at q7
                          intro v H10 ρ10 E10 R10 rv
                          obtain ⟨n10, xs, h1, h2⟩ := (F7.ext E9).ext E10
                          dsimp only at q7
                          by_cases hl : acc7.length < sizeLine
                          · rw [if_pos hl] at q7
                            have Ez := (E17.trans E9).trans E10
                            obtain ⟨E11, R11, F11⟩ := Fill.push R10 n10 h1 h2 rv Ez hDa
                            exact ⟨xs, h1, by rw [h2.length]; exact hl, ρ10, N10, _, E11, ((ta7.ext E9).ext E10).push h1, ((S7.ext E9).ext E10).same (Same.lst h1), R11, F11, q7⟩
                          · rw [if_neg hl] at q7; exact q7.elim
              · have hil : j = l1.length := by omega
                subst hil
                rw [List.drop_length] at q7
                unfold lcLoop at q7
                rw [if_pos rfl] at q7
                exact .inl ⟨⟨xs1, ta7.sq, Nat.le_of_eq ta7.2.length⟩, ρ7, N7, acc7, E17, R7, F7, q7⟩
    · rw [if_neg hok] at q3; exact q3.elim
  · have hil : i = t.items.length := by omega
    subst hil
    rw [List.drop_length] at q3
    have q3 : PostR (RD X.K) X.K C W ρ1 H1 σ Q ((lc2Loop pt mc mi1 pt1 mc1 me vs1 t.ok (wipeN σn vs) [] acc N3).bind fun l N => N.new (.lst l)) := q3
    unfold lc2Loop at q3
    by_cases hok : t.ok N3 = true
    · rw [if_pos hok] at q3
      have ⟨_, hJ2⟩ := hJ ρ3 H3 N3 E3 R3 hok
      obtain ⟨n3, xs, h1, h2⟩ := F3
      obtain ⟨E8, R8⟩ := R3.adopt h1 n3 h2 ρ1 H1 E3 hDa
      exact .inl ⟨hJ2, q3 _ H3 _ E8 R8 ⟨Da, rfl, by rw [← R3.len]; exact get_last⟩⟩
    · rw [if_neg hok] at q3; exact q3.elim
theorem n_lc2 {mi : NI} {mi1 me : NE} {pt pt1 : NP} {mc mc1 : NT} (own : List (Str × Nat)) (vs1 : List Nat) (hc : X.calm = true) (hN : X.N.Nodup) (ok : BlkOk X.N X.env.scope scope own) (hv : ∀ i ∈ pt.is, i ∈ own.map (fun x => x.2)) (hv1 : ∀ i ∈ pt1.is, i ∈ vs1) (hv2 : ∀ i ∈ vs1, i ∈ own.map (fun x => x.2)) (hi : PI X tg iter (tI X.K C W mi))
    (hg : ∀ (s : Shared) (H : Hp) (Cc : Addr) (cl : List (Str × Addr)) (fp : List Addr), PG (X.blk s H scope (compEnvC scope cl Cc X.env) fp) tg (tG X.K C pt))
    (ht : ∀ (s : Shared) (H : Hp) (Cc : Addr) (cl : List (Str × Addr)) (fp : List Addr), PTs (X.blk s H scope (compEnvC scope cl Cc X.env) fp) ifs (tT X.K C W0 mc))
    (hi1 : ∀ (s : Shared) (H : Hp) (Cc : Addr) (cl : List (Str × Addr)) (fp : List Addr), PE (X.blk s H scope (compEnvC scope cl Cc X.env) fp) iter1 (tE X.K C W0 mi1))
    (hg1 : ∀ (s : Shared) (H : Hp) (Cc : Addr) (cl : List (Str × Addr)) (fp : List Addr), PG (X.blk s H scope (compEnvC scope cl Cc X.env) fp) tg1 (tG X.K C pt1))
    (ht1 : ∀ (s : Shared) (H : Hp) (Cc : Addr) (cl : List (Str × Addr)) (fp : List Addr), PTs (X.blk s H scope (compEnvC scope cl Cc X.env) fp) ifs1 (tT X.K C W0 mc1))
    (he : ∀ (s : Shared) (H : Hp) (Cc : Addr) (cl : List (Str × Addr)) (fp : List Addr), PE (X.blk s H scope (compEnvC scope cl Cc X.env) fp) elt (tE X.K C W0 me))
    (hf : ∀ (x : Value), foldedSetIterable iter X.env x = pure x := by intro _; rfl) (hf1 : ∀ env (x : Value), foldedSetIterable iter1 env x = pure x := by intro _ _; rfl) :
    PE X (.ListComp elt [⟨tg, iter, ifs, 0⟩, ⟨tg1, iter1, ifs1, 0⟩] scope pos) (tE X.K C W (nLc2 mi pt mc mi1 pt1 mc1 me (own.map fun x => x.2) vs1)) :=
  pe_weak (pe_lc2 hc hN hi ok hv2 hg ht (fun s H Cc cl fp => pi_tup (hi1 s H Cc cl fp)) hg1 ht1 he hf hf1) fun σ H Q q => snd_lc2 hv hv1 q
end
end NY

set_option Elab.async false
set_option linter.all false
set_option maxRecDepth 100000
set_option maxHeartbeats 4000000
namespace OW
open NY PySem PySem.Spec PyProof.Rows L2

abbrev allNames : List Str := ("numbers" : Str) :: ("tuples" : Str) :: ("asked" : Str) :: ("notary" : Str) :: ("words" : Str) :: ("rows" : Str) :: ("code" : Str) :: ("given" : Str) :: ("states" : Str) :: ("named" : Str) :: ("held" : Str) :: ("delay" : Str) :: ("last_number" : Str) :: ("waiting" : Str) :: ("chain" : Str) :: ("told" : Str) :: ("due" : Str) :: ("made_at" : Str) :: ("rivalled_at" : Str) :: ("settled" : Str) :: ("payers" : Str) :: ("halvers" : Str) :: ("halved" : Str) :: ("counts" : Str) :: ("shown" : Str) :: ("ended" : Str) :: ("shared" : Str) :: ("groups" : Str) :: ("people" : Str) :: ("box" : Str) :: ("left" : Str) :: ("paid" : Str) :: ("arenas" : Str) :: ("run" : Str) :: ("pasts" : Str) :: ("name" : Str) :: ("known" : Str) :: ("clerk" : Str) :: ("book" : Str) :: ("guard" : Str) :: ("runs" : Str) :: ("met" : Str) :: ("line" : Str) :: []
abbrev t1__law_mix : NS := (sRet (nOp2 fMod (nCall fInt (nCons (nOp2 fAdd (nOp2 fAdd (nOp2 fMul (nV 2) (nC (.int 40692))) (nOp2 fMul (nV 1) (nC (.int 7919)))) (nC (.int 1))) nNil)) (nC (.int 2147483399))))
def m__law_mix : NF := nFun 3 (sSeq (sAsg (nOp2 fMod (nCall fInt (nCons (nOp2 fAdd (nOp2 fAdd (nOp2 fMul (nV 0) (nC (.int 48271))) (nOp2 fMul (nV 1) (nC (.int 69621)))) (nC (.int 12345))) nNil)) (nC (.int 2147483647))) (pName 2))
    t1__law_mix)
abbrev t1__law_numbers : NS := (sAsg (nOp2 fDiv (nV 6) (nC (.int 1000))) (pName 6))
abbrev i2__law_numbers : NS := (sSeq (sExpr (nBM "list" fAppend (nV 2) (nCons (nOp2 fMod (nCall fInt (nCons (nV 6) nNil)) (nC (.int 1000))) nNil)))
    t1__law_numbers)
abbrev b3__law_numbers : NS := (sIf (nBool (nOp2 fGt (nV 6) (nC (.int 0)))) i2__law_numbers sPass)
abbrev b4__law_numbers : NS := (sExpr (nBM "list" fAppend (nV 2) (nCons (nOp2 fMod (nCall fInt (nCons (nCall m__law_mix (nCons (nV 6) (nCons (nOp2 fAdd (nV 5) (nC (.int 1))) nNil))) nNil)) (nC (.int 1000))) nNil)))
abbrev i5__law_numbers : NS := (sFor (iRng (nCons (nC (.int 60)) nNil)) (pName 5) b3__law_numbers)
abbrev i6__law_numbers : NS := (sFor (iRng (nCons (nC (.int 6)) nNil)) (pName 5) b4__law_numbers)
abbrev t7__law_numbers : NS := (sIf (nBool (nOp2 fGe (nV 6) (nOp2 fPow (nC (.int 10)) (nC (.int 18))))) i5__law_numbers i6__law_numbers)
abbrev t8__law_numbers : NS := (sSeq (sAsg (nCall m__law_mix (nCons (nV 3) (nCons (nOp2 fMod (nCall fInt (nCons (nV 6) nNil)) (nC (.int 2147483647))) nNil))) (pName 3))
    t7__law_numbers)
abbrev b9__law_numbers : NS := (sSeq (sAsg (nCall fAbs (nCons (nV 4) nNil)) (pName 6))
    t8__law_numbers)
abbrev t10__law_numbers : NS := (sExpr (nBM "list" fAppend (nV 2) (nCons (nOp2 fMod (nCall fInt (nCons (nV 3) nNil)) (nC (.int 1000))) nNil)))
abbrev i11__law_numbers : NS := (sSeq (sAsg (nCall m__law_mix (nCons (nV 3) (nCons (nOp2 fAdd (nV 5) (nC (.int 3))) nNil))) (pName 3))
    t10__law_numbers)
abbrev b12__law_numbers : NS := (sIf (nBool (nOp2 fLt (nCall fLen (nCons (nV 2) nNil)) (nV 1))) i11__law_numbers sPass)
abbrev t13__law_numbers : NS := (sRet (nCut (nV 2) nNoPart (nPart (nV 1))))
abbrev t14__law_numbers : NS := (sSeq (sFor (iRng (nCons (nV 1) nNil)) (pName 5) b12__law_numbers)
    t13__law_numbers)
abbrev t15__law_numbers : NS := (sSeq (sFor (iSeq (nCut (nV 0) nNoPart (nPart (nC (.int 63))))) (pName 4) b9__law_numbers)
    t14__law_numbers)
abbrev t16__law_numbers : NS := (sSeq (sAsg (nOp2 fAdd (nCall fLen (nCons (nV 0) nNil)) (nC (.int 1))) (pName 3))
    t15__law_numbers)
def m__law_numbers : NF := nFun 7 (sSeq (sAsg (nLst nNil) (pName 2))
    t16__law_numbers)
def m__law_draws : NF := nFun 2 (sRet (nDisp (nPsCons (nC (.str "at")) (nC (.int 0)) (nPsCons (nC (.str "row")) (nCall m__law_numbers (nCons (nV 0) (nCons (nV 1) nNil))) nPsNil))))
abbrev t1__law_take : NS := (sRet (nOp2 fMod (nCall fInt (nCons (nV 4) nNil)) (nV 1)))
abbrev t2__law_take : NS := (sSeq (sAsg (nOp2 fAdd (nOp2 fGet (nV 2) (nOp2 fMod (nCall fInt (nCons (nV 3) nNil)) (nCall fLen (nCons (nV 2) nNil)))) (nOp2 fDiv (nV 3) (nCall fLen (nCons (nV 2) nNil)))) (pName 4))
    t1__law_take)
abbrev t3__law_take : NS := (sSeq (sPut (nV 0) (nC (.str "at")) (nOp2 fAdd (nV 3) (nC (.int 1))))
    t2__law_take)
abbrev t4__law_take : NS := (sSeq (sAsg (nOp2 fGet (nV 0) (nC (.str "at"))) (pName 3))
    t3__law_take)
def m__law_take : NF := nFun 5 (sSeq (sAsg (nOp2 fGet (nV 0) (nC (.str "row"))) (pName 2))
    t4__law_take)
abbrev e1__law_name : NE := (nOp2 fGet (nV 3) (nCall m__law_take (nCons (nV 0) (nCons (nC (.int 63)) nNil))))
abbrev t2__law_name : NS := (sRet (nOp2 fAdd (nV 4) (nV 6)))
abbrev t3__law_name : NS := (sSeq (sIf (nBool (nOp2 fIn (nOp2 fAdd (nV 4) (nV 6)) (nV 7))) (sRet (nOp2 fAdd (nV 4) (nC (.str "_0")))) sPass)
    t2__law_name)
abbrev t4__law_name : NS := (sSeq (sAsg (nBM "str" fSplit (nC (.str "as fn if in of all and div end let mod rec sig val case else open then")) (nCons (nC (.str " ")) nNil)) (pName 7))
    t3__law_name)
abbrev t5__law_name : NS := (sSeq (sAsg (nBM "str" fJoin (nC (.str "")) (nCons (nLc (iRng (nCons (nV 5) nNil)) (pName 8) nYes e1__law_name [8]) nNil)) (pName 6))
    t4__law_name)
abbrev t6__law_name : NS := (sSeq (sIf (nBool (nOp2 fEq (nCall m__law_take (nCons (nV 0) (nCons (nC (.int 9)) nNil))) (nC (.int 0)))) (sAsg (nC (.int 15)) (pName 5)) sPass)
    t5__law_name)
abbrev t7__law_name : NS := (sSeq (sAsg (nCall m__law_take (nCons (nV 0) (nCons (nC (.int 4)) nNil))) (pName 5))
    t6__law_name)
abbrev t8__law_name : NS := (sSeq (sIf (nTru (nV 1)) (sAsg (nBM "str" fUpper (nV 4) nNil) (pName 4)) sPass)
    t7__law_name)
abbrev t9__law_name : NS := (sSeq (sAsg (nOp2 fGet (nV 2) (nCall m__law_take (nCons (nV 0) (nCons (nC (.int 26)) nNil)))) (pName 4))
    t8__law_name)
abbrev t10__law_name : NS := (sSeq (sAsg (nOp2 fAdd (nV 2) (nC (.str "ABCDEFGHIJKLMNOPQRSTUVWXYZ0123456789_"))) (pName 3))
    t9__law_name)
def m__law_name : NF := nFun 9 (sSeq (sAsg (nC (.str "abcdefghijklmnopqrstuvwxyz")) (pName 2))
    t10__law_name)
abbrev i1__law_pool : NS := (sAsg (nOp2 fAdd (nOp2 fAdd (nV 6) (nC (.str "_"))) (nCall fStr (nCons (nV 7) nNil))) (pName 5))
abbrev b2__law_pool : NS := (sIf (nBool (nOp2 fIn (nV 5) (nV 3))) i1__law_pool sPass)
abbrev t3__law_pool : NS := (sExpr (nBM "list" fAppend (nV 3) (nCons (nV 5) nNil)))
abbrev t4__law_pool : NS := (sSeq (sFor (iRng (nCons (nOp2 fAdd (nV 2) (nC (.int 1))) nNil)) (pName 7) b2__law_pool)
    t3__law_pool)
abbrev t5__law_pool : NS := (sSeq (sAsg (nCut (nV 5) nNoPart (nPart (nC (.int 12)))) (pName 6))
    t4__law_pool)
abbrev b6__law_pool : NS := (sSeq (sAsg (nCall m__law_name (nCons (nV 0) (nCons (nV 1) nNil))) (pName 5))
    t5__law_pool)
abbrev t7__law_pool : NS := (sRet (nV 3))
abbrev t8__law_pool : NS := (sSeq (sFor (iRng (nCons (nV 2) nNil)) (pName 4) b6__law_pool)
    t7__law_pool)
def m__law_pool : NF := nFun 8 (sSeq (sAsg (nLst nNil) (pName 3))
    t8__law_pool)
abbrev e1_input_of : NE := (nV 2)
def m_input_of : NF := nFun 3 (sRet (nCall fTuple (nCons (nLc2 (iSeq (nV 0)) (pName 1) nYes (nV 1) (pName 2) nYes e1_input_of [1, 2] [2]) nNil)))
abbrev e1_payments : NE := (nTup (nCons (nOp2 fGet (nV 0) (nOp2 fGet (nV 9) (nC (.int 0)))) (nCons (nOp2 fGet (nV 9) (nC (.int 1))) nNil)))
abbrev i2_payments : NS := (sRet (nTup (nCons (nCall fTuple (nCons (nLc (iSeq (nV 2)) (pName 9) nYes e1_payments [9]) nNil)) (nCons (nV 1) nNil))))
abbrev e3_payments : NE := (nOp2 fGet (nV 9) (nC (.int 1)))
abbrev t4_payments : NS := (sAsg (nOp2 fSub (nV 5) (nV 8)) (pName 5))
abbrev t5_payments : NS := (sSeq (sExpr (nBM "list" fAppend (nV 6) (nCons (nTup (nCons (nOp2 fGet (nV 0) (nOp2 fGet (nV 4) (nV 7))) (nCons (nV 8) nNil))) nNil)))
    t4_payments)
abbrev i6_payments : NS := (sSeq (sAsg (nCall fMin (nCons (nOp2 fGet (nV 4) (nOp2 fAdd (nV 7) (nC (.int 1)))) (nCons (nV 5) nNil))) (pName 8))
    t5_payments)
abbrev b7_payments : NS := (sIf (nBool (nOp2 fLt (nOp2 fGet (nV 4) (nV 7)) (nCall fLen (nCons (nV 0) nNil)))) i6_payments sPass)
abbrev t8_payments : NS := (sRet (nTup (nCons (nCall fTuple (nCons (nV 6) nNil)) (nCons (nV 5) nNil))))
abbrev t9_payments : NS := (sSeq (sFor (iRng3 (nCons (nC (.int 0)) (nCons (nCall fLen (nCons (nV 4) nNil)) (nCons (nC (.int 2)) nNil)))) (pName 7) b7_payments)
    t8_payments)
abbrev t10_payments : NS := (sSeq (sAsg (nLst nNil) (pName 6))
    t9_payments)
abbrev t11_payments : NS := (sSeq (sAsg (nOp2 fAdd (nV 1) (nCall fSum (nCons (nLc (iSeq (nV 2)) (pName 9) nYes e3_payments [9]) nNil))) (pName 5))
    t10_payments)
def m_payments : NF := nFun 10 (sSeq (sIf (nOrT (nBool (nOp2 fNe (nV 3) (nC (.int 1)))) (nBool (nOp2 fEq (nOp2 fMod (nCall fLen (nCons (nV 4) nNil)) (nC (.int 2))) (nC (.int 1))))) i2_payments sPass)
    t11_payments)
abbrev i1__law_words : NS := (sExpr (nBM "list" fAppend (nV 3) (nCons (nOp2 fSub (nC (.int 4294967295)) (nCall m__law_take (nCons (nV 0) (nCons (nC (.int 9)) nNil)))) nNil)))
abbrev i2__law_words : NS := (sExpr (nBM "list" fAppend (nV 3) (nCons (nCall m__law_take (nCons (nV 0) (nCons (nC (.int 50)) nNil))) nNil)))
abbrev i3__law_words : NS := (sExpr (nBM "list" fAppend (nV 3) (nCons (nCall fMin (nCons (nC (.int 4294967295)) (nCons (nV 2) nNil))) nNil)))
abbrev i4__law_words : NS := (sIf (nBool (nOp2 fEq (nV 6) (nC (.int 1)))) i1__law_words i2__law_words)
abbrev t5__law_words : NS := (sIf (nBool (nOp2 fEq (nV 6) (nC (.int 0)))) i3__law_words i4__law_words)
abbrev t6__law_words : NS := (sSeq (sAsg (nCall m__law_take (nCons (nV 0) (nCons (nC (.int 4)) nNil))) (pName 6))
    t5__law_words)
abbrev t7__law_words : NS := (sSeq (sExpr (nBM "list" fAppend (nV 3) (nCons (nOp2 fGet (nV 5) (nCall m__law_take (nCons (nV 0) (nCons (nC (.int 3)) nNil)))) nNil)))
    t6__law_words)
abbrev b8__law_words : NS := (sSeq (sAsg (nLst (nCons (nCall m__law_take (nCons (nV 0) (nCons (nV 1) nNil))) (nCons (nCall m__law_take (nCons (nV 0) (nCons (nC (.int 20)) nNil))) (nCons (nOp2 fSub (nC (.int 4294967295)) (nCall m__law_take (nCons (nV 0) (nCons (nC (.int 3)) nNil)))) nNil)))) (pName 5))
    t7__law_words)
abbrev i9__law_words : NS := (sExpr (nBM "list" fAppend (nV 3) (nCons (nCall m__law_take (nCons (nV 0) (nCons (nC (.int 50)) nNil))) nNil)))
abbrev t10__law_words : NS := (sRet (nCall fTuple (nCons (nV 3) nNil)))
abbrev t11__law_words : NS := (sSeq (sIf (nBool (nOp2 fEq (nCall m__law_take (nCons (nV 0) (nCons (nC (.int 5)) nNil))) (nC (.int 0)))) i9__law_words sPass)
    t10__law_words)
abbrev t12__law_words : NS := (sSeq (sFor (iRng (nCons (nCall m__law_take (nCons (nV 0) (nCons (nC (.int 20)) nNil))) nNil)) (pName 4) b8__law_words)
    t11__law_words)
def m__law_words : NF := nFun 7 (sSeq (sAsg (nLst nNil) (pName 3))
    t12__law_words)
abbrev e1__law_due_2 : NE := (nTup (nCons (nOp2 fGet (nV 0) (nOp2 fGet (nV 10) (nC (.int 0)))) (nCons (nOp2 fGet (nV 10) (nC (.int 1))) nNil)))
abbrev i2__law_due_2 : NS := (sRet (nTup (nCons (nLc (iSeq (nV 2)) (pName 10) nYes e1__law_due_2 [10]) (nCons (nV 1) nNil))))
abbrev e3__law_due_2 : NE := (nOp2 fGet (nV 10) (nC (.int 1)))
abbrev t4__law_due_2 : NS := (sAsg (nOp2 fSub (nV 5) (nV 9)) (pName 5))
abbrev t5__law_due_2 : NS := (sSeq (sExpr (nBM "list" fAppend (nV 6) (nCons (nTup (nCons (nOp2 fGet (nV 0) (nV 8)) (nCons (nV 9) nNil))) nNil)))
    t4__law_due_2)
abbrev t6__law_due_2 : NS := (sSeq (sIf (nBool (nOp2 fGt (nV 9) (nV 5))) (sAsg (nV 5) (pName 9)) sPass)
    t5__law_due_2)
abbrev i7__law_due_2 : NS := (sSeq (sAsg (nOp2 fGet (nV 4) (nOp2 fAdd (nOp2 fMul (nC (.int 2)) (nV 7)) (nC (.int 1)))) (pName 9))
    t6__law_due_2)
abbrev t8__law_due_2 : NS := (sIf (nBool (nOp2 fLt (nV 8) (nCall fLen (nCons (nV 0) nNil)))) i7__law_due_2 sPass)
abbrev b9__law_due_2 : NS := (sSeq (sAsg (nOp2 fGet (nV 4) (nOp2 fMul (nC (.int 2)) (nV 7))) (pName 8))
    t8__law_due_2)
abbrev t10__law_due_2 : NS := (sRet (nTup (nCons (nV 6) (nCons (nV 5) nNil))))
abbrev t11__law_due_2 : NS := (sSeq (sFor (iRng (nCons (nOp2 fDiv (nCall fLen (nCons (nV 4) nNil)) (nC (.int 2))) nNil)) (pName 7) b9__law_due_2)
    t10__law_due_2)
abbrev t12__law_due_2 : NS := (sSeq (sAsg (nLst nNil) (pName 6))
    t11__law_due_2)
abbrev t13__law_due_2 : NS := (sSeq (sAsg (nOp2 fAdd (nV 1) (nCall fSum (nCons (nLc (iSeq (nV 2)) (pName 10) nYes e3__law_due_2 [10]) nNil))) (pName 5))
    t12__law_due_2)
def m__law_due_2 : NF := nFun 11 (sSeq (sIf (nOrT (nBool (nOp2 fNe (nV 3) (nC (.int 1)))) (nBool (nOp2 fEq (nOp2 fMod (nCall fLen (nCons (nV 4) nNil)) (nC (.int 2))) (nC (.int 1))))) i2__law_due_2 sPass)
    t13__law_due_2)
end OW

set_option Elab.async false
set_option linter.all false
set_option maxRecDepth 100000
set_option maxHeartbeats 4000000
namespace OW
open NY PySem PySem.Spec PyProof.Rows L2
local macro_rules | `(tactic| walk_at "pick") => `(tactic| first | with_reducible exact Pick.head | ((with_reducible apply Pick.tail); walk_at "pick") | fail)
local macro_rules | `(tactic| walk_at "sub") => `(tactic| first | with_reducible exact Sub.refl | ((with_reducible apply Sub.drop); walk_at "sub") | fail)
local macro_rules | `(tactic| walk_at "cov") => `(tactic| first | with_reducible exact Covers.nil | ((with_reducible apply Covers.cons); (walk_at "pick"); walk_at "cov") | ((with_reducible apply Covers.sub); walk_at "sub") | fail)
local macro_rules | `(tactic| walk_at "at") => `(tactic| first | assumption | ((with_reducible apply At.cover); assumption; walk_at "cov") | fail)
local macro_rules | `(tactic| walk_at "hp") => `(tactic| first | assumption | ((with_reducible apply At.get); assumption; walk_at "pick") | fail)
local macro_rules | `(tactic| walk_at "st") => `(tactic| first
  | ((with_reducible apply wp_V); rfl) | with_reducible refine wp_C ?_ | with_reducible refine wp_op2 ?_ | with_reducible refine wp_cons ?_ | with_reducible refine wp_nil ?_ | with_reducible refine wp_call ?_
  | with_reducible refine wp_seq ?_ | with_reducible refine wp_asg _ ?_ | with_reducible refine wp_ret ?_ | with_reducible refine wp_pass ?_ | with_reducible refine wp_expr ?_
  | dsimp only [List.set_cons_zero, List.set_cons_succ, setAll]
  | with_reducible refine wp_bool ?_ | with_reducible refine ex_bl ?_ | with_reducible refine ex_tru ?_ | with_reducible refine wp_tru ?_
  | with_reducible refine wp_eqS ?_ | with_reducible refine wp_eqI ?_ | with_reducible refine wp_addI ?_ | with_reducible refine wp_getT0 ?_ | ((with_reducible apply wp_getT); rfl) | ((with_reducible apply wp_getL); (walk_at "hp"); rfl)
  | with_reducible refine ex_kdT ?_ | with_reducible refine ex_kdC ?_ | with_reducible refine ex_kdI ?_ | with_reducible refine ex_kdB ?_ | with_reducible refine ex_kdS ?_ | with_reducible refine ex_kd0 ?_ | with_reducible refine ex_int ?_ | with_reducible refine ex_str ?_
  | with_reducible refine wp_asgT ?_ | with_reducible refine wp_tup ?_ | with_reducible refine sl_fldput ?_ | with_reducible refine sl_put ?_
  | with_reducible refine wp_subI ?_ | ((with_reducible apply wp_mulR); decide) | ((with_reducible apply wp_mulL); decide) | ((with_reducible apply wp_modI); (first | decide | assumption)) | ((with_reducible apply wp_divL); decide) | ((with_reducible apply wp_divI); (first | decide | assumption)) | with_reducible refine wp_negI ?_ | with_reducible refine wp_ltI ?_ | with_reducible refine wp_leI ?_ | with_reducible refine wp_gtI ?_ | with_reducible refine wp_geI ?_ | with_reducible refine wp_intI ?_ | with_reducible refine wp_abs ?_
  | with_reducible refine wp_neI ?_ | with_reducible refine wp_eqB ?_ | with_reducible refine wp_neB ?_ | with_reducible refine wp_neS ?_ | with_reducible refine wp_isB ?_ | with_reducible refine wp_isNotB ?_ | with_reducible refine wp_isN0 ?_ | with_reducible refine wp_isNotN0 ?_ | with_reducible refine wp_isNI ?_ | with_reducible refine wp_isNotNI ?_ | with_reducible refine wp_isNS ?_ | with_reducible refine wp_isNotNS ?_ | with_reducible refine wp_isNT ?_ | with_reducible refine wp_isNotNT ?_ | with_reducible refine wp_isNR ?_ | with_reducible refine wp_isNotNR ?_ | with_reducible refine wp_cutT ?_ | with_reducible refine wp_lenT ?_ | ((with_reducible apply wp_getTI); (first | assumption | omega); (first | assumption | omega))
  | ((with_reducible apply wp_catT); exact le_size (by simp only [List.length_append, List.length_cons, List.length_nil, List.length_map]; omega)) | ((with_reducible apply wp_lenL); walk_at "hp") | ((with_reducible apply sl_pop0); assumption; walk_at "pick"; intro _ _)
  | with_reducible refine wp_op1 ?_ | with_reducible refine wp_andT ?_ | with_reducible refine wp_orT ?_ | with_reducible refine wp_notT ?_ | with_reducible refine wp_and ?_ | with_reducible refine wp_or ?_ | with_reducible refine wp_not ?_ | with_reducible refine wp_chLL ?_ | with_reducible refine wp_chLl ?_ | with_reducible refine ex_ch ?_ | with_reducible refine sl_lst ?_ | with_reducible refine wp_bmL ?_ | with_reducible refine wp_bmS ?_
  | with_reducible refine wp_psNil ?_ | with_reducible refine wp_psCons ?_ | with_reducible refine sl_disp ?_ | with_reducible refine wp_noPart ?_ | with_reducible refine wp_part ?_ | with_reducible refine wp_cut ?_ | with_reducible refine wp_isi ?_ | with_reducible refine wp_fld ?_ | with_reducible refine wp_meth ?_ | with_reducible refine wp_methW ?_ | with_reducible refine sl_make ?_
  | ((with_reducible apply ex_refL); walk_at "hp") | ((with_reducible apply ex_tup); exact rfl) | ((with_reducible apply put_L); assumption; walk_at "pick"; rfl; intro N9 H9; (try simp only [Int.reduceToNat, List.set_cons_zero, List.set_cons_succ] at H9)) | ((with_reducible apply and_size); (first | decide | (simp only [List.length_cons, List.length_nil]; decide))) | ((with_reducible apply ex_fld); (walk_at "hp"); (decide); rfl) | ((with_reducible apply ex_meth); (walk_at "hp"); rfl) | ((with_reducible apply OW.ex_nmeth); assumption; (walk_at "pick"); rfl) | ((with_reducible apply OW.ex_wmeth); assumption; (walk_at "pick"); rfl) | ((with_reducible apply OW.ex_rmethW); assumption; (walk_at "pick"); rfl; rfl) | ((with_reducible apply OW.ex_rmeth); assumption; (walk_at "pick"); rfl)
  | ((with_reducible apply ex_at); assumption; intro _ _ _) | ((with_reducible apply ex_fldput); assumption; (walk_at "pick"); (decide); (first | decide | exact Nat.le_of_ble_eq_true rfl); intro _ _) | ((with_reducible apply ex_kdL); walk_at "hp") | ((with_reducible apply ex_kdD); walk_at "hp")
  | ((with_reducible apply sl_list); rfl; assumption; intro _ _ _) | ((with_reducible apply sl_tuple); assumption; walk_at "pick") | ((with_reducible apply sl_dK); assumption; intro _ _ _) | ((with_reducible apply sl_dT); assumption; intro _ _ _) | fail)
local macro_rules | `(tactic| walk_at "go") => `(tactic| repeat' (walk_at "st"))
local macro_rules | `(tactic| walk_at "gos") => `(tactic| repeat' (first | with_reducible refine wp_sif ?_ | (walk_at "st") | fail))
local macro_rules | `(tactic| walk_at "ifs") => `(tactic| first | with_reducible refine ifT (by decide +kernel) ?_ | with_reducible refine ifF (by decide +kernel) ?_ | with_reducible refine wp_sif ?_ | (walk_at "st") | with_reducible refine wp_if ?_ | with_reducible refine ifT (by simp only [List.length_cons, List.length_nil]; decide +kernel) ?_ | with_reducible refine ifF (by simp only [List.length_cons, List.length_nil]; decide +kernel) ?_ | fail)
local macro_rules | `(tactic| walk_at "goi") => `(tactic| repeat' (walk_at "ifs"))
local macro_rules | `(tactic| walk_at "box") => `(tactic| (apply OW.box_mk; assumption; walk_at "pick"; walk_at "pick"))
section
variable {Q : D → NH → Prop} {E : XP} {N : NH} {n k : Nat} {σ : NEnv} {L R : List HP}
/-- the box of draws -/
def box (b : Nat) : HP := exH fun c : Nat => exH fun cs : List Int => exH fun x : Int => exH fun y : Int => exH fun z : Int => star (pt b (.lst [.ref c, .int x, .int y, .int z])) (pt c (.lst (cs.map .int)))
theorem box_mk {b c : Nat} {cs : List Int} {x y z : Int} (H : At N L) (hp : Pick L (pt b (.lst [.ref c, .int x, .int y, .int z])) R) {R2 : List HP} (hp2 : Pick R (pt c (.lst (cs.map .int))) R2) : At N (box b :: R2) :=
  At.ex c (At.ex cs (At.ex x (At.ex y (At.ex z (At.star (H.cover (.cons hp (.cons hp2 .nil)) |> fun h => (H.pick hp |> fun h2 => Sat.cons (fun _ s => hp2.sat s) h2)))))))
local macro_rules | `(tactic| walk_at "box") => `(tactic| (with_reducible apply box_mk; assumption; walk_at "pick"; walk_at "pick"))
end
end OW
set_option Elab.async false
set_option linter.all false
set_option maxRecDepth 100000
set_option maxHeartbeats 4000000
namespace OW
open NY PySem PySem.Spec PyProof.Rows L2
local macro_rules | `(tactic| walk_at "pick") => `(tactic| first | with_reducible exact Pick.head | ((with_reducible apply Pick.tail); walk_at "pick") | fail)
local macro_rules | `(tactic| walk_at "sub") => `(tactic| first | with_reducible exact Sub.refl | ((with_reducible apply Sub.drop); walk_at "sub") | fail)
local macro_rules | `(tactic| walk_at "cov") => `(tactic| first | with_reducible exact Covers.nil | ((with_reducible apply Covers.cons); (walk_at "pick"); walk_at "cov") | ((with_reducible apply Covers.sub); walk_at "sub") | fail)
local macro_rules | `(tactic| walk_at "at") => `(tactic| first | assumption | ((with_reducible apply At.cover); assumption; walk_at "cov") | fail)
local macro_rules | `(tactic| walk_at "hp") => `(tactic| first | assumption | ((with_reducible apply At.get); assumption; walk_at "pick") | fail)
local macro_rules | `(tactic| walk_at "st") => `(tactic| first
  | ((with_reducible apply wp_V); rfl) | with_reducible refine wp_C ?_ | with_reducible refine wp_op2 ?_ | with_reducible refine wp_cons ?_ | with_reducible refine wp_nil ?_ | with_reducible refine wp_call ?_
  | with_reducible refine wp_seq ?_ | with_reducible refine wp_asg _ ?_ | with_reducible refine wp_ret ?_ | with_reducible refine wp_pass ?_ | with_reducible refine wp_expr ?_
  | dsimp only [List.set_cons_zero, List.set_cons_succ, setAll]
  | with_reducible refine wp_bool ?_ | with_reducible refine ex_bl ?_ | with_reducible refine ex_tru ?_ | with_reducible refine wp_tru ?_
  | with_reducible refine wp_eqS ?_ | with_reducible refine wp_eqI ?_ | with_reducible refine wp_addI ?_ | with_reducible refine wp_getT0 ?_ | ((with_reducible apply wp_getT); rfl) | ((with_reducible apply wp_getL); (walk_at "hp"); rfl)
  | with_reducible refine ex_kdT ?_ | with_reducible refine ex_kdC ?_ | with_reducible refine ex_kdI ?_ | with_reducible refine ex_kdB ?_ | with_reducible refine ex_kdS ?_ | with_reducible refine ex_kd0 ?_ | with_reducible refine ex_int ?_ | with_reducible refine ex_str ?_
  | with_reducible refine wp_asgT ?_ | with_reducible refine wp_tup ?_ | with_reducible refine sl_fldput ?_ | with_reducible refine sl_put ?_
  | with_reducible refine wp_subI ?_ | ((with_reducible apply wp_mulR); decide) | ((with_reducible apply wp_mulL); decide) | ((with_reducible apply wp_modI); (first | decide | assumption)) | ((with_reducible apply wp_divL); decide) | ((with_reducible apply wp_divI); (first | decide | assumption)) | with_reducible refine wp_negI ?_ | with_reducible refine wp_ltI ?_ | with_reducible refine wp_leI ?_ | with_reducible refine wp_gtI ?_ | with_reducible refine wp_geI ?_ | with_reducible refine wp_intI ?_ | with_reducible refine wp_abs ?_
  | with_reducible refine wp_neI ?_ | with_reducible refine wp_eqB ?_ | with_reducible refine wp_neB ?_ | with_reducible refine wp_neS ?_ | with_reducible refine wp_isB ?_ | with_reducible refine wp_isNotB ?_ | with_reducible refine wp_isN0 ?_ | with_reducible refine wp_isNotN0 ?_ | with_reducible refine wp_isNI ?_ | with_reducible refine wp_isNotNI ?_ | with_reducible refine wp_isNS ?_ | with_reducible refine wp_isNotNS ?_ | with_reducible refine wp_isNT ?_ | with_reducible refine wp_isNotNT ?_ | with_reducible refine wp_isNR ?_ | with_reducible refine wp_isNotNR ?_ | with_reducible refine wp_cutT ?_ | with_reducible refine wp_lenT ?_ | ((with_reducible apply wp_getTI); (first | assumption | omega); (first | assumption | omega))
  | ((with_reducible apply wp_catT); exact le_size (by simp only [List.length_append, List.length_cons, List.length_nil, List.length_map]; omega)) | ((with_reducible apply wp_lenL); walk_at "hp") | ((with_reducible apply sl_pop0); assumption; walk_at "pick"; intro _ _)
  | with_reducible refine wp_op1 ?_ | with_reducible refine wp_andT ?_ | with_reducible refine wp_orT ?_ | with_reducible refine wp_notT ?_ | with_reducible refine wp_and ?_ | with_reducible refine wp_or ?_ | with_reducible refine wp_not ?_ | with_reducible refine wp_chLL ?_ | with_reducible refine wp_chLl ?_ | with_reducible refine ex_ch ?_ | with_reducible refine sl_lst ?_ | with_reducible refine wp_bmL ?_ | with_reducible refine wp_bmS ?_
  | with_reducible refine wp_psNil ?_ | with_reducible refine wp_psCons ?_ | with_reducible refine sl_disp ?_ | with_reducible refine wp_noPart ?_ | with_reducible refine wp_part ?_ | with_reducible refine wp_cut ?_ | with_reducible refine wp_isi ?_ | with_reducible refine wp_fld ?_ | with_reducible refine wp_meth ?_ | with_reducible refine wp_methW ?_ | with_reducible refine sl_make ?_
  | ((with_reducible apply ex_refL); walk_at "hp") | ((with_reducible apply ex_tup); exact rfl) | ((with_reducible apply put_L); assumption; walk_at "pick"; rfl; intro N9 H9; (try simp only [Int.reduceToNat, List.set_cons_zero, List.set_cons_succ] at H9)) | ((with_reducible apply and_size); (first | decide | (simp only [List.length_cons, List.length_nil]; decide))) | ((with_reducible apply ex_fld); (walk_at "hp"); (decide); rfl) | ((with_reducible apply ex_meth); (walk_at "hp"); rfl) | ((with_reducible apply OW.ex_nmeth); assumption; (walk_at "pick"); rfl) | ((with_reducible apply OW.ex_wmeth); assumption; (walk_at "pick"); rfl) | ((with_reducible apply OW.ex_rmethW); assumption; (walk_at "pick"); rfl; rfl) | ((with_reducible apply OW.ex_rmeth); assumption; (walk_at "pick"); rfl)
  | ((with_reducible apply ex_at); assumption; intro _ _ _) | ((with_reducible apply ex_fldput); assumption; (walk_at "pick"); (decide); (first | decide | exact Nat.le_of_ble_eq_true rfl); intro _ _) | ((with_reducible apply ex_kdL); walk_at "hp") | ((with_reducible apply ex_kdD); walk_at "hp")
  | ((with_reducible apply sl_list); rfl; assumption; intro _ _ _) | ((with_reducible apply sl_tuple); assumption; walk_at "pick") | ((with_reducible apply sl_dK); assumption; intro _ _ _) | ((with_reducible apply sl_dT); assumption; intro _ _ _) | fail)
local macro_rules | `(tactic| walk_at "go") => `(tactic| repeat' (walk_at "st"))
local macro_rules | `(tactic| walk_at "gos") => `(tactic| repeat' (first | with_reducible refine wp_sif ?_ | (walk_at "st") | fail))
local macro_rules | `(tactic| walk_at "ifs") => `(tactic| first | with_reducible refine ifT (by decide +kernel) ?_ | with_reducible refine ifF (by decide +kernel) ?_ | with_reducible refine wp_sif ?_ | (walk_at "st") | with_reducible refine wp_if ?_ | with_reducible refine ifT (by simp only [List.length_cons, List.length_nil]; decide +kernel) ?_ | with_reducible refine ifF (by simp only [List.length_cons, List.length_nil]; decide +kernel) ?_ | fail)
local macro_rules | `(tactic| walk_at "goi") => `(tactic| repeat' (walk_at "ifs"))
local macro_rules | `(tactic| walk_at "box") => `(tactic| (apply OW.box_mk; assumption; walk_at "pick"; walk_at "pick"))
section
variable {Q : D → NH → Prop} {E : XP} {N : NH} {n k : Nat} {σ : NEnv} {L R : List HP}
theorem small_log {m : Int} (h : 0 ≤ m) (h2 : m < 9000) : m.natAbs.log2 < 9000 := Nat.lt_of_le_of_lt (Nat.log2_le_self _) (by omega)
end
section
variable {Q : D → NH → Prop} {E : XP} {N : NH} {n k : Nat} {σ : NEnv}
/-- a text of real signs, not too long -/
def Nm (z : Str) (m : Nat) : Prop := z.length ≤ m ∧ ∀ c ∈ z.cps.toList, c < 0x110000
theorem Nm.mono {z : Str} {i j : Nat} (h : Nm z i) (l : i ≤ j) : Nm z j := ⟨Nat.le_trans h.1 l, h.2⟩
theorem Nm.app {a b : Str} {i j : Nat} (h : Nm a i) (h' : Nm b j) : Nm (a ++ b) (i + j) := by
  have e : (a ++ b).cps.toList = a.cps.toList ++ b.cps.toList := by
    show (a.cps ++ b.cps).toList = _
    simp
  refine ⟨?_, fun c hc => ?_⟩
  · show (a.cps ++ b.cps).size ≤ i + j
    have h1 : a.cps.size ≤ i := h.1
    have h2 : b.cps.size ≤ j := h'.1
    simp; omega
  · rw [e] at hc
    rcases List.mem_append.mp hc with q | q
    · exact h.2 c q
    · exact h'.2 c q
theorem Nm.one {c : Nat} (h : c < 0x110000) : Nm ⟨#[c]⟩ 1 := ⟨Nat.le_refl _, fun d hd => by simp at hd; omega⟩
theorem Nm.cut {a : Str} {i : Nat} (h : Nm a i) (lo hi : Option Int) : Nm (L2.cutS a lo hi) i := by
  unfold L2.cutS
  refine ⟨?_, fun c hc => ?_⟩
  · show (Array.size _) ≤ i
    have : a.cps.size ≤ i := h.1
    simp
    omega
  · have hc : c ∈ (List.take (HT.sIx a.length a.length hi - HT.sIx a.length 0 lo) (List.drop (HT.sIx a.length 0 lo) a.cps.toList)) := by simpa using hc
    exact h.2 c (List.mem_of_mem_drop (List.mem_of_mem_take hc))
theorem Nm.ok {z : Str} {i : Nat} (h : Nm z i) : okD (.str z) = true := by
  unfold okD NY.plain dep
  simp only [Nat.zero_le, decide_true, Bool.and_true]
  rw [← Array.all_toList]
  exact List.all_eq_true.mpr fun c hc => decide_eq_true (h.2 c hc)
theorem oks {i : Nat} : ∀ {l : List Str}, (∀ z ∈ l, Nm z i) → okDs (l.map .str) = true
  | [], _ => rfl
  | z :: r, h => by
    have h1 := (h z List.mem_cons_self).ok
    have h2 := oks (l := r) fun y hy => h y (List.mem_cons_of_mem _ hy)
    unfold okD at h1
    unfold okDs at h2 ⊢
    obtain ⟨a, b⟩ := Bool.and_eq_true_iff.mp h1
    obtain ⟨c, d⟩ := Bool.and_eq_true_iff.mp h2
    rw [List.map_cons]
    unfold NY.plains NY.deps
    rw [a, c]
    have b := of_decide_eq_true b
    have d := of_decide_eq_true d
    simp; omega
theorem Nm.glue : ∀ (l : List Str) (a : Array Nat) (m : Nat), a.size ≤ m → (∀ c ∈ a.toList, c < 0x110000) → (∀ z ∈ l, Nm z 1) → Nm ⟨List.foldl (fun acc p => acc ++ (⟨#[]⟩ : Str).cps ++ p.cps) a l⟩ (m + l.length)
  | [], a, m, h1, h2, _ => ⟨h1, h2⟩
  | z :: r, a, m, h1, h2, h3 => by
    have hz := h3 z List.mem_cons_self
    have := Nm.glue r (a ++ (⟨#[]⟩ : Str).cps ++ z.cps) (m + 1) (by have h4 : z.cps.size ≤ 1 := hz.1; simp; omega) (fun c hc => by
      have hc : c ∈ a.toList ∨ c ∈ z.cps.toList := by simpa using hc
      rcases hc with q | q
      · exact h2 c q
      · exact hz.2 c q) (fun y hy => h3 y (List.mem_cons_of_mem _ hy))
    exact this.mono (by rw [List.length_cons]; omega)
theorem Nm.join {l : List Str} (h : ∀ z ∈ l, Nm z 1) : Nm (Txt.join "" l) (l.length) := by
  have e0 : ("" : Str) = ⟨#[]⟩ := by decide +kernel
  rw [e0]
  show Nm (Builtin.Str.glued ⟨#[]⟩ l) l.length
  unfold Builtin.Str.glued
  cases l with
  | nil => exact ⟨Nat.zero_le _, fun c hc => by simp [Str.empty] at hc⟩
  | cons z r =>
    have hz := h z List.mem_cons_self
    have := Nm.glue r z.cps 1 hz.1 hz.2 fun y hy => h y (List.mem_cons_of_mem _ hy)
    exact this.mono (by rw [List.length_cons]; omega)
theorem wp_join {s : Str} {ys : List Str} (h : N[n]? = some (.lst (ys.map .str))) (hl : (ys.map (·.length)).sum + ys.length * s.length ≤ 16777216) (hq : Q (.str (Txt.join s ys)) N) : wpR (fJoin (.str s) [.ref n] N) Q E := by
  have e : fJoin (.str s) [.ref n] N = .ok (.str (Txt.join s ys)) N := by
    show (match (seqN N (.ref n)).bind strsOf with | some ys => _ | none => _) = _
    have : seqN N (.ref n) = some (ys.map .str) := by simp [seqN, h]
    rw [this, Option.bind_some, strsOf_map]
    exact if_pos hl
  rw [e]
  with_unfolding_all exact hq
theorem wp_inL {l : List D} {x : D} (h : N[n]? = some (.lst l)) (hx : okD x = true) (hl : okDs l = true) (hq : Q (.bl (l.any fun z => eqD z x)) N) : wpR (fIn x (.ref n) N) Q E := wp_in (by
  have e : inN N x (.ref n) = (if okD x && okDs l then some (l.any fun z => eqD z x) else none) := by simp [inN, h]
  rw [e, hx, hl]; rfl) hq
theorem pickS {z : Str} {w : Int} (h0 : 0 ≤ w) (h1 : w < z.length) (hz : z.length ≤ sizeLine) : ∃ c, c ∈ z.cps.toList ∧ getIx N (.str z) (.int w) = some (.str ⟨#[c]⟩) := by
  have hl : w.toNat < z.cps.toList.length := by
    have : w < z.cps.size := h1
    simp; omega
  refine ⟨z.cps.toList[w.toNat], List.getElem_mem hl, ?_⟩
  show (if z.length ≤ sizeLine then (L2.atI z.cps.toList w).map fun c => D.str ⟨#[c]⟩ else none) = _
  rw [if_pos hz]
  have : L2.atI z.cps.toList w = some z.cps.toList[w.toNat] := by
    unfold L2.atI ixN
    have h2 : w < z.cps.toList.length := by
      have : w < z.cps.size := h1
      simpa using this
    rw [if_pos h0, if_pos h2]
    simp
  rw [this]; rfl
end
section
variable {Q : D → NH → Prop} {E : XP} {N : NH} {n k : Nat} {σ : NEnv} {L R R2 : List HP} {d x y z : D} {a b c : NE}
/-! the notary: the sealed rows in their order -/
abbrev Rows := List (List Key)
def tupK (ks : List Key) : D := .tup (ks.map dKey)
def numT (i : Nat) : Rows → List (List Key × D)
  | [] => []
  | k :: r => (k, .int ((i + 1 : Nat) : Int)) :: numT (i + 1) r
def posT (i : Nat) (ks : List Key) : Rows → Option Nat
  | [] => none
  | k :: r => if k = ks then some (i + 1) else posT (i + 1) ks r
/-- the seal of a row: 0 where there is none -/
def num (T : Rows) (ks : List Key) : Nat := (posT 0 ks T).getD 0
def addT (T : Rows) (ks : List Key) : Rows := if (posT 0 ks T).isSome then T else T ++ [ks]
theorem posT_none {ks : List Key} : ∀ {i : Nat} {T : Rows}, ks ∉ T → posT i ks T = none
  | _, [], _ => rfl
  | i, k :: r, h => by
    unfold posT
    rw [if_neg (show ¬ k = ks from fun e => by subst e; exact h List.mem_cons_self)]
    exact posT_none fun m => h (List.mem_cons_of_mem _ m)
theorem posT_some {ks : List Key} : ∀ {i : Nat} {T : Rows}, ks ∈ T → ∃ j, posT i ks T = some (i + j + 1) ∧ T[j]? = some ks
  | i, k :: r, h => by
    unfold posT
    by_cases e : k = ks
    · rw [if_pos e]; exact ⟨0, rfl, by rw [e]; rfl⟩
    · rw [if_neg e]
      obtain ⟨j, h1, h2⟩ := posT_some (i := i + 1) ((List.mem_cons.mp h).resolve_left fun z => e z.symm)
      exact ⟨j + 1, by rw [h1]; congr 1; omega, by simpa using h2⟩
theorem posT_app {ks : List Key} {T2 : Rows} : ∀ {i : Nat} {T : Rows}, ks ∈ T → posT i ks (T ++ T2) = posT i ks T
  | i, k :: r, h => by
    rw [List.cons_append]
    unfold posT
    by_cases e : k = ks
    · rw [if_pos e, if_pos e]
    · rw [if_neg e, if_neg e]
      exact posT_app ((List.mem_cons.mp h).resolve_left fun z => e z.symm)
theorem num_none {T : Rows} {ks : List Key} (h : ks ∉ T) : num T ks = 0 := by unfold num; rw [posT_none h]; rfl
theorem num_pos {T : Rows} {ks : List Key} (h : ks ∈ T) : 1 ≤ num T ks ∧ num T ks ≤ T.length ∧ T[num T ks - 1]? = some ks := by
  obtain ⟨j, h1, h2⟩ := posT_some (i := 0) h
  have := (List.getElem?_eq_some_iff.mp h2).1
  have e : num T ks = j + 1 := by unfold num; rw [h1]; show 0 + j + 1 = j + 1; omega
  rw [e]
  exact ⟨by omega, by omega, h2⟩
theorem num_inj {T : Rows} {k l : List Key} (h : k ∈ T) (h' : num T k = num T l) : k = l := by
  obtain ⟨a1, a2, a3⟩ := num_pos h
  by_cases hl : l ∈ T
  · obtain ⟨_, _, b3⟩ := num_pos hl
    rw [← h', a3] at b3
    exact Option.some.inj b3
  · rw [num_none hl] at h'; omega
theorem num_app {T T2 : Rows} {ks : List Key} (h : ks ∈ T) : num (T ++ T2) ks = num T ks := by unfold num; rw [posT_app h]
theorem addT_in {T : Rows} {ks : List Key} (h : ks ∈ T) : addT T ks = T := by
  obtain ⟨j, e, _⟩ := posT_some (i := 0) h
  unfold addT; rw [e]; rfl
theorem addT_out {T : Rows} {ks : List Key} (h : ks ∉ T) : addT T ks = T ++ [ks] := by unfold addT; rw [posT_none h]; rfl
theorem addT_pre (T : Rows) (ks : List Key) : ∃ T2, addT T ks = T ++ T2 := by
  by_cases h : ks ∈ T
  · exact ⟨[], by rw [List.append_nil, addT_in h]⟩
  · exact ⟨[ks], addT_out h⟩
theorem addT_len (T : Rows) (ks : List Key) : (addT T ks).length ≤ T.length + 1 := by
  by_cases h : ks ∈ T
  · rw [addT_in h]; omega
  · rw [addT_out h, List.length_append, List.length_singleton]; omega
/-- n is a notary's, of these rows, asked so often -/
def ntry (n : Nat) (T : Rows) (q : Int) : HP := exH fun a : Nat => exH fun b : Nat => star (pt n (.ins 0 [(0, .ref a), (1, .ref b), (2, .int q)])) (star (pt a (.dT (numT 0 T))) (pt b (.lst (T.map tupK))))
theorem ntry_un {T : Rows} {q : Int} (H : At N L) (hp : Pick L (ntry n T q) R) : ∃ a b, At N (pt n (.ins 0 [(0, .ref a), (1, .ref b), (2, .int q)]) :: pt a (.dT (numT 0 T)) :: pt b (.lst (T.map tupK)) :: R) := by
  obtain ⟨a, H⟩ := (H.pick hp).unex
  obtain ⟨b, H⟩ := H.unex
  have H := H.unstar
  refine ⟨a, b, ?_⟩
  exact (((H.pick (.tail .head)).unstar).pick (.tail (.tail .head)))
end
section
variable {Q : D → NH → Prop} {E : XP} {N : NH} {n k : Nat} {σ : NEnv} {L R R2 : List HP} {d x y z : D} {a b c : NE}
theorem ex_nmeth {T : Rows} {q : Int} {fs : List (Nat × NF)} {F : NF} {K : Nat → NF → Prop} (H : At N L) (hp : Pick L (ntry n T q) R) (hf : fs.find? (fun p => decide (p.1 = 0)) = some (0, F)) (hk : K n F) :
    ∃ m c fl F, D.ref n = .ref m ∧ N[m]? = some (.ins c fl) ∧ fs.find? (fun p => decide (p.1 = c)) = some (c, F) ∧ K m F := by
  obtain ⟨a, b, H⟩ := ntry_un H hp
  exact ⟨n, 0, _, F, rfl, H.get .head, hf, hk⟩
end
end OW
set_option Elab.async false
set_option linter.all false
set_option maxRecDepth 100000
set_option maxHeartbeats 4000000
namespace OW
open NY PySem PySem.Spec PyProof.Rows L2
local macro_rules | `(tactic| walk_at "pick") => `(tactic| first | with_reducible exact Pick.head | ((with_reducible apply Pick.tail); walk_at "pick") | fail)
local macro_rules | `(tactic| walk_at "sub") => `(tactic| first | with_reducible exact Sub.refl | ((with_reducible apply Sub.drop); walk_at "sub") | fail)
local macro_rules | `(tactic| walk_at "cov") => `(tactic| first | with_reducible exact Covers.nil | ((with_reducible apply Covers.cons); (walk_at "pick"); walk_at "cov") | ((with_reducible apply Covers.sub); walk_at "sub") | fail)
local macro_rules | `(tactic| walk_at "at") => `(tactic| first | assumption | ((with_reducible apply At.cover); assumption; walk_at "cov") | fail)
local macro_rules | `(tactic| walk_at "hp") => `(tactic| first | assumption | ((with_reducible apply At.get); assumption; walk_at "pick") | fail)
local macro_rules | `(tactic| walk_at "st") => `(tactic| first
  | ((with_reducible apply wp_V); rfl) | with_reducible refine wp_C ?_ | with_reducible refine wp_op2 ?_ | with_reducible refine wp_cons ?_ | with_reducible refine wp_nil ?_ | with_reducible refine wp_call ?_
  | with_reducible refine wp_seq ?_ | with_reducible refine wp_asg _ ?_ | with_reducible refine wp_ret ?_ | with_reducible refine wp_pass ?_ | with_reducible refine wp_expr ?_
  | dsimp only [List.set_cons_zero, List.set_cons_succ, setAll]
  | with_reducible refine wp_bool ?_ | with_reducible refine ex_bl ?_ | with_reducible refine ex_tru ?_ | with_reducible refine wp_tru ?_
  | with_reducible refine wp_eqS ?_ | with_reducible refine wp_eqI ?_ | with_reducible refine wp_addI ?_ | with_reducible refine wp_getT0 ?_ | ((with_reducible apply wp_getT); rfl) | ((with_reducible apply wp_getL); (walk_at "hp"); rfl)
  | with_reducible refine ex_kdT ?_ | with_reducible refine ex_kdC ?_ | with_reducible refine ex_kdI ?_ | with_reducible refine ex_kdB ?_ | with_reducible refine ex_kdS ?_ | with_reducible refine ex_kd0 ?_ | with_reducible refine ex_int ?_ | with_reducible refine ex_str ?_
  | with_reducible refine wp_asgT ?_ | with_reducible refine wp_tup ?_ | with_reducible refine sl_fldput ?_ | with_reducible refine sl_put ?_
  | with_reducible refine wp_subI ?_ | ((with_reducible apply wp_mulR); decide) | ((with_reducible apply wp_mulL); decide) | ((with_reducible apply wp_modI); (first | decide | assumption)) | ((with_reducible apply wp_divL); decide) | ((with_reducible apply wp_divI); (first | decide | assumption)) | with_reducible refine wp_negI ?_ | with_reducible refine wp_ltI ?_ | with_reducible refine wp_leI ?_ | with_reducible refine wp_gtI ?_ | with_reducible refine wp_geI ?_ | with_reducible refine wp_intI ?_ | with_reducible refine wp_abs ?_
  | with_reducible refine wp_neI ?_ | with_reducible refine wp_eqB ?_ | with_reducible refine wp_neB ?_ | with_reducible refine wp_neS ?_ | with_reducible refine wp_isB ?_ | with_reducible refine wp_isNotB ?_ | with_reducible refine wp_isN0 ?_ | with_reducible refine wp_isNotN0 ?_ | with_reducible refine wp_isNI ?_ | with_reducible refine wp_isNotNI ?_ | with_reducible refine wp_isNS ?_ | with_reducible refine wp_isNotNS ?_ | with_reducible refine wp_isNT ?_ | with_reducible refine wp_isNotNT ?_ | with_reducible refine wp_isNR ?_ | with_reducible refine wp_isNotNR ?_ | with_reducible refine wp_cutT ?_ | with_reducible refine wp_lenT ?_ | ((with_reducible apply wp_getTI); (first | assumption | omega); (first | assumption | omega))
  | ((with_reducible apply wp_catT); exact le_size (by simp only [List.length_append, List.length_cons, List.length_nil, List.length_map]; omega)) | ((with_reducible apply wp_lenL); walk_at "hp") | ((with_reducible apply sl_pop0); assumption; walk_at "pick"; intro _ _)
  | with_reducible refine wp_op1 ?_ | with_reducible refine wp_andT ?_ | with_reducible refine wp_orT ?_ | with_reducible refine wp_notT ?_ | with_reducible refine wp_and ?_ | with_reducible refine wp_or ?_ | with_reducible refine wp_not ?_ | with_reducible refine wp_chLL ?_ | with_reducible refine wp_chLl ?_ | with_reducible refine ex_ch ?_ | with_reducible refine sl_lst ?_ | with_reducible refine wp_bmL ?_ | with_reducible refine wp_bmS ?_
  | with_reducible refine wp_psNil ?_ | with_reducible refine wp_psCons ?_ | with_reducible refine sl_disp ?_ | with_reducible refine wp_noPart ?_ | with_reducible refine wp_part ?_ | with_reducible refine wp_cut ?_ | with_reducible refine wp_isi ?_ | with_reducible refine wp_fld ?_ | with_reducible refine wp_meth ?_ | with_reducible refine wp_methW ?_ | with_reducible refine sl_make ?_
  | ((with_reducible apply ex_refL); walk_at "hp") | ((with_reducible apply ex_tup); exact rfl) | ((with_reducible apply put_L); assumption; walk_at "pick"; rfl; intro N9 H9; (try simp only [Int.reduceToNat, List.set_cons_zero, List.set_cons_succ] at H9)) | ((with_reducible apply and_size); (first | decide | (simp only [List.length_cons, List.length_nil]; decide))) | ((with_reducible apply ex_fld); (walk_at "hp"); (decide); rfl) | ((with_reducible apply ex_meth); (walk_at "hp"); rfl) | ((with_reducible apply OW.ex_nmeth); assumption; (walk_at "pick"); rfl) | ((with_reducible apply OW.ex_wmeth); assumption; (walk_at "pick"); rfl) | ((with_reducible apply OW.ex_rmethW); assumption; (walk_at "pick"); rfl; rfl) | ((with_reducible apply OW.ex_rmeth); assumption; (walk_at "pick"); rfl)
  | ((with_reducible apply ex_at); assumption; intro _ _ _) | ((with_reducible apply ex_fldput); assumption; (walk_at "pick"); (decide); (first | decide | exact Nat.le_of_ble_eq_true rfl); intro _ _) | ((with_reducible apply ex_kdL); walk_at "hp") | ((with_reducible apply ex_kdD); walk_at "hp")
  | ((with_reducible apply sl_list); rfl; assumption; intro _ _ _) | ((with_reducible apply sl_tuple); assumption; walk_at "pick") | ((with_reducible apply sl_dK); assumption; intro _ _ _) | ((with_reducible apply sl_dT); assumption; intro _ _ _) | fail)
local macro_rules | `(tactic| walk_at "go") => `(tactic| repeat' (walk_at "st"))
local macro_rules | `(tactic| walk_at "gos") => `(tactic| repeat' (first | with_reducible refine wp_sif ?_ | (walk_at "st") | fail))
local macro_rules | `(tactic| walk_at "ifs") => `(tactic| first | with_reducible refine ifT (by decide +kernel) ?_ | with_reducible refine ifF (by decide +kernel) ?_ | with_reducible refine wp_sif ?_ | (walk_at "st") | with_reducible refine wp_if ?_ | with_reducible refine ifT (by simp only [List.length_cons, List.length_nil]; decide +kernel) ?_ | with_reducible refine ifF (by simp only [List.length_cons, List.length_nil]; decide +kernel) ?_ | fail)
local macro_rules | `(tactic| walk_at "goi") => `(tactic| repeat' (walk_at "ifs"))
local macro_rules | `(tactic| walk_at "box") => `(tactic| (apply OW.box_mk; assumption; walk_at "pick"; walk_at "pick"))
section
variable {Q : D → NH → Prop} {E : XP} {N : NH} {n k : Nat} {σ : NEnv} {L R R2 : List HP} {d x y z : D} {e : En} {A : NA}
theorem rs2 {m : Nat} : Builtin.Range.rangeSize 0 (m : Int) 2 = ((m + 1) / 2 : Nat) := by
  unfold Builtin.Range.rangeSize
  rw [if_pos (by decide)]
  split <;> omega
theorem sm2 {m : Nat} (hm : m ≤ 1000000) : Builtin.Range.small 0 (m : Int) 2 = true := by
  have f : ∀ x : Int, 0 ≤ x → x ≤ 2000000 → Builtin.Range.rangeFitsLong x = true := fun x h0 h1 => by
    unfold Builtin.Range.rangeFitsLong
    simp
    omega
  unfold Builtin.Range.small
  rw [rs2, f 0 (by decide) (by decide), f m (by omega) (by omega), f 2 (by decide) (by decide), f ((m + 1) / 2 : Nat) (by omega) (by omega), if_pos (by decide), f _ (by omega) (by omega)]
  simp
theorem wp_rng3 {Q : NIt → NH → Prop} {m : Nat} (hm : m ≤ 1000000) (h : wpR (A σ N) (fun l N => l = [.int 0, .int (m : Int), .int 2] ∧ Q ⟨(List.range ((m + 1) / 2)).map fun (k : Nat) => .int (2 * (k : Int)), fun _ => true⟩ N) E) : wpR (iRng3 A σ N) Q E := by
  unfold NY.iRng3
  refine wp_bind (h.mono (fun l N ⟨e1, h⟩ => ?_) fun _ _ h => h)
  subst e1
  show wpR (if (2 : Int) ≠ 0 ∧ (2 : Int).natAbs < 1073741824 ∧ Builtin.Range.small 0 (m : Int) 2 = true ∧ 0 ≤ Builtin.Range.rangeSize 0 (m : Int) 2 then NY.R.ok (⟨(List.range (Builtin.Range.rangeSize 0 (m : Int) 2).toNat).map fun (k : Nat) => D.int (0 + (k : Int) * 2), fun _ => true⟩ : NIt) N else .bad) Q E
  rw [if_pos ⟨by decide, by decide, sm2 hm, by rw [rs2]; omega⟩, rs2]
  have e : (fun (k : Nat) => D.int (0 + (k : Int) * 2)) = fun (k : Nat) => D.int (2 * (k : Int)) := by funext k; congr 1; omega
  rw [e, show (((m + 1) / 2 : Nat) : Int).toNat = (m + 1) / 2 by omega]
  with_unfolding_all exact h
/-! the tree's numbers -/
def pk (a b : Int) : List Key := [.inr "pair", .inl a, .inl b]
def sealAll (T : Rows) : List (List Key) → Rows
  | [] => T
  | k :: r => sealAll (addT T k) r
def prs (row : List Int) : List (List Key) := (List.range (row.length / 2)).map fun k => pk (row.getD (2 * k) 0) (row.getD (2 * k + 1) 0)
def up (T : Rows) (row : List Int) : List Int := (prs row).map fun k => ((num T k : Nat) : Int)
def rootG (T : Rows) : Nat → List Int → Int
  | 0, row => row.getD 0 0
  | h + 1, row => rootG T h (up T row)
def Good (T : Rows) : Nat → List Int → Prop
  | 0, _ => True
  | h + 1, row => (∀ k ∈ prs row, k ∈ T) ∧ Good T h (up T row)
theorem sealAll_pre : ∀ (T : Rows) (ks : List (List Key)), ∃ T2, sealAll T ks = T ++ T2 ∧ T2.length ≤ ks.length
  | T, [] => ⟨[], by simp [sealAll], by simp⟩
  | T, k :: r => by
    obtain ⟨T1, h1⟩ := addT_pre T k
    have h3 := addT_len T k
    obtain ⟨T2, h2, h4⟩ := sealAll_pre (addT T k) r
    refine ⟨T1 ++ T2, by unfold sealAll; rw [h2, h1, List.append_assoc], ?_⟩
    rw [h1, List.length_append] at h3
    rw [List.length_append, List.length_cons]; omega
theorem prs_len (row : List Int) : (prs row).length = row.length / 2 := by unfold prs; rw [List.length_map, List.length_range]
theorem up_len (T : Rows) (row : List Int) : (up T row).length = row.length / 2 := by unfold up; rw [List.length_map, prs_len]
theorem up_app {T T2 : Rows} {row : List Int} (h : ∀ k ∈ prs row, k ∈ T) : up (T ++ T2) row = up T row := by
  unfold up
  exact List.map_congr_left fun k hk => by rw [num_app (h k hk)]
theorem good_app : ∀ {h : Nat} {T T2 : Rows} {row : List Int}, Good T h row → Good (T ++ T2) h row
  | 0, _, _, _, _ => trivial
  | h + 1, T, T2, row, ⟨a, b⟩ => ⟨fun k hk => List.mem_append_left _ (a k hk), by rw [up_app a]; exact good_app b⟩
theorem rootG_app : ∀ {h : Nat} {T T2 : Rows} {row : List Int}, Good T h row → rootG (T ++ T2) h row = rootG T h row
  | 0, _, _, _, _ => rfl
  | h + 1, T, T2, row, ⟨a, b⟩ => by unfold rootG; rw [up_app a, rootG_app b]
end
section
variable {Q : D → NH → Prop} {E : XP} {N : NH} {n k : Nat} {σ : NEnv} {L R R2 : List HP} {d x y z : D} {e : En} {A : NA}
theorem all_mk {α : Type} {P : α → HP} {x : α} {r : List α} (H : At N (P x :: allH P r :: L)) : At N (allH P (x :: r) :: L) := At.star H
end
section
variable {Q : D → NH → Prop} {E : XP} {N : NH} {n k : Nat} {σ : NEnv} {L R R2 : List HP} {d x y z : D} {e : En} {A : NA}
theorem ints_plain : ∀ l : List Int, plains (l.map .int) = true ∧ deps (l.map .int) = 0
  | [] => ⟨rfl, rfl⟩
  | i :: r => by
    obtain ⟨a, b⟩ := ints_plain r
    rw [List.map_cons]
    unfold NY.plains deps
    rw [a, b]
    exact ⟨rfl, rfl⟩
theorem up_get {T : Rows} {row : List Int} {j : Nat} (hj : j < row.length / 2) : (up T row).getD j 0 = ((num T (pk (row.getD (2 * j) 0) (row.getD (2 * j + 1) 0)) : Nat) : Int) := by
  unfold up prs
  rw [List.getD_eq_getElem?_getD, List.getElem?_map, List.getElem?_map, List.getElem?_range hj]
  rfl
theorem pk_inj {a b c d : Int} (h : pk a b = pk c d) : a = c ∧ b = d := by
  unfold pk at h
  simp at h
  exact h
end
section
variable {Q : D → NH → Prop} {E : XP} {N : NH} {n k : Nat} {σ : NEnv} {L R R2 : List HP} {d x y z : D} {e : En} {A : NA}
/-! the table grown by at most m -/
def Ext (T T' : Rows) (m : Nat) : Prop := ∃ T2, T' = T ++ T2 ∧ T2.length ≤ m
theorem Ext.len {T T' : Rows} {m : Nat} (h : Ext T T' m) : T'.length ≤ T.length + m := by
  obtain ⟨T2, rfl, hl⟩ := h
  rw [List.length_append]; omega
theorem Ext.refl (T : Rows) : Ext T T 0 := ⟨[], by rw [List.append_nil], Nat.le_refl _⟩
theorem Ext.trans {T T1 T2 : Rows} {m k : Nat} (h : Ext T T1 m) (h' : Ext T1 T2 k) : Ext T T2 (m + k) := by
  obtain ⟨a, rfl, ha⟩ := h
  obtain ⟨b, rfl, hb⟩ := h'
  exact ⟨a ++ b, by rw [List.append_assoc], by rw [List.length_append]; omega⟩
theorem Ext.mono {T T' : Rows} {m k : Nat} (h : Ext T T' m) (l : m ≤ k) : Ext T T' k := by
  obtain ⟨a, e, ha⟩ := h
  exact ⟨a, e, by omega⟩
theorem Ext.mem {T T' : Rows} {m : Nat} (h : Ext T T' m) {ks : List Key} (hk : ks ∈ T) : ks ∈ T' := by
  obtain ⟨a, rfl, _⟩ := h
  exact List.mem_append_left _ hk
theorem Ext.num {T T' : Rows} {m : Nat} (h : Ext T T' m) {ks : List Key} (hk : ks ∈ T) : num T' ks = num T ks := by
  obtain ⟨a, rfl, _⟩ := h
  exact num_app hk
theorem Ext.all (T : Rows) (ks : List (List Key)) : Ext T (sealAll T ks) ks.length := sealAll_pre T ks
theorem Ext.good {T T' : Rows} {m h : Nat} {row : List Int} (x : Ext T T' m) (g : Good T h row) : Good T' h row ∧ rootG T' h row = rootG T h row := by
  obtain ⟨a, rfl, _⟩ := x
  exact ⟨good_app g, rootG_app g⟩
/-- roots tell their rows -/
theorem pair_ext : ∀ {m : Nat} {a b : List Int}, a.length = 2 * m → b.length = 2 * m → (∀ j < m, a.getD (2 * j) 0 = b.getD (2 * j) 0 ∧ a.getD (2 * j + 1) 0 = b.getD (2 * j + 1) 0) → a = b
  | m, a, b, ha, hb, h => by
    apply List.ext_getElem (by omega)
    intro i h1 h2
    have e1 : a.getD i 0 = a[i] := by rw [List.getD_eq_getElem?_getD, List.getElem?_eq_getElem h1]; rfl
    have e2 : b.getD i 0 = b[i] := by rw [List.getD_eq_getElem?_getD, List.getElem?_eq_getElem h2]; rfl
    rw [← e1, ← e2]
    obtain ⟨x, y⟩ := h (i / 2) (by omega)
    by_cases hp : i % 2 = 0
    · rwa [show 2 * (i / 2) = i by omega] at x
    · rwa [show 2 * (i / 2) + 1 = i by omega] at y
theorem rootG_inj : ∀ {h : Nat} {T : Rows} {a b : List Int}, Good T h a → Good T h b → a.length = 2 ^ h → b.length = 2 ^ h → rootG T h a = rootG T h b → a = b
  | 0, T, a, b, _, _, ha, hb, e => by
    match a, b, ha, hb with
    | [x], [y], _, _ => rw [show x = y from e]
  | h + 1, T, a, b, ga, gb, ha, hb, e => by
    have hpow : 2 ^ (h + 1) = 2 * 2 ^ h := by rw [Nat.pow_succ]; omega
    have hu := rootG_inj (h := h) ga.2 gb.2 (by rw [up_len]; omega) (by rw [up_len]; omega) e
    refine pair_ext (m := 2 ^ h) (by omega) (by omega) fun j hj => ?_
    have h1 : (up T a).getD j 0 = (up T b).getD j 0 := by rw [hu]
    rw [up_get (by omega), up_get (by omega)] at h1
    have hm : pk (a.getD (2 * j) 0) (a.getD (2 * j + 1) 0) ∈ T := ga.1 _ (List.mem_map.mpr ⟨j, List.mem_range.mpr (by omega), rfl⟩)
    exact pk_inj (num_inj hm (by omega))
def leafR (T : Rows) (ks : List (List Key)) : List Int := ks.map fun k => ((num T k : Nat) : Int)
/-- the tree over these leaves stands in T -/
def LGood (T : Rows) (ks : List (List Key)) : Prop := (∀ k ∈ ks, k ∈ T) ∧ Good T 6 (leafR T ks)
def lroot (T : Rows) (ks : List (List Key)) : Int := rootG T 6 (leafR T ks)
theorem leafR_ext {T T' : Rows} {m : Nat} {ks : List (List Key)} (x : Ext T T' m) (h : ∀ k ∈ ks, k ∈ T) : leafR T' ks = leafR T ks := List.map_congr_left fun k hk => by rw [x.num (h k hk)]
theorem LGood.ext {T T' : Rows} {m : Nat} {ks : List (List Key)} (g : LGood T ks) (x : Ext T T' m) : LGood T' ks ∧ lroot T' ks = lroot T ks := by
  have e := leafR_ext x g.1
  unfold LGood lroot
  rw [e]
  exact ⟨⟨fun k hk => x.mem (g.1 k hk), (x.good g.2).1⟩, (x.good g.2).2⟩
theorem LGood.inj {T : Rows} {a b : List (List Key)} (ga : LGood T a) (gb : LGood T b) (ha : a.length = 64) (hb : b.length = 64) (e : lroot T a = lroot T b) : a = b := by
  have h := rootG_inj ga.2 gb.2 (by unfold leafR; rw [List.length_map, ha]) (by unfold leafR; rw [List.length_map, hb]) e
  apply List.ext_getElem (by omega)
  intro i h1 h2
  have : (leafR T a)[i]? = (leafR T b)[i]? := by rw [h]
  unfold leafR at this
  rw [List.getElem?_map, List.getElem?_map, List.getElem?_eq_getElem h1, List.getElem?_eq_getElem h2] at this
  simp at this
  exact num_inj (ga.1 _ (List.getElem_mem h1)) (by omega)
end
section
variable {Q : D → NH → Prop} {E : XP} {N : NH} {n k : Nat} {σ : NEnv} {L R : List HP}
theorem cut_ints (l : List Int) (lo hi : Option Int) : ∃ r : List Int, NY.cutD (l.map D.int) lo hi = r.map D.int ∧ r.length ≤ l.length ∧ ∀ v ∈ r, v ∈ l := by
  unfold NY.cutD
  refine ⟨(l.drop (HT.sIx (l.map D.int).length 0 lo)).take (HT.sIx (l.map D.int).length (l.map D.int).length hi - HT.sIx (l.map D.int).length 0 lo), ?_, ?_, ?_⟩
  · rw [List.map_take, List.map_drop]
  · rw [List.length_take, List.length_drop]; omega
  · intro v hv
    exact List.mem_of_mem_drop (List.mem_of_mem_take hv)
end
-- mac2
section
variable {Q : D → NH → Prop} {E : XP} {N : NH} {n k : Nat} {σ : NEnv} {L R R2 : List HP} {d x y z : D} {e : En} {A : NA}
/-! histories -/
def stp (s : Int) : List Key := [.inr "step", .inl s]
def jn (a b s : Int) : List Key := [.inr "join", .inl a, .inl b, .inl s]
/-- the history of level j at place k of a row -/
def HistAt (T : Rows) (row : List Int) : Nat → Nat → Int → Prop
  | 0, k, x => stp (row.getD k 0) ∈ T ∧ x = (num T (stp (row.getD k 0)) : Nat)
  | j + 1, k, x => ∃ a b, HistAt T row j (2 * k) a ∧ HistAt T row j (2 * k + 1) b ∧ jn a b (row.getD ((k + 1) * 2 ^ (j + 1) - 1) 0) ∈ T ∧ x = (num T (jn a b (row.getD ((k + 1) * 2 ^ (j + 1) - 1) 0)) : Nat)
theorem HistAt.ext {T T' : Rows} {m : Nat} {row : List Int} (e : Ext T T' m) : ∀ {j k : Nat} {x : Int}, HistAt T row j k x → HistAt T' row j k x
  | 0, _, _, ⟨a, b⟩ => ⟨e.mem a, by rw [b, e.num a]⟩
  | j + 1, _, _, ⟨a, b, h1, h2, h3, h4⟩ => ⟨a, b, HistAt.ext e h1, HistAt.ext e h2, e.mem h3, by rw [h4, e.num h3]⟩
theorem HistAt.pos {T : Rows} {row : List Int} : ∀ {j k : Nat} {x : Int}, HistAt T row j k x → 1 ≤ x ∧ x ≤ (T.length : Nat)
  | 0, _, _, ⟨a, b⟩ => by have := num_pos a; omega
  | j + 1, _, _, ⟨a, b, h1, h2, h3, h4⟩ => by have := num_pos h3; omega
/-- a level of the histories of a row -/
structure Lev (T : Rows) (row : List Int) (j : Nat) (l : List Int) : Prop where
  n : l.length * 2 ^ j = row.length
  h : ∀ k < l.length, HistAt T row j k (l.getD k 0)
theorem Lev.ext {T T' : Rows} {m j : Nat} {row l : List Int} (h : Lev T row j l) (e : Ext T T' m) : Lev T' row j l := ⟨h.n, fun k hk => (h.h k hk).ext e⟩
theorem getD_mem {l : List Int} {k : Nat} (h : k < l.length) : l.getD k 0 ∈ l := by
  rw [List.getD_eq_getElem?_getD, List.getElem?_eq_getElem h]
  exact List.getElem_mem h
theorem tup_get {l : List Int} {i : Int} {k : Nat} (e : i = (k : Int)) (h : k < l.length) : atD (l.map .int) i = some (.int (l.getD k 0)) := by
  subst e
  have := atD_int (l := l) (i := (k : Int)) (by omega) (by omega)
  rwa [Int.toNat_natCast] at this
end
-- mac2
section
variable {Q : D → NH → Prop} {E : XP} {N : NH} {n k : Nat} {σ : NEnv} {L R R2 : List HP} {d x y z : D} {e : En} {A : NA}
theorem wp_yesH {Q : Bool → NH → Prop} (h : Q true N) : wpR (nYes σ N) Q E := by with_unfolding_all exact h
end
-- mac2
section
variable {Q : D → NH → Prop} {E : XP} {N : NH} {n k : Nat} {σ : NEnv} {L R R2 : List HP} {d x y z : D} {e : En} {A : NA}
abbrev MP : Int := 281474976710656
def bh (p h : Int) : List Key := [.inr "behind", .inl p, .inl h]
/-- the rows of such a table: steps, joins and pasts -/
inductive HRow (m : Nat) : List Key → Prop
  | s {s : Int} : 1 ≤ s ∧ s ≤ MP → HRow m (stp s)
  | j {a b s : Int} : 1 ≤ a ∧ a ≤ (m : Int) → 1 ≤ b ∧ b ≤ (m : Int) → 1 ≤ s ∧ s ≤ MP → HRow m (jn a b s)
  | b {p h : Int} : 0 ≤ p ∧ p ≤ (m : Int) → 1 ≤ h ∧ h ≤ (m : Int) → HRow m (bh p h)
theorem HRow.mono {m k : Nat} {ks : List Key} (h : HRow m ks) (l : m ≤ k) : HRow k ks := by
  cases h with
  | s h => exact .s h
  | j a b s => exact .j ⟨a.1, by omega⟩ ⟨b.1, by omega⟩ s
  | b a b => exact .b ⟨a.1, by omega⟩ ⟨b.1, by omega⟩
end
-- mac2
-- mac2
section
variable {Q : D → NH → Prop} {E : XP} {N : NH} {n k : Nat} {σ : NEnv} {L R R2 : List HP} {d x y z : D} {e : En} {A : NA}
theorem wp_itR {Q : NIt → NH → Prop} {a : NE} (h : wpR (a σ N) (fun d N => ∃ m l, d = .ref m ∧ N[m]? = some (.lst l) ∧ Q ⟨l, fun N => decide (N[m]? = some (.lst l))⟩ N) E) : wpR (iSeq a σ N) Q E :=
  wp_it (h.mono (fun d N ⟨m, l, e1, e2, h⟩ => ⟨⟨l, fun N => decide (N[m]? = some (.lst l))⟩, by subst e1; unfold itOf; simp [e2], h⟩) fun _ _ h => h)
theorem take_succ_get {α : Type} {l : List α} {j : Nat} {x : α} (h : l[j]? = some x) : l.take (j + 1) = l.take j ++ [x] := by rw [List.take_add_one, h]; rfl
theorem map_get_int {l : List Int} {j : Nat} {y : D} (h : (l.map D.int)[j]? = some y) : ∃ x, l[j]? = some x ∧ y = .int x := by
  rw [List.getElem?_map] at h
  obtain ⟨x, h1, rfl⟩ := Option.map_eq_some_iff.mp h
  exact ⟨x, h1, rfl⟩
end
-- mac2
section
variable {Q : D → NH → Prop} {E : XP} {N : NH} {n k : Nat} {σ : NEnv} {L R R2 : List HP} {d x y z : D} {e : En} {A : NA}
/-! draws by a row of numbers -/
inductive ScA (l : List D) : D → List HP → Prop
  | lsc : ScA l (.lsc l) []
  | ref (n : Nat) : ScA l (.ref n) [pt n (.lst l)]
theorem scr_at {d : D} {l : List D} (h : Scr N d l) : ∃ S, ScA l d S ∧ At N S := by
  rcases h with ⟨rfl, rfl⟩ | ⟨rfl, rfl⟩
  · exact ⟨[], .lsc, At.nil⟩
  · exact ⟨_, .ref 0, At.new (N := []) (o := .lst l) At.nil⟩
theorem sc_cut {l : List D} {S : List HP} {P : HP} {lo hi : Option Int} (h : ScA l d S) (H : At N (P :: S)) (hq : ∀ (k : Nat) (N' : NH), At N' [pt k (.lst (NY.cutD l lo hi)), P] → Q (.ref k) N') : wpR (fCut d lo hi N) Q E := by
  cases h with
  | lsc => with_unfolding_all exact hq _ _ H.new
  | ref n => exact sl_cutL H (.tail .head) fun k N' H' => hq k N' (H'.cover (.cons .head (.cons .head .nil)))
theorem sc_len {l : List D} {S : List HP} (h : ScA l d S) (H : At N S) : lenN N d = some (l.length : Nat) := by
  cases h with
  | lsc => rfl
  | ref n => simp [lenN, H.get .head]
theorem mix_ok {a b : Int} (hQ : ∀ w : Int, 0 ≤ w → Q (.int w) N) : wpR (m__law_mix [.int a, .int b] N) Q E := by
  refine wp_fun2 ?_
  simp only [List.replicate]
  walk_at "gos"
  exact hQ _ (Int.emod_nonneg _ (by decide))
abbrev Small (l : List Int) : Prop := ∀ v ∈ l, 0 ≤ v ∧ v < 1000
theorem small_app {l : List Int} (h : Small l) (v : Int) : Small (l ++ [v % 1000]) := fun u hu => by
  rcases List.mem_append.mp hu with q | q
  · exact h u q
  · rw [List.mem_singleton.mp q]; exact ⟨Int.emod_nonneg _ (by decide), Int.emod_lt_of_pos _ (by decide)⟩
theorem map_snoc {l : List Int} {v : Int} : l.map D.int ++ [D.int v] = (l ++ [v]).map .int := by rw [List.map_append]; rfl
theorem numbers_ok {d : D} {ns : List Int} {S : List HP} {c : Nat} (hc : c ≤ 1000) (hc0 : 0 < c) (h : ScA (ns.map .int) d S) (hn : ns.length ≤ 63) (H : At N S) (hQ : ∀ (r : Nat) (l : List Int) N', At N' [pt r (.lst (l.map .int))] → l.length = c → Small l → Q (.ref r) N') : wpR (m__law_numbers [d, .int (c : Int)] N) Q E := by
  refine wp_fun2 ?_
  simp only [List.replicate]
  unfold t16__law_numbers t15__law_numbers
  generalize hX : t14__law_numbers = X
  generalize hB : b9__law_numbers = B
  walk_at "gos"
  rename_i f N1 H1
  refine wp_len (sc_len h H1.drop) ?_
  walk_at "gos"
  refine wp_for (wp_it ?_)
  walk_at "gos"
  refine sc_cut h H1 fun k2 N2 H2 => ?_
  obtain ⟨cs, hcs, hcl, _⟩ := cut_ints ns none (some 63)
  rw [hcs] at H2
  refine ⟨⟨cs.map .int, fun N => decide (N[k2]? = some (.lst (cs.map .int)))⟩, by unfold itOf; simp [H2.get .head], ?_⟩
  refine wp_loop (fun i σ N' => ∃ (fl : List Int) (tot : Int) (s4 s5 s6 : Option D), σ = [some d, some (.int (c : Int)), some (.ref f), some (.int tot), s4, s5, s6] ∧ Small fl ∧ fl.length ≤ 60 * i ∧ i ≤ 63 ∧ At N' [pt f (.lst (fl.map .int)), pt k2 (.lst (cs.map .int))])
    ⟨[], _, _, _, _, rfl, (fun _ h => nomatch h), by simp, by omega, H2.cover (.cons (.tail .head) (.cons .head .nil))⟩ (fun i σ N' ⟨_, _, _, _, _, _, _, _, _, H'⟩ => decide_eq_true (H'.get (.tail .head))) ?_ ?_
  · rintro i z σ N3 hz ⟨fl, tot, s4, s5, s6, rfl, hs3, hl3, hi, H3⟩
    obtain ⟨c0, hc, rfl⟩ := map_get_int hz
    have hi2 := (List.getElem?_eq_some_iff.mp hc).1
    refine ⟨_, rfl, ?_⟩
    subst hB
    unfold b9__law_numbers t8__law_numbers
    generalize hY : t7__law_numbers = Y
    walk_at "gos"
    generalize (if c0 < 0 then -c0 else c0) = nm
    refine mix_ok fun tot h0 => ?_
    walk_at "gos"
    subst hY
    unfold t7__law_numbers
    walk_at "gos"
    refine wp_powI (by decide) ?_
    walk_at "gos"
    split
    · unfold i5__law_numbers
      refine wp_for (wp_rng1 ?_)
      walk_at "gos"
      refine ⟨_, rfl, by decide, by decide, ?_⟩
      refine wp_loop (fun j σ N' => ∃ (fl : List Int) (nm : Int) (s5 : Option D), σ = [some d, some (.int (c : Int)), some (.ref f), some (.int tot), some (.int c0), s5, some (.int nm)] ∧ Small fl ∧ fl.length ≤ 60 * i + j ∧ j ≤ 60 ∧ At N' [pt f (.lst (fl.map .int)), pt k2 (.lst (cs.map .int))])
        ⟨fl, nm, _, rfl, hs3, by omega, by omega, H3⟩ (fun _ _ _ _ => rfl) ?_ ?_
      · rintro j z σ N4 hz ⟨fl, nm, s5, rfl, hs5, hl5, hj, H5⟩
        have hj2 : j < 60 := by have := (List.getElem?_eq_some_iff.mp hz).1; simpa using this
        refine ⟨_, rfl, ?_⟩
        walk_at "gos"
        split
        · walk_at "gos"
          refine sl_app H5 .head (lt_size (by rw [List.length_map]; omega)) fun N5 H6 => ?_
          walk_at "gos"
          rw [map_snoc] at H6
          exact ⟨fl ++ [nm % 1000], _, _, rfl, small_app hs5 nm, by rw [List.length_append, List.length_singleton]; omega, by omega, H6⟩
        · walk_at "gos"
          exact ⟨fl, nm, _, rfl, hs5, by omega, by omega, H5⟩
      · rintro σ N4 ⟨fl, nm, s5, rfl, hs5, hl5, hj, H5⟩
        simp only [List.length_map, List.length_range] at hl5
        exact ⟨fl, tot, _, _, _, rfl, hs5, by have : Int.toNat 60 = 60 := rfl; omega, by omega, H5⟩
    · unfold i6__law_numbers
      refine wp_for (wp_rng1 ?_)
      walk_at "gos"
      refine ⟨_, rfl, by decide, by decide, ?_⟩
      refine wp_loop (fun j σ N' => ∃ (fl : List Int) (s5 : Option D), σ = [some d, some (.int (c : Int)), some (.ref f), some (.int tot), some (.int c0), s5, some (.int nm)] ∧ Small fl ∧ fl.length ≤ 60 * i + j ∧ j ≤ 60 ∧ At N' [pt f (.lst (fl.map .int)), pt k2 (.lst (cs.map .int))])
        ⟨fl, _, rfl, hs3, by omega, by omega, H3⟩ (fun _ _ _ _ => rfl) ?_ ?_
      · rintro j z σ N4 hz ⟨fl, s5, rfl, hs5, hl5, hj, H5⟩
        obtain ⟨hlt, rfl⟩ := List.getElem?_eq_some_iff.mp hz
        have hj2 : j < 6 := by simpa using hlt
        refine ⟨_, rfl, ?_⟩
        simp only [List.getElem_map, List.getElem_range]
        walk_at "gos"
        refine mix_ok fun mx h0 => ?_
        walk_at "gos"
        refine sl_app H5 .head (lt_size (by rw [List.length_map]; omega)) fun N5 H6 => ?_
        walk_at "gos"
        rw [map_snoc] at H6
        exact ⟨fl ++ [mx % 1000], _, rfl, small_app hs5 mx, by rw [List.length_append, List.length_singleton]; omega, by omega, H6⟩
      · rintro σ N4 ⟨fl, s5, rfl, hs5, hl5, hj, H5⟩
        simp only [List.length_map, List.length_range] at hl5
        exact ⟨fl, tot, _, _, _, rfl, hs5, by have : Int.toNat 6 = 6 := rfl; omega, by omega, H5⟩
  · rintro σ N3 ⟨fl, tot, s4, s5, s6, rfl, hs3, hl3, hi, H3⟩
    subst hX
    unfold t14__law_numbers
    generalize hX : t13__law_numbers = X
    walk_at "gos"
    refine wp_for (wp_rng1 ?_)
    walk_at "gos"
    refine ⟨_, rfl, by omega, by omega, ?_⟩
    rw [Int.toNat_natCast]
    refine wp_loop (fun j σ N' => ∃ (fl : List Int) (tot : Int) (s5 : Option D), σ = [some d, some (.int (c : Int)), some (.ref f), some (.int tot), s4, s5, s6] ∧ Small fl ∧ j ≤ fl.length ∧ fl.length ≤ 4000 + j ∧ j ≤ c ∧ At N' [pt f (.lst (fl.map .int)), pt k2 (.lst (cs.map .int))])
      ⟨fl, tot, _, rfl, hs3, by omega, by rw [List.length_map] at hl3; omega, by omega, H3⟩ (fun _ _ _ _ => rfl) ?_ ?_
    · rintro j z σ N4 hz ⟨fl, tot, s5, rfl, hs5, hl5, hl6, hj, H5⟩
      obtain ⟨hlt, rfl⟩ := List.getElem?_eq_some_iff.mp hz
      have hj2 : j < c := by simpa using hlt
      refine ⟨_, rfl, ?_⟩
      simp only [List.getElem_map, List.getElem_range]
      walk_at "gos"
      rw [List.length_map]
      split
      · walk_at "gos"
        refine mix_ok fun mx h0 => ?_
        walk_at "gos"
        refine sl_app H5 .head (lt_size (by rw [List.length_map]; omega)) fun N5 H6 => ?_
        walk_at "gos"
        rw [map_snoc] at H6
        exact ⟨fl ++ [mx % 1000], _, _, rfl, small_app hs5 mx, by rw [List.length_append, List.length_singleton]; omega, by rw [List.length_append, List.length_singleton]; omega, by omega, H6⟩
      · rename_i hc
        have hc : ¬ (fl.length : Int) < c := by simpa using hc
        walk_at "gos"
        exact ⟨fl, _, _, rfl, hs5, by omega, by omega, by omega, H5⟩
    · rintro σ N4 ⟨fl, tot, s5, rfl, hs5, hl5, hl6, hj, H5⟩
      have hl5 : c ≤ fl.length := by simpa using hl5
      subst hX
      walk_at "gos"
      refine sl_cutL H5 .head fun r N5 H6 => ?_
      have hcut : NY.cutD (fl.map D.int) none (some (c : Int)) = (fl.take c).map D.int := by
        unfold NY.cutD HT.sIx
        simp
        rw [if_neg (by omega)]
        omega
      rw [hcut] at H6
      exact hQ r (fl.take c) N5 (H6.cover (.cons .head .nil)) (by rw [List.length_take]; omega) fun v hv => hs5 v (List.mem_of_mem_take hv)
abbrev kAt : Key := Sum.inr ("at" : Str)
abbrev kRow : Key := Sum.inr ("row" : Str)
abbrev drK (n : Int) (r : Nat) : List (Key × D) := [(kAt, .int n), (kRow, .ref r)]
theorem at_row : ¬ (kAt = kRow) := by decide +kernel
theorem row_at : ¬ (kRow = kAt) := by decide +kernel
theorem dr_row {n : Int} {r : Nat} : valD (drK n r) kRow = some (.ref r) := by
  unfold drK valD
  rw [if_neg at_row]
  unfold valD
  rw [if_pos rfl]
theorem dr_at {n : Int} {r : Nat} : valD (drK n r) kAt = some (.int n) := by
  unfold drK valD
  rw [if_pos rfl]
theorem dr_put {n m : Int} {r : Nat} : putD (drK n r) kAt (.int m) = drK m r := by
  unfold putD
  rw [dr_at, if_pos (by rfl)]
  unfold drK repD
  rw [if_pos rfl]
  unfold repD
  rw [if_neg row_at]
  rfl
theorem dr_merge {n : Int} {r : Nat} : mergeD [] [(kAt, D.int n), (kRow, D.ref r)] = drK n r := by
  have h : valD [(kAt, D.int n)] kRow = none := by
    unfold valD
    rw [if_neg at_row]
    rfl
  unfold mergeD
  simp only [List.foldl]
  have h0 : putD ([] : List (Key × D)) kAt (D.int n) = [(kAt, D.int n)] := rfl
  rw [h0]
  unfold putD
  rw [h]
  rfl
/-- the draws at d -/
def dr (c d : Nat) : HP := exH fun r : Nat => exH fun n : Int => exH fun l : List Int => andP (0 ≤ n ∧ l.length = c ∧ Small l) (star (pt d (.dK (drK n r))) (pt r (.lst (l.map .int))))
theorem dr_un {c d : Nat} (H : At N L) (hp : Pick L (dr c d) R) : ∃ (r : Nat) (n : Int) (l : List Int), (0 ≤ n ∧ l.length = c ∧ Small l) ∧ At N (pt d (.dK (drK n r)) :: pt r (.lst (l.map .int)) :: R) := by
  obtain ⟨r, H⟩ := (H.pick hp).unex
  obtain ⟨n, H⟩ := H.unex
  obtain ⟨l, H⟩ := H.unex
  obtain ⟨a, H⟩ := H.unand
  exact ⟨r, n, l, a, H.unstar⟩
theorem draws_ok {d : D} {ns : List Int} {c : Nat} (hc : c ≤ 1000) (hc0 : 0 < c) (hs : Scr N d (ns.map .int)) (hn : ns.length ≤ 63) (hQ : ∀ (d : Nat) N', At N' [dr c d] → Q (.ref d) N') : wpR (m__law_draws [d, .int (c : Int)] N) Q E := by
  obtain ⟨S, h, H⟩ := scr_at hs
  refine wp_fun2 ?_
  simp only [List.replicate]
  walk_at "gos"
  refine numbers_ok hc hc0 h hn H fun r l N1 H1 hl hs => ?_
  walk_at "gos"
  refine ⟨_, rfl, _, rfl, by simp, _, H1, fun k N2 H2 => hQ k N2 ?_⟩
  rw [show mergeD [] [((Sum.inr ("at" : Str) : Key), D.int 0), ((Sum.inr ("row" : Str) : Key), D.ref r)] = drK 0 r from dr_merge] at H2
  exact At.ex r (At.ex 0 (At.ex l (At.and ⟨by decide, hl, hs⟩ H2.star)))
theorem take_ok {c d : Nat} {b : Int} (hc : c ≤ 1000) (hc0 : 0 < c) (hb : 0 < b) (H : At N L) (hp : Pick L (dr c d) R) (hQ : ∀ w N', 0 ≤ w → w < b → At N' (dr c d :: R) → Q (.int w) N') : wpR (m__law_take [.ref d, .int b] N) Q E := by
  obtain ⟨r, n, l, ⟨h0, hl, hs⟩, H1⟩ := dr_un H hp
  refine wp_fun2 ?_
  simp only [List.replicate]
  unfold t4__law_take t3__law_take
  generalize hX : t2__law_take = X
  walk_at "gos"
  refine wp_getKS (H1.get .head) dr_row ?_
  walk_at "gos"
  refine wp_getKS (H1.get .head) dr_at ?_
  walk_at "gos"
  refine put_K H1 .head (k := kAt) rfl (lt_size (by simp)) fun N2 H2 => ?_
  rw [dr_put] at H2
  subst hX
  unfold t2__law_take
  walk_at "gos"
  rw [List.length_map, hl]
  refine wp_modI (by omega) ?_
  have hm0 := Int.emod_nonneg n (show (c : Int) ≠ 0 by omega)
  have hm1 := Int.emod_lt_of_pos n (show (0 : Int) < c by omega)
  refine wp_getL (H2.get (.tail .head)) (atD_int hm0 (by rw [hl]; exact hm1)) ?_
  walk_at "gos"
  rw [List.length_map, hl]
  refine wp_divL ⟨by omega, small_log (by omega) (by omega)⟩ ?_
  walk_at "gos"
  exact hQ _ _ (Int.emod_nonneg _ (by omega)) (Int.emod_lt_of_pos _ hb) (At.ex r (At.ex (n + 1) (At.ex l (At.and ⟨by omega, hl, hs⟩ H2.star))))
end
-- mac2
section
variable {Q : D → NH → Prop} {E : XP} {N : NH} {n k : Nat} {σ : NEnv} {L R R2 : List HP} {d x y z : D} {e : En} {A : NA}
/-! drawn names -/
abbrev letters : Str := "abcdefghijklmnopqrstuvwxyz"
abbrev signs : Str := letters ++ ("ABCDEFGHIJKLMNOPQRSTUVWXYZ0123456789_" : Str)
abbrev wordsS : Str := "as fn if in of all and div end let mod rec sig val case else open then"
theorem letters_ok : (∀ c ∈ letters.cps.toList, c < 0x110000) ∧ letters.length = 26 := by decide +kernel
theorem signs_ok : (∀ c ∈ signs.cps.toList, c < 0x110000) ∧ signs.length = 63 := by decide +kernel
theorem words_ok : okDs ((Txt.split wordsS " ").map .str) = true := by decide +kernel
theorem us_ok : Nm "_0" 2 := by unfold Nm; decide +kernel
theorem u_ok : Nm "_" 1 := by unfold Nm; decide +kernel
theorem dig_ok {i : Nat} (h : i < 17) : Nm (toString (i : Int)) 2 ∧ ((i : Int).natAbs).log2 < 1920 := by
  have : i = 0 ∨ i = 1 ∨ i = 2 ∨ i = 3 ∨ i = 4 ∨ i = 5 ∨ i = 6 ∨ i = 7 ∨ i = 8 ∨ i = 9 ∨ i = 10 ∨ i = 11 ∨ i = 12 ∨ i = 13 ∨ i = 14 ∨ i = 15 ∨ i = 16 := by omega
  rcases this with rfl | rfl | rfl | rfl | rfl | rfl | rfl | rfl | rfl | rfl | rfl | rfl | rfl | rfl | rfl | rfl | rfl <;> exact ⟨by unfold Nm; decide +kernel, by decide⟩
theorem wp_strI {i : Int} (h : i.natAbs.log2 < 1920) (hq : Q (.str (toString i)) N) : wpR (fStr [.int i] N) Q E := by
  have e : fStr [.int i] N = .ok (.str (toString i)) N := if_pos h
  rw [e]
  with_unfolding_all exact hq
theorem wp_cutS {s : Str} {lo hi : Option Int} (hs : s.length ≤ sizeLine) (hq : Q (.str (L2.cutS s lo hi)) N) : wpR (fCut (.str s) lo hi N) Q E := by
  have e : fCut (.str s) lo hi N = .ok (.str (L2.cutS s lo hi)) N := if_pos hs
  rw [e]
  with_unfolding_all exact hq
theorem sl_split {a b : Str} (h : (b.length == 0) = false ∧ a.length + 2 ≤ sizeLine) (H : At N L) (hq : ∀ (k : Nat) (N' : NH), At N' (pt k (.lst ((Txt.split a b).map .str)) :: L) → Q (.ref k) N') : wpR (fSplit (.str a) [.str b] N) Q E := by
  have e : fSplit (.str a) [.str b] N = N.new (.lst ((Txt.split a b).map .str)) := if_pos h
  rw [e]
  with_unfolding_all exact hq _ _ H.new
theorem sum_len : ∀ (l : List Str), (∀ z ∈ l, Nm z 1) → (l.map (·.length)).sum ≤ l.length
  | [], _ => by simp
  | z :: r, h => by
    have h4 := (h z List.mem_cons_self).1
    have h5 := sum_len r fun y hy => h y (List.mem_cons_of_mem _ hy)
    simp only [List.map_cons, List.sum_cons, List.length_cons]
    omega
theorem name_ok {c d : Nat} (hc : c ≤ 1000) (hc0 : 0 < c) (H : At N L) (hp : Pick L (dr c d) R) (hQ : ∀ z N', Nm z 40 → At N' (dr c d :: R) → Q (.str z) N') : wpR (m__law_name [.ref d, .bl false] N) Q E := by
  have H := H.pick hp
  refine wp_fun2 ?_
  simp only [List.replicate]
  unfold t10__law_name t9__law_name t8__law_name t7__law_name
  generalize hX : t6__law_name = X
  walk_at "gos"
  refine wp_addS (le_size (by decide +kernel)) ?_
  walk_at "gos"
  refine take_ok hc hc0 (by decide) H .head fun w N1 w0 w1 H1 => ?_
  obtain ⟨ch, hch, hg⟩ := pickS (N := N1) (z := letters) w0 (by rw [letters_ok.2]; exact w1) (le_size (by rw [letters_ok.2]; decide))
  refine wp_get hg ?_
  have hfst : Nm ⟨#[ch]⟩ 1 := Nm.one (letters_ok.1 ch hch)
  generalize (⟨#[ch]⟩ : Str) = fst at hfst
  walk_at "goi"
  refine take_ok hc hc0 (by decide) H1 .head fun sz N2 s0 s1 H2 => ?_
  walk_at "gos"
  subst hX
  unfold t6__law_name
  generalize hX : t5__law_name = X
  have fin : ∀ (sz : Int) (N : NH), 0 ≤ sz → sz ≤ 15 → At N (dr c d :: R) → wpS (X [some (.ref d), some (.bl false), some (.str letters), some (.str signs), some (.str fst), some (.int sz), none, none, none] N) { nx := fun x N => Q D.non N, rt := Q, ex := fun x x_1 N => E x N } := by
    intro sz N s0 s1 H
    subst hX
    unfold t5__law_name
    generalize hX : t4__law_name = X
    walk_at "gos"
    refine sl_lc (wp_rng1 ?_)
    walk_at "gos"
    refine ⟨_, rfl, by omega, by omega, ?_⟩
    refine wp_lcLoop (fun i acc N' => ∃ ys : List Str, acc = ys.map .str ∧ ys.length ≤ i ∧ i ≤ 15 ∧ (∀ z ∈ ys, Nm z 1) ∧ At N' (dr c d :: R)) ⟨[], rfl, by simp, by omega, (fun _ h => nomatch h), H⟩ ?_ ?_ ?_
    · rintro i acc N' ⟨ys, rfl, h1, h2, h3, _⟩
      exact ⟨rfl, lt_size (by rw [List.length_map]; omega)⟩
    · rintro i z acc N' hz ⟨ys, rfl, h1, h2, h3, H'⟩
      have hi : i < sz.toNat := by have := (List.getElem?_eq_some_iff.mp hz).1; simpa using this
      refine ⟨_, rfl, wp_yesH (ifT rfl ?_)⟩
      simp only [wipeN]
      walk_at "gos"
      refine take_ok hc hc0 (by decide) H' .head fun w N4 w0 w1 H4 => ?_
      obtain ⟨ch, hch, hg⟩ := pickS (N := N4) (z := signs) w0 (by rw [signs_ok.2]; exact w1) (le_size (by rw [signs_ok.2]; decide))
      refine wp_get hg ?_
      refine ⟨ys ++ [⟨#[ch]⟩], by simp, by rw [List.length_append, List.length_singleton]; omega, by omega, fun z hz => ?_, H4⟩
      rcases List.mem_append.mp hz with q | q
      · exact h3 z q
      · rw [List.mem_singleton.mp q]; exact Nm.one (signs_ok.1 ch hch)
    · rintro acc N4 ⟨ys, rfl, h1, h2, h3, H4⟩
      refine ⟨_, H4, fun k5 N5 H5 => ?_⟩
      have hjn := Nm.join h3
      walk_at "gos"
      have hl0 : ("" : Str).length = 0 := by decide +kernel
      have hs := sum_len ys h3
      refine wp_join (H5.get .head) (by rw [hl0]; omega) ?_
      generalize Txt.join "" ys = rest at hjn
      have hjl : ys.length ≤ 15 := by simp at h1; omega
      walk_at "gos"
      subst hX
      unfold t4__law_name t3__law_name
      generalize hX : t2__law_name = X
      walk_at "gos"
      refine sl_split (by decide +kernel) H5.drop fun k6 N6 H6 => ?_
      walk_at "gos"
      have hcat : Nm (fst ++ rest) 20 := (hfst.app hjn).mono (by omega)
      have hz1 := hfst.1
      have hz2 := hjn.1
      refine wp_addS (le_size (by omega)) ?_
      walk_at "gos"
      refine wp_inL (H6.get .head) hcat.ok words_ok ?_
      walk_at "gos"
      split
      · walk_at "gos"
        refine wp_addS (le_size (by have := us_ok.1; omega)) ?_
        exact hQ _ _ ((hfst.app us_ok).mono (by omega)) H6.drop
      · subst hX
        walk_at "gos"
        refine wp_addS (le_size (by omega)) ?_
        exact hQ _ _ (hcat.mono (by omega)) H6.drop
  walk_at "gos"
  refine take_ok hc hc0 (by decide) H2 .head fun w N3 w0 w1 H3 => ?_
  walk_at "gos"
  split
  · walk_at "gos"
    exact fin 15 N3 (by decide) (by decide) H3
  · walk_at "gos"
    exact fin sz N3 s0 (by omega) H3
/-- a drawn row of names -/
theorem pool_ok {c d m : Nat} (hc : c ≤ 1000) (hc0 : 0 < c) (hm : m ≤ 16) (H : At N L) (hp : Pick L (dr c d) R) (hQ : ∀ (p : Nat) (zs : List Str) N', zs.length = m → (∀ z ∈ zs, Nm z 40) → At N' (pt p (.lst (zs.map .str)) :: dr c d :: R) → Q (.ref p) N') : wpR (m__law_pool [.ref d, .bl false, .int (m : Int)] N) Q E := by
  have H := H.pick hp
  refine wp_fun3 ?_
  simp only [List.replicate]
  unfold t8__law_pool
  generalize hX : t7__law_pool = X
  generalize hB : b6__law_pool = B
  walk_at "gos"
  rename_i p N1 H1
  refine wp_for (wp_rng1 ?_)
  walk_at "gos"
  refine ⟨_, rfl, by omega, by omega, ?_⟩
  rw [Int.toNat_natCast]
  refine wp_loop (fun i σ N' => ∃ (zs : List Str) (s4 s5 s6 s7 : Option D), σ = [some (.ref d), some (.bl false), some (.int (m : Int)), some (.ref p), s4, s5, s6, s7] ∧ zs.length = i ∧ i ≤ m ∧ (∀ z ∈ zs, Nm z 40) ∧ At N' (pt p (.lst (zs.map .str)) :: dr c d :: R))
    ⟨[], _, _, _, _, rfl, rfl, by omega, (fun _ h => nomatch h), H1⟩ (fun _ _ _ _ => rfl) ?_ ?_
  · rintro i z σ N2 hz ⟨zs, s4, s5, s6, s7, rfl, hl, hi, hzs, H2⟩
    obtain ⟨hlt, rfl⟩ := List.getElem?_eq_some_iff.mp hz
    have hi2 : i < m := by simpa using hlt
    refine ⟨_, rfl, ?_⟩
    simp only [List.getElem_map, List.getElem_range]
    subst hB
    unfold b6__law_pool t5__law_pool t4__law_pool
    generalize hY : t3__law_pool = Y
    generalize hC : b2__law_pool = C
    walk_at "gos"
    refine name_ok hc hc0 H2 (.tail .head) fun nm N3 hnm H3 => ?_
    have H3 : At N3 (pt p (.lst (zs.map .str)) :: dr c d :: R) := by walk_at "at"
    walk_at "gos"
    have hnl := hnm.1
    refine wp_cutS (le_size (by omega)) ?_
    walk_at "gos"
    have hb : Nm (L2.cutS nm none (some 12)) 12 := by
      refine ⟨?_, (hnm.cut _ _).2⟩
      unfold L2.cutS
      show Array.size _ ≤ 12
      simp [HT.sIx]
      omega
    generalize L2.cutS nm none (some 12) = base at hb
    refine wp_for (wp_rng1 ?_)
    walk_at "gos"
    refine ⟨_, rfl, by omega, by omega, ?_⟩
    refine wp_loop (fun j σ N' => N' = N3 ∧ j ≤ m + 1 ∧ ∃ nm s7, Nm nm 40 ∧ σ = [some (.ref d), some (.bl false), some (.int (m : Int)), some (.ref p), some (.int (i : Int)), some (.str nm), some (.str base), s7]) ⟨rfl, by omega, nm, _, hnm, rfl⟩ (fun _ _ _ _ => rfl) ?_ ?_
    · rintro j z σ N4 hz ⟨rfl, hj, nm, s7, hnm, rfl⟩
      obtain ⟨hlt, rfl⟩ := List.getElem?_eq_some_iff.mp hz
      have hj2 : j < m + 1 := by
        have : j < ((m : Int) + 1).toNat := by simpa using hlt
        omega
      refine ⟨_, rfl, ?_⟩
      simp only [List.getElem_map, List.getElem_range]
      subst hC
      unfold b2__law_pool
      walk_at "gos"
      refine wp_inL (H3.get .head) hnm.ok (oks hzs) ?_
      walk_at "gos"
      obtain ⟨hd1, hd2⟩ := dig_ok (i := j) (by omega)
      have hb1 := hb.1
      have hd3 := hd1.1
      have hu := u_ok.1
      have hbu := (hb.app u_ok).1
      split
      · walk_at "gos"
        refine wp_addS (le_size (by omega)) ?_
        walk_at "gos"
        refine wp_strI hd2 ?_
        refine wp_addS (le_size (by omega)) ?_
        walk_at "gos"
        exact ⟨rfl, hj2, _, _, ((hb.app u_ok).app hd1).mono (by omega), rfl⟩
      · walk_at "gos"
        exact ⟨rfl, hj2, _, _, hnm, rfl⟩
    · rintro σ N4 ⟨rfl, _, nm, s7, hnm, rfl⟩
      subst hY
      unfold t3__law_pool
      walk_at "gos"
      refine sl_app H3 .head (lt_size (by rw [List.length_map]; omega)) fun N5 H5 => ?_
      walk_at "gos"
      have e : zs.map D.str ++ [D.str nm] = (zs ++ [nm]).map .str := by rw [List.map_append]; rfl
      rw [e] at H5
      refine ⟨zs ++ [nm], _, _, _, _, rfl, by rw [List.length_append, List.length_singleton, hl], by omega, fun z hz => ?_, H5⟩
      rcases List.mem_append.mp hz with q | q
      · exact hzs z q
      · rw [List.mem_singleton.mp q]; exact hnm
  · rintro σ N2 ⟨zs, s4, s5, s6, s7, rfl, hl, hi, hzs, H2⟩
    subst hX
    walk_at "gos"
    exact hQ p zs _ (by simpa using hl) hzs H2
end
-- mac2
section
variable {Q : D → NH → Prop} {E : XP} {N : NH} {n k : Nat} {σ : NEnv} {L R R2 : List HP} {d x y z : D} {e : En} {A : NA}
/-! rules: a comprehension's row with something in the list; two fors; what is equal to itself -/
theorem wp_lcLoopA {T : NT} (I : Nat → List D → NH → Prop) {pt : NP} {ok : NH → Bool} {l acc0 : List D} {me : NE} {Q : List D → NH → Prop} (h0 : I 0 acc0 N) (hok : ∀ i acc N, I i acc N → ok N = true ∧ acc.length < sizeLine)
    (hs : ∀ i x acc N, l[i]? = some x → I i acc N → ∃ σ1, pt.put x σ N = some σ1 ∧ wpR (T σ1 N) (fun k N => if k = true then wpR (me σ1 N) (fun y N => I (i + 1) (acc ++ [y]) N) else I (i + 1) acc N)) (he : ∀ acc N, I l.length acc N → Q acc N) : wpR (lcLoop pt T me ok σ l acc0 N) Q E := by
  induction l generalizing acc0 N I with
  | nil =>
    unfold lcLoop
    rw [if_pos (hok _ _ _ h0).1]
    with_unfolding_all exact he acc0 N h0
  | cons x r ih =>
    obtain ⟨σ1, h1, h2⟩ := hs 0 x acc0 N rfl h0
    unfold lcLoop
    rw [if_pos (hok _ _ _ h0).1, h1]
    dsimp only
    have next : ∀ (acc : List D) (N : NH), I 1 acc N → wpR (lcLoop pt T me ok σ r acc N) Q E := fun acc N h => ih (fun i => I (i + 1)) h (fun i acc N h => hok _ _ _ h) (fun i x acc N hx h => hs (i + 1) x acc N (by simpa using hx) h) (fun acc N h => he acc N (by simpa using h))
    with_unfolding_all
      revert h2
      cases T σ1 N with
      | exc x N2 => exact fun h2 => h2.elim
      | bad => exact fun h2 => h2.elim
      | ok k N2 =>
        cases k with
        | false => exact fun h2 => next acc0 N2 h2
        | true =>
          intro h2
          replace h2 : wpR (me σ1 N2) (fun y N => I 1 (acc0 ++ [y]) N) := h2
          dsimp only
          revert h2
          cases me σ1 N2 with
          | exc x N3 => exact fun h2 => h2.elim
          | bad => exact fun h2 => h2.elim
          | ok y N3 =>
            intro h2
            dsimp only
            rw [if_pos (hok _ _ _ h0).2]
            exact next _ N3 h2
theorem wp_lc2Loop {c c1 : NT} {it1 elt : NE} {vs1 : List Nat} (I : Nat → List D → NH → Prop) {p p1 : NP} {ok : NH → Bool} {l acc0 : List D} {Q : List D → NH → Prop} (h0 : I 0 acc0 N) (hok : ∀ i acc N, I i acc N → ok N = true)
    (hs : ∀ i x acc N, l[i]? = some x → I i acc N → ∃ σ1, p.put x σ N = some σ1 ∧ wpR (c σ1 N) (fun k N => if k = true then wpR (it1 σ1 N) (fun d N => ∃ l1, tupOf d = some l1 ∧ wpR (lcLoop p1 c1 elt (fun _ => true) (wipeN σ1 vs1) l1 acc N) (fun acc N => I (i + 1) acc N)) else I (i + 1) acc N)) (he : ∀ acc N, I l.length acc N → Q acc N) : wpR (lc2Loop p c it1 p1 c1 elt vs1 ok σ l acc0 N) Q E := by
  induction l generalizing acc0 N I with
  | nil =>
    unfold lc2Loop
    rw [if_pos (hok _ _ _ h0)]
    with_unfolding_all exact he acc0 N h0
  | cons x r ih =>
    obtain ⟨σ1, h1, h2⟩ := hs 0 x acc0 N rfl h0
    unfold lc2Loop
    rw [if_pos (hok _ _ _ h0), h1]
    dsimp only
    have next : ∀ (acc : List D) (N : NH), I 1 acc N → wpR (lc2Loop p c it1 p1 c1 elt vs1 ok σ r acc N) Q E := fun acc N h => ih (fun i => I (i + 1)) h (fun i acc N h => hok _ _ _ h) (fun i x acc N hx h => hs (i + 1) x acc N (by simpa using hx) h) (fun acc N h => he acc N (by simpa using h))
    with_unfolding_all
      revert h2
      cases c σ1 N with
      | exc x N2 => exact fun h2 => h2.elim
      | bad => exact fun h2 => h2.elim
      | ok k N2 =>
        cases k with
        | false => exact fun h2 => next acc0 N2 h2
        | true =>
          intro h2
          replace h2 : wpR (it1 σ1 N2) (fun d N => ∃ l1, tupOf d = some l1 ∧ wpR (lcLoop p1 c1 elt (fun _ => true) (wipeN σ1 vs1) l1 acc0 N) (fun acc N => I 1 acc N)) := h2
          dsimp only
          revert h2
          cases it1 σ1 N2 with
          | exc x N3 => exact fun h2 => h2.elim
          | bad => exact fun h2 => h2.elim
          | ok dd N3 =>
            intro h3
            replace h3 : ∃ l1, tupOf dd = some l1 ∧ wpR (lcLoop p1 c1 elt (fun _ => true) (wipeN σ1 vs1) l1 acc0 N3) (fun acc N => I 1 acc N) := h3
            obtain ⟨l1, e1, h3⟩ := h3
            dsimp only
            rw [e1]
            dsimp only
            exact wp_bind (h3.mono (fun acc N h => next acc N h) (fun _ _ h => h.elim))
theorem sl_lc2 {it : NI} {p p1 : NP} {c c1 : NT} {it1 elt : NE} {vs vs1 : List Nat} (h : wpR (it σ N) (fun t N => wpR (lc2Loop p c it1 p1 c1 elt vs1 t.ok (wipeN σ vs) t.items [] N) (fun l N => ∃ L, At N L ∧ ∀ (k : Nat) (N' : NH), At N' (pt k (.lst l) :: L) → Q (.ref k) N') E) E) : wpR (nLc2 it p c it1 p1 c1 elt vs vs1 σ N) Q E := by
  unfold nLc2
  refine wp_bind (h.mono (fun t N h => wp_bind (h.mono (fun l N ⟨L, H, h⟩ => ?_) fun _ _ h => h)) fun _ _ h => h)
  with_unfolding_all exact h _ _ H.new
mutual
theorem eqD_self : ∀ d : D, NY.plain d = true → eqD d d = true
  | .non, _ => rfl
  | .bl b, _ => by cases b <;> rfl
  | .int i, _ => by simp [eqD]
  | .str s, _ => by simp [eqD]
  | .tup l, h => eqDs_self l h
  | .ctup _, h => nomatch h
  | .lsc _, h => nomatch h
  | .ref _, h => nomatch h
theorem eqDs_self : ∀ l : List D, NY.plains l = true → eqDs l l = true
  | [], _ => rfl
  | x :: r, h => by
    obtain ⟨a, b⟩ := Bool.and_eq_true_iff.mp h
    show (eqD x x && eqDs r r) = true
    rw [eqD_self x a, eqDs_self r b]; rfl
end
theorem eqN_self {l : List D} (h : okD (.tup l) = true) : eqN N (.tup l) (.tup l) = some true := by
  show (if okD (.tup l) && okD (.tup l) then some (eqD (.tup l) (.tup l)) else none) = some true
  rw [h, eqD_self (.tup l) (Bool.and_eq_true_iff.mp h).1]; rfl
theorem okD_ints (l : List Int) : okD (.tup (l.map .int)) = true := by
  obtain ⟨a, b⟩ := ints_plain l
  show (NY.plains (l.map .int) && decide (NY.deps (l.map .int) + 1 ≤ 60)) = true
  rw [a, b]; rfl
theorem wp_itT {Q : NIt → NH → Prop} {a : NE} (h : wpR (a σ N) (fun d N => ∃ l, d = .tup l ∧ Q ⟨l, fun _ => true⟩ N) E) : wpR (iSeq a σ N) Q E :=
  wp_it (h.mono (fun d N ⟨l, e1, h⟩ => ⟨⟨l, fun _ => true⟩, by subst e1; rfl, h⟩) fun _ _ h => h)
/-- a comprehension over a tuple that only looks -/
theorem sl_lcT {a me : NE} {p : NP} {vs : List Nat} {f : D → D} (H : At N L) (h : wpR (a σ N) (fun d N' => N' = N ∧ ∃ l, d = .tup l ∧ l.length < 1000000 ∧ (∀ x ∈ l, ∃ σ1, p.put x (wipeN σ vs) N = some σ1 ∧ wpR (me σ1 N) (fun y N2 => N2 = N ∧ y = f x)) ∧ ∀ (k : Nat) (N2 : NH), At N2 (pt k (.lst (l.map f)) :: L) → Q (.ref k) N2) E) : wpR (nLc (iSeq a) p nYes me vs σ N) Q E := by
  refine sl_lc (wp_itT (h.mono (fun d N' ⟨e0, l, e1, hl, hs, hq⟩ => ?_) fun _ _ h => h))
  subst e0
  refine ⟨l, e1, ?_⟩
  refine wp_lcLoop (fun i acc N2 => N2 = N' ∧ i ≤ l.length ∧ acc = (l.take i).map f) ⟨rfl, Nat.zero_le _, rfl⟩ (fun i acc N2 ⟨_, hi, e⟩ => ⟨rfl, ?_⟩) ?_ ?_
  · rw [e, List.length_map, List.length_take]
    exact lt_size (by omega)
  · rintro i x acc N2 hx ⟨rfl, hi, rfl⟩
    obtain ⟨σ1, h1, h2⟩ := hs x (List.mem_of_getElem? hx)
    refine ⟨σ1, h1, wp_yesH (ifT rfl ?_)⟩
    refine h2.mono (fun y N3 ⟨e3, ey⟩ => ?_) fun _ _ h => h
    subst e3 ey
    exact ⟨rfl, (List.getElem?_eq_some_iff.mp hx).1, by rw [take_succ_get hx, List.map_append]; rfl⟩
  · rintro acc N2 ⟨rfl, hi, rfl⟩
    rw [List.take_of_length_le (Nat.le_refl _)]
    exact ⟨L, H, hq⟩
end
end OW

set_option Elab.async false
set_option linter.all false
set_option maxRecDepth 100000
set_option maxHeartbeats 4000000
namespace K60
open OW NY PySem PySem.Spec PyProof.Rows L2
abbrev t1_law : NS := (sExpr (nBM "list" fAppend (nV 4) (nCons (nTup (nCons (nCall OW.m__law_take (nCons (nV 1) (nCons (nCall fLen (nCons (nV 2) nNil)) nNil))) (nCons (nV 13) (nCons (nCall OW.m__law_take (nCons (nV 1) (nCons (nC (.int 1000)) nNil))) nNil)))) nNil)))
abbrev b2_law : NS := (sSeq (sAsg (nOp2 fGet (nLst (nCons (nOp2 fAdd (nC (.int 1)) (nCall OW.m__law_take (nCons (nV 1) (nCons (nC (.int 40)) nNil)))) (nCons (nC (.int 4294967295)) nNil))) (nOp2 fDiv (nCall OW.m__law_take (nCons (nV 1) (nCons (nC (.int 30)) nNil))) (nC (.int 29)))) (pName 13))
    t1_law)
abbrev e3_law : NE := (nOp2 fGet (nV 9) (nC (.int 1)))
abbrev b4_law : NS := (sAsg (nOp2 fAdd (nV 8) (nLst (nCons (nOp2 fGet (nV 9) (nC (.int 0))) (nCons (nOp2 fGet (nV 9) (nC (.int 1))) (nCons (nOp2 fGet (nV 9) (nC (.int 2))) nNil))))) (pName 8))
abbrev e5_law : NE := (nV 13)
abbrev e6_law : NE := (nOp2 fGet (nV 9) (nC (.int 1)))
abbrev t7_law : NS := (sRet (nOp2 fEq (nOp2 fAdd (nCall fSum (nCons (nLc (iSeq (nOp2 fGet (nV 12) (nC (.int 0)))) (pTup [14, 13]) nYes e5_law [14, 13]) nNil)) (nOp2 fGet (nV 12) (nC (.int 1)))) (nOp2 fAdd (nV 3) (nCall fSum (nCons (nLc (iSeq (nV 4)) (pName 9) nYes e6_law [9]) nNil)))))
abbrev t8_law : NS := (sSeq (sIf (nBool (nOp2 fNe (nV 12) (nTup (nCons (nCall fTuple (nCons (nV 10) nNil)) (nCons (nV 11) nNil))))) (sRet (nC (.bl false))) sPass)
    t7_law)
abbrev t9_law : NS := (sSeq (sAsg (nCall OW.m_payments (nCons (nV 2) (nCons (nV 3) (nCons (nV 4) (nCons (nV 6) (nCons (nV 7) nNil)))))) (pName 12))
    t8_law)
abbrev t10_law : NS := (sSeq (sAsg (nCall OW.m__law_due_2 (nCons (nV 2) (nCons (nV 3) (nCons (nV 4) (nCons (nV 6) (nCons (nV 7) nNil)))))) (pTup [10, 11]))
    t9_law)
abbrev t11_law : NS := (sSeq (sIf (nBool (nOp2 fNe (nCall OW.m_input_of (nCons (nV 4) nNil)) (nCall fTuple (nCons (nV 8) nNil)))) (sRet (nC (.bl false))) sPass)
    t10_law)
abbrev t12_law : NS := (sSeq (sFor (iSeq (nV 4)) (pName 9) b4_law)
    t11_law)
abbrev t13_law : NS := (sSeq (sAsg (nLst nNil) (pName 8))
    t12_law)
abbrev t14_law : NS := (sSeq (sAsg (nCall fTuple (nCons (nV 4) nNil)) (pName 4))
    t13_law)
abbrev t15_law : NS := (sSeq (sAsg (nCall OW.m__law_words (nCons (nV 1) (nCons (nCall fLen (nCons (nV 2) nNil)) (nCons (nOp2 fAdd (nV 3) (nCall fSum (nCons (nLc (iSeq (nV 4)) (pName 9) nYes e3_law [9]) nNil))) nNil)))) (pName 7))
    t14_law)
abbrev t16_law : NS := (sSeq (sAsg (nOp2 fGet (nLst (nCons (nC (.int 1)) (nCons (nC (.int 1)) (nCons (nC (.int 1)) (nCons (nC (.int 0)) (nCons (nC (.int 2)) nNil)))))) (nCall OW.m__law_take (nCons (nV 1) (nCons (nC (.int 5)) nNil)))) (pName 6))
    t15_law)
abbrev t17_law : NS := (sSeq (sFor (iRng (nCons (nCall OW.m__law_take (nCons (nV 1) (nCons (nC (.int 22)) nNil))) nNil)) (pName 5) b2_law)
    t16_law)
abbrev t18_law : NS := (sSeq (sAsg (nLst nNil) (pName 4))
    t17_law)
abbrev t19_law : NS := (sSeq (sAsg (nOp2 fMul (nCall OW.m__law_take (nCons (nV 1) (nCons (nC (.int 3)) nNil))) (nCall OW.m__law_take (nCons (nV 1) (nCons (nC (.int 1000)) nNil)))) (pName 3))
    t18_law)
abbrev t20_law : NS := (sSeq (sAsg (nCall fTuple (nCons (nCall OW.m__law_pool (nCons (nV 1) (nCons (nC (.bl false)) (nCons (nOp2 fAdd (nC (.int 1)) (nCall OW.m__law_take (nCons (nV 1) (nCons (nC (.int 16)) nNil)))) nNil)))) nNil)) (pName 2))
    t19_law)
def m_law : NF := nFun 15 (sSeq (sAsg (nCall OW.m__law_draws (nCons (nV 0) (nCons (nC (.int 200)) nNil))) (pName 1))
    t20_law)
end K60

set_option Elab.async false
set_option linter.all false
set_option maxRecDepth 100000
set_option maxHeartbeats 4000000
namespace K60
open OW NY PySem PySem.Spec PyProof.Rows L2
local macro_rules | `(tactic| walk_at "pick") => `(tactic| first | with_reducible exact Pick.head | ((with_reducible apply Pick.tail); walk_at "pick") | fail)
local macro_rules | `(tactic| walk_at "sub") => `(tactic| first | with_reducible exact Sub.refl | ((with_reducible apply Sub.drop); walk_at "sub") | fail)
local macro_rules | `(tactic| walk_at "cov") => `(tactic| first | with_reducible exact Covers.nil | ((with_reducible apply Covers.cons); (walk_at "pick"); walk_at "cov") | ((with_reducible apply Covers.sub); walk_at "sub") | fail)
local macro_rules | `(tactic| walk_at "at") => `(tactic| first | assumption | ((with_reducible apply At.cover); assumption; walk_at "cov") | fail)
local macro_rules | `(tactic| walk_at "hp") => `(tactic| first | assumption | ((with_reducible apply At.get); assumption; walk_at "pick") | fail)
local macro_rules | `(tactic| walk_at "st") => `(tactic| first
  | ((with_reducible apply wp_V); rfl) | with_reducible refine wp_C ?_ | with_reducible refine wp_op2 ?_ | with_reducible refine wp_cons ?_ | with_reducible refine wp_nil ?_ | with_reducible refine wp_call ?_
  | with_reducible refine wp_seq ?_ | with_reducible refine wp_asg _ ?_ | with_reducible refine wp_ret ?_ | with_reducible refine wp_pass ?_ | with_reducible refine wp_expr ?_
  | dsimp only [List.set_cons_zero, List.set_cons_succ, setAll]
  | with_reducible refine wp_bool ?_ | with_reducible refine ex_bl ?_ | with_reducible refine ex_tru ?_ | with_reducible refine wp_tru ?_
  | with_reducible refine wp_eqS ?_ | with_reducible refine wp_eqI ?_ | with_reducible refine wp_addI ?_ | with_reducible refine wp_getT0 ?_ | ((with_reducible apply wp_getT); rfl) | ((with_reducible apply wp_getL); (walk_at "hp"); rfl)
  | with_reducible refine ex_kdT ?_ | with_reducible refine ex_kdC ?_ | with_reducible refine ex_kdI ?_ | with_reducible refine ex_kdB ?_ | with_reducible refine ex_kdS ?_ | with_reducible refine ex_kd0 ?_ | with_reducible refine ex_int ?_ | with_reducible refine ex_str ?_
  | with_reducible refine wp_asgT ?_ | with_reducible refine wp_tup ?_ | with_reducible refine sl_fldput ?_ | with_reducible refine sl_put ?_
  | with_reducible refine wp_subI ?_ | ((with_reducible apply wp_mulR); decide) | ((with_reducible apply wp_mulL); decide) | ((with_reducible apply wp_modI); (first | decide | assumption)) | ((with_reducible apply wp_divL); decide) | ((with_reducible apply wp_divI); (first | decide | assumption)) | with_reducible refine wp_negI ?_ | with_reducible refine wp_ltI ?_ | with_reducible refine wp_leI ?_ | with_reducible refine wp_gtI ?_ | with_reducible refine wp_geI ?_ | with_reducible refine wp_intI ?_ | with_reducible refine wp_abs ?_
  | with_reducible refine wp_neI ?_ | with_reducible refine wp_eqB ?_ | with_reducible refine wp_neB ?_ | with_reducible refine wp_neS ?_ | with_reducible refine wp_isB ?_ | with_reducible refine wp_isNotB ?_ | with_reducible refine wp_isN0 ?_ | with_reducible refine wp_isNotN0 ?_ | with_reducible refine wp_isNI ?_ | with_reducible refine wp_isNotNI ?_ | with_reducible refine wp_isNS ?_ | with_reducible refine wp_isNotNS ?_ | with_reducible refine wp_isNT ?_ | with_reducible refine wp_isNotNT ?_ | with_reducible refine wp_isNR ?_ | with_reducible refine wp_isNotNR ?_ | with_reducible refine wp_cutT ?_ | with_reducible refine wp_lenT ?_ | ((with_reducible apply wp_getTI); (first | assumption | omega); (first | assumption | omega))
  | ((with_reducible apply wp_catT); exact le_size (by simp only [List.length_append, List.length_cons, List.length_nil, List.length_map]; omega)) | ((with_reducible apply wp_lenL); walk_at "hp") | ((with_reducible apply sl_pop0); assumption; walk_at "pick"; intro _ _)
  | with_reducible refine wp_op1 ?_ | with_reducible refine wp_andT ?_ | with_reducible refine wp_orT ?_ | with_reducible refine wp_notT ?_ | with_reducible refine wp_and ?_ | with_reducible refine wp_or ?_ | with_reducible refine wp_not ?_ | with_reducible refine wp_chLL ?_ | with_reducible refine wp_chLl ?_ | with_reducible refine ex_ch ?_ | with_reducible refine sl_lst ?_ | with_reducible refine wp_bmL ?_ | with_reducible refine wp_bmS ?_
  | with_reducible refine wp_psNil ?_ | with_reducible refine wp_psCons ?_ | with_reducible refine sl_disp ?_ | with_reducible refine wp_noPart ?_ | with_reducible refine wp_part ?_ | with_reducible refine wp_cut ?_ | with_reducible refine wp_isi ?_ | with_reducible refine wp_fld ?_ | with_reducible refine wp_meth ?_ | with_reducible refine wp_methW ?_ | with_reducible refine sl_make ?_
  | ((with_reducible apply ex_refL); walk_at "hp") | ((with_reducible apply ex_tup); exact rfl) | ((with_reducible apply put_L); assumption; walk_at "pick"; rfl; intro N9 H9; (try simp only [Int.reduceToNat, List.set_cons_zero, List.set_cons_succ] at H9)) | ((with_reducible apply and_size); (first | decide | (simp only [List.length_cons, List.length_nil]; decide))) | ((with_reducible apply ex_fld); (walk_at "hp"); (decide); rfl) | ((with_reducible apply ex_meth); (walk_at "hp"); rfl) | ((with_reducible apply OW.ex_nmeth); assumption; (walk_at "pick"); rfl) | ((with_reducible apply OW.ex_wmeth); assumption; (walk_at "pick"); rfl) | ((with_reducible apply OW.ex_rmethW); assumption; (walk_at "pick"); rfl; rfl) | ((with_reducible apply OW.ex_rmeth); assumption; (walk_at "pick"); rfl)
  | ((with_reducible apply ex_at); assumption; intro _ _ _) | ((with_reducible apply ex_fldput); assumption; (walk_at "pick"); (decide); (first | decide | exact Nat.le_of_ble_eq_true rfl); intro _ _) | ((with_reducible apply ex_kdL); walk_at "hp") | ((with_reducible apply ex_kdD); walk_at "hp")
  | ((with_reducible apply sl_list); rfl; assumption; intro _ _ _) | ((with_reducible apply sl_tuple); assumption; walk_at "pick") | ((with_reducible apply sl_dK); assumption; intro _ _ _) | ((with_reducible apply sl_dT); assumption; intro _ _ _) | fail)
local macro_rules | `(tactic| walk_at "go") => `(tactic| repeat' (walk_at "st"))
local macro_rules | `(tactic| walk_at "gos") => `(tactic| repeat' (first | with_reducible refine wp_sif ?_ | (walk_at "st") | fail))
local macro_rules | `(tactic| walk_at "ifs") => `(tactic| first | with_reducible refine ifT (by decide +kernel) ?_ | with_reducible refine ifF (by decide +kernel) ?_ | with_reducible refine wp_sif ?_ | (walk_at "st") | with_reducible refine wp_if ?_ | with_reducible refine ifT (by simp only [List.length_cons, List.length_nil]; decide +kernel) ?_ | with_reducible refine ifF (by simp only [List.length_cons, List.length_nil]; decide +kernel) ?_ | fail)
local macro_rules | `(tactic| walk_at "goi") => `(tactic| repeat' (walk_at "ifs"))
local macro_rules | `(tactic| walk_at "box") => `(tactic| (apply OW.box_mk; assumption; walk_at "pick"; walk_at "pick"))
-- mac2
section
variable {Q : D → NH → Prop} {E : XP} {N : NH} {n k : Nat} {σ : NEnv} {L R R2 : List HP} {d x y z : D} {e : En} {A : NA}
/-- an entry: a member's number, an amount, a note -/
abbrev En3 := Int × Int × Int
def entD (t : En3) : D := .tup [.int t.1, .int t.2.1, .int t.2.2]
def EnOk (m : Nat) (es : List En3) : Prop := es.length ≤ 21 ∧ ∀ t ∈ es, 0 ≤ t.1 ∧ t.1 < m ∧ 1 ≤ t.2.1
def flatE (es : List En3) : List Int := es.flatMap fun t => [t.1, t.2.1, t.2.2]
theorem flatE_snoc (es : List En3) (t : En3) : flatE (es ++ [t]) = flatE es ++ [t.1, t.2.1, t.2.2] := by
  unfold flatE; rw [List.flatMap_append]; simp
theorem flatE_len (es : List En3) : (flatE es).length = 3 * es.length := by
  induction es with
  | nil => rfl
  | cons t r ih =>
    have e : flatE (t :: r) = [t.1, t.2.1, t.2.2] ++ flatE r := rfl
    have e3 : [t.1, t.2.1, t.2.2].length = 3 := rfl
    have e4 : (t :: r).length = r.length + 1 := rfl
    rw [e, List.length_append, ih, e3, e4]
    omega
theorem ent_get {es : List En3} {i : Nat} {y : D} (h : (es.map entD)[i]? = some y) : ∃ t, es[i]? = some t ∧ y = entD t := by
  rw [List.getElem?_map] at h
  obtain ⟨x, h1, rfl⟩ := Option.map_eq_some_iff.mp h
  exact ⟨x, h1, rfl⟩
theorem input_of_ok {m : Nat} {es : List En3} (he : EnOk m es) (H : At N L) (hQ : ∀ N', At N' L → Q (.tup ((flatE es).map .int)) N') : wpR (m_input_of [.tup (es.map entD)] N) Q E := by
  have hl := he.1
  refine wp_fun1 ?_
  simp only [List.replicate]
  walk_at "go"
  refine sl_lc2 (wp_itT ?_)
  walk_at "go"
  refine ⟨_, rfl, ?_⟩
  refine wp_lc2Loop (fun i acc N' => N' = N ∧ i ≤ es.length ∧ acc = (flatE (es.take i)).map .int) ⟨rfl, Nat.zero_le _, rfl⟩ (fun _ _ _ _ => rfl) ?_ ?_
  · rintro i y acc N' hy ⟨rfl, hi, rfl⟩
    obtain ⟨t, ht, rfl⟩ := ent_get hy
    have hil := (List.getElem?_eq_some_iff.mp ht).1
    refine ⟨_, rfl, wp_yesH (ifT rfl ?_)⟩
    simp only [wipeN]
    unfold entD
    walk_at "go"
    refine ⟨_, rfl, ?_⟩
    refine wp_lcLoopA (fun j acc N2 => N2 = N' ∧ j ≤ 3 ∧ acc = (flatE (es.take i)).map .int ++ ([t.1, t.2.1, t.2.2].take j).map .int) ⟨rfl, Nat.zero_le _, by simp⟩ (fun j acc N2 ⟨_, hj, e⟩ => ⟨rfl, ?_⟩) ?_ ?_
    · rw [e, List.length_append, List.length_map, List.length_map, flatE_len, List.length_take, List.length_take]
      exact lt_size (by omega)
    · rintro j y acc N2 hy ⟨rfl, hj, rfl⟩
      obtain ⟨v, hv, rfl⟩ := map_get_int (l := [t.1, t.2.1, t.2.2]) hy
      have hjl := (List.getElem?_eq_some_iff.mp hv).1
      refine ⟨_, rfl, wp_yesH (ifT rfl ?_)⟩
      walk_at "go"
      exact ⟨rfl, hjl, by rw [take_succ_get hv, List.map_append, ← List.append_assoc]; rfl⟩
    · rintro acc N2 ⟨rfl, hj, rfl⟩
      exact ⟨rfl, hil, by rw [take_succ_get ht, flatE_snoc, List.map_append]; rfl⟩
  · rintro acc N' ⟨rfl, hi, rfl⟩
    rw [List.length_map, List.take_of_length_le (Nat.le_refl _)]
    refine ⟨L, H, fun k N2 H2 => ?_⟩
    walk_at "go"
    exact hQ N2 H2.drop
/-! what is paid -/
def stp2 (m : Nat) (ws : List Int) (i : Nat) (s : List (Int × Int) × Int) : List (Int × Int) × Int :=
  if ws.getD (2 * i) 0 < m then (s.1 ++ [(ws.getD (2 * i) 0, if s.2 < ws.getD (2 * i + 1) 0 then s.2 else ws.getD (2 * i + 1) 0)], s.2 - (if s.2 < ws.getD (2 * i + 1) 0 then s.2 else ws.getD (2 * i + 1) 0)) else s
def sts (m : Nat) (ws : List Int) (l0 : Int) : Nat → List (Int × Int) × Int
  | 0 => ([], l0)
  | i + 1 => stp2 m ws i (sts m ws l0 i)
theorem sts_len {m : Nat} {ws : List Int} {l0 : Int} : ∀ i, (sts m ws l0 i).1.length ≤ i
  | 0 => Nat.le_refl _
  | i + 1 => by
    have := sts_len (m := m) (ws := ws) (l0 := l0) i
    unfold sts stp2
    split
    · rw [List.length_append, List.length_singleton]; omega
    · omega
theorem snd_sum (l : List (Int × Int)) (p : Int × Int) : ((l ++ [p]).map (·.2)).sum = (l.map (·.2)).sum + p.2 := by simp
theorem sts_sum {m : Nat} {ws : List Int} {l0 : Int} : ∀ i, ((sts m ws l0 i).1.map (·.2)).sum + (sts m ws l0 i).2 = l0
  | 0 => by simp [sts]
  | i + 1 => by
    have := sts_sum (m := m) (ws := ws) (l0 := l0) i
    unfold sts stp2
    split
    · rw [snd_sum]
      omega
    · exact this
/-- a payment as it is told -/
def payD (zs : List Str) (p : Int × Int) : D := .tup [.str (zs.getD p.1.toNat ""), .int p.2]
theorem mem_get {zs : List Str} {w : Int} (h0 : 0 ≤ w) (h1 : w < zs.length) : atD (zs.map .str) w = some (.str (zs.getD w.toNat "")) := by
  have hl : w.toNat < zs.length := by omega
  refine atD_map h0 ?_
  rw [List.getD_eq_getElem?_getD, List.getElem?_eq_getElem hl]; rfl
def refE (es : List En3) : List (Int × Int) := es.map fun t => (t.1, t.2.1)
/-- the case in which all is paid back -/
def back (st : Int) (ws : List Int) : Bool := !decide (st = 1) || decide ((ws.length : Int) % 2 = 1)
def paid (m : Nat) (rest : Int) (es : List En3) (st : Int) (ws : List Int) : List (Int × Int) × Int :=
  if back st ws = true then (refE es, rest) else sts m ws (rest + (es.map (·.2.1)).sum) (ws.length / 2)
theorem amounts_ok {m : Nat} {es : List En3} {a me : NE} {vs : List Nat} {i : Nat} (he : EnOk m es) (H : At N L) (ha : ∀ {Q : D → NH → Prop} {E : XP}, Q (.tup (es.map entD)) N → wpR (a σ N) Q E) (hme : ∀ (t : En3), wpR (me ((wipeN σ vs).set i (some (entD t))) N) (fun y N2 => N2 = N ∧ y = .int t.2.1))
    (hQ : ∀ (k : Nat) (N2 : NH), At N2 (pt k (.lst ((es.map (·.2.1)).map .int)) :: L) → Q (.ref k) N2) : wpR (nLc (iSeq a) (pName i) nYes me vs σ N) Q E := by
  refine sl_lcT (f := fun d => match d with | .tup [_, y, _] => y | _ => .non) H (ha ⟨rfl, _, rfl, by rw [List.length_map]; have := he.1; omega, fun x hx => ?_, fun k N2 H2 => ?_⟩)
  · obtain ⟨t, _, rfl⟩ := List.mem_map.mp hx
    exact ⟨_, rfl, hme t⟩
  · refine hQ k N2 ?_
    rw [List.map_map] at H2 ⊢
    exact H2
theorem refund_ok {m : Nat} {es : List En3} {zs : List Str} {a me : NE} {vs : List Nat} {i : Nat} (he : EnOk m es) (H : At N L) (ha : ∀ {Q : D → NH → Prop} {E : XP}, Q (.tup (es.map entD)) N → wpR (a σ N) Q E) (hme : ∀ (t : En3), 0 ≤ t.1 → t.1 < m → wpR (me ((wipeN σ vs).set i (some (entD t))) N) (fun y N2 => N2 = N ∧ y = payD zs (t.1, t.2.1)))
    (hQ : ∀ (k : Nat) (N2 : NH), At N2 (pt k (.lst ((refE es).map (payD zs))) :: L) → Q (.ref k) N2) : wpR (nLc (iSeq a) (pName i) nYes me vs σ N) Q E := by
  refine sl_lcT (f := fun d => match d with | .tup [.int x, .int y, _] => payD zs (x, y) | _ => .non) H (ha ⟨rfl, _, rfl, by rw [List.length_map]; have := he.1; omega, fun x hx => ?_, fun k N2 H2 => ?_⟩)
  · obtain ⟨t, ht, rfl⟩ := List.mem_map.mp hx
    have h2 := he.2 t ht
    exact ⟨_, rfl, hme t h2.1 h2.2.1⟩
  · refine hQ k N2 ?_
    unfold refE
    rw [List.map_map] at H2 ⊢
    exact H2
theorem wp_minI {i j : Int} (h : Q (.int (if j < i then j else i)) N) : wpR (fMin [.int i, .int j] N) Q E := by with_unfolding_all exact h
structure PyOk (m : Nat) (zs : List Str) (es : List En3) (ws : List Int) : Prop where
  hz : zs.length = m
  hm : 1 ≤ m ∧ m ≤ 16
  he : EnOk m es
  hw : ws.length ≤ 100 ∧ ∀ w ∈ ws, 0 ≤ w
theorem payments_ok {m : Nat} {zs : List Str} {rest st : Int} {es : List En3} {ws : List Int} (h : PyOk m zs es ws) (H : At N L) (hQ : ∀ N', At N' L → Q (.tup [.tup ((paid m rest es st ws).1.map (payD zs)), .int (paid m rest es st ws).2]) N') : wpR (m_payments [.tup (zs.map .str), .int rest, .tup (es.map entD), .int st, .tup (ws.map .int)] N) Q E := by
  have hw := h.hw
  have hz := h.hz
  have hm := h.hm
  refine wp_fun (ds := [.tup (zs.map .str), .int rest, .tup (es.map entD), .int st, .tup (ws.map .int)]) ?_
  simp only [List.map, List.length, List.replicate, List.cons_append, List.nil_append]
  generalize hT : t11_payments = T
  have hback : back st ws = true → wpS (i2_payments [some (.tup (zs.map .str)), some (.int rest), some (.tup (es.map entD)), some (.int st), some (.tup (ws.map .int)), none, none, none, none, none] N) { nx := fun σ N => False, rt := Q, ex := fun x x_1 N => E x N } := by
    intro hb
    unfold paid at hQ
    rw [if_pos hb] at hQ
    walk_at "go"
    refine refund_ok (zs := zs) h.he H (fun h => by walk_at "go"; exact h) (fun t h0 h1 => ?_) fun k N2 H2 => ?_
    · unfold entD payD
      walk_at "go"
      refine wp_getT (mem_get h0 (by omega)) ?_
      walk_at "go"
      exact ⟨rfl, rfl⟩
    · walk_at "go"
      exact hQ N2 H2.drop
  have hpay : back st ws = false → wpS (T [some (.tup (zs.map .str)), some (.int rest), some (.tup (es.map entD)), some (.int st), some (.tup (ws.map .int)), none, none, none, none, none] N) { nx := fun x N => Q D.non N, rt := Q, ex := fun x x_1 N => E x N } := by
    intro hb
    have hev : (ws.length : Int) % 2 = 0 := by
      unfold back at hb
      have := (Bool.or_eq_false_iff.mp hb).2
      have := of_decide_eq_false this
      omega
    unfold paid at hQ
    rw [if_neg (by rw [hb]; exact Bool.false_ne_true)] at hQ
    subst hT
    unfold t11_payments t10_payments t9_payments
    generalize hX : t8_payments = X
    generalize hB : b7_payments = B
    walk_at "go"
    refine amounts_ok h.he H (fun h => by walk_at "go"; exact h) (fun t => ?_) fun k N2 H2 => ?_
    · unfold entD
      walk_at "go"
      exact ⟨rfl, rfl⟩
    walk_at "go"
    refine wp_sumL (H2.get .head) ?_
    have H2 := H2.drop
    walk_at "go"
    rename_i kp N3 H3
    refine wp_for (wp_rng3 (m := ws.length) (by omega) ?_)
    walk_at "go"
    rw [List.length_map]
    refine ⟨rfl, ?_⟩
    generalize hl0 : rest + (es.map fun x => x.2.1).sum = l0 at hQ ⊢
    have e2 : (ws.length + 1) / 2 = ws.length / 2 := by omega
    rw [e2]
    refine wp_loop (fun i σ N' => ∃ (s7 s8 s9 : Option D), σ = [some (.tup (zs.map .str)), some (.int rest), some (.tup (es.map entD)), some (.int st), some (.tup (ws.map .int)), some (.int (sts m ws l0 i).2), some (.ref kp), s7, s8, s9] ∧ i ≤ ws.length / 2 ∧ At N' (pt kp (.lst ((sts m ws l0 i).1.map (payD zs))) :: L)) ⟨_, _, _, rfl, Nat.zero_le _, H3⟩ (fun _ _ _ _ => rfl) ?_ ?_
    · rintro i y σ N4 hy ⟨s7, s8, s9, rfl, hi, H4⟩
      obtain ⟨hlt, rfl⟩ := List.getElem?_eq_some_iff.mp hy
      have hi2 : i < ws.length / 2 := by simpa using hlt
      refine ⟨_, rfl, ?_⟩
      simp only [List.getElem_map, List.getElem_range]
      have hg1 : atD (ws.map .int) (2 * (i : Int)) = some (.int (ws.getD (2 * i) 0)) := tup_get (by omega) (by omega)
      have hg2 : atD (ws.map .int) (2 * (i : Int) + 1) = some (.int (ws.getD (2 * i + 1) 0)) := tup_get (by omega) (by omega)
      have hw0 := hw.2 _ (OW.getD_mem (l := ws) (k := 2 * i) (by omega))
      have hln := sts_len (m := m) (ws := ws) (l0 := l0) i
      subst hB
      unfold b7_payments
      generalize hC : i6_payments = C
      walk_at "gos"
      rw [List.length_map, hz, show (2 * (i : Int)).toNat = 2 * i by omega]
      by_cases c : ws.getD (2 * i) 0 < m
      · refine ifT (decide_eq_true c) ?_
        subst hC
        unfold i6_payments
        walk_at "gos"
        rw [show (2 * (i : Int) + 1).toNat = 2 * i + 1 by omega]
        have e3 : sts m ws l0 (i + 1) = ((sts m ws l0 i).1 ++ [(ws.getD (2 * i) 0, if (sts m ws l0 i).2 < ws.getD (2 * i + 1) 0 then (sts m ws l0 i).2 else ws.getD (2 * i + 1) 0)], (sts m ws l0 i).2 - (if (sts m ws l0 i).2 < ws.getD (2 * i + 1) 0 then (sts m ws l0 i).2 else ws.getD (2 * i + 1) 0)) := by
          show stp2 m ws i (sts m ws l0 i) = _
          unfold stp2
          rw [if_pos c]
        refine wp_minI ?_
        generalize (if (sts m ws l0 i).2 < ws.getD (2 * i + 1) 0 then (sts m ws l0 i).2 else ws.getD (2 * i + 1) 0) = am at e3 ⊢
        walk_at "gos"
        rw [show (2 * (i : Int)).toNat = 2 * i by omega]
        refine wp_getT (mem_get hw0 (by omega)) ?_
        walk_at "gos"
        refine sl_app H4 .head (lt_size (by rw [List.length_map]; omega)) fun N5 H5 => ?_
        walk_at "gos"
        have e4 : (sts m ws l0 i).1.map (payD zs) ++ [D.tup [.str (zs.getD (ws.getD (2 * i) 0).toNat ""), .int am]] = (sts m ws l0 (i + 1)).1.map (payD zs) := by
          rw [e3, List.map_append]; rfl
        rw [e4] at H5
        exact ⟨_, _, _, by rw [e3], hi2, H5⟩
      · refine ifF (decide_eq_false c) ?_
        walk_at "gos"
        have e3 : sts m ws l0 (i + 1) = sts m ws l0 i := by
          show stp2 m ws i (sts m ws l0 i) = _
          unfold stp2
          rw [if_neg c]
        rw [← e3] at H4
        exact ⟨_, _, _, by rw [e3], hi2, H4⟩
    · rintro σ N4 ⟨s7, s8, s9, rfl, hi, H4⟩
      rw [List.length_map, List.length_range] at H4 ⊢
      subst hX
      walk_at "go"
      exact hQ _ H4.drop
  walk_at "gos"
  have mono : ∀ {e : En}, wpS (i2_payments [some (.tup (zs.map .str)), some (.int rest), some (.tup (es.map entD)), some (.int st), some (.tup (ws.map .int)), none, none, none, none, none] N) { nx := fun σ N => False, rt := Q, ex := fun x x_1 N => E x N } → e.rt = Q → e.ex = (fun x x_1 N => E x N) → wpS (i2_payments [some (.tup (zs.map .str)), some (.int rest), some (.tup (es.map entD)), some (.int st), some (.tup (ws.map .int)), none, none, none, none, none] N) e := by
    intro e h h1 h2
    exact h.mono (fun _ _ h => h.elim) (fun d N h => by rw [h1]; exact h) (fun _ _ h => h.elim) (fun x σ N h => by rw [h2]; exact h)
  by_cases c1 : st = 1
  · refine ifF (by rw [decide_eq_true c1]; rfl) ?_
    walk_at "gos"
    rw [List.length_map]
    by_cases c2 : (ws.length : Int) % 2 = 1
    · refine ifT (decide_eq_true c2) ?_
      exact mono (hback (by unfold back; rw [decide_eq_true c2, Bool.or_true])) rfl rfl
    · refine ifF (decide_eq_false c2) ?_
      walk_at "gos"
      exact hpay (by unfold back; rw [decide_eq_true c1, decide_eq_false c2]; rfl)
  · refine ifT (by rw [decide_eq_false c1]; rfl) ?_
    refine ifT rfl ?_
    exact mono (hback (by unfold back; rw [decide_eq_false c1]; rfl)) rfl rfl
theorem due_ok {m : Nat} {zs : List Str} {rest st : Int} {es : List En3} {ws : List Int} (h : PyOk m zs es ws) (H : At N L) (hQ : ∀ (k : Nat) N', At N' (pt k (.lst ((paid m rest es st ws).1.map (payD zs))) :: L) → Q (.tup [.ref k, .int (paid m rest es st ws).2]) N') : wpR (m__law_due_2 [.tup (zs.map .str), .int rest, .tup (es.map entD), .int st, .tup (ws.map .int)] N) Q E := by
  have hw := h.hw
  have hz := h.hz
  have hm := h.hm
  refine wp_fun (ds := [.tup (zs.map .str), .int rest, .tup (es.map entD), .int st, .tup (ws.map .int)]) ?_
  simp only [List.map, List.length, List.replicate, List.cons_append, List.nil_append]
  generalize hT : t13__law_due_2 = T
  have hback : back st ws = true → ∀ e : En, e.rt = Q → wpS (i2__law_due_2 [some (.tup (zs.map .str)), some (.int rest), some (.tup (es.map entD)), some (.int st), some (.tup (ws.map .int)), none, none, none, none, none, none] N) e := by
    intro hb e he
    unfold paid at hQ
    rw [if_pos hb] at hQ
    rw [← he] at hQ
    walk_at "go"
    refine refund_ok (zs := zs) h.he H (fun h => by walk_at "go"; exact h) (fun t h0 h1 => ?_) fun k N2 H2 => ?_
    · unfold entD payD
      walk_at "go"
      refine wp_getT (mem_get h0 (by omega)) ?_
      walk_at "go"
      exact ⟨rfl, rfl⟩
    · walk_at "go"
      exact hQ k N2 H2
  have hpay : back st ws = false → wpS (T [some (.tup (zs.map .str)), some (.int rest), some (.tup (es.map entD)), some (.int st), some (.tup (ws.map .int)), none, none, none, none, none, none] N) { nx := fun x N => Q D.non N, rt := Q, ex := fun x x_1 N => E x N } := by
    intro hb
    have hev : (ws.length : Int) % 2 = 0 := by
      unfold back at hb
      have := (Bool.or_eq_false_iff.mp hb).2
      have := of_decide_eq_false this
      omega
    unfold paid at hQ
    rw [if_neg (by rw [hb]; exact Bool.false_ne_true)] at hQ
    subst hT
    unfold t13__law_due_2 t12__law_due_2 t11__law_due_2
    generalize hX : t10__law_due_2 = X
    generalize hB : b9__law_due_2 = B
    walk_at "go"
    refine amounts_ok h.he H (fun h => by walk_at "go"; exact h) (fun t => ?_) fun k N2 H2 => ?_
    · unfold entD
      walk_at "go"
      exact ⟨rfl, rfl⟩
    walk_at "go"
    refine wp_sumL (H2.get .head) ?_
    have H2 := H2.drop
    walk_at "go"
    rename_i kp N3 H3
    refine wp_for (wp_rng1 ?_)
    walk_at "go"
    rw [List.length_map]
    refine ⟨_, rfl, by omega, by omega, ?_⟩
    rw [show ((ws.length : Nat) : Int) / 2 = ((ws.length / 2 : Nat) : Int) by omega, Int.toNat_natCast]
    generalize hl0 : rest + (es.map fun x => x.2.1).sum = l0 at hQ ⊢
    refine wp_loop (fun i σ N' => ∃ (s7 s8 s9 s10 : Option D), σ = [some (.tup (zs.map .str)), some (.int rest), some (.tup (es.map entD)), some (.int st), some (.tup (ws.map .int)), some (.int (sts m ws l0 i).2), some (.ref kp), s7, s8, s9, s10] ∧ i ≤ ws.length / 2 ∧ At N' (pt kp (.lst ((sts m ws l0 i).1.map (payD zs))) :: L)) ⟨_, _, _, _, rfl, Nat.zero_le _, H3⟩ (fun _ _ _ _ => rfl) ?_ ?_
    · rintro i y σ N4 hy ⟨s7, s8, s9, s10, rfl, hi, H4⟩
      obtain ⟨hlt, rfl⟩ := List.getElem?_eq_some_iff.mp hy
      have hi2 : i < ws.length / 2 := by simpa using hlt
      refine ⟨_, rfl, ?_⟩
      simp only [List.getElem_map, List.getElem_range]
      have hg1 : atD (ws.map .int) (2 * (i : Int)) = some (.int (ws.getD (2 * i) 0)) := tup_get (by omega) (by omega)
      have hg2 : atD (ws.map .int) (2 * (i : Int) + 1) = some (.int (ws.getD (2 * i + 1) 0)) := tup_get (by omega) (by omega)
      have hw0 := hw.2 _ (OW.getD_mem (l := ws) (k := 2 * i) (by omega))
      have hln := sts_len (m := m) (ws := ws) (l0 := l0) i
      subst hB
      unfold b9__law_due_2 t8__law_due_2
      generalize hC : i7__law_due_2 = C
      walk_at "gos"
      rw [List.length_map, hz, show (2 * (i : Int)).toNat = 2 * i by omega]
      by_cases c : ws.getD (2 * i) 0 < m
      · refine ifT (decide_eq_true c) ?_
        subst hC
        unfold i7__law_due_2 t6__law_due_2
        generalize hC : t5__law_due_2 = C
        walk_at "gos"
        rw [show (2 * (i : Int) + 1).toNat = 2 * i + 1 by omega]
        have e3 : sts m ws l0 (i + 1) = ((sts m ws l0 i).1 ++ [(ws.getD (2 * i) 0, if (sts m ws l0 i).2 < ws.getD (2 * i + 1) 0 then (sts m ws l0 i).2 else ws.getD (2 * i + 1) 0)], (sts m ws l0 i).2 - (if (sts m ws l0 i).2 < ws.getD (2 * i + 1) 0 then (sts m ws l0 i).2 else ws.getD (2 * i + 1) 0)) := by
          show stp2 m ws i (sts m ws l0 i) = _
          unfold stp2
          rw [if_pos c]
        have fin : ∀ am, (am = if (sts m ws l0 i).2 < ws.getD (2 * i + 1) 0 then (sts m ws l0 i).2 else ws.getD (2 * i + 1) 0) → ∀ e : En, e.nx = (fun σ N' => ∃ (s7 s8 s9 s10 : Option D), σ = [some (.tup (zs.map .str)), some (.int rest), some (.tup (es.map entD)), some (.int st), some (.tup (ws.map .int)), some (.int (sts m ws l0 (i + 1)).2), some (.ref kp), s7, s8, s9, s10] ∧ i + 1 ≤ ws.length / 2 ∧ At N' (pt kp (.lst ((sts m ws l0 (i + 1)).1.map (payD zs))) :: L)) → wpS (C [some (.tup (zs.map .str)), some (.int rest), some (.tup (es.map entD)), some (.int st), some (.tup (ws.map .int)), some (.int (sts m ws l0 i).2), some (.ref kp), some (.int (i : Int)), some (.int (ws.getD (2 * i) 0)), some (.int am), s10] N4) e := by
          intro am ham e he
          rw [← ham] at e3
          subst hC
          walk_at "gos"
          refine wp_getT (mem_get hw0 (by omega)) ?_
          walk_at "gos"
          refine sl_app H4 .head (lt_size (by rw [List.length_map]; omega)) fun N5 H5 => ?_
          walk_at "gos"
          have e4 : (sts m ws l0 i).1.map (payD zs) ++ [D.tup [.str (zs.getD (ws.getD (2 * i) 0).toNat ""), .int am]] = (sts m ws l0 (i + 1)).1.map (payD zs) := by
            rw [e3, List.map_append]; rfl
          rw [e4] at H5
          rw [he]
          exact ⟨_, _, _, _, by rw [e3], hi2, H5⟩
        by_cases c3 : (sts m ws l0 i).2 < ws.getD (2 * i + 1) 0
        · refine ifT (decide_eq_true c3) ?_
          walk_at "gos"
          exact fin _ (by rw [if_pos c3]) _ rfl
        · refine ifF (decide_eq_false c3) ?_
          walk_at "gos"
          exact fin _ (by rw [if_neg c3]) _ rfl
      · refine ifF (decide_eq_false c) ?_
        walk_at "gos"
        have e3 : sts m ws l0 (i + 1) = sts m ws l0 i := by
          show stp2 m ws i (sts m ws l0 i) = _
          unfold stp2
          rw [if_neg c]
        rw [← e3] at H4
        exact ⟨_, _, _, _, by rw [e3], hi2, H4⟩
    · rintro σ N4 ⟨s7, s8, s9, s10, rfl, hi, H4⟩
      rw [List.length_map, List.length_range] at H4 ⊢
      subst hX
      walk_at "go"
      exact hQ kp _ H4
  walk_at "gos"
  by_cases c1 : st = 1
  · refine ifF (by rw [decide_eq_true c1]; rfl) ?_
    walk_at "gos"
    rw [List.length_map]
    by_cases c2 : (ws.length : Int) % 2 = 1
    · refine ifT (decide_eq_true c2) ?_
      exact hback (by unfold back; rw [decide_eq_true c2, Bool.or_true]) _ rfl
    · refine ifF (decide_eq_false c2) ?_
      walk_at "gos"
      exact hpay (by unfold back; rw [decide_eq_true c1, decide_eq_false c2]; rfl)
  · refine ifT (by rw [decide_eq_false c1]; rfl) ?_
    refine ifT rfl ?_
    exact hback (by unfold back; rw [decide_eq_false c1]; rfl) _ rfl
theorem words_ok {c d mm : Nat} {pot : Int} (hc : c ≤ 1000) (hc0 : 0 < c) (hm : 1 ≤ mm) (hp0 : 0 ≤ pot) (H : At N L) (hp : Pick L (dr c d) R) (hQ : ∀ (ws : List Int) N', ws.length ≤ 100 → (∀ w ∈ ws, 0 ≤ w) → At N' (dr c d :: R) → Q (.tup (ws.map .int)) N') : wpR (m__law_words [.ref d, .int (mm : Int), .int pot] N) Q E := by
  have H := H.pick hp
  refine wp_fun3 ?_
  simp only [List.replicate]
  unfold t12__law_words
  generalize hX : t11__law_words = X
  generalize hB : b8__law_words = B
  walk_at "go"
  rename_i kw N1 H1
  refine wp_for (wp_rng1 ?_)
  walk_at "go"
  refine take_ok hc hc0 (by decide) H1 (.tail .head) fun w N2 w0 w1 H2 => ?_
  walk_at "go"
  refine ⟨_, rfl, by omega, by omega, ?_⟩
  have add : ∀ {ws : List Int} {v : Int}, (∀ w ∈ ws, 0 ≤ w) → 0 ≤ v → ∀ w ∈ ws ++ [v], 0 ≤ w := fun h hv w hw => by
    rcases List.mem_append.mp hw with a | a
    · exact h w a
    · rw [List.mem_singleton.mp a]; exact hv
  refine wp_loop (fun i σ N' => ∃ (ws : List Int) (s4 s5 s6 : Option D), σ = [some (.ref d), some (.int (mm : Int)), some (.int pot), some (.ref kw), s4, s5, s6] ∧ ws.length = 2 * i ∧ i ≤ 20 ∧ (∀ w ∈ ws, 0 ≤ w) ∧ At N' (pt kw (.lst (ws.map .int)) :: dr c d :: R)) ⟨[], _, _, _, rfl, rfl, by omega, (fun _ h => nomatch h), H2.cover (.cons (.tail .head) (.cons .head (.sub .refl)))⟩ (fun _ _ _ _ => rfl) ?_ ?_
  · rintro i y σ N3 hy ⟨ws, s4, s5, s6, rfl, hl, hi, hws, H3⟩
    have hi2 : i < 20 := by
      have := (List.getElem?_eq_some_iff.mp hy).1
      have : i < w.toNat := by simpa using this
      omega
    refine ⟨_, rfl, ?_⟩
    subst hB
    unfold b8__law_words t7__law_words
    generalize hY : t6__law_words = Y
    walk_at "go"
    refine take_ok hc hc0 (by omega) H3 (.tail .head) fun a N4 a0 a1 H4 => ?_
    walk_at "go"
    refine take_ok hc hc0 (by decide) H4 .head fun b N5 b0 b1 H5 => ?_
    walk_at "go"
    refine take_ok hc hc0 (by decide) H5 .head fun e N6 e0 e1 H6 => ?_
    walk_at "go"
    rename_i kn N7 H7
    refine take_ok hc hc0 (by decide) H7 (.tail .head) fun u N8 u0 u1 H8 => ?_
    have H8 : At N8 (pt kn (.lst [.int a, .int b, .int (4294967295 - e)]) :: pt kw (.lst (ws.map .int)) :: dr c d :: R) := by walk_at "at"
    obtain ⟨v, hv, v0⟩ : ∃ v, atD [D.int a, .int b, .int (4294967295 - e)] u = some (.int v) ∧ 0 ≤ v := by
      have : u = 0 ∨ u = 1 ∨ u = 2 := by omega
      rcases this with rfl | rfl | rfl
      · exact ⟨_, rfl, a0⟩
      · exact ⟨_, rfl, b0⟩
      · exact ⟨_, rfl, by omega⟩
    refine wp_getL (H8.get .head) hv ?_
    have H8 := H8.drop
    refine wp_nil ?_
    refine sl_app H8 .head (lt_size (by rw [List.length_map]; omega)) fun N9 H9 => ?_
    rw [map_snoc] at H9
    have hws := add hws v0
    walk_at "go"
    subst hY
    unfold t6__law_words
    generalize hY : t5__law_words = Y
    walk_at "go"
    refine take_ok hc hc0 (by decide) H9 (.tail .head) fun kd N10 _ _ H10 => ?_
    have H10 : At N10 (pt kw (.lst ((ws ++ [v]).map .int)) :: dr c d :: R) := by walk_at "at"
    walk_at "go"
    subst hY
    unfold t5__law_words i4__law_words
    have fin : ∀ (x : Int) (N : NH), 0 ≤ x → At N (pt kw (.lst ((ws ++ [v] ++ [x]).map .int)) :: dr c d :: R) → ∃ (ws : List Int) (s4_1 s5_1 s6_1 : Option D), [some (.ref d), some (.int (mm : Int)), some (.int pot), some (.ref kw), some y, some (.ref kn), some (.int kd)] = [some (.ref d), some (.int (mm : Int)), some (.int pot), some (.ref kw), s4_1, s5_1, s6_1] ∧ ws.length = 2 * (i + 1) ∧ i + 1 ≤ 20 ∧ (∀ w ∈ ws, 0 ≤ w) ∧ At N (pt kw (.lst (ws.map .int)) :: dr c d :: R) := fun x N x0 H => ⟨ws ++ [v] ++ [x], _, _, _, rfl, by rw [List.length_append, List.length_append, hl]; rfl, by omega, add hws x0, H⟩
    have hl2 : ((ws ++ [v]).map D.int).length < 1000 := by rw [List.length_map, List.length_append, List.length_singleton]; omega
    walk_at "gos"
    by_cases c1 : kd = 0
    · refine ifT (decide_eq_true c1) ?_
      walk_at "gos"
      refine wp_minI ?_
      walk_at "gos"
      refine sl_app H10 .head (lt_size (by omega)) fun N11 H11 => ?_
      rw [map_snoc] at H11
      walk_at "gos"
      exact fin _ _ (by split <;> omega) H11
    · refine ifF (decide_eq_false c1) ?_
      walk_at "gos"
      by_cases c2 : kd = 1
      · refine ifT (decide_eq_true c2) ?_
        walk_at "gos"
        refine take_ok hc hc0 (by decide) H10 (.tail .head) fun f N11 f0 f1 H11 => ?_
        walk_at "gos"
        refine sl_app H11 (.tail .head) (lt_size (by omega)) fun N12 H12 => ?_
        rw [map_snoc] at H12
        walk_at "gos"
        exact fin _ _ (by omega) H12
      · refine ifF (decide_eq_false c2) ?_
        walk_at "gos"
        refine take_ok hc hc0 (by decide) H10 (.tail .head) fun f N11 f0 f1 H11 => ?_
        walk_at "gos"
        refine sl_app H11 (.tail .head) (lt_size (by omega)) fun N12 H12 => ?_
        rw [map_snoc] at H12
        walk_at "gos"
        exact fin _ _ f0 H12
  · rintro σ N3 ⟨ws, s4, s5, s6, rfl, hl, hi, hws, H3⟩
    rw [List.length_map, List.length_range] at hl hi
    subst hX
    unfold t11__law_words
    walk_at "gos"
    refine take_ok hc hc0 (by decide) H3 (.tail .head) fun u N4 u0 u1 H4 => ?_
    walk_at "gos"
    by_cases c1 : u = 0
    · refine ifT (decide_eq_true c1) ?_
      walk_at "gos"
      refine take_ok hc hc0 (by decide) H4 .head fun f N5 f0 f1 H5 => ?_
      walk_at "gos"
      refine sl_app H5 (.tail .head) (lt_size (by rw [List.length_map]; omega)) fun N6 H6 => ?_
      rw [map_snoc] at H6
      walk_at "gos"
      exact hQ _ N6 (by rw [List.length_append, List.length_singleton]; omega) (add hws f0) H6.drop
    · refine ifF (decide_eq_false c1) ?_
      walk_at "gos"
      exact hQ _ N4 (by omega) hws (H4.cover (.cons .head (.sub (.drop .refl))))
theorem sl_lcL {a me : NE} {p : NP} {vs : List Nat} {f : D → D} (H : At N L) (h : wpR (a σ N) (fun d N' => N' = N ∧ ∃ m l, d = .ref m ∧ N[m]? = some (.lst l) ∧ l.length < 1000000 ∧ (∀ x ∈ l, ∃ σ1, p.put x (wipeN σ vs) N = some σ1 ∧ wpR (me σ1 N) (fun y N2 => N2 = N ∧ y = f x)) ∧ ∀ (k : Nat) (N2 : NH), At N2 (pt k (.lst (l.map f)) :: L) → Q (.ref k) N2) E) : wpR (nLc (iSeq a) p nYes me vs σ N) Q E := by
  refine sl_lc (wp_itR (h.mono (fun d N' ⟨e0, m, l, e1, hm, hl, hs, hq⟩ => ?_) fun _ _ h => h))
  subst e0
  refine ⟨m, l, e1, hm, ?_⟩
  refine wp_lcLoop (fun i acc N2 => N2 = N' ∧ i ≤ l.length ∧ acc = (l.take i).map f) ⟨rfl, Nat.zero_le _, rfl⟩ (fun i acc N2 ⟨e2, hi, e⟩ => ⟨by subst e2; exact decide_eq_true hm, ?_⟩) ?_ ?_
  · rw [e, List.length_map, List.length_take]
    exact lt_size (by omega)
  · rintro i x acc N2 hx ⟨rfl, hi, rfl⟩
    obtain ⟨σ1, h1, h2⟩ := hs x (List.mem_of_getElem? hx)
    refine ⟨σ1, h1, wp_yesH (ifT rfl ?_)⟩
    refine h2.mono (fun y N3 ⟨e3, ey⟩ => ?_) fun _ _ h => h
    subst e3 ey
    exact ⟨rfl, (List.getElem?_eq_some_iff.mp hx).1, by rw [take_succ_get hx, List.map_append]; rfl⟩
  · rintro acc N2 ⟨rfl, hi, rfl⟩
    rw [List.take_of_length_le (Nat.le_refl _)]
    exact ⟨L, H, hq⟩
theorem pay_plain {zs : List Str} (hz : ∀ z ∈ zs, Nm z 40) (p : Int × Int) : NY.plain (payD zs p) = true ∧ NY.dep (payD zs p) ≤ 1 := by
  have hn : Nm (zs.getD p.1.toNat "") 40 := by
    rw [List.getD_eq_getElem?_getD]
    by_cases c : p.1.toNat < zs.length
    · rw [List.getElem?_eq_getElem c]; exact hz _ (List.getElem_mem c)
    · rw [List.getElem?_eq_none (by omega)]
      exact ⟨by decide +kernel, fun c hc => by revert hc; decide +kernel +revert⟩
  obtain ⟨a, b⟩ := Bool.and_eq_true_iff.mp hn.ok
  refine ⟨?_, by show (max 0 (max 0 0)) + 1 ≤ 1; decide⟩
  show (NY.plain (.str _) && (true && true)) = true
  rw [a]; rfl
theorem pays_plain {zs : List Str} (hz : ∀ z ∈ zs, Nm z 40) : ∀ l : List (Int × Int), NY.plains (l.map (payD zs)) = true ∧ NY.deps (l.map (payD zs)) ≤ 1
  | [] => ⟨rfl, by show 0 ≤ 1; decide⟩
  | p :: r => by
    obtain ⟨a, b⟩ := pay_plain hz p
    obtain ⟨c, d⟩ := pays_plain hz r
    refine ⟨?_, ?_⟩
    · show (NY.plain (payD zs p) && NY.plains (r.map (payD zs))) = true
      rw [a, c]; rfl
    · show max (NY.dep (payD zs p)) (NY.deps (r.map (payD zs))) ≤ 1
      omega
theorem ans_ok {zs : List Str} (hz : ∀ z ∈ zs, Nm z 40) (l : List (Int × Int)) (i : Int) : okD (.tup [.tup (l.map (payD zs)), .int i]) = true := by
  obtain ⟨a, b⟩ := pays_plain hz l
  show ((NY.plains (l.map (payD zs)) && (true && true)) && decide (max (NY.deps (l.map (payD zs)) + 1) (max 0 0) + 1 ≤ 60)) = true
  rw [a, decide_eq_true (by omega)]; rfl
theorem paid_sum {m : Nat} {rest st : Int} {es : List En3} {ws : List Int} : ((paid m rest es st ws).1.map (·.2)).sum + (paid m rest es st ws).2 = rest + (es.map (·.2.1)).sum := by
  unfold paid
  split
  · show ((refE es).map (·.2)).sum + rest = _
    unfold refE
    rw [List.map_map, Int.add_comm]
    rfl
  · exact sts_sum _
theorem law_ok {d0 : D} {ns : List Int} (hs : Scr N d0 (ns.map .int)) (hn : ns.length ≤ 63) : wpR (m_law [d0] N) (fun v _ => v = .bl true) := by
  have hc : 200 ≤ 1000 := by decide
  have hc0 : 0 < 200 := by decide
  refine wp_fun1 ?_
  simp only [List.replicate]
  unfold t20_law t19_law t18_law t17_law
  generalize hX : t16_law = X
  generalize hB : b2_law = B
  walk_at "go"
  refine draws_ok (c := 200) hc hc0 hs hn fun b N1 H1 => ?_
  walk_at "go"
  refine take_ok hc hc0 (by decide) H1 .head fun m N2 m0 m1 H2 => ?_
  walk_at "go"
  obtain ⟨mm, em, hm1, hm2⟩ : ∃ k : Nat, 1 + m = (k : Int) ∧ 1 ≤ k ∧ k ≤ 16 := ⟨(1 + m).toNat, by omega, by omega, by omega⟩
  rw [em]
  refine pool_ok hc hc0 hm2 H2 .head fun kp zs N3 hz hzs H3 => ?_
  walk_at "go"
  have H3 := H3.drop
  refine take_ok hc hc0 (by decide) H3 .head fun r1 N4 a0 a1 H4 => ?_
  walk_at "go"
  refine take_ok hc hc0 (by decide) H4 .head fun r2 N5 b0 b1 H5 => ?_
  refine wp_mulR ⟨by omega, by omega⟩ ?_
  have hrest : 0 ≤ r1 * r2 := Int.mul_nonneg a0 b0
  generalize r1 * r2 = rest at hrest
  walk_at "go"
  rename_i ke N6 H6
  refine wp_for (wp_rng1 ?_)
  walk_at "go"
  refine take_ok hc hc0 (by decide) H6 (.tail .head) fun ne N7 ne0 ne1 H7 => ?_
  walk_at "go"
  refine ⟨_, rfl, by omega, by omega, ?_⟩
  refine wp_loop (fun i σ N' => ∃ (es : List En3) (s5 s13 : Option D), σ = [some d0, some (.ref b), some (.tup (zs.map .str)), some (.int rest), some (.ref ke), s5, none, none, none, none, none, none, none, s13, none] ∧ es.length = i ∧ i ≤ 21 ∧ EnOk mm es ∧ At N' [pt ke (.lst (es.map entD)), dr 200 b]) ⟨[], _, _, rfl, rfl, by decide, ⟨by decide, fun _ h => nomatch h⟩, H7.cover (.cons (.tail .head) (.cons .head .nil))⟩ (fun _ _ _ _ => rfl) ?_ ?_
  · rintro i y σ N8 hy ⟨es, s5, s13, rfl, hl, hi, he, H8⟩
    have hi2 : i < 21 := by
      have := (List.getElem?_eq_some_iff.mp hy).1
      have : i < ne.toNat := by simpa using this
      omega
    refine ⟨_, rfl, ?_⟩
    subst hB
    unfold b2_law
    generalize hY : t1_law = Y
    walk_at "go"
    refine take_ok hc hc0 (by decide) H8 (.tail .head) fun a N9 a0 a1 H9 => ?_
    walk_at "go"
    rename_i ka N10 H10
    refine take_ok hc hc0 (by decide) H10 (.tail .head) fun u N11 u0 u1 H11 => ?_
    have H11 : At N11 [pt ka (.lst [.int (1 + a), .int 4294967295]), pt ke (.lst (es.map entD)), dr 200 b] := by walk_at "at"
    walk_at "go"
    obtain ⟨am, ham, am0⟩ : ∃ am, atD [D.int (1 + a), .int 4294967295] (u / 29) = some (.int am) ∧ 1 ≤ am := by
      have : u / 29 = 0 ∨ u / 29 = 1 := by omega
      rcases this with e | e
      · rw [e]; exact ⟨_, rfl, by omega⟩
      · rw [e]; exact ⟨_, rfl, by decide⟩
    refine wp_getL (H11.get .head) ham ?_
    have H11 := H11.drop
    subst hY
    walk_at "go"
    rw [List.length_map, hz]
    refine take_ok hc hc0 (by omega) H11 (.tail .head) fun w N12 w0 w1 H12 => ?_
    walk_at "go"
    refine take_ok hc hc0 (by decide) H12 .head fun nt N13 nt0 nt1 H13 => ?_
    walk_at "go"
    refine sl_app H13 (.tail .head) (lt_size (by rw [List.length_map]; omega)) fun N14 H14 => ?_
    have e5 : es.map entD ++ [D.tup [.int w, .int am, .int nt]] = (es ++ [(w, am, nt)]).map entD := by rw [List.map_append]; rfl
    rw [e5] at H14
    walk_at "go"
    refine ⟨es ++ [(w, am, nt)], _, _, rfl, by rw [List.length_append, hl]; rfl, by omega, ⟨by rw [List.length_append, hl, List.length_singleton]; omega, fun t ht => ?_⟩, H14⟩
    rcases List.mem_append.mp ht with c | c
    · exact he.2 t c
    · rw [List.mem_singleton.mp c]; exact ⟨w0, w1, am0⟩
  rintro σ N8 ⟨es, s5, s13, rfl, hl, hi, he, H8⟩
  clear hl hi
  subst hX
  unfold t16_law t15_law t14_law t13_law t12_law
  generalize hX : t11_law = X
  generalize hB : b4_law = B
  walk_at "go"
  rename_i ks N9 H9
  refine take_ok hc hc0 (by decide) H9 (.tail (.tail .head)) fun u N10 u0 u1 H10 => ?_
  have H10 : At N10 [pt ks (.lst [.int 1, .int 1, .int 1, .int 0, .int 2]), pt ke (.lst (es.map entD)), dr 200 b] := by walk_at "at"
  obtain ⟨st, hst⟩ : ∃ st, atD [D.int 1, .int 1, .int 1, .int 0, .int 2] u = some (.int st) := by
    have : u = 0 ∨ u = 1 ∨ u = 2 ∨ u = 3 ∨ u = 4 := by omega
    rcases this with rfl | rfl | rfl | rfl | rfl <;> exact ⟨_, rfl⟩
  refine wp_getL (H10.get .head) hst ?_
  have H10 := H10.drop
  walk_at "go"
  rw [List.length_map, hz]
  have hel := he.1
  have amF : ∀ (es : List En3), (es.map entD).map (fun d => match d with | .tup [_, y, _] => y | _ => .non) = (es.map (·.2.1)).map .int := fun es => by
    rw [List.map_map, List.map_map]; rfl
  have sum0 : 0 ≤ (es.map (·.2.1)).sum := by
    have : ∀ l : List En3, (∀ t ∈ l, 1 ≤ t.2.1) → 0 ≤ (l.map (·.2.1)).sum := by
      intro l
      induction l with
      | nil => intro _; exact Int.le_refl _
      | cons t r ih =>
        intro h
        have h1 := h t List.mem_cons_self
        have h2 := ih fun t ht => h t (List.mem_cons_of_mem _ ht)
        show 0 ≤ t.2.1 + (r.map (·.2.1)).sum
        omega
    exact this es fun t ht => (he.2 t ht).2.2
  refine sl_lcL (f := fun d => match d with | .tup [_, y, _] => y | _ => .non) H10 ?_
  walk_at "go"
  refine ⟨rfl, ke, _, rfl, H10.get .head, by rw [List.length_map]; omega, fun x hx => ?_, fun k2 N11 H11 => ?_⟩
  · obtain ⟨t, _, rfl⟩ := List.mem_map.mp hx
    refine ⟨_, rfl, ?_⟩
    simp only [wipeN]
    unfold entD
    walk_at "go"
    exact ⟨rfl, rfl⟩
  rw [amF] at H11
  walk_at "go"
  refine wp_sumL (H11.get .head) ?_
  have H11 := H11.drop
  walk_at "go"
  refine words_ok hc hc0 hm1 (by omega) H11 (.tail .head) fun ws N12 hw hw0 H12 => ?_
  walk_at "go"
  have hp : PyOk mm zs es ws := ⟨hz, ⟨hm1, hm2⟩, he, hw, hw0⟩
  rename_i kf N13 H13
  have H13 : At N13 [pt kf (.lst []), dr 200 b] := by walk_at "at"
  refine wp_for (wp_itT ?_)
  walk_at "go"
  refine ⟨_, rfl, ?_⟩
  refine wp_loop (fun i σ N' => ∃ (kf : Nat) (s5 s9 s13 : Option D), σ = [some d0, some (.ref b), some (.tup (zs.map .str)), some (.int rest), some (.tup (es.map entD)), s5, some (.int st), some (.tup (ws.map .int)), some (.ref kf), s9, none, none, none, s13, none] ∧ i ≤ es.length ∧ At N' [pt kf (.lst ((flatE (es.take i)).map .int)), dr 200 b]) ⟨kf, _, _, _, rfl, Nat.zero_le _, H13⟩ (fun _ _ _ _ => rfl) ?_ ?_
  · rintro i y σ N14 hy ⟨kf, s5, s9, s13, rfl, hi, H14⟩
    obtain ⟨t, ht, rfl⟩ := ent_get hy
    have hil := (List.getElem?_eq_some_iff.mp ht).1
    refine ⟨_, rfl, ?_⟩
    subst hB
    unfold b4_law entD
    walk_at "go"
    rename_i k3 N15 H15
    refine sl_catL H15 (.tail .head) .head (le_size (by
      have := flatE_len (es.take i)
      rw [List.length_take] at this
      rw [List.length_map, this]
      show 3 * min i es.length + 3 ≤ _
      omega)) fun k4 N16 H16 => ?_
    have e5 : (flatE (es.take i)).map D.int ++ [D.int t.1, .int t.2.1, .int t.2.2] = (flatE (es.take (i + 1))).map .int := by
      rw [take_succ_get ht, flatE_snoc, List.map_append]; rfl
    rw [e5] at H16
    exact ⟨k4, _, _, _, rfl, hil, H16.cover (.cons .head (.cons (.tail (.tail .head)) .nil))⟩
  rintro σ N14 ⟨kf, s5, s9, s13, rfl, hi, H14⟩
  rw [List.length_map, List.take_of_length_le (Nat.le_refl _)] at H14
  subst hX
  unfold t11_law t10_law t9_law t8_law t7_law
  walk_at "gos"
  refine input_of_ok he H14 fun N15 H15 => ?_
  walk_at "gos"
  refine wp_ne (eqN_self (okD_ints _)) ?_
  walk_at "goi"
  refine due_ok hp H15 fun k5 N16 H16 => ?_
  walk_at "goi"
  refine payments_ok hp H16 fun N17 H17 => ?_
  have hpl : (paid mm rest es st ws).1.length ≤ 100 := by
    unfold paid
    split
    · show (refE es).length ≤ 100
      unfold refE
      rw [List.length_map]; omega
    · exact Nat.le_trans (sts_len _) (by omega)
  have hsum := paid_sum (m := mm) (rest := rest) (st := st) (es := es) (ws := ws)
  generalize paid mm rest es st ws = P at hsum hpl H17 ⊢
  obtain ⟨pl, left⟩ := P
  walk_at "goi"
  refine wp_ne (eqN_self (ans_ok hzs pl left)) ?_
  walk_at "goi"
  refine sl_lcT (f := fun d => match d with | .tup [_, y] => y | _ => .non) H17 ?_
  walk_at "go"
  refine ⟨rfl, _, rfl, ?_, fun x hx => ?_, fun k6 N18 H18 => ?_⟩
  · rw [List.length_map]; exact Nat.lt_of_le_of_lt hpl (by decide)
  · obtain ⟨q, _, rfl⟩ := List.mem_map.mp hx
    refine ⟨_, rfl, ?_⟩
    simp only [wipeN]
    walk_at "go"
    exact ⟨rfl, rfl⟩
  have e6 : (pl.map (payD zs)).map (fun d => match d with | .tup [_, y] => y | _ => .non) = (pl.map (·.2)).map .int := by
    rw [List.map_map, List.map_map]; rfl
  rw [e6] at H18
  walk_at "go"
  refine wp_sumL (H18.get .head) ?_
  have H18 := H18.drop
  walk_at "go"
  refine amounts_ok he H18 (fun h => by walk_at "go"; exact h) (fun t => ?_) fun k7 N19 H19 => ?_
  · unfold entD
    simp only [wipeN]
    walk_at "go"
    exact ⟨rfl, rfl⟩
  walk_at "go"
  refine wp_sumL (H19.get .head) ?_
  walk_at "go"
  rw [decide_eq_true hsum]
end
end K60

set_option Elab.async false
set_option linter.all false
set_option maxRecDepth 100000
set_option maxHeartbeats 4000000
namespace K60
open OW NY PySem PySem.Spec PyProof.Rows L2
def top (i : Nat) : Stmt := PySem.Challenge.pw_onewatcher_k60_payments.main.body.getD i (.Pass ⟨0, 0, 0, 0⟩)
abbrev st__law_mix : Stmt := top 4
abbrev N__law_mix : List Str := ["_law_first", "_law_second", "_law_value"]
abbrev P__law_mix : List Str := ["_law_first", "_law_second"]
theorem sc__law_mix : FnScope N__law_mix P__law_mix (defScope st__law_mix) := ⟨rfl, rfl, rfl, by decide +kernel, rfl, by decide +kernel, by decide +kernel⟩
abbrev st__law_numbers : Stmt := top 5
abbrev N__law_numbers : List Str := ["_law_script", "_law_count", "_law_found", "_law_total", "_law_cell", "_law_k", "_law_number"]
abbrev P__law_numbers : List Str := ["_law_script", "_law_count"]
theorem sc__law_numbers : FnScope N__law_numbers P__law_numbers (defScope st__law_numbers) := ⟨rfl, rfl, rfl, by decide +kernel, rfl, by decide +kernel, by decide +kernel⟩
abbrev st__law_draws : Stmt := top 6
abbrev N__law_draws : List Str := ["_law_script", "_law_count"]
abbrev P__law_draws : List Str := ["_law_script", "_law_count"]
theorem sc__law_draws : FnScope N__law_draws P__law_draws (defScope st__law_draws) := ⟨rfl, rfl, rfl, by decide +kernel, rfl, by decide +kernel, by decide +kernel⟩
abbrev st__law_take : Stmt := top 7
abbrev N__law_take : List Str := ["_law_draws_here", "_law_bound", "_law_row", "_law_at", "_law_value"]
abbrev P__law_take : List Str := ["_law_draws_here", "_law_bound"]
theorem sc__law_take : FnScope N__law_take P__law_take (defScope st__law_take) := ⟨rfl, rfl, rfl, by decide +kernel, rfl, by decide +kernel, by decide +kernel⟩
abbrev st__law_name : Stmt := top 8
abbrev N__law_name : List Str := ["_law_draws_here", "_law_capital", "_law_letters", "_law_signs", "_law_first", "_law_size", "_law_rest", "_law_words_here", "_law_k"]
abbrev P__law_name : List Str := ["_law_draws_here", "_law_capital"]
theorem sc__law_name : FnScope N__law_name P__law_name (defScope st__law_name) := ⟨rfl, rfl, rfl, by decide +kernel, rfl, by decide +kernel, by decide +kernel⟩
abbrev st__law_pool : Stmt := top 9
abbrev N__law_pool : List Str := ["_law_draws_here", "_law_capital", "_law_many", "_law_pool_here", "_law_k", "_law_name_here", "_law_base", "_law_n"]
abbrev P__law_pool : List Str := ["_law_draws_here", "_law_capital", "_law_many"]
theorem sc__law_pool : FnScope N__law_pool P__law_pool (defScope st__law_pool) := ⟨rfl, rfl, rfl, by decide +kernel, rfl, by decide +kernel, by decide +kernel⟩
abbrev st__law_words : Stmt := top 10
abbrev N__law_words : List Str := ["_law_draws_here", "_law_many", "_law_pot", "_law_words_here", "_law_k", "_law_numbers_here", "_law_kind"]
abbrev P__law_words : List Str := ["_law_draws_here", "_law_many", "_law_pot"]
theorem sc__law_words : FnScope N__law_words P__law_words (defScope st__law_words) := ⟨rfl, rfl, rfl, by decide +kernel, rfl, by decide +kernel, by decide +kernel⟩
abbrev st_input_of : Stmt := top 1
abbrev N_input_of : List Str := ["entries", "entry", "word"]
abbrev P_input_of : List Str := ["entries"]
theorem sc_input_of : FnScope N_input_of P_input_of (defScope st_input_of) := ⟨rfl, rfl, rfl, by decide +kernel, rfl, by decide +kernel, by decide +kernel⟩
abbrev st__law_due_2 : Stmt := top 11
abbrev N__law_due_2 : List Str := ["_law_members", "_law_rest", "_law_entries", "_law_status", "_law_words_here", "_law_left", "_law_due_here", "_law_k", "_law_number", "_law_amount", "_law_entry"]
abbrev P__law_due_2 : List Str := ["_law_members", "_law_rest", "_law_entries", "_law_status", "_law_words_here"]
theorem sc__law_due_2 : FnScope N__law_due_2 P__law_due_2 (defScope st__law_due_2) := ⟨rfl, rfl, rfl, by decide +kernel, rfl, by decide +kernel, by decide +kernel⟩
abbrev st_payments : Stmt := top 2
abbrev N_payments : List Str := ["members", "rest", "entries", "status", "words", "left", "paid", "k", "amount", "entry"]
abbrev P_payments : List Str := ["members", "rest", "entries", "status", "words"]
theorem sc_payments : FnScope N_payments P_payments (defScope st_payments) := ⟨rfl, rfl, rfl, by decide +kernel, rfl, by decide +kernel, by decide +kernel⟩
abbrev st_law : Stmt := top 12
abbrev N_law : List Str := ["_law_script", "_law_draws_here", "_law_members", "_law_rest", "_law_entries", "_law_k", "_law_status", "_law_words_here", "_law_flat", "_law_entry", "_law_due_here", "_law_left", "_law_answer", "_law_amount", "_law_name_here"]
abbrev P_law : List Str := ["_law_script"]
theorem sc_law : FnScope N_law P_law (defScope st_law) := ⟨rfl, rfl, rfl, by decide +kernel, rfl, by decide +kernel, by decide +kernel⟩
structure Txt (K : PySem.W.Frag) (mg : Str → Option Value) (C : NC) : Prop where
  nd : C.names.Nodup
  b_abs : mg "abs" = none
  b_int : mg "int" = none
  b_len : mg "len" = none
  b_min : mg "min" = none
  b_range : mg "range" = none
  b_str : mg "str" = none
  b_sum : mg "sum" = none
  b_tuple : mg "tuple" = none
  d__law_mix : DefA K mg "_law_mix" "_law_mix" st__law_mix P__law_mix
  d__law_numbers : DefA K mg "_law_numbers" "_law_numbers" st__law_numbers P__law_numbers
  d__law_take : DefA K mg "_law_take" "_law_take" st__law_take P__law_take
  d__law_name : DefA K mg "_law_name" "_law_name" st__law_name P__law_name
  d__law_draws : DefA K mg "_law_draws" "_law_draws" st__law_draws P__law_draws
  d__law_pool : DefA K mg "_law_pool" "_law_pool" st__law_pool P__law_pool
  d__law_words : DefA K mg "_law_words" "_law_words" st__law_words P__law_words
  d_input_of : DefA K mg "input_of" "input_of" st_input_of P_input_of
  d__law_due : DefA K mg "_law_due" "_law_due" st__law_due_2 P__law_due_2
  d_payments : DefA K mg "payments" "payments" st_payments P_payments
  d_law : DefA K mg "law" "law" st_law P_law
section
variable {P : Program} {w : World} {K : PySem.W.Frag} {mg : Str → Option Value} {base : Heap} {C : NC}
theorem ok__law_mix (T : Txt K mg C) : FunN P w K mg base C 1 "_law_mix" 2 OW.m__law_mix := n_defA T.d__law_mix sc__law_mix rfl fun fa cdv A outer s H E G =>
    (s_cons (s_asg (n_bin op_mod sndMod (n_callTy crInt sndInt T.b_int (by rfl) (n_cons (n_bin opAdd sndAdd (n_bin opAdd sndAdd (n_bin opMul sndMul (n_var 0) n_int) (n_bin opMul sndMul (n_var 1) n_int)) n_int) n_nil)) n_int) (g_name 2 sc__law_mix.nd))
    (s_one (s_ret (n_bin op_mod sndMod (n_callTy crInt sndInt T.b_int (by rfl) (n_cons (n_bin opAdd sndAdd (n_bin opAdd sndAdd (n_bin opMul sndMul (n_var 2) n_int) (n_bin opMul sndMul (n_var 1) n_int)) n_int) n_nil)) n_int))))
theorem ok__law_numbers (T : Txt K mg C) (h__law_mix : FunN P w K mg base C 1 "_law_mix" 2 OW.m__law_mix) : FunN P w K mg base C 2 "_law_numbers" 2 OW.m__law_numbers := n_defA T.d__law_numbers sc__law_numbers rfl fun fa cdv A outer s H E G =>
    (s_cons (s_asg (n_lst n_nil) (g_name 2 sc__law_numbers.nd))
    (s_cons (s_asg (n_bin opAdd sndAdd (n_callB crLen sndLen T.b_len (by rfl) (n_cons (n_var 0) n_nil)) n_int) (g_name 3 sc__law_numbers.nd))
    (s_cons (s_for G.po rfl (n_it (n_cut (n_var 0) n_noPart (n_part n_int))) (g_name 4 sc__law_numbers.nd) (s_cons (s_asg (n_callB call_abs sndAbs T.b_abs (by rfl) (n_cons (n_var 4) n_nil)) (g_name 6 sc__law_numbers.nd))
    (s_cons (s_asg (n_call h__law_mix G.room G.px rfl (n_cons (n_var 3) (n_cons (n_bin op_mod sndMod (n_callTy crInt sndInt T.b_int (by rfl) (n_cons (n_var 6) n_nil)) n_int) n_nil)) (hm := (nCons_len (nCons_len nNil_len)))) (g_name 3 sc__law_numbers.nd))
    (s_one (s_if (n_cmpT opGe sndOrd (n_var 6) (n_bin op_pow sndPow n_int n_int) (by rfl)) (s_one (s_for G.po rfl (n_range1 T.b_range (n_cons n_int n_nil) (hl := (nCons_len nNil_len))) (g_name 5 sc__law_numbers.nd) (s_one (s_if (n_cmpT opGt sndOrd (n_var 6) n_int (by rfl)) (s_cons (s_expr (n_bm PySem.F.plainAttrs_list PySem.F.slot_list_append PySem.F.type_list_append mt_append sndAppend (n_var 2) (n_cons (n_bin op_mod sndMod (n_callTy crInt sndInt T.b_int (by rfl) (n_cons (n_var 6) n_nil)) n_int) n_nil)))
    (s_one (s_asg (n_bin op_fdivW sndDiv (n_var 6) n_int) (g_name 6 sc__law_numbers.nd)))) s_nil)))) (s_one (s_for G.po rfl (n_range1 T.b_range (n_cons n_int n_nil) (hl := (nCons_len nNil_len))) (g_name 5 sc__law_numbers.nd) (s_one (s_expr (n_bm PySem.F.plainAttrs_list PySem.F.slot_list_append PySem.F.type_list_append mt_append sndAppend (n_var 2) (n_cons (n_bin op_mod sndMod (n_callTy crInt sndInt T.b_int (by rfl) (n_cons (n_call h__law_mix G.room G.px rfl (n_cons (n_var 6) (n_cons (n_bin opAdd sndAdd (n_var 5) n_int) n_nil)) (hm := (nCons_len (nCons_len nNil_len)))) n_nil)) n_int) n_nil)))))))))))
    (s_cons (s_for G.po rfl (n_range1 T.b_range (n_cons (n_var 1) n_nil) (hl := (nCons_len nNil_len))) (g_name 5 sc__law_numbers.nd) (s_one (s_if (n_cmpT opLt sndOrd (n_callB crLen sndLen T.b_len (by rfl) (n_cons (n_var 2) n_nil)) (n_var 1) (by rfl)) (s_cons (s_asg (n_call h__law_mix G.room G.px rfl (n_cons (n_var 3) (n_cons (n_bin opAdd sndAdd (n_var 5) n_int) n_nil)) (hm := (nCons_len (nCons_len nNil_len)))) (g_name 3 sc__law_numbers.nd))
    (s_one (s_expr (n_bm PySem.F.plainAttrs_list PySem.F.slot_list_append PySem.F.type_list_append mt_append sndAppend (n_var 2) (n_cons (n_bin op_mod sndMod (n_callTy crInt sndInt T.b_int (by rfl) (n_cons (n_var 3) n_nil)) n_int) n_nil))))) s_nil)))
    (s_one (s_ret (n_cut (n_var 2) n_noPart (n_part (n_var 1)))))))))
theorem ok__law_draws (T : Txt K mg C) (h__law_numbers : FunN P w K mg base C 2 "_law_numbers" 2 OW.m__law_numbers) : FunN P w K mg base C 3 "_law_draws" 2 OW.m__law_draws := n_defA T.d__law_draws sc__law_draws rfl fun fa cdv A outer s H E G =>
    (s_one (s_ret (n_disp (d_cons n_str n_int (d_cons n_str (n_call h__law_numbers G.room G.px rfl (n_cons (n_var 0) (n_cons (n_var 1) n_nil)) (hm := (nCons_len (nCons_len nNil_len)))) d_nil)))))
theorem ok__law_take (T : Txt K mg C) : FunN P w K mg base C 1 "_law_take" 2 OW.m__law_take := n_defA T.d__law_take sc__law_take rfl fun fa cdv A outer s H E G =>
    (s_cons (s_asg (n_get G.u1 (n_var 0) n_str (fun _ _ => rfl)) (g_name 2 sc__law_take.nd))
    (s_cons (s_asg (n_get G.u1 (n_var 0) n_str (fun _ _ => rfl)) (g_name 3 sc__law_take.nd))
    (s_cons (s_put G.u1 (n_bin opAdd sndAdd (n_var 3) n_int) (n_var 0) n_str)
    (s_cons (s_asg (n_bin opAdd sndAdd (n_get G.u1 (n_var 2) (n_bin op_mod sndMod (n_callTy crInt sndInt T.b_int (by rfl) (n_cons (n_var 3) n_nil)) (n_callB crLen sndLen T.b_len (by rfl) (n_cons (n_var 2) n_nil))) (fun _ _ => rfl)) (n_bin op_fdivW sndDiv (n_var 3) (n_callB crLen sndLen T.b_len (by rfl) (n_cons (n_var 2) n_nil)))) (g_name 4 sc__law_take.nd))
    (s_one (s_ret (n_bin op_mod sndMod (n_callTy crInt sndInt T.b_int (by rfl) (n_cons (n_var 4) n_nil)) (n_var 1))))))))
theorem ok__law_name (T : Txt K mg C) (h__law_take : FunN P w K mg base C 1 "_law_take" 2 OW.m__law_take) : FunN P w K mg base C 2 "_law_name" 2 OW.m__law_name := n_defA T.d__law_name sc__law_name rfl fun fa cdv A outer s H E G =>
    (s_cons (s_asg n_str (g_name 2 sc__law_name.nd))
    (s_cons (s_asg (n_bin opAdd sndAdd (n_var 2) n_str) (g_name 3 sc__law_name.nd))
    (s_cons (s_asg (n_get G.u1 (n_var 2) (n_call h__law_take G.room G.px rfl (n_cons (n_var 0) (n_cons n_int n_nil)) (hm := (nCons_len (nCons_len nNil_len)))) (fun _ _ => rfl)) (g_name 4 sc__law_name.nd))
    (s_cons (s_if (n_tru (n_var 1)) (s_one (s_asg (n_bm0 PySem.F.plainAttrs_str PySem.F.slot_str_upper PySem.F.type_str_upper mt_upper sndUpper (n_var 4)) (g_name 4 sc__law_name.nd))) s_nil)
    (s_cons (s_asg (n_call h__law_take G.room G.px rfl (n_cons (n_var 0) (n_cons n_int n_nil)) (hm := (nCons_len (nCons_len nNil_len)))) (g_name 5 sc__law_name.nd))
    (s_cons (s_if (n_cmpT (opEq G.u64) sndEq (n_call h__law_take G.room G.px rfl (n_cons (n_var 0) (n_cons n_int n_nil)) (hm := (nCons_len (nCons_len nNil_len)))) n_int (by rfl)) (s_one (s_asg n_int (g_name 5 sc__law_name.nd))) s_nil)
    (s_cons (s_asg (n_bm PySem.F.plainAttrs_str PySem.F.slot_str_join PySem.F.type_str_join mt_join sndJoin n_str (n_cons (n_lc (own := [("_law_k", 8)]) rfl sc__law_name.nd (blkOk_by (N := N__law_name) (sc := defScope st__law_name) (own := [("_law_k", 8)]) (by decide +kernel)) (by decide) (n_range1 T.b_range (n_cons (n_var 5) n_nil) (hl := (nCons_len nNil_len))) (fun _ _ _ _ _ => (g_name 8 sc__law_name.nd)) (fun _ _ _ _ _ => n_noif) (fun _ _ _ _ _ => (n_get G.u1 (n_var 3) (n_call h__law_take G.room px0 rfl (n_cons (n_var 0) (n_cons n_int n_nil)) (hm := (nCons_len (nCons_len nNil_len)))) (fun _ _ => rfl)))) n_nil)) (g_name 6 sc__law_name.nd))
    (s_cons (s_asg (n_bm PySem.F.plainAttrs_str PySem.F.slot_str_split PySem.F.type_str_split mt_split sndSplit n_str (n_cons n_str n_nil)) (g_name 7 sc__law_name.nd))
    (s_cons (s_if (n_cmpT (opIn G.u65) sndIn (n_bin opAdd sndAdd (n_var 4) (n_var 6)) (n_var 7) (by rfl)) (s_one (s_ret (n_bin opAdd sndAdd (n_var 4) n_str))) s_nil)
    (s_one (s_ret (n_bin opAdd sndAdd (n_var 4) (n_var 6)))))))))))))
theorem ok__law_pool (T : Txt K mg C) (h__law_name : FunN P w K mg base C 2 "_law_name" 2 OW.m__law_name) : FunN P w K mg base C 3 "_law_pool" 3 OW.m__law_pool := n_defA T.d__law_pool sc__law_pool rfl fun fa cdv A outer s H E G =>
    (s_cons (s_asg (n_lst n_nil) (g_name 3 sc__law_pool.nd))
    (s_cons (s_for G.po rfl (n_range1 T.b_range (n_cons (n_var 2) n_nil) (hl := (nCons_len nNil_len))) (g_name 4 sc__law_pool.nd) (s_cons (s_asg (n_call h__law_name G.room G.px rfl (n_cons (n_var 0) (n_cons (n_var 1) n_nil)) (hm := (nCons_len (nCons_len nNil_len)))) (g_name 5 sc__law_pool.nd))
    (s_cons (s_asg (n_cut (n_var 5) n_noPart (n_part n_int)) (g_name 6 sc__law_pool.nd))
    (s_cons (s_for G.po rfl (n_range1 T.b_range (n_cons (n_bin opAdd sndAdd (n_var 2) n_int) n_nil) (hl := (nCons_len nNil_len))) (g_name 7 sc__law_pool.nd) (s_one (s_if (n_cmpT (opIn G.u65) sndIn (n_var 5) (n_var 3) (by rfl)) (s_one (s_asg (n_bin opAdd sndAdd (n_bin opAdd sndAdd (n_var 6) n_str) (n_callTy call_str_int sndStr T.b_str (by rfl) (n_cons (n_var 7) n_nil))) (g_name 5 sc__law_pool.nd))) s_nil)))
    (s_one (s_expr (n_bm PySem.F.plainAttrs_list PySem.F.slot_list_append PySem.F.type_list_append mt_append sndAppend (n_var 3) (n_cons (n_var 5) n_nil))))))))
    (s_one (s_ret (n_var 3)))))
theorem ok__law_words (T : Txt K mg C) (h__law_take : FunN P w K mg base C 1 "_law_take" 2 OW.m__law_take) : FunN P w K mg base C 2 "_law_words" 3 OW.m__law_words := n_defA T.d__law_words sc__law_words rfl fun fa cdv A outer s H E G =>
    (s_cons (s_asg (n_lst n_nil) (g_name 3 sc__law_words.nd))
    (s_cons (s_for G.po rfl (n_range1 T.b_range (n_cons (n_call h__law_take G.room G.px rfl (n_cons (n_var 0) (n_cons n_int n_nil)) (hm := (nCons_len (nCons_len nNil_len)))) n_nil) (hl := (nCons_len nNil_len))) (g_name 4 sc__law_words.nd) (s_cons (s_asg (n_lst (n_cons (n_call h__law_take G.room G.px rfl (n_cons (n_var 0) (n_cons (n_var 1) n_nil)) (hm := (nCons_len (nCons_len nNil_len)))) (n_cons (n_call h__law_take G.room G.px rfl (n_cons (n_var 0) (n_cons n_int n_nil)) (hm := (nCons_len (nCons_len nNil_len)))) (n_cons (n_bin opSub sndSub n_int (n_call h__law_take G.room G.px rfl (n_cons (n_var 0) (n_cons n_int n_nil)) (hm := (nCons_len (nCons_len nNil_len))))) n_nil)))) (g_name 5 sc__law_words.nd))
    (s_cons (s_expr (n_bm PySem.F.plainAttrs_list PySem.F.slot_list_append PySem.F.type_list_append mt_append sndAppend (n_var 3) (n_cons (n_get G.u1 (n_var 5) (n_call h__law_take G.room G.px rfl (n_cons (n_var 0) (n_cons n_int n_nil)) (hm := (nCons_len (nCons_len nNil_len)))) (fun _ _ => rfl)) n_nil)))
    (s_cons (s_asg (n_call h__law_take G.room G.px rfl (n_cons (n_var 0) (n_cons n_int n_nil)) (hm := (nCons_len (nCons_len nNil_len)))) (g_name 6 sc__law_words.nd))
    (s_one (s_if (n_cmpT (opEq G.u64) sndEq (n_var 6) n_int (by rfl)) (s_one (s_expr (n_bm PySem.F.plainAttrs_list PySem.F.slot_list_append PySem.F.type_list_append mt_append sndAppend (n_var 3) (n_cons (n_callB (crMin rfl) sndMin T.b_min (by rfl) (n_cons n_int (n_cons (n_var 2) n_nil))) n_nil)))) (s_one (s_if (n_cmpT (opEq G.u64) sndEq (n_var 6) n_int (by rfl)) (s_one (s_expr (n_bm PySem.F.plainAttrs_list PySem.F.slot_list_append PySem.F.type_list_append mt_append sndAppend (n_var 3) (n_cons (n_bin opSub sndSub n_int (n_call h__law_take G.room G.px rfl (n_cons (n_var 0) (n_cons n_int n_nil)) (hm := (nCons_len (nCons_len nNil_len))))) n_nil)))) (s_one (s_expr (n_bm PySem.F.plainAttrs_list PySem.F.slot_list_append PySem.F.type_list_append mt_append sndAppend (n_var 3) (n_cons (n_call h__law_take G.room G.px rfl (n_cons (n_var 0) (n_cons n_int n_nil)) (hm := (nCons_len (nCons_len nNil_len)))) n_nil))))))))))))
    (s_cons (s_if (n_cmpT (opEq G.u64) sndEq (n_call h__law_take G.room G.px rfl (n_cons (n_var 0) (n_cons n_int n_nil)) (hm := (nCons_len (nCons_len nNil_len)))) n_int (by rfl)) (s_one (s_expr (n_bm PySem.F.plainAttrs_list PySem.F.slot_list_append PySem.F.type_list_append mt_append sndAppend (n_var 3) (n_cons (n_call h__law_take G.room G.px rfl (n_cons (n_var 0) (n_cons n_int n_nil)) (hm := (nCons_len (nCons_len nNil_len)))) n_nil)))) s_nil)
    (s_one (s_ret (n_callTy call_tuple_of sndTuple T.b_tuple (by rfl) (n_cons (n_var 3) n_nil)))))))
theorem ok_input_of (T : Txt K mg C) : FunN P w K mg base C 1 "input_of" 1 OW.m_input_of := n_defA T.d_input_of sc_input_of rfl fun fa cdv A outer s H E G =>
    (s_one (s_ret (n_callTy call_tuple_of sndTuple T.b_tuple (by rfl) (n_cons (n_lc2 (own := [("entry", 1), ("word", 2)]) (vs1 := [2]) rfl sc_input_of.nd (blkOk_by (N := N_input_of) (sc := defScope st_input_of) (own := [("entry", 1), ("word", 2)]) (by decide +kernel)) (by decide) (by decide) (by decide) (n_it (n_var 0)) (fun _ _ _ _ _ => (g_name 1 sc_input_of.nd)) (fun _ _ _ _ _ => n_noif) (fun _ _ _ _ _ => (n_var 1)) (fun _ _ _ _ _ => (g_name 2 sc_input_of.nd)) (fun _ _ _ _ _ => n_noif) (fun _ _ _ _ _ => (n_var 2))) n_nil))))
theorem ok__law_due (T : Txt K mg C) : FunN P w K mg base C 1 "_law_due" 5 OW.m__law_due_2 := n_defA T.d__law_due sc__law_due_2 rfl fun fa cdv A outer s H E G =>
    (s_cons (s_if (PW.pt (n_orT (n_cmpT (opNe G.u64) sndNe (n_var 3) n_int (by rfl)) (n_orT1 (n_cmpT (opEq G.u64) sndEq (n_bin op_mod sndMod (n_callB crLen sndLen T.b_len (by rfl) (n_cons (n_var 4) n_nil)) n_int) n_int (by rfl))))) (s_one (s_ret (n_tup (n_cons (n_lc (own := [("_law_entry", 10)]) rfl sc__law_due_2.nd (blkOk_by (N := N__law_due_2) (sc := defScope st__law_due_2) (own := [("_law_entry", 10)]) (by decide +kernel)) (by decide) (n_it (n_var 2)) (fun _ _ _ _ _ => (g_name 10 sc__law_due_2.nd)) (fun _ _ _ _ _ => n_noif) (fun _ _ _ _ _ => (n_tup (n_cons (n_get G.u1 (n_var 0) (n_get G.u1 (n_var 10) n_int (fun _ _ => rfl)) (fun _ _ => rfl)) (n_cons (n_get G.u1 (n_var 10) n_int (fun _ _ => rfl)) n_nil))))) (n_cons (n_var 1) n_nil))))) s_nil)
    (s_cons (s_asg (n_bin opAdd sndAdd (n_var 1) (n_callB (cr_sum rfl) sndSum T.b_sum (by rfl) (n_cons (n_lc (own := [("_law_entry", 10)]) rfl sc__law_due_2.nd (blkOk_by (N := N__law_due_2) (sc := defScope st__law_due_2) (own := [("_law_entry", 10)]) (by decide +kernel)) (by decide) (n_it (n_var 2)) (fun _ _ _ _ _ => (g_name 10 sc__law_due_2.nd)) (fun _ _ _ _ _ => n_noif) (fun _ _ _ _ _ => (n_get G.u1 (n_var 10) n_int (fun _ _ => rfl)))) n_nil))) (g_name 5 sc__law_due_2.nd))
    (s_cons (s_asg (n_lst n_nil) (g_name 6 sc__law_due_2.nd))
    (s_cons (s_for G.po rfl (n_range1 T.b_range (n_cons (n_bin op_fdivW sndDiv (n_callB crLen sndLen T.b_len (by rfl) (n_cons (n_var 4) n_nil)) n_int) n_nil) (hl := (nCons_len nNil_len))) (g_name 7 sc__law_due_2.nd) (s_cons (s_asg (n_get G.u1 (n_var 4) (n_bin opMul sndMul n_int (n_var 7)) (fun _ _ => rfl)) (g_name 8 sc__law_due_2.nd))
    (s_one (s_if (n_cmpT opLt sndOrd (n_var 8) (n_callB crLen sndLen T.b_len (by rfl) (n_cons (n_var 0) n_nil)) (by rfl)) (s_cons (s_asg (n_get G.u1 (n_var 4) (n_bin opAdd sndAdd (n_bin opMul sndMul n_int (n_var 7)) n_int) (fun _ _ => rfl)) (g_name 9 sc__law_due_2.nd))
    (s_cons (s_if (n_cmpT opGt sndOrd (n_var 9) (n_var 5) (by rfl)) (s_one (s_asg (n_var 5) (g_name 9 sc__law_due_2.nd))) s_nil)
    (s_cons (s_expr (n_bm PySem.F.plainAttrs_list PySem.F.slot_list_append PySem.F.type_list_append mt_append sndAppend (n_var 6) (n_cons (n_tup (n_cons (n_get G.u1 (n_var 0) (n_var 8) (fun _ _ => rfl)) (n_cons (n_var 9) n_nil))) n_nil)))
    (s_one (s_asg (n_bin opSub sndSub (n_var 5) (n_var 9)) (g_name 5 sc__law_due_2.nd)))))) s_nil))))
    (s_one (s_ret (n_tup (n_cons (n_var 6) (n_cons (n_var 5) n_nil)))))))))
theorem ok_payments (T : Txt K mg C) : FunN P w K mg base C 1 "payments" 5 OW.m_payments := n_defA T.d_payments sc_payments rfl fun fa cdv A outer s H E G =>
    (s_cons (s_if (PW.pt (n_orT (n_cmpT (opNe G.u64) sndNe (n_var 3) n_int (by rfl)) (n_orT1 (n_cmpT (opEq G.u64) sndEq (n_bin op_mod sndMod (n_callB crLen sndLen T.b_len (by rfl) (n_cons (n_var 4) n_nil)) n_int) n_int (by rfl))))) (s_one (s_ret (n_tup (n_cons (n_callTy call_tuple_of sndTuple T.b_tuple (by rfl) (n_cons (n_lc (own := [("entry", 9)]) rfl sc_payments.nd (blkOk_by (N := N_payments) (sc := defScope st_payments) (own := [("entry", 9)]) (by decide +kernel)) (by decide) (n_it (n_var 2)) (fun _ _ _ _ _ => (g_name 9 sc_payments.nd)) (fun _ _ _ _ _ => n_noif) (fun _ _ _ _ _ => (n_tup (n_cons (n_get G.u1 (n_var 0) (n_get G.u1 (n_var 9) n_int (fun _ _ => rfl)) (fun _ _ => rfl)) (n_cons (n_get G.u1 (n_var 9) n_int (fun _ _ => rfl)) n_nil))))) n_nil)) (n_cons (n_var 1) n_nil))))) s_nil)
    (s_cons (s_asg (n_bin opAdd sndAdd (n_var 1) (n_callB (cr_sum rfl) sndSum T.b_sum (by rfl) (n_cons (n_lc (own := [("entry", 9)]) rfl sc_payments.nd (blkOk_by (N := N_payments) (sc := defScope st_payments) (own := [("entry", 9)]) (by decide +kernel)) (by decide) (n_it (n_var 2)) (fun _ _ _ _ _ => (g_name 9 sc_payments.nd)) (fun _ _ _ _ _ => n_noif) (fun _ _ _ _ _ => (n_get G.u1 (n_var 9) n_int (fun _ _ => rfl)))) n_nil))) (g_name 5 sc_payments.nd))
    (s_cons (s_asg (n_lst n_nil) (g_name 6 sc_payments.nd))
    (s_cons (s_for G.po rfl (n_range3 T.b_range (n_cons n_int (n_cons (n_callB crLen sndLen T.b_len (by rfl) (n_cons (n_var 4) n_nil)) (n_cons n_int n_nil)))) (g_name 7 sc_payments.nd) (s_one (s_if (n_cmpT opLt sndOrd (n_get G.u1 (n_var 4) (n_var 7) (fun _ _ => rfl)) (n_callB crLen sndLen T.b_len (by rfl) (n_cons (n_var 0) n_nil)) (by rfl)) (s_cons (s_asg (n_callB (crMin rfl) sndMin T.b_min (by rfl) (n_cons (n_get G.u1 (n_var 4) (n_bin opAdd sndAdd (n_var 7) n_int) (fun _ _ => rfl)) (n_cons (n_var 5) n_nil))) (g_name 8 sc_payments.nd))
    (s_cons (s_expr (n_bm PySem.F.plainAttrs_list PySem.F.slot_list_append PySem.F.type_list_append mt_append sndAppend (n_var 6) (n_cons (n_tup (n_cons (n_get G.u1 (n_var 0) (n_get G.u1 (n_var 4) (n_var 7) (fun _ _ => rfl)) (fun _ _ => rfl)) (n_cons (n_var 8) n_nil))) n_nil)))
    (s_one (s_asg (n_bin opSub sndSub (n_var 5) (n_var 8)) (g_name 5 sc_payments.nd))))) s_nil)))
    (s_one (s_ret (n_tup (n_cons (n_callTy call_tuple_of sndTuple T.b_tuple (by rfl) (n_cons (n_var 6) n_nil)) (n_cons (n_var 5) n_nil)))))))))
theorem ok_law (T : Txt K mg C) (h__law_draws : FunN P w K mg base C 3 "_law_draws" 2 OW.m__law_draws) (h__law_pool : FunN P w K mg base C 3 "_law_pool" 3 OW.m__law_pool) (h__law_take : FunN P w K mg base C 1 "_law_take" 2 OW.m__law_take) (h__law_words : FunN P w K mg base C 2 "_law_words" 3 OW.m__law_words) (h_input_of : FunN P w K mg base C 1 "input_of" 1 OW.m_input_of) (h__law_due : FunN P w K mg base C 1 "_law_due" 5 OW.m__law_due_2) (h_payments : FunN P w K mg base C 1 "payments" 5 OW.m_payments) {f : Addr} {fd : FuncData} (F : L2.Fun K "law" "law" st_law f fd) : FnOk P w K mg base (L2.CX P w) 4 f fd P_law (spN K C 1 m_law) := n_fun F sc_law rfl fun cdv A outer s H E G =>
    (s_cons (s_asg (n_call h__law_draws G.room G.px rfl (n_cons (n_var 0) (n_cons n_int n_nil)) (hm := (nCons_len (nCons_len nNil_len)))) (g_name 1 sc_law.nd))
    (s_cons (s_asg (n_callTy call_tuple_of sndTuple T.b_tuple (by rfl) (n_cons (n_call h__law_pool G.room G.px rfl (n_cons (n_var 1) (n_cons n_bl (n_cons (n_bin opAdd sndAdd n_int (n_call h__law_take G.room G.px rfl (n_cons (n_var 1) (n_cons n_int n_nil)) (hm := (nCons_len (nCons_len nNil_len))))) n_nil))) (hm := (nCons_len (nCons_len (nCons_len nNil_len))))) n_nil)) (g_name 2 sc_law.nd))
    (s_cons (s_asg (n_bin opMul sndMul (n_call h__law_take G.room G.px rfl (n_cons (n_var 1) (n_cons n_int n_nil)) (hm := (nCons_len (nCons_len nNil_len)))) (n_call h__law_take G.room G.px rfl (n_cons (n_var 1) (n_cons n_int n_nil)) (hm := (nCons_len (nCons_len nNil_len))))) (g_name 3 sc_law.nd))
    (s_cons (s_asg (n_lst n_nil) (g_name 4 sc_law.nd))
    (s_cons (s_for G.po rfl (n_range1 T.b_range (n_cons (n_call h__law_take G.room G.px rfl (n_cons (n_var 1) (n_cons n_int n_nil)) (hm := (nCons_len (nCons_len nNil_len)))) n_nil) (hl := (nCons_len nNil_len))) (g_name 5 sc_law.nd) (s_cons (s_asg (n_get G.u1 (n_lst (n_cons (n_bin opAdd sndAdd n_int (n_call h__law_take G.room G.px rfl (n_cons (n_var 1) (n_cons n_int n_nil)) (hm := (nCons_len (nCons_len nNil_len))))) (n_cons n_int n_nil))) (n_bin op_fdivW sndDiv (n_call h__law_take G.room G.px rfl (n_cons (n_var 1) (n_cons n_int n_nil)) (hm := (nCons_len (nCons_len nNil_len)))) n_int) (fun _ _ => rfl)) (g_name 13 sc_law.nd))
    (s_one (s_expr (n_bm PySem.F.plainAttrs_list PySem.F.slot_list_append PySem.F.type_list_append mt_append sndAppend (n_var 4) (n_cons (n_tup (n_cons (n_call h__law_take G.room G.px rfl (n_cons (n_var 1) (n_cons (n_callB crLen sndLen T.b_len (by rfl) (n_cons (n_var 2) n_nil)) n_nil)) (hm := (nCons_len (nCons_len nNil_len)))) (n_cons (n_var 13) (n_cons (n_call h__law_take G.room G.px rfl (n_cons (n_var 1) (n_cons n_int n_nil)) (hm := (nCons_len (nCons_len nNil_len)))) n_nil)))) n_nil))))))
    (s_cons (s_asg (n_get G.u1 (n_lst (n_cons n_int (n_cons n_int (n_cons n_int (n_cons n_int (n_cons n_int n_nil)))))) (n_call h__law_take G.room G.px rfl (n_cons (n_var 1) (n_cons n_int n_nil)) (hm := (nCons_len (nCons_len nNil_len)))) (fun _ _ => rfl)) (g_name 6 sc_law.nd))
    (s_cons (s_asg (n_call h__law_words G.room G.px rfl (n_cons (n_var 1) (n_cons (n_callB crLen sndLen T.b_len (by rfl) (n_cons (n_var 2) n_nil)) (n_cons (n_bin opAdd sndAdd (n_var 3) (n_callB (cr_sum rfl) sndSum T.b_sum (by rfl) (n_cons (n_lc (own := [("_law_entry", 9)]) rfl sc_law.nd (blkOk_by (N := N_law) (sc := defScope st_law) (own := [("_law_entry", 9)]) (by decide +kernel)) (by decide) (n_it (n_var 4)) (fun _ _ _ _ _ => (g_name 9 sc_law.nd)) (fun _ _ _ _ _ => n_noif) (fun _ _ _ _ _ => (n_get G.u1 (n_var 9) n_int (fun _ _ => rfl)))) n_nil))) n_nil))) (hm := (nCons_len (nCons_len (nCons_len nNil_len))))) (g_name 7 sc_law.nd))
    (s_cons (s_asg (n_callTy call_tuple_of sndTuple T.b_tuple (by rfl) (n_cons (n_var 4) n_nil)) (g_name 4 sc_law.nd))
    (s_cons (s_asg (n_lst n_nil) (g_name 8 sc_law.nd))
    (s_cons (s_for G.po rfl (n_it (n_var 4)) (g_name 9 sc_law.nd) (s_one (s_asg (n_bin opAdd sndAdd (n_var 8) (n_lst (n_cons (n_get G.u1 (n_var 9) n_int (fun _ _ => rfl)) (n_cons (n_get G.u1 (n_var 9) n_int (fun _ _ => rfl)) (n_cons (n_get G.u1 (n_var 9) n_int (fun _ _ => rfl)) n_nil))))) (g_name 8 sc_law.nd))))
    (s_cons (s_if (n_cmpT (opNe G.u64) sndNe (n_call h_input_of G.room G.px rfl (n_cons (n_var 4) n_nil) (hm := (nCons_len nNil_len))) (n_callTy call_tuple_of sndTuple T.b_tuple (by rfl) (n_cons (n_var 8) n_nil)) (by rfl)) (s_one (s_ret n_bl)) s_nil)
    (s_cons (s_asg (n_call h__law_due G.room G.px rfl (n_cons (n_var 2) (n_cons (n_var 3) (n_cons (n_var 4) (n_cons (n_var 6) (n_cons (n_var 7) n_nil))))) (hm := (nCons_len (nCons_len (nCons_len (nCons_len (nCons_len nNil_len))))))) (g_tup rfl (g_cons 10 sc_law.nd (g_cons 11 sc_law.nd g_nil))))
    (s_cons (s_asg (n_call h_payments G.room G.px rfl (n_cons (n_var 2) (n_cons (n_var 3) (n_cons (n_var 4) (n_cons (n_var 6) (n_cons (n_var 7) n_nil))))) (hm := (nCons_len (nCons_len (nCons_len (nCons_len (nCons_len nNil_len))))))) (g_name 12 sc_law.nd))
    (s_cons (s_if (n_cmpT (opNe G.u64) sndNe (n_var 12) (n_tup (n_cons (n_callTy call_tuple_of sndTuple T.b_tuple (by rfl) (n_cons (n_var 10) n_nil)) (n_cons (n_var 11) n_nil))) (by rfl)) (s_one (s_ret n_bl)) s_nil)
    (s_one (s_ret (n_cmp (opEq G.u64) sndEq (n_bin opAdd sndAdd (n_callB (cr_sum rfl) sndSum T.b_sum (by rfl) (n_cons (n_lc (own := [("_law_name_here", 14), ("_law_amount", 13)]) rfl sc_law.nd (blkOk_by (N := N_law) (sc := defScope st_law) (own := [("_law_name_here", 14), ("_law_amount", 13)]) (by decide +kernel)) (by decide) (n_it (n_get G.u1 (n_var 12) n_int (fun _ _ => rfl))) (fun _ _ _ _ _ => (g_tup rfl (g_cons 14 sc_law.nd (g_cons 13 sc_law.nd g_nil)))) (fun _ _ _ _ _ => n_noif) (fun _ _ _ _ _ => (n_var 13))) n_nil)) (n_get G.u1 (n_var 12) n_int (fun _ _ => rfl))) (n_bin opAdd sndAdd (n_var 3) (n_callB (cr_sum rfl) sndSum T.b_sum (by rfl) (n_cons (n_lc (own := [("_law_entry", 9)]) rfl sc_law.nd (blkOk_by (N := N_law) (sc := defScope st_law) (own := [("_law_entry", 9)]) (by decide +kernel)) (by decide) (n_it (n_var 4)) (fun _ _ _ _ _ => (g_name 9 sc_law.nd)) (fun _ _ _ _ _ => n_noif) (fun _ _ _ _ _ => (n_get G.u1 (n_var 9) n_int (fun _ _ => rfl)))) n_nil))) (by rfl))))))))))))))))))
theorem ok_all (T : Txt K mg C) {f : Addr} {fd : FuncData} (F : L2.Fun K "law" "law" st_law f fd) : FnOk P w K mg base (L2.CX P w) 4 f fd P_law (spN K C 1 m_law) := by
  have h__law_mix := ok__law_mix (P := P) (w := w) (base := base) T
  have h__law_numbers := ok__law_numbers (P := P) (w := w) (base := base) T h__law_mix
  have h__law_draws := ok__law_draws (P := P) (w := w) (base := base) T h__law_numbers
  have h__law_take := ok__law_take (P := P) (w := w) (base := base) T
  have h__law_name := ok__law_name (P := P) (w := w) (base := base) T h__law_take
  have h__law_pool := ok__law_pool (P := P) (w := w) (base := base) T h__law_name
  have h__law_words := ok__law_words (P := P) (w := w) (base := base) T h__law_take
  have h_input_of := ok_input_of (P := P) (w := w) (base := base) T
  have h__law_due := ok__law_due (P := P) (w := w) (base := base) T
  have h_payments := ok_payments (P := P) (w := w) (base := base) T
  exact ok_law (P := P) (w := w) (base := base) T h__law_draws h__law_pool h__law_take h__law_words h_input_of h__law_due h_payments F
end
end K60

set_option Elab.async false
set_option linter.all false
set_option maxRecDepth 100000
set_option maxHeartbeats 4000000
namespace K60
open OW NY PySem PySem.Spec PyProof.Rows L2
theorem all_mk {l : PySem.W.OpenLaw} {q : Program} {loose : List Str} {mean : ExcName → Option Value} {w : World} {K : PySem.W.Frag} {h : Heap} {mg mb : Str → Option Value} {fa : Addr} (X : K.In h) (TP : Top q (PySem.W.looseW q loose) mean mg mb h) (G : h.Ns mainGlobals mg) (hfa : mg "law" = some (.ref fa))
    {f__law_mix : Addr} {od__law_mix an__law_mix : Option Addr} {sl__law_mix : Array (Option Value)} {oc__law_mix kV__law_mix dc__law_mix pm__law_mix cd__law_mix ct__law_mix : Value}
    {f__law_numbers : Addr} {od__law_numbers an__law_numbers : Option Addr} {sl__law_numbers : Array (Option Value)} {oc__law_numbers kV__law_numbers dc__law_numbers pm__law_numbers cd__law_numbers ct__law_numbers : Value}
    {f__law_draws : Addr} {od__law_draws an__law_draws : Option Addr} {sl__law_draws : Array (Option Value)} {oc__law_draws kV__law_draws dc__law_draws pm__law_draws cd__law_draws ct__law_draws : Value}
    {f__law_take : Addr} {od__law_take an__law_take : Option Addr} {sl__law_take : Array (Option Value)} {oc__law_take kV__law_take dc__law_take pm__law_take cd__law_take ct__law_take : Value}
    {f__law_name : Addr} {od__law_name an__law_name : Option Addr} {sl__law_name : Array (Option Value)} {oc__law_name kV__law_name dc__law_name pm__law_name cd__law_name ct__law_name : Value}
    {f__law_pool : Addr} {od__law_pool an__law_pool : Option Addr} {sl__law_pool : Array (Option Value)} {oc__law_pool kV__law_pool dc__law_pool pm__law_pool cd__law_pool ct__law_pool : Value}
    {f__law_words : Addr} {od__law_words an__law_words : Option Addr} {sl__law_words : Array (Option Value)} {oc__law_words kV__law_words dc__law_words pm__law_words cd__law_words ct__law_words : Value}
    {f_input_of : Addr} {od_input_of an_input_of : Option Addr} {sl_input_of : Array (Option Value)} {oc_input_of kV_input_of dc_input_of pm_input_of cd_input_of ct_input_of : Value}
    {f__law_due_2 : Addr} {od__law_due_2 an__law_due_2 : Option Addr} {sl__law_due_2 : Array (Option Value)} {oc__law_due_2 kV__law_due_2 dc__law_due_2 pm__law_due_2 cd__law_due_2 ct__law_due_2 : Value}
    {f_payments : Addr} {od_payments an_payments : Option Addr} {sl_payments : Array (Option Value)} {oc_payments kV_payments dc_payments pm_payments cd_payments ct_payments : Value}
    {f_law : Addr} {od_law an_law : Option Addr} {sl_law : Array (Option Value)} {oc_law kV_law dc_law pm_law cd_law ct_law : Value}
    (a__law_mix : PySem.W.nsIn K mainGlobals "_law_mix" = some (some (.ref f__law_mix)))
    (l__law_mix : K.lookup f__law_mix = some ⟨oc__law_mix, od__law_mix, .func (PySem.W.fnOf "_law_mix" "_law_mix" (defArgs st__law_mix) (defBody st__law_mix) (defScope st__law_mix) .none kV__law_mix dc__law_mix pm__law_mix an__law_mix cd__law_mix ct__law_mix), sl__law_mix⟩)
    (c__law_mix : PySem.W.codeIn K cd__law_mix "_law_mix" = true)
    (k__law_mix : PySem.W.keepIn K (.ref f__law_mix) = true)
    (a__law_numbers : PySem.W.nsIn K mainGlobals "_law_numbers" = some (some (.ref f__law_numbers)))
    (l__law_numbers : K.lookup f__law_numbers = some ⟨oc__law_numbers, od__law_numbers, .func (PySem.W.fnOf "_law_numbers" "_law_numbers" (defArgs st__law_numbers) (defBody st__law_numbers) (defScope st__law_numbers) .none kV__law_numbers dc__law_numbers pm__law_numbers an__law_numbers cd__law_numbers ct__law_numbers), sl__law_numbers⟩)
    (c__law_numbers : PySem.W.codeIn K cd__law_numbers "_law_numbers" = true)
    (k__law_numbers : PySem.W.keepIn K (.ref f__law_numbers) = true)
    (a__law_draws : PySem.W.nsIn K mainGlobals "_law_draws" = some (some (.ref f__law_draws)))
    (l__law_draws : K.lookup f__law_draws = some ⟨oc__law_draws, od__law_draws, .func (PySem.W.fnOf "_law_draws" "_law_draws" (defArgs st__law_draws) (defBody st__law_draws) (defScope st__law_draws) .none kV__law_draws dc__law_draws pm__law_draws an__law_draws cd__law_draws ct__law_draws), sl__law_draws⟩)
    (c__law_draws : PySem.W.codeIn K cd__law_draws "_law_draws" = true)
    (k__law_draws : PySem.W.keepIn K (.ref f__law_draws) = true)
    (a__law_take : PySem.W.nsIn K mainGlobals "_law_take" = some (some (.ref f__law_take)))
    (l__law_take : K.lookup f__law_take = some ⟨oc__law_take, od__law_take, .func (PySem.W.fnOf "_law_take" "_law_take" (defArgs st__law_take) (defBody st__law_take) (defScope st__law_take) .none kV__law_take dc__law_take pm__law_take an__law_take cd__law_take ct__law_take), sl__law_take⟩)
    (c__law_take : PySem.W.codeIn K cd__law_take "_law_take" = true)
    (k__law_take : PySem.W.keepIn K (.ref f__law_take) = true)
    (a__law_name : PySem.W.nsIn K mainGlobals "_law_name" = some (some (.ref f__law_name)))
    (l__law_name : K.lookup f__law_name = some ⟨oc__law_name, od__law_name, .func (PySem.W.fnOf "_law_name" "_law_name" (defArgs st__law_name) (defBody st__law_name) (defScope st__law_name) .none kV__law_name dc__law_name pm__law_name an__law_name cd__law_name ct__law_name), sl__law_name⟩)
    (c__law_name : PySem.W.codeIn K cd__law_name "_law_name" = true)
    (k__law_name : PySem.W.keepIn K (.ref f__law_name) = true)
    (a__law_pool : PySem.W.nsIn K mainGlobals "_law_pool" = some (some (.ref f__law_pool)))
    (l__law_pool : K.lookup f__law_pool = some ⟨oc__law_pool, od__law_pool, .func (PySem.W.fnOf "_law_pool" "_law_pool" (defArgs st__law_pool) (defBody st__law_pool) (defScope st__law_pool) .none kV__law_pool dc__law_pool pm__law_pool an__law_pool cd__law_pool ct__law_pool), sl__law_pool⟩)
    (c__law_pool : PySem.W.codeIn K cd__law_pool "_law_pool" = true)
    (k__law_pool : PySem.W.keepIn K (.ref f__law_pool) = true)
    (a__law_words : PySem.W.nsIn K mainGlobals "_law_words" = some (some (.ref f__law_words)))
    (l__law_words : K.lookup f__law_words = some ⟨oc__law_words, od__law_words, .func (PySem.W.fnOf "_law_words" "_law_words" (defArgs st__law_words) (defBody st__law_words) (defScope st__law_words) .none kV__law_words dc__law_words pm__law_words an__law_words cd__law_words ct__law_words), sl__law_words⟩)
    (c__law_words : PySem.W.codeIn K cd__law_words "_law_words" = true)
    (k__law_words : PySem.W.keepIn K (.ref f__law_words) = true)
    (a_input_of : PySem.W.nsIn K mainGlobals "input_of" = some (some (.ref f_input_of)))
    (l_input_of : K.lookup f_input_of = some ⟨oc_input_of, od_input_of, .func (PySem.W.fnOf "input_of" "input_of" (defArgs st_input_of) (defBody st_input_of) (defScope st_input_of) .none kV_input_of dc_input_of pm_input_of an_input_of cd_input_of ct_input_of), sl_input_of⟩)
    (c_input_of : PySem.W.codeIn K cd_input_of "input_of" = true)
    (k_input_of : PySem.W.keepIn K (.ref f_input_of) = true)
    (a__law_due : PySem.W.nsIn K mainGlobals "_law_due" = some (some (.ref f__law_due_2)))
    (l__law_due_2 : K.lookup f__law_due_2 = some ⟨oc__law_due_2, od__law_due_2, .func (PySem.W.fnOf "_law_due" "_law_due" (defArgs st__law_due_2) (defBody st__law_due_2) (defScope st__law_due_2) .none kV__law_due_2 dc__law_due_2 pm__law_due_2 an__law_due_2 cd__law_due_2 ct__law_due_2), sl__law_due_2⟩)
    (c__law_due_2 : PySem.W.codeIn K cd__law_due_2 "_law_due" = true)
    (k__law_due_2 : PySem.W.keepIn K (.ref f__law_due_2) = true)
    (a_payments : PySem.W.nsIn K mainGlobals "payments" = some (some (.ref f_payments)))
    (l_payments : K.lookup f_payments = some ⟨oc_payments, od_payments, .func (PySem.W.fnOf "payments" "payments" (defArgs st_payments) (defBody st_payments) (defScope st_payments) .none kV_payments dc_payments pm_payments an_payments cd_payments ct_payments), sl_payments⟩)
    (c_payments : PySem.W.codeIn K cd_payments "payments" = true)
    (k_payments : PySem.W.keepIn K (.ref f_payments) = true)
    (a_law : PySem.W.nsIn K mainGlobals "law" = some (some (.ref f_law)))
    (l_law : K.lookup f_law = some ⟨oc_law, od_law, .func (PySem.W.fnOf "law" "law" (defArgs st_law) (defBody st_law) (defScope st_law) .none kV_law dc_law pm_law an_law cd_law ct_law), sl_law⟩)
    (c_law : PySem.W.codeIn K cd_law "law" = true)
    (k_law : PySem.W.keepIn K (.ref f_law) = true)
    (z_abs : PySem.W.nsIn K mainGlobals "abs" = some none)
    (z_int : PySem.W.nsIn K mainGlobals "int" = some none)
    (z_len : PySem.W.nsIn K mainGlobals "len" = some none)
    (z_min : PySem.W.nsIn K mainGlobals "min" = some none)
    (z_range : PySem.W.nsIn K mainGlobals "range" = some none)
    (z_str : PySem.W.nsIn K mainGlobals "str" = some none)
    (z_sum : PySem.W.nsIn K mainGlobals "sum" = some none)
    (z_tuple : PySem.W.nsIn K mainGlobals "tuple" = some none)
    : ∃ (C : NC) (cs : List (Addr × Addr)) (fd : FuncData), C.names.Nodup ∧ C.tabs = cs.map (fun p => p.2) ∧ (∀ p ∈ cs, h.get? p.2 = some { cls := Value.none, data := Data.fields #[] }) ∧ (∀ p ∈ cs, K.lookup p.2 = none) ∧ (∀ p ∈ cs, PySem.W.CodeHd h p.1 p.2) ∧
      (∀ (s : Shared) (u : Value), BindsTo s fd { pos := [u] } [("_law_script", u)]) ∧ ∀ (base : Heap), K.In base → base.Ns mainGlobals mg → (∀ p ∈ cs, LamX.TabB base mg p.1 p.2) → FnOk l.prog w K mg base (L2.CX l.prog w) 4 fa fd ["_law_script"] (spN K C 1 m_law) := by
  have e := hfa.symm.trans (PySem.W.mg_of X G a_law)
  cases e
  let C : NC := ⟨fun i => ([0, 0, 0, 0, 0, 0, 0, 0, 0, 0, 0, 0, 0, 0, 0] : List Addr).getD i 0, OW.allNames, []⟩
  have T : Txt K mg C := ⟨(by decide +kernel : OW.allNames.Nodup),
    PySem.W.mg_none_of X G z_abs,
    PySem.W.mg_none_of X G z_int,
    PySem.W.mg_none_of X G z_len,
    PySem.W.mg_none_of X G z_min,
    PySem.W.mg_none_of X G z_range,
    PySem.W.mg_none_of X G z_str,
    PySem.W.mg_none_of X G z_sum,
    PySem.W.mg_none_of X G z_tuple,
    ⟨_, _, PySem.W.mg_of X G a__law_mix, (fun_mk (st := st__law_mix) l__law_mix c__law_mix k__law_mix), ((fun_mk (st := st__law_mix) l__law_mix c__law_mix k__law_mix).binds (ps := P__law_mix) fun _ _ _ _ _ _ us hl => match us, hl with | [_, _], _ => rfl)⟩,
    ⟨_, _, PySem.W.mg_of X G a__law_numbers, (fun_mk (st := st__law_numbers) l__law_numbers c__law_numbers k__law_numbers), ((fun_mk (st := st__law_numbers) l__law_numbers c__law_numbers k__law_numbers).binds (ps := P__law_numbers) fun _ _ _ _ _ _ us hl => match us, hl with | [_, _], _ => rfl)⟩,
    ⟨_, _, PySem.W.mg_of X G a__law_take, (fun_mk (st := st__law_take) l__law_take c__law_take k__law_take), ((fun_mk (st := st__law_take) l__law_take c__law_take k__law_take).binds (ps := P__law_take) fun _ _ _ _ _ _ us hl => match us, hl with | [_, _], _ => rfl)⟩,
    ⟨_, _, PySem.W.mg_of X G a__law_name, (fun_mk (st := st__law_name) l__law_name c__law_name k__law_name), ((fun_mk (st := st__law_name) l__law_name c__law_name k__law_name).binds (ps := P__law_name) fun _ _ _ _ _ _ us hl => match us, hl with | [_, _], _ => rfl)⟩,
    ⟨_, _, PySem.W.mg_of X G a__law_draws, (fun_mk (st := st__law_draws) l__law_draws c__law_draws k__law_draws), ((fun_mk (st := st__law_draws) l__law_draws c__law_draws k__law_draws).binds (ps := P__law_draws) fun _ _ _ _ _ _ us hl => match us, hl with | [_, _], _ => rfl)⟩,
    ⟨_, _, PySem.W.mg_of X G a__law_pool, (fun_mk (st := st__law_pool) l__law_pool c__law_pool k__law_pool), ((fun_mk (st := st__law_pool) l__law_pool c__law_pool k__law_pool).binds (ps := P__law_pool) fun _ _ _ _ _ _ us hl => match us, hl with | [_, _, _], _ => rfl)⟩,
    ⟨_, _, PySem.W.mg_of X G a__law_words, (fun_mk (st := st__law_words) l__law_words c__law_words k__law_words), ((fun_mk (st := st__law_words) l__law_words c__law_words k__law_words).binds (ps := P__law_words) fun _ _ _ _ _ _ us hl => match us, hl with | [_, _, _], _ => rfl)⟩,
    ⟨_, _, PySem.W.mg_of X G a_input_of, (fun_mk (st := st_input_of) l_input_of c_input_of k_input_of), ((fun_mk (st := st_input_of) l_input_of c_input_of k_input_of).binds (ps := P_input_of) fun _ _ _ _ _ _ us hl => match us, hl with | [_], _ => rfl)⟩,
    ⟨_, _, PySem.W.mg_of X G a__law_due, (fun_mk (st := st__law_due_2) l__law_due_2 c__law_due_2 k__law_due_2), ((fun_mk (st := st__law_due_2) l__law_due_2 c__law_due_2 k__law_due_2).binds (ps := P__law_due_2) fun _ _ _ _ _ _ us hl => match us, hl with | [_, _, _, _, _], _ => rfl)⟩,
    ⟨_, _, PySem.W.mg_of X G a_payments, (fun_mk (st := st_payments) l_payments c_payments k_payments), ((fun_mk (st := st_payments) l_payments c_payments k_payments).binds (ps := P_payments) fun _ _ _ _ _ _ us hl => match us, hl with | [_, _, _, _, _], _ => rfl)⟩,
    ⟨_, _, PySem.W.mg_of X G a_law, (fun_mk (st := st_law) l_law c_law k_law), ((fun_mk (st := st_law) l_law c_law k_law).binds (ps := P_law) fun _ _ _ _ _ _ us hl => match us, hl with | [_], _ => rfl)⟩⟩
  refine ⟨C, [], PySem.W.fnOf "law" "law" (defArgs st_law) (defBody st_law) (defScope st_law) .none kV_law dc_law pm_law an_law cd_law ct_law, T.nd, rfl, (fun _ z => (nomatch z)), (fun _ z => (nomatch z)), (fun _ z => (nomatch z)), fun s v => .of_eq rfl, fun base _ _ TB => ?_⟩
  exact ok_all T (fun_mk (st := st_law) l_law c_law k_law)
end K60

set_option Elab.async false
set_option linter.all false
set_option maxRecDepth 100000
set_option maxHeartbeats 4000000
open K60 OW NY PySem PySem.Spec PyProof.Rows L2
open PySem PySem.W PyProof.Rows in
set_option maxRecDepth 100000 in
set_option maxHeartbeats 0 in
theorem PySem.Challenge.cw_onewatcher_k60_payments_holds : PySem.Challenge.rw_onewatcher_k60_payments.Holds := by
  refine HDX.hd ?_
  k_fill
  refine NY.n_walkT (l := PySem.Challenge.rw_onewatcher_k60_payments) (x := "_law_script") 4 m_law rfl rfl ⟨rfl, by decide, by decide⟩ (fun w h Y => PySem.W.kIn_of Y) ?nyF ?nyM
  case nyM => exact fun ns hn _ N d h => wp_law (K60.law_ok h hn)
  case nyF =>
    intro w mg mb fa h mean Y KX TP G hmg
    refine' all_mk KX TP G hmg ?a__law_mix ?l__law_mix ?c__law_mix ?k__law_mix ?a__law_numbers ?l__law_numbers ?c__law_numbers ?k__law_numbers ?a__law_draws ?l__law_draws ?c__law_draws ?k__law_draws ?a__law_take ?l__law_take ?c__law_take ?k__law_take ?a__law_name ?l__law_name ?c__law_name ?k__law_name ?a__law_pool ?l__law_pool ?c__law_pool ?k__law_pool ?a__law_words ?l__law_words ?c__law_words ?k__law_words ?a_input_of ?l_input_of ?c_input_of ?k_input_of ?a__law_due ?l__law_due_2 ?c__law_due_2 ?k__law_due_2 ?a_payments ?l_payments ?c_payments ?k_payments ?a_law ?l_law ?c_law ?k_law ?z_abs ?z_int ?z_len ?z_min ?z_range ?z_str ?z_sum ?z_tuple
    (case a__law_mix => k_is)
    (case l__law_mix => k_is)
    (case c__law_mix => k_is)
    (case k__law_mix => k_is)
    (case a__law_numbers => k_is)
    (case l__law_numbers => k_is)
    (case c__law_numbers => k_is)
    (case k__law_numbers => k_is)
    (case a__law_draws => k_is)
    (case l__law_draws => k_is)
    (case c__law_draws => k_is)
    (case k__law_draws => k_is)
    (case a__law_take => k_is)
    (case l__law_take => k_is)
    (case c__law_take => k_is)
    (case k__law_take => k_is)
    (case a__law_name => k_is)
    (case l__law_name => k_is)
    (case c__law_name => k_is)
    (case k__law_name => k_is)
    (case a__law_pool => k_is)
    (case l__law_pool => k_is)
    (case c__law_pool => k_is)
    (case k__law_pool => k_is)
    (case a__law_words => k_is)
    (case l__law_words => k_is)
    (case c__law_words => k_is)
    (case k__law_words => k_is)
    (case a_input_of => k_is)
    (case l_input_of => k_is)
    (case c_input_of => k_is)
    (case k_input_of => k_is)
    (case a__law_due => k_is)
    (case l__law_due_2 => k_is)
    (case c__law_due_2 => k_is)
    (case k__law_due_2 => k_is)
    (case a_payments => k_is)
    (case l_payments => k_is)
    (case c_payments => k_is)
    (case k_payments => k_is)
    (case a_law => k_is)
    (case l_law => k_is)
    (case c_law => k_is)
    (case k_law => k_is)
    (case z_abs => k_is)
    (case z_int => k_is)
    (case z_len => k_is)
    (case z_min => k_is)
    (case z_range => k_is)
    (case z_str => k_is)
    (case z_sum => k_is)
    (case z_tuple => k_is)

