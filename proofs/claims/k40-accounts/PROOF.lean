import PyProof.Rows.All
import Wide.All
import OpenK.AllK
import Wide.FinOn
import HandS.ForExc
import HandS.ForMost
import HandS.AnyAll
import HandS.IsInst
import HandS.Wide
import HandS.Deep
import HandS.TupAny
import HandS.TupMul
import HandS.CallSlots
import HandS.TryOnly
import HandS.More
import HandS.Style
import HandS.StrMore
import KE.KxIndex
import HandS.Conv
import HandS.SortInts
import HandS.SetKeys
import HandS.TupLen
import HandS.Small
import HandS.Zip
import HandS.Iter
import HandS.ExcOwn
import HandS.ExcSuper
import HandS.RaiseMore
import HandS.EndTab
import PySem.Challenge.RW_onewatcher_k40_accounts
set_option Elab.async false
set_option linter.all false
set_option maxRecDepth 100000
set_option maxHeartbeats 4000000
/-! NY1: nice values, nice heaps, results, and how they stand to the abstract heap of HandS -/
namespace NY
open PySem PySem.Spec PyProof.Rows L2

/-- a nice value: tuples are plain data; `ctup` is a tuple of the module's top, `lsc` a list that is read alone (the script) -/
inductive D where
  | non | bl (b : Bool) | int (i : Int) | str (s : Str) | tup (l : List D) | ctup (l : List D) | lsc (l : List D) | ref (n : Nat)
  deriving Inhabited
mutual
def D.dec : (a b : D) → Decidable (a = b)
  | .non, .non => .isTrue rfl
  | .bl x, .bl y => if h : x = y then .isTrue (by rw [h]) else .isFalse fun e => h (D.bl.inj e)
  | .int x, .int y => if h : x = y then .isTrue (by rw [h]) else .isFalse fun e => h (D.int.inj e)
  | .str x, .str y => if h : x = y then .isTrue (by rw [h]) else .isFalse fun e => h (D.str.inj e)
  | .ref x, .ref y => if h : x = y then .isTrue (by rw [h]) else .isFalse fun e => h (D.ref.inj e)
  | .tup x, .tup y => match D.decs x y with
    | .isTrue h => .isTrue (by rw [h])
    | .isFalse h => .isFalse fun e => h (D.tup.inj e)
  | .ctup x, .ctup y => match D.decs x y with
    | .isTrue h => .isTrue (by rw [h])
    | .isFalse h => .isFalse fun e => h (D.ctup.inj e)
  | .lsc x, .lsc y => match D.decs x y with
    | .isTrue h => .isTrue (by rw [h])
    | .isFalse h => .isFalse fun e => h (D.lsc.inj e)
  | .non, .bl _ | .non, .int _ | .non, .str _ | .non, .tup _ | .non, .ctup _ | .non, .lsc _ | .non, .ref _
  | .bl _, .non | .bl _, .int _ | .bl _, .str _ | .bl _, .tup _ | .bl _, .ctup _ | .bl _, .lsc _ | .bl _, .ref _
  | .int _, .non | .int _, .bl _ | .int _, .str _ | .int _, .tup _ | .int _, .ctup _ | .int _, .lsc _ | .int _, .ref _
  | .str _, .non | .str _, .bl _ | .str _, .int _ | .str _, .tup _ | .str _, .ctup _ | .str _, .lsc _ | .str _, .ref _
  | .tup _, .non | .tup _, .bl _ | .tup _, .int _ | .tup _, .str _ | .tup _, .ctup _ | .tup _, .lsc _ | .tup _, .ref _
  | .ctup _, .non | .ctup _, .bl _ | .ctup _, .int _ | .ctup _, .str _ | .ctup _, .tup _ | .ctup _, .lsc _ | .ctup _, .ref _
  | .lsc _, .non | .lsc _, .bl _ | .lsc _, .int _ | .lsc _, .str _ | .lsc _, .tup _ | .lsc _, .ctup _ | .lsc _, .ref _
  | .ref _, .non | .ref _, .bl _ | .ref _, .int _ | .ref _, .str _ | .ref _, .tup _ | .ref _, .ctup _ | .ref _, .lsc _ => .isFalse nofun
def D.decs : (a b : List D) → Decidable (a = b)
  | [], [] => .isTrue rfl
  | [], _ :: _ => .isFalse nofun
  | _ :: _, [] => .isFalse nofun
  | x :: xs, y :: ys => match D.dec x y, D.decs xs ys with
    | .isTrue h, .isTrue h1 => .isTrue (by rw [h, h1])
    | .isFalse h, _ => .isFalse fun e => h (List.cons.inj e).1
    | _, .isFalse h => .isFalse fun e => h (List.cons.inj e).2
end
instance : DecidableEq D := D.dec

abbrev NEnv := List (Option D)
/-- what stands at a reference: a list, a dict (keys ints and texts, or tuples of them), a dict that a loop walks, an instance -/
inductive O where
  | lst (l : List D)
  | dK (l : List (Key × D)) | dT (l : List (List Key × D))
  | fK (l : List (Key × D)) | fT (l : List (List Key × D))
  | ins (c : Nat) (fs : List (Nat × D))
  deriving Inhabited, DecidableEq
abbrev NH := List O
/-- an exception: its class, the fields of its own dict -/
structure Exn where
  cls : Nat
  fs : List (Nat × D)
inductive R (α : Type) where
  | ok (a : α) (N : NH) | exc (x : Exn) (N : NH) | bad
def R.bind {α β : Type} (r : R α) (k : α → NH → R β) : R β := match r with
  | .ok a N => k a N
  | .exc x N => .exc x N
  | .bad => .bad
inductive RS where
  | nx (σ : NEnv) (N : NH) | rt (d : D) (N : NH) | bk (σ : NEnv) (N : NH) | exc (x : Exn) (σ : NEnv) (N : NH) | bad
abbrev NE := NEnv → NH → R D
abbrev NT := NEnv → NH → R Bool
abbrev NA := NEnv → NH → R (List D)
abbrev NS := NEnv → NH → RS
abbrev NF := List D → NH → R D

/-- what is fixed beside the written part: the classes by number, the names of attributes by number, the tables of code objects -/
structure NC where
  cls : Nat → Addr
  names : List Str
  tabs : List Addr

/-! ### values -/
def TupAt (ρ : List Addr) (H : Hp) (a : Addr) (xs : List V) : Prop := a ∉ ρ ∧ H a = some (.tup xs)
def CtupAt (K : PySem.W.Frag) (a : Addr) (xs : List V) : Prop :=
  ∃ (o : Obj) (its : Array Value) (n : Nat), K.lookup a = some o ∧ o.cls = .type "tuple" ∧ o.data = .seq its n ∧ its.size ≤ sizeLine ∧ Vals xs its.toList
def LscAt (K : PySem.W.Frag) (ρ : List Addr) (H : Hp) (a : Addr) (xs : List V) : Prop :=
  (a ∉ ρ ∧ ∃ o, H a = some (.frz o (.lst xs))) ∨ ∃ (o : Obj) (its : Array Value) (n : Nat), K.lookup a = some o ∧ o.cls = .type "list" ∧ o.dict = none ∧ o.data = .seq its n ∧ its.size ≤ sizeLine ∧ Vals xs its.toList
theorem TupAt.sq {K : PySem.W.Frag} {ρ : List Addr} {H : Hp} {a : Addr} {xs : List V} (h : TupAt ρ H a xs) : SqT K H a xs := .inl (.inl h.2)
theorem CtupAt.sq {K : PySem.W.Frag} {H : Hp} {a : Addr} {xs : List V} (h : CtupAt K a xs) : SqT K H a xs := .inr h
theorem LscAt.sq {K : PySem.W.Frag} {ρ : List Addr} {H : Hp} {a : Addr} {xs : List V} (h : LscAt K ρ H a xs) : SqL K H a xs := by
  rcases h with ⟨_, o, h⟩ | h
  · exact .inl (.inr ⟨o, h⟩)
  · exact .inr h
section
variable (K : PySem.W.Frag) (ρ : List Addr) (H : Hp)
mutual
def RD : D → V → Prop
  | .non, v => v = .non
  | .bl b, v => v = .bl b
  | .int i, v => v = .int i
  | .str s, v => v = .str s
  | .tup ds, v => ∃ a xs, v = .ref a ∧ TupAt ρ H a xs ∧ RDs ds xs
  | .ctup ds, v => ∃ a xs, v = .ref a ∧ CtupAt K a xs ∧ RDs ds xs
  | .lsc ds, v => ∃ a xs, v = .ref a ∧ LscAt K ρ H a xs ∧ RDs ds xs
  | .ref n, v => ∃ a, v = .ref a ∧ ρ[n]? = some a
def RDs : List D → List V → Prop
  | [], xs => xs = []
  | d :: ds, xs => ∃ x r, xs = x :: r ∧ RD d x ∧ RDs ds r
end
def RF (names : List Str) : List (Nat × D) → List (Str × V) → Prop
  | [], fs => fs = []
  | (n, d) :: r, fs => ∃ x v s, fs = (x, v) :: s ∧ names[n]? = some x ∧ RD K ρ H d v ∧ RF names r s
def RK {κ : Type} : List (κ × D) → List (κ × V) → Prop
  | [], fs => fs = []
  | (k, d) :: r, fs => ∃ v s, fs = (k, v) :: s ∧ RD K ρ H d v ∧ RK r s
end
def RO (K : PySem.W.Frag) (C : NC) (ρ : List Addr) (H : Hp) (a : Addr) : O → Prop
  | .lst ds => ∃ xs, H a = some (.lst xs) ∧ RDs K ρ H ds xs
  | .dK kvs => ∃ l, H a = some (.dK l) ∧ RK K ρ H kvs l
  | .dT kvs => ∃ l, H a = some (.dT l) ∧ RK K ρ H kvs l
  | .fK kvs => ∃ ob l, H a = some (.frz ob (.dK l)) ∧ RK K ρ H kvs l
  | .fT kvs => ∃ ob l, H a = some (.frz ob (.dT l)) ∧ RK K ρ H kvs l
  | .ins c fs => ∃ dx l, H a = some (.ins (C.cls c) dx l) ∧ RF K ρ H C.names fs l

/-- how the tracked heap may go on: all that is tracked beside the nice objects and the tables stays -/
structure Ext (ρ : List Addr) (H : Hp) (ρ' : List Addr) (H' : Hp) : Prop where
  pre : ∃ t, ρ' = ρ ++ t
  new : ∀ a ∈ ρ', a ∉ ρ → H a = none
  keep : ∀ a o, H a = some o → a ∉ ρ → (∀ ps, o ≠ .tbl ps) → H' a = some o
  tbl : ∀ a ps, H a = some (.tbl ps) → ∃ qs, H' a = some (.tbl qs)
  frz : ∀ a o u, H a = some (.frz o u) → H' a = some (.frz o u)
structure NRel (K : PySem.W.Frag) (C : NC) (ρ : List Addr) (N : NH) (H : Hp) : Prop where
  len : ρ.length = N.length
  nd : ρ.Nodup
  names : C.names.Nodup
  obj : ∀ (n : Nat) (a : Addr) (o : O), ρ[n]? = some a → N[n]? = some o → RO K C ρ H a o
  tab : ∀ P ∈ C.tabs, GxR.TabG H P

theorem Ext.refl {ρ : List Addr} {H : Hp} : Ext ρ H ρ H := ⟨⟨[], by simp⟩, fun a h n => absurd h n, fun _ _ h _ _ => h, fun _ ps h => ⟨ps, h⟩, fun _ _ _ h => h⟩
theorem Ext.trans {ρ ρ1 ρ2 : List Addr} {H H1 H2 : Hp} (a : Ext ρ H ρ1 H1) (b : Ext ρ1 H1 ρ2 H2) : Ext ρ H ρ2 H2 where
  pre := by obtain ⟨t, e⟩ := a.pre; obtain ⟨u, e'⟩ := b.pre; exact ⟨t ++ u, by rw [e', e, List.append_assoc]⟩
  new := fun c h n => by
    by_cases hc : c ∈ ρ1
    · exact a.new c hc n
    · have h1 := b.new c h hc
      cases q : H c with
      | none => rfl
      | some o =>
        by_cases ht : ∃ ps, o = .tbl ps
        · obtain ⟨ps, rfl⟩ := ht
          obtain ⟨qs, e⟩ := a.tbl c ps q
          rw [h1] at e; cases e
        · rw [a.keep c o q n (fun ps e => ht ⟨ps, e⟩)] at h1; cases h1
  keep := fun c o h n nt => by
    refine b.keep c o (a.keep c o h n nt) (fun hc => ?_) nt
    rw [a.new c hc n] at h; cases h
  tbl := fun c ps h => by obtain ⟨qs, e⟩ := a.tbl c ps h; exact b.tbl c qs e
  frz := fun c o u h => b.frz c o u (a.frz c o u h)

section
variable {K : PySem.W.Frag} {ρ ρ' : List Addr} {H H' : Hp}
theorem TupAt.ext {a : Addr} {xs : List V} (e : Ext ρ H ρ' H') (h : TupAt ρ H a xs) : TupAt ρ' H' a xs := by
  obtain ⟨n, h⟩ := h
  refine ⟨fun hm => ?_, e.keep a _ h n (fun _ z => nomatch z)⟩
  rw [e.new a hm n] at h; cases h
theorem LscAt.ext {a : Addr} {xs : List V} (e : Ext ρ H ρ' H') (h : LscAt K ρ H a xs) : LscAt K ρ' H' a xs := by
  rcases h with ⟨n, o, h⟩ | h
  · refine .inl ⟨fun hm => ?_, o, e.keep a _ h n (fun _ z => nomatch z)⟩
    rw [e.new a hm n] at h; cases h
  · exact .inr h
theorem Ext.get {n : Nat} {a : Addr} (e : Ext ρ H ρ' H') (h : ρ[n]? = some a) : ρ'[n]? = some a := by
  obtain ⟨t, rfl⟩ := e.pre
  have hl := (List.getElem?_eq_some_iff.mp h).1
  rw [List.getElem?_append_left hl]; exact h
mutual
theorem RD.ext (e : Ext ρ H ρ' H') : ∀ (d : D) {v : V}, RD K ρ H d v → RD K ρ' H' d v
  | .non, _, h => h
  | .bl _, _, h => h
  | .int _, _, h => h
  | .str _, _, h => h
  | .tup ds, _, h => by
    obtain ⟨a, xs, rfl, h1, h2⟩ := h
    exact ⟨a, xs, rfl, h1.ext e, RDs.ext e ds h2⟩
  | .ctup ds, _, h => by
    obtain ⟨a, xs, rfl, h1, h2⟩ := h
    exact ⟨a, xs, rfl, h1, RDs.ext e ds h2⟩
  | .lsc ds, _, h => by
    obtain ⟨a, xs, rfl, h1, h2⟩ := h
    exact ⟨a, xs, rfl, h1.ext e, RDs.ext e ds h2⟩
  | .ref n, _, h => by
    obtain ⟨a, rfl, h1⟩ := h
    exact ⟨a, rfl, e.get h1⟩
theorem RDs.ext (e : Ext ρ H ρ' H') : ∀ (ds : List D) {xs : List V}, RDs K ρ H ds xs → RDs K ρ' H' ds xs
  | [], _, h => h
  | d :: ds, _, h => by
    obtain ⟨x, r, rfl, h1, h2⟩ := h
    exact ⟨x, r, rfl, RD.ext e d h1, RDs.ext e ds h2⟩
end
theorem RF.ext (e : Ext ρ H ρ' H') {names : List Str} : ∀ (fs : List (Nat × D)) {l : List (Str × V)}, RF K ρ H names fs l → RF K ρ' H' names fs l
  | [], _, h => h
  | (n, d) :: r, _, h => by
    obtain ⟨x, v, s, rfl, h1, h2, h3⟩ := h
    exact ⟨x, v, s, rfl, h1, h2.ext e, RF.ext e r h3⟩
theorem RK.ext {κ : Type} (e : Ext ρ H ρ' H') : ∀ (fs : List (κ × D)) {l : List (κ × V)}, RK K ρ H fs l → RK K ρ' H' fs l
  | [], _, h => h
  | (k, d) :: r, _, h => by
    obtain ⟨v, s, rfl, h2, h3⟩ := h
    exact ⟨v, s, rfl, h2.ext e, RK.ext e r h3⟩
theorem RDs.length : ∀ {ds : List D} {xs : List V}, RDs K ρ H ds xs → xs.length = ds.length
  | [], _, h => by cases h; rfl
  | _ :: _, _, h => by
    obtain ⟨x, r, rfl, _, h2⟩ := h
    rw [List.length_cons, List.length_cons, RDs.length h2]
theorem RDs.get : ∀ {ds : List D} {xs : List V} {i : Nat} {x : V}, RDs K ρ H ds xs → xs[i]? = some x → ∃ d, ds[i]? = some d ∧ RD K ρ H d x
  | [], _, _, _, h, e => by cases h; simp at e
  | d :: ds, _, 0, _, h, e => by
    obtain ⟨x, r, rfl, h1, _⟩ := h
    simp at e; subst e; exact ⟨d, rfl, h1⟩
  | d :: ds, _, i + 1, _, h, e => by
    obtain ⟨x, r, rfl, _, h2⟩ := h
    obtain ⟨d', e1, e2⟩ := RDs.get h2 (by simpa using e)
    exact ⟨d', by simpa using e1, e2⟩
theorem RDs.get' {ds : List D} {xs : List V} {i : Nat} {d : D} (h : RDs K ρ H ds xs) (e : ds[i]? = some d) : ∃ x, xs[i]? = some x ∧ RD K ρ H d x := by
  have hl := h.length
  have hi := (List.getElem?_eq_some_iff.mp e).1
  have e2 : xs[i]? = some (xs[i]'(by omega)) := List.getElem?_eq_getElem _
  obtain ⟨d', e1, r⟩ := h.get e2
  rw [e] at e1; cases e1
  exact ⟨_, e2, r⟩
theorem RDs.append : ∀ {ds es : List D} {xs ys : List V}, RDs K ρ H ds xs → RDs K ρ H es ys → RDs K ρ H (ds ++ es) (xs ++ ys)
  | [], _, _, _, h, h' => by cases h; exact h'
  | _ :: _, _, _, _, h, h' => by
    obtain ⟨x, r, rfl, h1, h2⟩ := h
    exact ⟨x, r ++ _, rfl, h1, RDs.append h2 h'⟩
theorem RDs.one {d : D} {x : V} (h : RD K ρ H d x) : RDs K ρ H [d] [x] := ⟨x, [], rfl, h, rfl⟩
theorem RDs.take : ∀ {ds : List D} {xs : List V} (n : Nat), RDs K ρ H ds xs → RDs K ρ H (ds.take n) (xs.take n)
  | [], _, n, h => by cases h; simp; rfl
  | _ :: _, _, 0, _ => rfl
  | _ :: _, _, n + 1, h => by
    obtain ⟨x, r, rfl, h1, h2⟩ := h
    exact ⟨x, r.take n, rfl, h1, RDs.take n h2⟩
theorem RDs.drop : ∀ {ds : List D} {xs : List V} (n : Nat), RDs K ρ H ds xs → RDs K ρ H (ds.drop n) (xs.drop n)
  | [], _, n, h => by cases h; simp; rfl
  | _ :: _, _, 0, h => h
  | _ :: _, _, n + 1, h => by
    obtain ⟨x, r, rfl, h1, h2⟩ := h
    exact RDs.drop n h2
theorem RDs.set {d : D} {x : V} (hd : RD K ρ H d x) : ∀ {ds : List D} {xs : List V} (n : Nat), RDs K ρ H ds xs → RDs K ρ H (ds.set n d) (xs.set n x)
  | [], _, n, h => by cases h; rfl
  | _ :: _, _, 0, h => by
    obtain ⟨y, r, rfl, h1, h2⟩ := h
    exact ⟨x, r, rfl, hd, h2⟩
  | _ :: _, _, n + 1, h => by
    obtain ⟨y, r, rfl, h1, h2⟩ := h
    exact ⟨y, _, rfl, h1, RDs.set hd n h2⟩
theorem RDs.erase : ∀ {ds : List D} {xs : List V} (n : Nat), RDs K ρ H ds xs → RDs K ρ H (ds.eraseIdx n) (xs.eraseIdx n)
  | [], _, n, h => by cases h; rfl
  | _ :: _, _, 0, h => by
    obtain ⟨y, r, rfl, h1, h2⟩ := h
    exact h2
  | _ :: _, _, n + 1, h => by
    obtain ⟨y, r, rfl, h1, h2⟩ := h
    exact ⟨y, _, rfl, h1, RDs.erase n h2⟩
theorem RDs.empty_iff {ds : List D} {xs : List V} (h : RDs K ρ H ds xs) : xs.isEmpty = ds.isEmpty := by
  have := h.length
  cases ds <;> cases xs <;> simp_all
theorem RDs.ints : ∀ {is : List Int} {xs : List V}, RDs K ρ H (is.map D.int) xs → xs = is.map V.int
  | [], _, h => h
  | i :: is, _, h => by
    obtain ⟨x, r, rfl, h1, h2⟩ := h
    rw [RDs.ints h2, show x = V.int i from h1]; rfl
theorem RDs.of_ints : ∀ (is : List Int), RDs K ρ H (is.map D.int) (is.map V.int)
  | [] => rfl
  | i :: is => ⟨_, _, rfl, rfl, RDs.of_ints is⟩
theorem RDs.strs : ∀ {is : List Str} {xs : List V}, RDs K ρ H (is.map D.str) xs → xs = is.map V.str
  | [], _, h => h
  | i :: is, _, h => by
    obtain ⟨x, r, rfl, h1, h2⟩ := h
    rw [RDs.strs h2, show x = V.str i from h1]; rfl
theorem RDs.of_strs : ∀ (is : List Str), RDs K ρ H (is.map D.str) (is.map V.str)
  | [] => rfl
  | i :: is => ⟨_, _, rfl, rfl, RDs.of_strs is⟩
theorem RDs.bls : ∀ {is : List Bool} {xs : List V}, RDs K ρ H (is.map D.bl) xs → xs = is.map V.bl
  | [], _, h => h
  | i :: is, _, h => by
    obtain ⟨x, r, rfl, h1, h2⟩ := h
    rw [RDs.bls h2, show x = V.bl i from h1]; rfl
end

/-! ### the nice heap: one object written, one object more -/
section
variable {K : PySem.W.Frag} {C : NC} {ρ ρ' : List Addr} {N : NH} {H H' : Hp} {a : Addr} {n : Nat} {o o' : O}
theorem RO.some (h : RO K C ρ H a o) : ∃ u, H a = some u ∧ (∀ xs, u ≠ .tup xs) ∧ (∀ ps, u ≠ .tbl ps) := by
  cases o with
  | lst ds => obtain ⟨_, e, _⟩ := h; exact ⟨_, e, (fun _ z => nomatch z), (fun _ z => nomatch z)⟩
  | dK _ => obtain ⟨_, e, _⟩ := h; exact ⟨_, e, (fun _ z => nomatch z), (fun _ z => nomatch z)⟩
  | dT _ => obtain ⟨_, e, _⟩ := h; exact ⟨_, e, (fun _ z => nomatch z), (fun _ z => nomatch z)⟩
  | fK _ => obtain ⟨_, _, e, _⟩ := h; exact ⟨_, e, (fun _ z => nomatch z), (fun _ z => nomatch z)⟩
  | fT _ => obtain ⟨_, _, e, _⟩ := h; exact ⟨_, e, (fun _ z => nomatch z), (fun _ z => nomatch z)⟩
  | ins _ _ => obtain ⟨_, _, e, _⟩ := h; exact ⟨_, e, (fun _ z => nomatch z), (fun _ z => nomatch z)⟩
/-- an object's description goes over to a later heap that has the same at its address -/
theorem RO.ext (e : Ext ρ H ρ' H') (hs : H' a = H a) (h : RO K C ρ H a o) : RO K C ρ' H' a o := by
  cases o with
  | lst ds => obtain ⟨xs, e1, r⟩ := h; exact ⟨xs, hs.trans e1, r.ext e⟩
  | dK _ => obtain ⟨xs, e1, r⟩ := h; exact ⟨xs, hs.trans e1, r.ext e⟩
  | dT _ => obtain ⟨xs, e1, r⟩ := h; exact ⟨xs, hs.trans e1, r.ext e⟩
  | fK _ => obtain ⟨ob, xs, e1, r⟩ := h; exact ⟨ob, xs, hs.trans e1, r.ext e⟩
  | fT _ => obtain ⟨ob, xs, e1, r⟩ := h; exact ⟨ob, xs, hs.trans e1, r.ext e⟩
  | ins _ _ => obtain ⟨dx, xs, e1, r⟩ := h; exact ⟨dx, xs, hs.trans e1, r.ext e⟩
theorem NRel.at (R : NRel K C ρ N H) (h : ρ[n]? = some a) : ∃ o, N[n]? = some o ∧ RO K C ρ H a o := by
  have hl := (List.getElem?_eq_some_iff.mp h).1
  have e : N[n]? = some (N[n]'(by have := R.len; omega)) := List.getElem?_eq_getElem _
  exact ⟨_, e, R.obj n a _ h e⟩
theorem NRel.at' (R : NRel K C ρ N H) (h : N[n]? = some o) : ∃ a, ρ[n]? = some a ∧ RO K C ρ H a o := by
  have hl := (List.getElem?_eq_some_iff.mp h).1
  have e : ρ[n]? = some (ρ[n]'(by have := R.len; omega)) := List.getElem?_eq_getElem _
  exact ⟨_, e, R.obj n _ _ e h⟩
theorem NRel.mem (R : NRel K C ρ N H) (h : a ∈ ρ) : ∃ (n : Nat) (o : O), ρ[n]? = some a ∧ N[n]? = some o ∧ RO K C ρ H a o := by
  obtain ⟨n, hn⟩ := List.getElem?_of_mem h
  obtain ⟨o, h1, h2⟩ := R.at hn
  exact ⟨n, o, hn, h1, h2⟩
theorem NRel.tracked (R : NRel K C ρ N H) (h : a ∈ ρ) : ∃ u, H a = some u ∧ (∀ xs, u ≠ .tup xs) ∧ (∀ ps, u ≠ .tbl ps) := by
  obtain ⟨_, _, _, _, h2⟩ := R.mem h
  exact h2.some
theorem NRel.fresh (R : NRel K C ρ N H) (h : H a = none) : a ∉ ρ := fun m => by
  obtain ⟨u, e, _⟩ := R.tracked m
  rw [h] at e; cases e
theorem NRel.notab (R : NRel K C ρ N H) {P : Addr} (hP : P ∈ C.tabs) : P ∉ ρ := fun m => by
  obtain ⟨u, e, _, t⟩ := R.tracked m
  obtain ⟨ps, e2, _⟩ := R.tab P hP
  rw [e] at e2
  exact t ps (Option.some.inj e2)
theorem memOf {ρ : List Addr} (h : ρ[n]? = some a) : a ∈ ρ := List.mem_of_getElem? h
/-- a write at a nice object -/
theorem Ext.write (m : a ∈ ρ) {u : HO} (hn : ∀ ps, H a ≠ some (.tbl ps)) (hz : ∀ o w, H a ≠ some (.frz o w)) : Ext ρ H ρ (upd H a u) :=
  ⟨⟨[], by simp⟩, fun b h n => absurd h n, fun b o h n _ => by rw [upd_ne (show b ≠ a from fun z => n (z ▸ m))]; exact h, fun b ps h => ⟨ps, by rw [upd_ne (show b ≠ a from fun z => hn ps (z ▸ h))]; exact h⟩, fun b o w h => by rw [upd_ne (show b ≠ a from fun z => hz o w (z ▸ h))]; exact h⟩
theorem NRel.write (R : NRel K C ρ N H) (h : ρ[n]? = some a) (hz : ∀ o w, H a ≠ some (.frz o w)) {u : HO} (new : RO K C ρ (upd H a u) a o') : Ext ρ H ρ (upd H a u) ∧ NRel K C ρ (N.set n o') (upd H a u) := by
  have m := memOf h
  obtain ⟨w, hw, _, ht⟩ := R.tracked m
  have E : Ext ρ H ρ (upd H a u) := Ext.write m (fun ps z => by rw [hw] at z; exact ht ps (Option.some.inj z)) hz
  refine ⟨E, by rw [List.length_set]; exact R.len, R.nd, R.names, fun k b o hk ho => ?_, fun P hP => ?_⟩
  · by_cases e : k = n
    · subst e
      rw [h] at hk; cases hk
      rw [List.getElem?_set_self (by have := (List.getElem?_eq_some_iff.mp h).1; have := R.len; omega)] at ho
      cases ho
      exact new
    · rw [List.getElem?_set_ne (fun z => e z.symm)] at ho
      have ne : b ≠ a := fun z => e (nd_ix R.nd (z ▸ hk) h)
      exact (R.obj k b o hk ho).ext E (upd_ne ne)
  · obtain ⟨ps, e, t⟩ := R.tab P hP
    exact ⟨ps, by rw [upd_ne (show P ≠ a from fun z => R.notab hP (z ▸ m))]; exact e, t⟩
/-- a new thing that is no nice object (a tuple, an instance's own dict) -/
theorem NRel.side (R : NRel K C ρ N H) (h : H a = none) {u : HO} : Ext ρ H ρ (upd H a u) ∧ NRel K C ρ N (upd H a u) := by
  have E : Ext ρ H ρ (upd H a u) := ⟨⟨[], by simp⟩, fun b h n => absurd h n, fun b o q n _ => by rw [upd_ne (ne_of_none q h)]; exact q, fun b ps q => ⟨ps, by rw [upd_ne (ne_of_none q h)]; exact q⟩, fun b o w q => by rw [upd_ne (ne_of_none q h)]; exact q⟩
  refine ⟨E, R.len, R.nd, R.names, fun k b o hk ho => ?_, fun P hP => ?_⟩
  · have ne : b ≠ a := fun z => R.fresh h (z ▸ memOf hk)
    exact (R.obj k b o hk ho).ext E (upd_ne ne)
  · obtain ⟨ps, e, t⟩ := R.tab P hP
    exact ⟨ps, by rw [upd_ne (ne_of_none e h)]; exact e, t⟩
/-- a new nice object -/
theorem NRel.more (R : NRel K C ρ N H) (h : H a = none) {u : HO} (new : Ext ρ H (ρ ++ [a]) (upd H a u) → RO K C (ρ ++ [a]) (upd H a u) a o') :
    Ext ρ H (ρ ++ [a]) (upd H a u) ∧ NRel K C (ρ ++ [a]) (N ++ [o']) (upd H a u) := by
  have E : Ext ρ H (ρ ++ [a]) (upd H a u) := ⟨⟨[a], rfl⟩, fun b hb n => by
      rcases List.mem_append.mp hb with q | q
      · exact absurd q n
      · rw [List.mem_singleton.mp q]; exact h, fun b o q n _ => by rw [upd_ne (ne_of_none q h)]; exact q, fun b ps q => ⟨ps, by rw [upd_ne (ne_of_none q h)]; exact q⟩, fun b o w q => by rw [upd_ne (ne_of_none q h)]; exact q⟩
  have hf := R.fresh h
  refine ⟨E, by simp [R.len], List.nodup_append.mpr ⟨R.nd, by simp, fun x hx y hy z => hf (by rw [List.mem_singleton.mp hy] at z; exact z ▸ hx)⟩, R.names, fun k b o hk ho => ?_, fun P hP => ?_⟩
  · by_cases e : k < ρ.length
    · rw [List.getElem?_append_left e] at hk
      rw [List.getElem?_append_left (by have := R.len; omega)] at ho
      have ne : b ≠ a := fun z => hf (z ▸ memOf hk)
      exact (R.obj k b o hk ho).ext E (upd_ne ne)
    · have hk1 := (List.getElem?_eq_some_iff.mp hk).1
      rw [List.length_append, List.length_singleton] at hk1
      have e2 : k = ρ.length := by omega
      subst e2
      rw [List.getElem?_concat_length] at hk
      rw [R.len, List.getElem?_concat_length] at ho
      cases hk; cases ho
      exact new E
  · obtain ⟨ps, e, t⟩ := R.tab P hP
    exact ⟨ps, by rw [upd_ne (ne_of_none e h)]; exact e, t⟩
theorem get_last {ρ : List Addr} {a : Addr} : (ρ ++ [a])[ρ.length]? = some a := List.getElem?_concat_length ..
/-- a new tuple -/
theorem RD.tupNew {ds : List D} {xs : List V} (hf : a ∉ ρ) (e : Ext ρ H ρ (upd H a (.tup xs))) (r : RDs K ρ H ds xs) : RD K ρ (upd H a (.tup xs)) (.tup ds) (.ref a) :=
  ⟨a, xs, rfl, ⟨hf, upd_same⟩, r.ext e⟩
end
end NY

set_option Elab.async false
set_option linter.all false
set_option maxRecDepth 100000
set_option maxHeartbeats 4000000
/-! NY2: readings made of nice programs; names, constants, operators, comparisons -/
namespace NY
open PySem PySem.Spec PyProof.Rows L2

def RX (K : PySem.W.Frag) (C : NC) (ρ : List Addr) (H : Hp) (x : Exn) (c : Value) : Option Addr → Prop
  | none => c = .ref (C.cls x.cls) ∧ x.fs = []
  | some d => c = .ref (C.cls x.cls) ∧ d ∉ ρ ∧ ∃ l, H d = some (.xd l) ∧ RF K ρ H C.names x.fs l
/-- what is to hold behind a nice result -/
def PostR {α β : Type} (rel : List Addr → Hp → α → β → Prop) (K : PySem.W.Frag) (C : NC) (W : WX) (ρ : List Addr) (H : Hp) (σ : L2.St) (Q : β → Hp → Prop) : R α → Prop
  | .ok d N => ∀ v H' ρ', Ext ρ H ρ' H' → NRel K C ρ' N H' → rel ρ' H' d v → Q v H'
  | .exc x N => ∀ c dx H' ρ', Ext ρ H ρ' H' → NRel K C ρ' N H' → RX K C ρ' H' x c dx → W c dx σ H'
  | .bad => False
def RSt (K : PySem.W.Frag) (ρ : List Addr) (H : Hp) (σn : NEnv) (σ : L2.St) : Prop :=
  σn.length = σ.length ∧ ∀ (i : Nat) (d : D), σn[i]? = some (some d) → ∃ v, σ[i]? = some (some v) ∧ RD K ρ H d v
def tR {α β : Type} (rel : List Addr → Hp → α → β → Prop) (K : PySem.W.Frag) (C : NC) (W : WX) (m : NEnv → NH → R α) (σ : L2.St) (H : Hp) (Q : β → Hp → Prop) : Prop :=
  ∃ (ρ : List Addr) (σn : NEnv) (N : NH), NRel K C ρ N H ∧ RSt K ρ H σn σ ∧ PostR rel K C W ρ H σ Q (m σn N)
abbrev rB : List Addr → Hp → Bool → Bool → Prop := fun _ _ a b => b = a
def tE (K : PySem.W.Frag) (C : NC) (W : WX) (m : NE) : TE := tR (RD K) K C W m
def tT (K : PySem.W.Frag) (C : NC) (W : WX) (m : NT) : TT := tR rB K C W m
def tA (K : PySem.W.Frag) (C : NC) (W : WX) (m : NA) : TA := tR (RDs K) K C W m

section
variable {α β γ δ : Type} {rel : List Addr → Hp → α → β → Prop} {rel' : List Addr → Hp → γ → δ → Prop} {K : PySem.W.Frag} {C : NC} {W : WX} {ρ ρ' : List Addr} {H H' : Hp} {σ : L2.St} {N : NH}
theorem RSt.ext {σn : NEnv} (e : Ext ρ H ρ' H') (h : RSt K ρ H σn σ) : RSt K ρ' H' σn σ :=
  ⟨h.1, fun i d q => let ⟨v, a, b⟩ := h.2 i d q; ⟨v, a, b.ext e⟩⟩
theorem PostR.imp {Q Q' : β → Hp → Prop} {r : R α} (h : PostR rel K C W ρ H σ Q r) (hq : ∀ b H', Q b H' → Q' b H') : PostR rel K C W ρ H σ Q' r := by
  cases r with
  | ok d N => exact fun v H' ρ' e n q => hq _ _ (h v H' ρ' e n q)
  | exc x N => exact h
  | bad => exact h
theorem PostR.ext {Q : β → Hp → Prop} {r : R α} (e : Ext ρ H ρ' H') (h : PostR rel K C W ρ H σ Q r) : PostR rel K C W ρ' H' σ Q r := by
  cases r with
  | ok d N => exact fun v H' ρ' e' n q => h v H' ρ' (e.trans e') n q
  | exc x N => exact fun c dx H' ρ' e' n q => h c dx H' ρ' (e.trans e') n q
  | bad => exact h
theorem PostR.bind {Q : δ → Hp → Prop} {r : R α} {k : α → NH → R γ} (h : PostR rel' K C W ρ H σ Q (r.bind k)) :
    PostR rel K C W ρ H σ (fun b H1 => ∃ ρ1 N1 a, Ext ρ H ρ1 H1 ∧ NRel K C ρ1 N1 H1 ∧ rel ρ1 H1 a b ∧ PostR rel' K C W ρ1 H1 σ Q (k a N1)) r := by
  cases r with
  | ok d N => exact fun v H' ρ' e n q => ⟨ρ', N, d, e, n, q, PostR.ext e h⟩
  | exc x N => exact h
  | bad => exact h
theorem PostR.ok {Q : β → Hp → Prop} {a : α} {b : β} (R : NRel K C ρ N H) (h : PostR rel K C W ρ H σ Q (.ok a N)) (r : rel ρ H a b) : Q b H := h b H ρ .refl R r
/-- two parts in a row -/
theorem PostR.then {m : NEnv → NH → R α} {k : α → NH → R γ} {Q : δ → Hp → Prop} {Q' : β → Hp → Prop} {σn : NEnv} (R : NRel K C ρ N H) (S : RSt K ρ H σn σ) (h : PostR rel' K C W ρ H σ Q ((m σn N).bind k))
    (hk : ∀ b H1 ρ1 N1 a, Ext ρ H ρ1 H1 → NRel K C ρ1 N1 H1 → RSt K ρ1 H1 σn σ → rel ρ1 H1 a b → PostR rel' K C W ρ1 H1 σ Q (k a N1) → Q' b H1) : tR rel K C W m σ H Q' :=
  ⟨ρ, σn, N, R, S, h.bind.imp fun b H1 ⟨ρ1, N1, a, e, n, q, p⟩ => hk b H1 ρ1 N1 a e n (S.ext e) q p⟩
end

theorem pe_weak {X : Cx} {e : Expr} {t t' : TE} (h : PE X e t) (w : ∀ σ H Q, t' σ H Q → t σ H Q) : PE X e t' := ⟨fun pins s σ H Q I q => h.run pins s σ H Q I (w σ H Q q)⟩
theorem pt_weak {X : Cx} {e : Expr} {t t' : TT} (h : PT X e t) (w : ∀ σ H Q, t' σ H Q → t σ H Q) : PT X e t' := ⟨fun pins s σ H Q I q => h.run pins s σ H Q I (w σ H Q q)⟩
theorem pw_weak {X : Cx} {e : Expr} {t t' : TT} (h : PW X e t) (w : ∀ σ H Q, t' σ H Q → t σ H Q) : PW X e t' := ⟨fun wh pins s σ H Q I q => h.run wh pins s σ H Q I (w σ H Q q)⟩
theorem pa_weak {X : Cx} {e : List Expr} {t t' : TA} (h : PA X e t) (w : ∀ σ H Q, t' σ H Q → t σ H Q) : PA X e t' := ⟨fun pos pins s σ H Q I q => h.run pos pins s σ H Q I (w σ H Q q)⟩

/-! ### the nice programs -/
def nC (d : D) : NE := fun _ N => .ok d N
def nV (i : Nat) : NE := fun σ N => match σ[i]? with | some (some d) => .ok d N | _ => .bad
def nOp2 (f : D → D → NH → R D) (a b : NE) : NE := fun σ N => (a σ N).bind fun x N => (b σ N).bind fun y N => f x y N
def nOp1 (f : D → NH → R D) (a : NE) : NE := fun σ N => (a σ N).bind fun x N => f x N
def NH.new (N : NH) (o : O) : R D := .ok (.ref N.length) (N ++ [o])
def nBool (a : NE) : NT := fun σ N => (a σ N).bind fun x N => match x with | .bl b => .ok b N | _ => .bad
def nIf (t : NT) (a b : NE) : NE := fun σ N => (t σ N).bind fun c N => if c = true then a σ N else b σ N
def nAndT (a b : NT) : NT := fun σ N => (a σ N).bind fun c N => if c = true then b σ N else .ok false N
def nOrT (a b : NT) : NT := fun σ N => (a σ N).bind fun c N => if c = true then .ok true N else b σ N
def nNotT (a : NT) : NT := fun σ N => (a σ N).bind fun c N => .ok (!c) N
def nAnd (a b : NE) : NE := fun σ N => (a σ N).bind fun x N => match x with | .bl true => b σ N | .bl false => .ok (.bl false) N | _ => .bad
def nOr (a b : NE) : NE := fun σ N => (a σ N).bind fun x N => match x with | .bl true => .ok (.bl true) N | .bl false => b σ N | _ => .bad
def nNot (a : NE) : NE := fun σ N => (a σ N).bind fun x N => match x with | .bl b => .ok (.bl (!b)) N | _ => .bad
def nNil : NA := fun _ N => .ok [] N
def nCons (a : NE) (r : NA) : NA := fun σ N => (a σ N).bind fun x N => (r σ N).bind fun xs N => .ok (x :: xs) N

section
variable {X : Cx} {C : NC} {W : WX} {a b c : Expr} {pos : Pos}
theorem n_int {i : Int} {j : Nat} : PE X (.Constant (.int i) j pos) (tE X.K C W (nC (.int i))) := pe_weak pe_int fun σ H Q ⟨ρ, σn, N, R, S, h⟩ => h.ok R rfl
theorem n_bl {i : Bool} {j : Nat} : PE X (.Constant (.bool i) j pos) (tE X.K C W (nC (.bl i))) := pe_weak pe_bl fun σ H Q ⟨ρ, σn, N, R, S, h⟩ => h.ok R rfl
theorem n_non {j : Nat} : PE X (.Constant .none j pos) (tE X.K C W (nC .non)) := pe_weak pe_non fun σ H Q ⟨ρ, σn, N, R, S, h⟩ => h.ok R rfl
theorem n_str {x : Str} {j : Nat} : PE X (.Constant (.str x) j pos) (tE X.K C W (nC (.str x))) := pe_weak pe_str fun σ H Q ⟨ρ, σn, N, R, S, h⟩ => h.ok R rfl
theorem n_var (i : Nat) {x : Str} (hN : X.N[i]? = some x := by rfl) (hv : Vis X.env.scope x := by first | exact Or.inl rfl | exact Or.inr (Or.inl rfl) | exact Or.inr (Or.inr rfl)) (hd : (x == ("__debug__" : Str)) = false := by decide)
    (hcd : (x == ("__classdict__" : Str)) = false := by decide) : PE X (.Name x pos) (tE X.K C W (nV i)) := pe_weak (pe_var hN hv hd hcd) fun σ H Q ⟨ρ, σn, N, R, S, h⟩ => by
  unfold nV at h
  cases e : σn[i]? with
  | none => rw [e] at h; exact h.elim
  | some o =>
    cases o with
    | none => rw [e] at h; exact h.elim
    | some d =>
      rw [e] at h
      obtain ⟨v, e1, r⟩ := S.2 i d e
      exact ⟨v, e1, h.ok R r⟩
/-- a module's constant: a number, a text .. -/
theorem n_glob {x : Str} {d : D} {v : V} {u : Value} (hg : Gl X x) (hm : X.mg x = some u) (r : RelV v u) (hr : ∀ ρ H, RD X.K ρ H d v) (hd : (x == ("__debug__" : Str)) = false := by decide) : PE X (.Name x pos) (tE X.K C W (nC d)) :=
  pe_weak (pe_glob hg hm r hd) fun σ H Q ⟨ρ, σn, N, R, S, h⟩ => h.ok R (hr ρ H)

/-- a rule of values: what the nice operation gives is what the rule asks -/
def Snd2 (K : PySem.W.Frag) (C : NC) (f : D → D → NH → R D) (r : R2) : Prop :=
  ∀ (W : WX) (ρ : List Addr) (N : NH) (H : Hp) (σ : L2.St) (d e : D) (x y : V) (Q : VK), NRel K C ρ N H → RD K ρ H d x → RD K ρ H e y → PostR (RD K) K C W ρ H σ Q (f d e N) → r x y H Q
def Snd1 (K : PySem.W.Frag) (C : NC) (f : D → NH → R D) (r : V → Hp → VK → Prop) : Prop :=
  ∀ (W : WX) (ρ : List Addr) (N : NH) (H : Hp) (σ : L2.St) (d : D) (x : V) (Q : VK), NRel K C ρ N H → RD K ρ H d x → PostR (RD K) K C W ρ H σ Q (f d N) → r x H Q
theorem snd_op {f : D → D → NH → R D} {r : R2} {ma mb : NE} (h : Snd2 X.K C f r) {σ : L2.St} {H : Hp} {Q : VK} (q : tE X.K C W (nOp2 f ma mb) σ H Q) : tOp r (tE X.K C W ma) (tE X.K C W mb) σ H Q := by
  obtain ⟨ρ, σn, N, R, S, q⟩ := q
  exact PostR.then R S q fun x H1 ρ1 N1 d E1 R1 S1 rd q1 => PostR.then R1 S1 q1 fun y H2 ρ2 N2 e E2 R2 S2 re q2 => h W ρ2 N2 H2 σ d e x y Q R2 (rd.ext E2) re q2
theorem n_bin {op : Operator} {f : D → D → NH → R D} {r : R2} {ma mb : NE} (ho : OpR X (binaryOp op) r) (h : Snd2 X.K C f r) (ha : PE X a (tE X.K C W ma)) (hb : PE X b (tE X.K C W mb)) : PE X (.BinOp a op b pos) (tE X.K C W (nOp2 f ma mb)) :=
  pe_weak (pe_op ho ha hb) fun σ H Q q => snd_op h q
theorem n_cmp {op : CmpOp} {f : D → D → NH → R D} {r : R2} {ma mb : NE} (ho : OpR X (compareOp op) r) (h : Snd2 X.K C f r) (ha : PE X a (tE X.K C W ma)) (hb : PE X b (tE X.K C W mb)) (hm : behindInMarks op b = false) : PE X (.Compare a [op] [b] pos) (tE X.K C W (nOp2 f ma mb)) :=
  pe_weak (pe_cmpR ho ha hb hm) fun σ H Q q => snd_op h q
theorem n_un {op : UnaryOp} {f : D → NH → R D} {r : V → Hp → VK → Prop} {ma : NE} (ho : UnR X (unaryOp op) r) (h : Snd1 X.K C f r) (ha : PE X a (tE X.K C W ma)) : PE X (.UnaryOp op a pos) (tE X.K C W (nOp1 f ma)) :=
  pe_weak (pe_un ho ha) fun σ H Q ⟨ρ, σn, N, R, S, q⟩ => PostR.then R S q fun x H1 ρ1 N1 d E1 R1 S1 rd q1 => h W ρ1 N1 H1 σ d x Q R1 rd q1
theorem to_bl {ma : NE} {σ : L2.St} {H : Hp} {Q : Bool → Hp → Prop} (q : tT X.K C W (nBool ma) σ H Q) : tE X.K C W ma σ H fun x H' => ∃ k, x = .bl k ∧ Q k H' := by
  obtain ⟨ρ, σn, N, R, S, q⟩ := q
  refine PostR.then R S q fun x H1 ρ1 N1 d E1 R1 S1 rd q1 => ?_
  cases d with
  | bl k => exact ⟨k, rd, q1.ok R1 rfl⟩
  | _ => exact q1.elim
theorem n_cmpT {op : CmpOp} {f : D → D → NH → R D} {r : R2} {ma mb : NE} (ho : OpR X (compareOp op) r) (h : Snd2 X.K C f r) (ha : PE X a (tE X.K C W ma)) (hb : PE X b (tE X.K C W mb)) (hm : behindInMarks op b = false) : PT X (.Compare a [op] [b] pos) (tT X.K C W (nBool (nOp2 f ma mb))) :=
  pt_weak (pt_cmpR ho ha hb hm) fun σ H Q q => snd_op h (to_bl q)
/-- a chain a op b op' c -/
def nChain (f f' : D → D → NH → R D) (a b c : NE) : NE := fun σ N => (a σ N).bind fun x N => (b σ N).bind fun y N => (f x y N).bind fun z N => match z with
  | .bl true => (c σ N).bind fun z N => f' y z N
  | .bl false => .ok (.bl false) N
  | _ => .bad
/-- a rule of values that only looks -/
def Pure2 (f : D → D → NH → R D) : Prop := ∀ d e N x N', f d e N = .ok x N' → N' = N
theorem snd_chain {f f' : D → D → NH → R D} {r r' : R2} {ma mb mc : NE} (h : Snd2 X.K C f r) (h' : Snd2 X.K C f' r') {σ : L2.St} {H : Hp} {Q : VK} (q : tE X.K C W (nChain f f' ma mb mc) σ H Q) : tChain r r' (tE X.K C W ma) (tE X.K C W mb) (tE X.K C W mc) σ H Q := by
  obtain ⟨ρ, σn, N, R, S, q⟩ := q
  refine PostR.then R S q fun x H1 ρ1 N1 d E1 R1 S1 rd q1 => PostR.then R1 S1 q1 fun y H2 ρ2 N2 e E2 R2 S2 re q2 => h W ρ2 N2 H2 σ d e x y _ R2 (rd.ext E2) re ?_
  refine (PostR.bind (rel := RD X.K) q2).imp fun z H3 ⟨ρ3, N3, z', E3, R3, rz, q3⟩ => ?_
  cases z' with
  | bl k =>
    refine ⟨k, rz, ?_⟩
    cases k with
    | true => exact iteT (PostR.then R3 (S2.ext E3) q3 fun y3 H4 ρ4 N4 e4 E4 R4 S4 re4 q4 => h' W ρ4 N4 H4 σ e e4 y y3 _ R4 ((re.ext E3).ext E4) re4 q4)
    | false => exact iteF (q3.ok R3 rfl)
  | _ => exact q3.elim
theorem n_chain {op op' : CmpOp} {f f' : D → D → NH → R D} {r r' : R2} {ma mb mc : NE} (ho : OpR X (compareOp op) r) (h : Snd2 X.K C f r) (ho' : OpR X (compareOp op') r') (h' : Snd2 X.K C f' r') (ha : PE X a (tE X.K C W ma)) (hb : PE X b (tE X.K C W mb)) (hc : PE X c (tE X.K C W mc)) (hm : lastMarks [op, op'] [b, c] = false := by with_unfolding_all rfl) : PE X (.Compare a [op, op'] [b, c] pos) (tE X.K C W (nChain f f' ma mb mc)) :=
  pe_weak (pe_chain ho ho' ha hb hc hm) fun σ H Q q => snd_chain h h' q
theorem n_chainT {op op' : CmpOp} {f f' : D → D → NH → R D} {r r' : R2} {ma mb mc : NE} (ho : OpR X (compareOp op) r) (h : Snd2 X.K C f r) (ho' : OpR X (compareOp op') r') (h' : Snd2 X.K C f' r') (ha : PE X a (tE X.K C W ma)) (hb : PE X b (tE X.K C W mb)) (hc : PE X c (tE X.K C W mc)) (hm : lastMarks [op, op'] [b, c] = false := by with_unfolding_all rfl) : PT X (.Compare a [op, op'] [b, c] pos) (tT X.K C W (nBool (nChain f f' ma mb mc))) :=
  pt_weak (pt_chain ho ho' ha hb hc hm) fun σ H Q q => snd_chain h h' (to_bl q)
end
end NY

set_option Elab.async false
set_option linter.all false
set_option maxRecDepth 100000
set_option maxHeartbeats 4000000
/-! NY3: operators by values -/
namespace NY
open PySem PySem.Spec PyProof.Rows L2

section
variable {K : PySem.W.Frag} {C : NC} {W : WX} {ρ : List Addr} {N : NH} {H : Hp} {σ : L2.St} {Q : VK}
/-- a new list, a new tuple, handed to the goal -/
theorem PostR.newL {ds : List D} {xs : List V} {p : Addr} (R : NRel K C ρ N H) (r : RDs K ρ H ds xs) (hp : H p = none) (h : PostR (RD K) K C W ρ H σ Q (N.new (.lst ds))) : Q (.ref p) (upd H p (.lst xs)) := by
  obtain ⟨E, R'⟩ := R.more (o' := .lst ds) (u := .lst xs) hp fun E => ⟨xs, upd_same, r.ext E⟩
  refine h _ _ _ E R' ⟨p, rfl, ?_⟩
  rw [← R.len]; exact get_last
theorem PostR.newT {ds : List D} {xs : List V} {p : Addr} (R : NRel K C ρ N H) (r : RDs K ρ H ds xs) (hp : H p = none) (h : PostR (RD K) K C W ρ H σ Q (.ok (.tup ds) N)) : Q (.ref p) (upd H p (.tup xs)) := by
  obtain ⟨E, R'⟩ := R.side (u := .tup xs) hp
  exact h _ _ _ E R' (RD.tupNew (R.fresh hp) E r)
theorem PostR.newDK {kvs : List (Key × D)} {l : List (Key × V)} {p : Addr} (R : NRel K C ρ N H) (r : RK K ρ H kvs l) (hp : H p = none) (h : PostR (RD K) K C W ρ H σ Q (N.new (.dK kvs))) : Q (.ref p) (upd H p (.dK l)) := by
  obtain ⟨E, R'⟩ := R.more (o' := .dK kvs) (u := .dK l) hp fun E => ⟨l, upd_same, r.ext E⟩
  refine h _ _ _ E R' ⟨p, rfl, ?_⟩
  rw [← R.len]; exact get_last
theorem PostR.newDT {kvs : List (List Key × D)} {l : List (List Key × V)} {p : Addr} (R : NRel K C ρ N H) (r : RK K ρ H kvs l) (hp : H p = none) (h : PostR (RD K) K C W ρ H σ Q (N.new (.dT kvs))) : Q (.ref p) (upd H p (.dT l)) := by
  obtain ⟨E, R'⟩ := R.more (o' := .dT kvs) (u := .dT l) hp fun E => ⟨l, upd_same, r.ext E⟩
  refine h _ _ _ E R' ⟨p, rfl, ?_⟩
  rw [← R.len]; exact get_last
/-- a list in the nice heap -/
theorem NRel.lst {n : Nat} {ds : List D} {v : V} (R : NRel K C ρ N H) (hv : RD K ρ H (.ref n) v) (e : N[n]? = some (.lst ds)) : ∃ a xs, v = .ref a ∧ ρ[n]? = some a ∧ H a = some (.lst xs) ∧ RDs K ρ H ds xs := by
  obtain ⟨a, rfl, ha⟩ := hv
  obtain ⟨xs, h1, h2⟩ := R.obj n a _ ha e
  exact ⟨a, xs, rfl, ha, h1, h2⟩
end

/-! ### arithmetic -/
def fAdd : D → D → NH → R D
  | .int i, .int j, N => .ok (.int (i + j)) N
  | .str a, .str b, N => if a.length + b.length ≤ sizeLine then .ok (.str (a ++ b)) N else .bad
  | .tup a, .tup b, N => if a.length + b.length ≤ sizeLine then .ok (.tup (a ++ b)) N else .bad
  | .ctup a, .tup b, N => if a ≠ [] ∧ b ≠ [] ∧ a.length + b.length ≤ sizeLine then .ok (.tup (a ++ b)) N else .bad
  | .ref a, .ref b, N => match N[a]?, N[b]? with
    | some (.lst x), some (.lst y) => if x.length + y.length ≤ sizeLine then N.new (.lst (x ++ y)) else .bad
    | _, _ => .bad
  | _, _, _ => .bad
def rAdd (K : PySem.W.Frag) : R2 := fun x y H Q => (∃ i j, x = .int i ∧ y = .int j ∧ Q (.int (i + j)) H) ∨ (∃ i j, x = .str i ∧ y = .str j ∧ i.length + j.length ≤ sizeLine ∧ Q (.str (i ++ j)) H) ∨ rCatA K x y H Q ∨ rCat x y H Q
theorem opAdd {X : Cx} : OpR X (binaryOp .Add) (rAdd X.K) := op_add.or (op_add_str.or (op_catA.or op_cat))
theorem sndAdd {K : PySem.W.Frag} {C : NC} : Snd2 K C fAdd (rAdd K) := by
  intro W ρ N H σ d e x y Q R rd re q
  unfold fAdd at q
  split at q
  · exact .inl ⟨_, _, rd, re, q.ok R rfl⟩
  · split at q
    · rename_i h
      exact .inr (.inl ⟨_, _, rd, re, h, q.ok R rfl⟩)
    · exact q.elim
  · rename_i as bs
    split at q
    · rename_i h
      obtain ⟨a, xs, rfl, ta, ra⟩ := rd
      obtain ⟨b, ys, rfl, tb, rb⟩ := re
      have l1 := ra.length
      have l2 := rb.length
      refine .inr (.inr (.inl ⟨a, b, xs, ys, rfl, rfl, ta.sq, tb.sq, by omega, fun e => ?_, fun _ e => ?_, fun _ _ p hp => ?_⟩))
      · subst e
        cases as with
        | nil => exact q.ok R ⟨b, ys, rfl, tb, rb⟩
        | cons _ _ => simp at l1
      · subst e
        cases bs with
        | nil => exact q.ok R ⟨a, xs, rfl, ta, by rw [List.append_nil]; exact ra⟩
        | cons _ _ => simp at l2
      · exact q.newT R (ra.append rb) hp
    · exact q.elim
  · rename_i as bs
    split at q
    · rename_i h
      obtain ⟨h0, h1, h⟩ := h
      obtain ⟨a, xs, rfl, ta, ra⟩ := rd
      obtain ⟨b, ys, rfl, tb, rb⟩ := re
      have l1 := ra.length
      have l2 := rb.length
      refine .inr (.inr (.inl ⟨a, b, xs, ys, rfl, rfl, ta.sq, tb.sq, by omega, fun e => ?_, fun _ e => ?_, fun _ _ p hp => q.newT R (ra.append rb) hp⟩))
      · subst e
        cases as with
        | nil => exact absurd rfl h0
        | cons _ _ => simp at l1
      · subst e
        cases bs with
        | nil => exact absurd rfl h1
        | cons _ _ => simp at l2
    · exact q.elim
  · split at q
    · rename_i n m _ _ x y e1 e2
      split at q
      · rename_i h
        obtain ⟨a, xs, rfl, _, ha, ra⟩ := R.lst rd e1
        obtain ⟨b, ys, rfl, _, hb, rb⟩ := R.lst re e2
        have l1 := ra.length
        have l2 := rb.length
        exact .inr (.inr (.inr ⟨a, b, xs, ys, rfl, rfl, ha, hb, by omega, fun p hp => q.newL R (ra.append rb) hp⟩))
      · exact q.elim
    · exact q.elim
  · exact q.elim

def fSub : D → D → NH → R D
  | .int i, .int j, N => .ok (.int (i - j)) N
  | _, _, _ => .bad
theorem sndSub {K : PySem.W.Frag} {C : NC} : Snd2 K C fSub (rI0 fun i j => .int (i - j)) := by
  intro W ρ N H σ d e x y Q R rd re q
  unfold fSub at q
  split at q
  · exact ⟨_, _, rd, re, q.ok R rfl⟩
  · exact q.elim
instance {i j : Int} : Decidable (CMul i j) := inferInstanceAs (Decidable (_ ∨ _))
/-- tuples by a number: the list layer asks 2 ≤ k; by one and by less than one: themselves, nothing -/
def fMul : D → D → NH → R D
  | .int i, .int j, N => if CMul i j then .ok (.int (i * j)) N else .bad
  | .tup a, .int k, N => if a ≠ [] ∧ 2 ≤ k ∧ k ≤ 1000 ∧ a.length ≤ 1000 then .ok (.tup (List.replicate k.toNat a).flatten) N else .bad
  | .ref a, .int k, N => match N[a]? with
    | some (.lst x) => if 0 ≤ k ∧ k < 1000000 ∧ x.length * k.toNat ≤ sizeLine then N.new (.lst (List.replicate k.toNat x).flatten) else .bad
    | _ => .bad
  | _, _, _ => .bad
theorem RDs.rep {K : PySem.W.Frag} {ρ : List Addr} {H : Hp} {ds : List D} {xs : List V} (h : RDs K ρ H ds xs) : ∀ k : Nat, RDs K ρ H (List.replicate k ds).flatten (List.replicate k xs).flatten
  | 0 => by simp; rfl
  | k + 1 => by rw [List.replicate_succ, List.replicate_succ, List.flatten_cons, List.flatten_cons]; exact h.append (RDs.rep h k)
def rMul (K : PySem.W.Frag) : R2 := fun x y H Q => rI CMul (fun i j => .int (i * j)) x y H Q ∨ rRepT K x y H Q ∨ rRep x y H Q
theorem opMul {X : Cx} : OpR X (binaryOp .Mult) (rMul X.K) := op_mul.or (op_repT.or op_rep)
theorem sndMul {K : PySem.W.Frag} {C : NC} : Snd2 K C fMul (rMul K) := by
  intro W ρ N H σ d e x y Q R rd re q
  unfold fMul at q
  split at q
  · split at q
    · rename_i h
      exact .inl ⟨_, _, rd, re, h, q.ok R rfl⟩
    · exact q.elim
  · rename_i as k
    split at q
    · rename_i h
      obtain ⟨a, xs, rfl, ta, ra⟩ := rd
      have l1 := ra.length
      have hx : xs ≠ [] := fun e => h.1 (by cases as with | nil => rfl | cons _ _ => rw [e] at l1; simp at l1)
      exact .inr (.inl ⟨a, _, xs, rfl, re, ta.sq, hx, h.2.1, h.2.2.1, by omega, fun p hp => q.newT R (ra.rep _) hp⟩)
    · exact q.elim
  · split at q
    · rename_i n k _ x e1
      split at q
      · rename_i h
        obtain ⟨a, xs, rfl, _, ha, ra⟩ := R.lst rd e1
        have l1 := ra.length
        exact .inr (.inr ⟨a, _, xs, rfl, re, ha, by omega, by omega, by rw [l1]; exact h.2.2, fun p hp => q.newL R (ra.rep _) hp⟩)
      · exact q.elim
    · exact q.elim
  · exact q.elim
instance {i j : Int} : Decidable (CDivW i j) := inferInstanceAs (Decidable (_ ∧ _))
def fDiv : D → D → NH → R D
  | .int i, .int j, N => if CDivW i j then .ok (.int (i / j)) N else .bad
  | _, _, _ => .bad
theorem sndDiv {K : PySem.W.Frag} {C : NC} : Snd2 K C fDiv (rI CDivW fun i j => .int (i / j)) := by
  intro W ρ N H σ d e x y Q R rd re q
  unfold fDiv at q
  split at q
  · split at q
    · rename_i h
      exact ⟨_, _, rd, re, h, q.ok R rfl⟩
    · exact q.elim
  · exact q.elim
def fMod : D → D → NH → R D
  | .int i, .int j, N => if 0 < j then .ok (.int (i % j)) N else .bad
  | _, _, _ => .bad
theorem sndMod {K : PySem.W.Frag} {C : NC} : Snd2 K C fMod (rI (fun _ j => 0 < j) fun i j => .int (i % j)) := by
  intro W ρ N H σ d e x y Q R rd re q
  unfold fMod at q
  split at q
  · split at q
    · rename_i h
      exact ⟨_, _, rd, re, h, q.ok R rfl⟩
    · exact q.elim
  · exact q.elim
instance {i j : Int} : Decidable (CPow i j) := inferInstanceAs (Decidable (_ ∧ _))
def fPow : D → D → NH → R D
  | .int i, .int j, N => if CPow i j then .ok (.int (i ^ j.toNat)) N else .bad
  | _, _, _ => .bad
theorem sndPow {K : PySem.W.Frag} {C : NC} : Snd2 K C fPow (rI CPow fun i j => .int (i ^ j.toNat)) := by
  intro W ρ N H σ d e x y Q R rd re q
  unfold fPow at q
  split at q
  · split at q
    · rename_i h
      exact ⟨_, _, rd, re, h, q.ok R rfl⟩
    · exact q.elim
  · exact q.elim
def fShl : D → D → NH → R D
  | .int i, .int j, N => if CPow i j then .ok (.int (i * 2 ^ j.toNat)) N else .bad
  | _, _, _ => .bad
theorem sndShl {K : PySem.W.Frag} {C : NC} : Snd2 K C fShl (rI CPow fun i j => .int (i * 2 ^ j.toNat)) := by
  intro W ρ N H σ d e x y Q R rd re q
  unfold fShl at q
  split at q
  · split at q
    · rename_i h
      exact ⟨_, _, rd, re, h, q.ok R rfl⟩
    · exact q.elim
  · exact q.elim
def fNeg : D → NH → R D
  | .int i, N => .ok (.int (-i)) N
  | _, _ => .bad
theorem sndNeg {K : PySem.W.Frag} {C : NC} : Snd1 K C fNeg (rU fun i => .int (-i)) := by
  intro W ρ N H σ d x Q R rd q
  unfold fNeg at q
  split at q
  · exact ⟨_, rd, q.ok R rfl⟩
  · exact q.elim

/-! ### order -/
def fOrd (p : Int → Int → Bool) (s : List Nat → List Nat → Bool) : D → D → NH → R D
  | .int i, .int j, N => .ok (.bl (p i j)) N
  | .str a, .str b, N => .ok (.bl (s a.cps.toList b.cps.toList)) N
  | _, _, _ => .bad
def fLt := fOrd (fun i j => decide (i < j)) (fun a b => decide (a < b))
def fLe := fOrd (fun i j => decide (i ≤ j)) (fun a b => !decide (b < a))
def fGt := fOrd (fun i j => decide (j < i)) (fun a b => decide (b < a))
def fGe := fOrd (fun i j => decide (j ≤ i)) (fun a b => !decide (a < b))
def rOrd (p : Int → Int → Bool) (s : List Nat → List Nat → Bool) : R2 := fun x y H Q => rI0 (fun i j => .bl (p i j)) x y H Q ∨ (∃ i j, x = .str i ∧ y = .str j ∧ Q (.bl (s i.cps.toList j.cps.toList)) H)
theorem sndOrd {K : PySem.W.Frag} {C : NC} {p : Int → Int → Bool} {s : List Nat → List Nat → Bool} : Snd2 K C (fOrd p s) (rOrd p s) := by
  intro W ρ N H σ d e x y Q R rd re q
  unfold fOrd at q
  split at q
  · exact .inl ⟨_, _, rd, re, q.ok R rfl⟩
  · exact .inr ⟨_, _, rd, re, q.ok R rfl⟩
  · exact q.elim
theorem opLt {X : Cx} : OpR X (compareOp .Lt) (rOrd (fun i j => decide (i < j)) (fun a b => decide (a < b))) := op_lt.or op_lt_str
theorem opLe {X : Cx} : OpR X (compareOp .LtE) (rOrd (fun i j => decide (i ≤ j)) (fun a b => !decide (b < a))) := op_le.or op_le_str
theorem opGt {X : Cx} : OpR X (compareOp .Gt) (rOrd (fun i j => decide (j < i)) (fun a b => decide (b < a))) := op_gt.or op_gt_str
theorem opGe {X : Cx} : OpR X (compareOp .GtE) (rOrd (fun i j => decide (j ≤ i)) (fun a b => !decide (a < b))) := op_ge.or op_ge_str

/-! ### is None, is True -/
def fIs : D → D → NH → R D
  | d, .non, N => .ok (.bl (decide (d = .non))) N
  | .bl a, .bl b, N => .ok (.bl (decide (a = b))) N
  | _, _, _ => .bad
def fIsNot : D → D → NH → R D
  | d, .non, N => .ok (.bl (!decide (d = .non))) N
  | .bl a, .bl b, N => .ok (.bl (!decide (a = b))) N
  | _, _, _ => .bad
theorem RD.non_iff {K : PySem.W.Frag} {ρ : List Addr} {H : Hp} {d : D} {x : V} (h : RD K ρ H d x) : decide (x = .non) = decide (d = .non) := by
  cases d with
  | non => rw [show x = .non from h]; rfl
  | bl b => rw [show x = .bl b from h]; rfl
  | int b => rw [show x = .int b from h]; rfl
  | str b => rw [show x = .str b from h]; rfl
  | tup b => obtain ⟨a, xs, rfl, _⟩ := h; rfl
  | ctup b => obtain ⟨a, xs, rfl, _⟩ := h; rfl
  | lsc b => obtain ⟨a, xs, rfl, _⟩ := h; rfl
  | ref b => obtain ⟨a, rfl, _⟩ := h; rfl
def rIs : R2 := fun x y H Q => (y = .non ∧ Q (.bl (decide (x = .non))) H) ∨ rIsB x y H Q
def rIsNot : R2 := fun x y H Q => (y = .non ∧ Q (.bl (!decide (x = .non))) H) ∨ rNotB x y H Q
theorem opIs {X : Cx} : OpR X (compareOp .Is) rIs := op_isN.or op_isBl
theorem opIsNot {X : Cx} : OpR X (compareOp .IsNot) rIsNot := op_notN.or op_notBl
theorem sndIs {K : PySem.W.Frag} {C : NC} : Snd2 K C fIs rIs := by
  intro W ρ N H σ d e x y Q R rd re q
  unfold fIs at q
  split at q
  · exact .inl ⟨re, q.ok R (by show V.bl _ = V.bl _; rw [rd.non_iff])⟩
  · exact .inr ⟨_, _, rd, re, q.ok R rfl⟩
  · exact q.elim
theorem sndIsNot {K : PySem.W.Frag} {C : NC} : Snd2 K C fIsNot rIsNot := by
  intro W ρ N H σ d e x y Q R rd re q
  unfold fIsNot at q
  split at q
  · exact .inl ⟨re, q.ok R (by show V.bl _ = V.bl _; rw [rd.non_iff])⟩
  · exact .inr ⟨_, _, rd, re, q.ok R rfl⟩
  · exact q.elim

/-! ### equality: of data at any depth -/
mutual
/-- Python's == of plain data -/
def eqD : D → D → Bool
  | .non, .non => true
  | .bl a, .bl b => a == b
  | .bl a, .int j => (if a then 1 else 0) == j
  | .int i, .bl b => i == (if b then 1 else 0)
  | .int i, .int j => i == j
  | .str x, .str y => x == y
  | .tup xs, .tup ys => eqDs xs ys
  | _, _ => false
def eqDs : List D → List D → Bool
  | [], [] => true
  | x :: xs, y :: ys => eqD x y && eqDs xs ys
  | _, _ => false
end
mutual
/-- plain data, its texts of real signs -/
def plain : D → Bool
  | .non | .bl _ | .int _ => true
  | .str x => x.cps.all (· < 0x110000)
  | .tup xs => plains xs
  | .ctup _ | .lsc _ | .ref _ => false
def plains : List D → Bool
  | [] => true
  | x :: xs => plain x && plains xs
end
mutual
def dep : D → Nat
  | .tup xs => deps xs + 1
  | _ => 0
def deps : List D → Nat
  | [] => 0
  | x :: xs => max (dep x) (deps xs)
end
mutual
def toPy : D → PyData
  | .non => .none
  | .bl b => .bool b
  | .int i => .int i
  | .str x => .str x
  | .tup xs => .tuple (toPys xs)
  | .ctup _ | .lsc _ | .ref _ => .none
def toPys : List D → List PyData
  | [] => []
  | x :: xs => toPy x :: toPys xs
end
mutual
theorem eqv_toPy : ∀ (d e : D), plain d = true → plain e = true → PyData.eqv (toPy d) (toPy e) = eqD d e
  | .tup xs, .tup ys, h, h' => by
    simp only [toPy, PyData.eqv, eqD]
    exact eqv_toPys xs ys h h'
  | .ctup _, _, h, _ => nomatch h
  | .lsc _, _, h, _ => nomatch h
  | .ref _, _, h, _ => nomatch h
  | .non, .ctup _, _, h | .bl _, .ctup _, _, h | .int _, .ctup _, _, h | .str _, .ctup _, _, h | .tup _, .ctup _, _, h => nomatch h
  | .non, .lsc _, _, h | .bl _, .lsc _, _, h | .int _, .lsc _, _, h | .str _, .lsc _, _, h | .tup _, .lsc _, _, h => nomatch h
  | .non, .ref _, _, h | .bl _, .ref _, _, h | .int _, .ref _, _, h | .str _, .ref _, _, h | .tup _, .ref _, _, h => nomatch h
  | .non, .non, _, _ | .non, .bl _, _, _ | .non, .int _, _, _ | .non, .str _, _, _ | .non, .tup _, _, _ => by simp only [toPy, PyData.eqv, eqD]
  | .bl _, .non, _, _ | .bl _, .bl _, _, _ | .bl _, .int _, _, _ | .bl _, .str _, _, _ | .bl _, .tup _, _, _ => by simp only [toPy, PyData.eqv, eqD]
  | .int _, .non, _, _ | .int _, .bl _, _, _ | .int _, .int _, _, _ | .int _, .str _, _, _ | .int _, .tup _, _, _ => by simp only [toPy, PyData.eqv, eqD]
  | .str _, .non, _, _ | .str _, .bl _, _, _ | .str _, .int _, _, _ | .str _, .str _, _, _ | .str _, .tup _, _, _ => by simp only [toPy, PyData.eqv, eqD]
  | .tup _, .non, _, _ | .tup _, .bl _, _, _ | .tup _, .int _, _, _ | .tup _, .str _, _, _ => by simp only [toPy, PyData.eqv, eqD]
theorem eqv_toPys : ∀ (d e : List D), plains d = true → plains e = true → PyData.eqvAll (toPys d) (toPys e) = eqDs d e
  | [], [], _, _ => by simp only [toPys, PyData.eqvAll, eqDs]
  | [], _ :: _, _, _ => by simp only [toPys, PyData.eqvAll, eqDs]
  | _ :: _, [], _, _ => by simp only [toPys, PyData.eqvAll, eqDs]
  | x :: xs, y :: ys, h, h' => by
    have h1 := Bool.and_eq_true_iff.mp (show (plain x && plains xs) = true from h)
    have h2 := Bool.and_eq_true_iff.mp (show (plain y && plains ys) = true from h')
    simp only [toPys, PyData.eqvAll, eqDs]
    rw [eqv_toPy x y h1.1 h2.1, eqv_toPys xs ys h1.2 h2.2]
end
mutual
theorem lay_toPy : ∀ (d : D), plain d = true → (toPy d).canLay0 = true
  | .non, _ | .bl _, _ | .int _, _ => by simp only [toPy, PyData.canLay0]
  | .str x, h => by simp only [toPy, PyData.canLay0]; exact h
  | .tup xs, h => by simp only [toPy, PyData.canLay0]; exact lay_toPys xs h
  | .ctup _, h => nomatch h
  | .lsc _, h => nomatch h
  | .ref _, h => nomatch h
theorem lay_toPys : ∀ (d : List D), plains d = true → PyData.canLayAll0 (toPys d) = true
  | [], _ => by simp only [toPys, PyData.canLayAll0]
  | x :: xs, h => by
    have h1 := Bool.and_eq_true_iff.mp (show (plain x && plains xs) = true from h)
    simp only [toPys, PyData.canLayAll0, lay_toPy x h1.1, lay_toPys xs h1.2, Bool.and_self]
end
mutual
theorem dep_toPy : ∀ (d : D), (toPy d).depth ≤ dep d
  | .non | .bl _ | .int _ | .str _ | .ctup _ | .lsc _ | .ref _ => by simp only [toPy, PyData.depth, dep]; exact Nat.le_refl _
  | .tup xs => by
    have := dep_toPys xs
    simp only [toPy, PyData.depth, dep]; omega
theorem dep_toPys : ∀ (d : List D), PyData.depthAll (toPys d) ≤ deps d
  | [] => by simp only [toPys, PyData.depthAll, deps]; exact Nat.le_refl _
  | x :: xs => by
    have h1 := dep_toPy x
    have h2 := dep_toPys xs
    simp only [toPys, PyData.depthAll, deps]; omega
end
mutual
theorem RD.dp {K : PySem.W.Frag} {ρ : List Addr} {H : Hp} : ∀ (d : D) {v : V}, plain d = true → RD K ρ H d v → Dp K H v (toPy d)
  | .non, _, _, h => by rw [show _ = V.non from h]; exact .non
  | .bl b, _, _, h => by rw [show _ = V.bl b from h]; exact .bl b
  | .int b, _, _, h => by rw [show _ = V.int b from h]; exact .int b
  | .str b, _, _, h => by rw [show _ = V.str b from h]; exact .str b
  | .tup ds, _, hp, h => by
    obtain ⟨a, xs, rfl, ta, ra⟩ := h
    exact .tup ta.sq (RDs.dp ds hp ra)
  | .ctup _, _, hp, _ => nomatch hp
  | .lsc _, _, hp, _ => nomatch hp
  | .ref _, _, hp, _ => nomatch hp
theorem RDs.dp {K : PySem.W.Frag} {ρ : List Addr} {H : Hp} : ∀ (d : List D) {v : List V}, plains d = true → RDs K ρ H d v → DpAll K H v (toPys d)
  | [], _, _, h => by cases h; exact .nil
  | d :: ds, _, hp, h => by
    have h1 := Bool.and_eq_true_iff.mp (show (plain d && plains ds) = true from hp)
    obtain ⟨x, r, rfl, r1, r2⟩ := h
    exact .cons (RD.dp d h1.1 r1) (RDs.dp ds h1.2 r2)
end
def okD (d : D) : Bool := plain d && decide (dep d ≤ 60)
def okDs (d : List D) : Bool := plains d && decide (deps d ≤ 60)
theorem okD_shaped {d : D} (h : okD d = true) : SeqAt.shaped (toPy d) = true := by
  obtain ⟨h1, h2⟩ := Bool.and_eq_true_iff.mp h
  have h3 := of_decide_eq_true h2
  have h4 := dep_toPy d
  exact Bool.and_eq_true_iff.mpr ⟨lay_toPy d h1, decide_eq_true (by omega)⟩
theorem okDs_shaped {d : List D} (h : okDs d = true) : SeqAt.shaped (.list (toPys d)) = true := by
  obtain ⟨h1, h2⟩ := Bool.and_eq_true_iff.mp h
  have h3 := of_decide_eq_true h2
  have h4 := dep_toPys d
  refine Bool.and_eq_true_iff.mpr ⟨by simp only [PyData.canLay0]; exact lay_toPys d h1, decide_eq_true ?_⟩
  simp only [PyData.depth]; omega
/-- what == gives: of scalars at once, of plain data, of two lists of plain data -/
def eqN (N : NH) : D → D → Option Bool
  | .int i, .int j => some (decide (i = j))
  | .str a, .str b => some (decide (a = b))
  | .ref a, .ref b => match N[a]?, N[b]? with
    | some (.lst x), some (.lst y) => if okDs x && okDs y then some (eqDs x y) else none
    | _, _ => none
  | d, e => if okD d && okD e then some (eqD d e) else none
def fEq : D → D → NH → R D := fun d e N => match eqN N d e with | some b => .ok (.bl b) N | none => .bad
def fNe : D → D → NH → R D := fun d e N => match eqN N d e with | some b => .ok (.bl (!b)) N | none => .bad
theorem snd_eqN {K : PySem.W.Frag} {C : NC} {ρ : List Addr} {N : NH} {H : Hp} {d e : D} {x y : V} {b : Bool} (R : NRel K C ρ N H) (rd : RD K ρ H d x) (re : RD K ρ H e y) (q : eqN N d e = some b) :
    (scal x y = true ∧ b = decide (x = y)) ∨ ∃ p q, Dp K H x p ∧ Dp K H y q ∧ SeqAt.shaped p = true ∧ SeqAt.shaped q = true ∧ b = PyData.eqv p q := by
  unfold eqN at q
  split at q
  · cases q
    rw [show x = V.int _ from rd, show y = V.int _ from re]
    refine .inl ⟨rfl, ?_⟩
    rw [dec_int]; exact (Bool.beq_eq_decide_eq _ _).symm
  · cases q
    rw [show x = V.str _ from rd, show y = V.str _ from re]
    refine .inl ⟨rfl, ?_⟩
    rw [dec_str]; exact (Bool.beq_eq_decide_eq _ _).symm
  · split at q
    · rename_i n m _ _ xs ys e1 e2
      split at q
      · rename_i h
        obtain ⟨h1, h2⟩ := Bool.and_eq_true_iff.mp h
        cases q
        obtain ⟨a, us, rfl, _, ha, ra⟩ := R.lst rd e1
        obtain ⟨c, ws, rfl, _, hb, rb⟩ := R.lst re e2
        have p1 := (Bool.and_eq_true_iff.mp h1).1
        have p2 := (Bool.and_eq_true_iff.mp h2).1
        refine .inr ⟨_, _, .lst (SqL.of ha) (RDs.dp _ p1 ra), .lst (SqL.of hb) (RDs.dp _ p2 rb), okDs_shaped h1, okDs_shaped h2, ?_⟩
        simp only [PyData.eqv]
        exact (eqv_toPys _ _ p1 p2).symm
      · cases q
    · cases q
  · split at q
    · rename_i h
      obtain ⟨h1, h2⟩ := Bool.and_eq_true_iff.mp h
      cases q
      have p1 := (Bool.and_eq_true_iff.mp h1).1
      have p2 := (Bool.and_eq_true_iff.mp h2).1
      exact .inr ⟨_, _, RD.dp _ p1 rd, RD.dp _ p2 re, okD_shaped h1, okD_shaped h2, (eqv_toPy _ _ p1 p2).symm⟩
    · cases q
def rEqA (K : PySem.W.Frag) : R2 := fun x y H Q => rEq x y H Q ∨ rEqD K x y H Q
def rNeA (K : PySem.W.Frag) : R2 := fun x y H Q => rNe x y H Q ∨ rNeD K x y H Q
theorem opEq {X : Cx} (hu : X.A.units + 64 < cLine) : OpR X (compareOp .Eq) (rEqA X.K) := op_eq.or (op_eqD hu)
theorem opNe {X : Cx} (hu : X.A.units + 64 < cLine) : OpR X (compareOp .NotEq) (rNeA X.K) := op_ne.or (op_neD hu)
theorem sndEq {K : PySem.W.Frag} {C : NC} : Snd2 K C fEq (rEqA K) := by
  intro W ρ N H σ d e x y Q R rd re q
  unfold fEq at q
  split at q
  · rename_i b hb
    have q' := q.ok (b := V.bl b) R rfl
    rcases snd_eqN R rd re hb with ⟨h1, rfl⟩ | ⟨p, p', h1, h2, h3, h4, rfl⟩
    · exact .inl ⟨h1, q'⟩
    · exact .inr ⟨p, p', h1, h2, h3, h4, q'⟩
  · exact q.elim
theorem sndNe {K : PySem.W.Frag} {C : NC} : Snd2 K C fNe (rNeA K) := by
  intro W ρ N H σ d e x y Q R rd re q
  unfold fNe at q
  split at q
  · rename_i b hb
    have q' := q.ok (b := V.bl (!b)) R rfl
    rcases snd_eqN R rd re hb with ⟨h1, rfl⟩ | ⟨p, p', h1, h2, h3, h4, rfl⟩
    · exact .inl ⟨h1, q'⟩
    · exact .inr ⟨p, p', h1, h2, h3, h4, q'⟩
  · exact q.elim
end NY

set_option Elab.async false
set_option linter.all false
set_option maxRecDepth 100000
set_option maxHeartbeats 4000000
/-! NY4: dicts, in, subscripts, slices, truth -/
namespace NY
open PySem PySem.Spec PyProof.Rows L2

/-! ### dicts of nice values -/
section
variable {κ : Type} [DecidableEq κ] {K : PySem.W.Frag} {ρ : List Addr} {H : Hp}
def valD (kvs : List (κ × D)) (k : κ) : Option D := match kvs with
  | [] => none
  | (j, d) :: r => if j = k then some d else valD r k
def repD (kvs : List (κ × D)) (k : κ) (d : D) : List (κ × D) := match kvs with
  | [] => []
  | (j, e) :: r => (j, if j = k then d else e) :: repD r k d
def putD (kvs : List (κ × D)) (k : κ) (d : D) : List (κ × D) := if (valD kvs k).isSome then repD kvs k d else kvs ++ [(k, d)]
def dropD (kvs : List (κ × D)) (k : κ) : List (κ × D) := match kvs with
  | [] => []
  | (j, d) :: r => if j = k then dropD r k else (j, d) :: dropD r k
theorem RK.length : ∀ {kvs : List (κ × D)} {l : List (κ × V)}, RK K ρ H kvs l → l.length = kvs.length
  | [], _, h => by cases h; rfl
  | (k, d) :: r, _, h => by
    obtain ⟨v, s, rfl, _, h2⟩ := h
    rw [List.length_cons, List.length_cons, RK.length h2]
theorem RK.valNone : ∀ {kvs : List (κ × D)} {l : List (κ × V)} {k : κ}, RK K ρ H kvs l → valD kvs k = none → valV l k = none
  | [], _, _, h, _ => by cases h; rfl
  | (j, d) :: r, _, k, h, e => by
    obtain ⟨v, s, rfl, _, h2⟩ := h
    unfold valD at e
    by_cases q : j = k
    · rw [if_pos q] at e; cases e
    · rw [if_neg q] at e
      rw [valV_neg (p := (j, v)) q]; exact RK.valNone h2 e
theorem RK.valSome : ∀ {kvs : List (κ × D)} {l : List (κ × V)} {k : κ} {d : D}, RK K ρ H kvs l → valD kvs k = some d → ∃ v, valV l k = some v ∧ RD K ρ H d v
  | [], _, _, _, _, e => nomatch e
  | (j, d) :: r, _, k, d', h, e => by
    obtain ⟨v, s, rfl, h1, h2⟩ := h
    unfold valD at e
    by_cases q : j = k
    · rw [if_pos q] at e; cases e
      exact ⟨v, valV_pos (p := (j, v)) q, h1⟩
    · rw [if_neg q] at e
      obtain ⟨w, e1, e2⟩ := RK.valSome h2 e
      exact ⟨w, by rw [valV_neg (p := (j, v)) q]; exact e1, e2⟩
theorem RK.rep {k : κ} {d : D} {v : V} (hd : RD K ρ H d v) : ∀ {kvs : List (κ × D)} {l : List (κ × V)}, RK K ρ H kvs l → RK K ρ H (repD kvs k d) (l.map fun kv => if kv.1 = k then (kv.1, v) else kv)
  | [], _, h => by cases h; rfl
  | (j, e) :: r, _, h => by
    obtain ⟨w, s, rfl, h1, h2⟩ := h
    refine ⟨if j = k then v else w, _, ?_, ?_, RK.rep hd h2⟩
    · rw [List.map_cons]; by_cases q : j = k
      · rw [if_pos q, if_pos q]
      · rw [if_neg q, if_neg q]
    · by_cases q : j = k
      · rw [if_pos q, if_pos q]; exact hd
      · rw [if_neg q, if_neg q]; exact h1
theorem RK.app : ∀ {kvs es : List (κ × D)} {l m : List (κ × V)}, RK K ρ H kvs l → RK K ρ H es m → RK K ρ H (kvs ++ es) (l ++ m)
  | [], _, _, _, h, h' => by cases h; exact h'
  | (j, e) :: r, _, _, _, h, h' => by
    obtain ⟨w, s, rfl, h1, h2⟩ := h
    exact ⟨w, s ++ _, rfl, h1, RK.app h2 h'⟩
theorem RK.put {kvs : List (κ × D)} {l : List (κ × V)} {k : κ} {d : D} {v : V} (h : RK K ρ H kvs l) (hd : RD K ρ H d v) : RK K ρ H (putD kvs k d) (putK l k v) := by
  unfold putD putK
  rw [valV_any]
  cases e : valD kvs k with
  | none => rw [h.valNone e]; exact h.app ⟨v, [], rfl, hd, rfl⟩
  | some d' =>
    obtain ⟨w, e1, _⟩ := h.valSome e
    rw [e1]; exact h.rep hd
theorem RK.drop {k : κ} : ∀ {kvs : List (κ × D)} {l : List (κ × V)}, RK K ρ H kvs l → RK K ρ H (dropD kvs k) (dropK l k)
  | [], _, h => by cases h; rfl
  | (j, e) :: r, _, h => by
    obtain ⟨w, s, rfl, h1, h2⟩ := h
    unfold dropD
    by_cases q : j = k
    · rw [if_pos q, dropK_pos (p := (j, w)) q]; exact RK.drop h2
    · rw [if_neg q, dropK_neg (p := (j, w)) q]; exact ⟨w, _, rfl, h1, RK.drop h2⟩
theorem RK.keys : ∀ {kvs : List (κ × D)} {l : List (κ × V)}, RK K ρ H kvs l → l.map (·.1) = kvs.map (·.1)
  | [], _, h => by cases h; rfl
  | (j, e) :: r, _, h => by
    obtain ⟨w, s, rfl, h1, h2⟩ := h
    rw [List.map_cons, List.map_cons, RK.keys h2]
theorem RK.get : ∀ {kvs : List (κ × D)} {l : List (κ × V)} {i : Nat} {p : κ × V}, RK K ρ H kvs l → l[i]? = some p → ∃ d, kvs[i]? = some (p.1, d) ∧ RD K ρ H d p.2
  | [], _, _, _, h, e => by cases h; simp at e
  | (j, d) :: r, _, 0, _, h, e => by
    obtain ⟨w, s, rfl, h1, h2⟩ := h
    simp at e; subst e; exact ⟨d, rfl, h1⟩
  | (j, d) :: r, _, i + 1, _, h, e => by
    obtain ⟨w, s, rfl, h1, h2⟩ := h
    obtain ⟨d', e1, e2⟩ := RK.get h2 (by simpa using e)
    exact ⟨d', by simpa using e1, e2⟩
end
/-- a value as a key: an int, a text; a tuple of them -/
def keyD : D → Option Key
  | .int i => some (.inl i)
  | .str x => some (.inr x)
  | _ => none
def keysD : List D → Option (List Key)
  | [] => some []
  | d :: ds => match keyD d, keysD ds with
    | some k, some ks => some (k :: ks)
    | _, _ => none
def dKey : Key → D
  | .inl i => .int i
  | .inr x => .str x
theorem keyD_ok {K : PySem.W.Frag} {ρ : List Addr} {H : Hp} {d : D} {v : V} {k : Key} (h : RD K ρ H d v) (e : keyD d = some k) : v = kV k := by
  cases d with
  | int i => cases e; exact h
  | str i => cases e; exact h
  | _ => cases e
theorem keysD_ok {K : PySem.W.Frag} {ρ : List Addr} {H : Hp} : ∀ {ds : List D} {vs : List V} {ks : List Key}, RDs K ρ H ds vs → keysD ds = some ks → vs = ks.map kV
  | [], _, _, h, e => by cases e; exact h
  | d :: ds, _, _, h, e => by
    obtain ⟨x, r, rfl, h1, h2⟩ := h
    unfold keysD at e
    split at e
    · rename_i k ks e1 e2
      cases e
      rw [keyD_ok h1 e1, keysD_ok h2 e2]; rfl
    · cases e
theorem dKey_ok {K : PySem.W.Frag} {ρ : List Addr} {H : Hp} (k : Key) : RD K ρ H (dKey k) (kV k) := by
  cases k <;> rfl
theorem dKeys_ok {K : PySem.W.Frag} {ρ : List Addr} {H : Hp} : ∀ ks : List Key, RDs K ρ H (ks.map dKey) (ks.map kV)
  | [] => rfl
  | k :: ks => ⟨_, _, rfl, dKey_ok k, dKeys_ok ks⟩

/-- what d[k] gives: none: no such dict or key kind; some none: not there -/
def getN (N : NH) (n : Nat) (k : D) : Option (Option D) := match N[n]? with
  | some (.dK kvs) | some (.fK kvs) => match keyD k with
    | some k => some (valD kvs k)
    | none => none
  | some (.dT kvs) | some (.fT kvs) => match k with
    | .tup ks => match keysD ks with
      | some ks => some (valD kvs ks)
      | none => none
    | _ => none
  | _ => none
section
variable {K : PySem.W.Frag} {C : NC} {ρ : List Addr} {N : NH} {H : Hp}
theorem getN_ok {n : Nat} {k : D} {x y : V} {o : Option D} (R : NRel K C ρ N H) (rx : RD K ρ H (.ref n) x) (ry : RD K ρ H k y) (e : getN N n k = some o) :
    ∃ a r, x = .ref a ∧ DGet H a y r ∧ (o = none → r = none) ∧ ∀ d, o = some d → ∃ v, r = some v ∧ RD K ρ H d v := by
  obtain ⟨a, rfl, ha⟩ := rx
  have fin : ∀ {κ : Type} [DecidableEq κ] {kvs : List (κ × D)} {l : List (κ × V)} {kk : κ}, RK K ρ H kvs l → valD kvs kk = o → (o = none → valV l kk = none) ∧ ∀ d, o = some d → ∃ v, valV l kk = some v ∧ RD K ρ H d v :=
    fun {κ _ kvs l kk} r q => ⟨fun z => r.valNone (q.trans z), fun d z => r.valSome (q.trans z)⟩
  unfold getN at e
  split at e
  · rename_i kvs hN
    obtain ⟨l, h1, h2⟩ := R.obj n a _ ha hN
    split at e
    · rename_i kk hk
      cases e
      obtain ⟨f1, f2⟩ := fin h2 rfl
      exact ⟨a, _, rfl, .inl ⟨l, kk, .inl h1, keyD_ok ry hk, rfl⟩, f1, f2⟩
    · cases e
  · rename_i kvs hN
    obtain ⟨ob, l, h1, h2⟩ := R.obj n a _ ha hN
    split at e
    · rename_i kk hk
      cases e
      obtain ⟨f1, f2⟩ := fin h2 rfl
      exact ⟨a, _, rfl, .inl ⟨l, kk, .inr ⟨ob, h1⟩, keyD_ok ry hk, rfl⟩, f1, f2⟩
    · cases e
  · rename_i kvs hN
    obtain ⟨l, h1, h2⟩ := R.obj n a _ ha hN
    split at e
    · split at e
      · rename_i ks' kk hk
        cases e
        obtain ⟨b, xs, rfl, tb, rb⟩ := ry
        obtain ⟨f1, f2⟩ := fin h2 rfl
        exact ⟨a, _, rfl, .inr ⟨l, kk, b, .inl h1, rfl, by rw [← keysD_ok rb hk]; exact tb.2, rfl⟩, f1, f2⟩
      · cases e
    · cases e
  · rename_i kvs hN
    obtain ⟨ob, l, h1, h2⟩ := R.obj n a _ ha hN
    split at e
    · split at e
      · rename_i ks' kk hk
        cases e
        obtain ⟨b, xs, rfl, tb, rb⟩ := ry
        obtain ⟨f1, f2⟩ := fin h2 rfl
        exact ⟨a, _, rfl, .inr ⟨l, kk, b, .inr ⟨ob, h1⟩, rfl, by rw [← keysD_ok rb hk]; exact tb.2, rfl⟩, f1, f2⟩
      · cases e
    · cases e
  · cases e
end

/-! ### in -/
def flatD : D → Bool
  | .non | .bl _ | .int _ | .str _ => true
  | _ => false
def inN (N : NH) (x : D) : D → Option Bool
  | .ref n => match N[n]? with
    | some (.lst l) => if okD x && okDs l then some (l.any fun z => eqD z x) else none
    | _ => (getN N n x).map (·.isSome)
  | .tup l | .ctup l => if flatD x && l.all flatD then some (l.any fun z => eqD z x) else none
  | .str s => match x with
    | .str z => match z.cps.toList with
      | [c] => some (decide (c ∈ s.cps.toList))
      | _ => none
    | _ => none
  | _ => none
def fIn : D → D → NH → R D := fun x y N => match inN N x y with | some b => .ok (.bl b) N | none => .bad
def fNotIn : D → D → NH → R D := fun x y N => match inN N x y with | some b => .ok (.bl (!b)) N | none => .bad
theorem flatD_ok {K : PySem.W.Frag} {ρ : List Addr} {H : Hp} {d : D} {v : V} (h : RD K ρ H d v) (f : flatD d = true) : flatV v = true := by
  cases d with
  | non => rw [show v = _ from h]; rfl
  | bl _ => rw [show v = _ from h]; rfl
  | int _ => rw [show v = _ from h]; rfl
  | str _ => rw [show v = _ from h]; rfl
  | _ => cases f
theorem eqV_ok {K : PySem.W.Frag} {ρ : List Addr} {H : Hp} {d e : D} {v w : V} (h : RD K ρ H d v) (h' : RD K ρ H e w) (f : flatD d = true) (f' : flatD e = true) : eqV v w = eqD d e := by
  cases d with
  | non => cases e with
    | non => rw [show v = _ from h, show w = _ from h']; simp only [eqV, eqD]
    | bl _ => rw [show v = _ from h, show w = _ from h']; simp only [eqV, eqD]
    | int _ => rw [show v = _ from h, show w = _ from h']; simp only [eqV, eqD]
    | str _ => rw [show v = _ from h, show w = _ from h']; simp only [eqV, eqD]
    | _ => cases f'
  | bl _ => cases e with
    | non => rw [show v = _ from h, show w = _ from h']; simp only [eqV, eqD]
    | bl _ => rw [show v = _ from h, show w = _ from h']; simp only [eqV, eqD]
    | int _ => rw [show v = _ from h, show w = _ from h']; simp only [eqV, eqD]
    | str _ => rw [show v = _ from h, show w = _ from h']; simp only [eqV, eqD]
    | _ => cases f'
  | int _ => cases e with
    | non => rw [show v = _ from h, show w = _ from h']; simp only [eqV, eqD]
    | bl _ => rw [show v = _ from h, show w = _ from h']; simp only [eqV, eqD]
    | int _ => rw [show v = _ from h, show w = _ from h']; simp only [eqV, eqD]
    | str _ => rw [show v = _ from h, show w = _ from h']; simp only [eqV, eqD]
    | _ => cases f'
  | str _ => cases e with
    | non => rw [show v = _ from h, show w = _ from h']; simp only [eqV, eqD]
    | bl _ => rw [show v = _ from h, show w = _ from h']; simp only [eqV, eqD]
    | int _ => rw [show v = _ from h, show w = _ from h']; simp only [eqV, eqD]
    | str _ => rw [show v = _ from h, show w = _ from h']; simp only [eqV, eqD]
    | _ => cases f'
  | _ => cases f
theorem inV_ok {K : PySem.W.Frag} {ρ : List Addr} {H : Hp} {d : D} {v : V} (h : RD K ρ H d v) (f : flatD d = true) : ∀ {l : List D} {xs : List V}, RDs K ρ H l xs → l.all flatD = true → xs.all flatV = true ∧ inV v xs = l.any fun z => eqD z d
  | [], _, r, _ => by cases r; exact ⟨rfl, rfl⟩
  | e :: l, _, r, q => by
    obtain ⟨x, s, rfl, h1, h2⟩ := r
    obtain ⟨q1, q2⟩ := Bool.and_eq_true_iff.mp (show (flatD e && l.all flatD) = true from by simpa using q)
    obtain ⟨i1, i2⟩ := inV_ok h f h2 q2
    refine ⟨by rw [List.all_cons, flatD_ok h1 q1, i1]; rfl, ?_⟩
    show (eqV x v || inV v s) = (eqD e d || l.any fun z => eqD z d)
    rw [eqV_ok h1 h q1 f, i2]
theorem any_toPys : ∀ {l : List D} {x : D}, plain x = true → plains l = true → ((toPys l).any fun z => PyData.eqv z (toPy x)) = l.any fun z => eqD z x
  | [], _, _, _ => by simp [toPys]
  | e :: l, x, p, q => by
    obtain ⟨q1, q2⟩ := Bool.and_eq_true_iff.mp (show (plain e && plains l) = true from q)
    simp only [toPys, List.any_cons, eqv_toPy e x q1 p, any_toPys p q2]
def rInA (K : PySem.W.Frag) : R2 := fun x y H Q => rInD K x y H Q ∨ rIn K false x y H Q ∨ (∃ (c : Nat) (z : Str), x = .str ⟨#[c]⟩ ∧ y = .str z ∧ Q (.bl (decide (c ∈ z.cps.toList))) H) ∨ ∃ a o, y = .ref a ∧ DGet H a x o ∧ Q (.bl o.isSome) H
def rNotInA (K : PySem.W.Frag) : R2 := fun x y H Q => rNotInD K x y H Q ∨ rIn K true x y H Q ∨ (∃ (c : Nat) (z : Str), x = .str ⟨#[c]⟩ ∧ y = .str z ∧ Q (.bl (!decide (c ∈ z.cps.toList))) H) ∨ ∃ a o, y = .ref a ∧ DGet H a x o ∧ Q (.bl (!o.isSome)) H
theorem op_in_dict {X : Cx} (hu : X.A.units + 1 < cLine) : OpR X (compareOp .In) (fun x y H Q => ∃ a o, y = .ref a ∧ DGet H a x o ∧ Q (.bl o.isSome) H) := by
  intro pins s σ H x y v u Q I rx ry h
  obtain ⟨a, o, rfl, g, q⟩ := h
  obtain rfl : u = Value.ref a := ry
  exact d_in hu I g rx fun s3 I3 => ⟨.bl o.isSome, H, I3, rfl, q⟩
theorem op_notIn_dict {X : Cx} (hu : X.A.units + 1 < cLine) : OpR X (compareOp .NotIn) (fun x y H Q => ∃ a o, y = .ref a ∧ DGet H a x o ∧ Q (.bl (!o.isSome)) H) := by
  intro pins s σ H x y v u Q I rx ry h
  obtain ⟨a, o, rfl, g, q⟩ := h
  obtain rfl : u = Value.ref a := ry
  exact d_notIn hu I g rx fun s3 I3 => ⟨.bl (!o.isSome), H, I3, rfl, q⟩
theorem opIn {X : Cx} (hu : X.A.units + 65 < cLine) : OpR X (compareOp .In) (rInA X.K) := (op_inD hu).or (op_in_seq.or (op_in_sign.or (op_in_dict (by omega))))
theorem opNotIn {X : Cx} (hu : X.A.units + 65 < cLine) : OpR X (compareOp .NotIn) (rNotInA X.K) := (op_notInD hu).or (op_notIn_seq.or (op_notIn_sign.or (op_notIn_dict (by omega))))
/-- the four roads of in -/
theorem snd_inN {K : PySem.W.Frag} {C : NC} {ρ : List Addr} {N : NH} {H : Hp} {d e : D} {x y : V} {b : Bool} (R : NRel K C ρ N H) (rd : RD K ρ H d x) (re : RD K ρ H e y) (q : inN N d e = some b) :
    (∃ p ds, Dp K H x p ∧ Dp K H y (.list ds) ∧ SeqAt.shaped p = true ∧ SeqAt.shaped (.list ds) = true ∧ b = (ds.any fun z => PyData.eqv z p)) ∨
    (∃ p xs, y = .ref p ∧ (SqL K H p xs ∨ SqT K H p xs) ∧ flatV x = true ∧ xs.all flatV = true ∧ b = inV x xs) ∨
    (∃ (c : Nat) (z : Str), x = .str ⟨#[c]⟩ ∧ y = .str z ∧ b = decide (c ∈ z.cps.toList)) ∨ ∃ a o, y = .ref a ∧ DGet H a x o ∧ b = o.isSome := by
  unfold inN at q
  split at q
  · rename_i n
    split at q
    · rename_i l hN
      split at q
      · rename_i h
        cases q
        obtain ⟨h1, h2⟩ := Bool.and_eq_true_iff.mp h
        obtain ⟨a, xs, rfl, _, ha, ra⟩ := R.lst re hN
        have p1 := (Bool.and_eq_true_iff.mp h1).1
        have p2 := (Bool.and_eq_true_iff.mp h2).1
        exact .inl ⟨toPy d, toPys l, RD.dp d p1 rd, .lst (SqL.of ha) (RDs.dp l p2 ra), okD_shaped h1, okDs_shaped h2, (any_toPys p1 p2).symm⟩
      · cases q
    · cases g : getN N n d with
      | none => rw [g] at q; cases q
      | some o =>
        rw [g] at q; cases q
        obtain ⟨a, r, e1, e2, e3, e4⟩ := getN_ok R re rd g
        refine .inr (.inr (.inr ⟨a, r, e1, e2, ?_⟩))
        cases o with
        | none => rw [e3 rfl]; rfl
        | some d' => obtain ⟨v, ev, _⟩ := e4 d' rfl; rw [ev]; rfl
  · split at q
    · rename_i h
      cases q
      obtain ⟨h1, h2⟩ := Bool.and_eq_true_iff.mp h
      obtain ⟨a, xs, rfl, ta, ra⟩ := re
      obtain ⟨i1, i2⟩ := inV_ok rd h1 ra h2
      exact .inr (.inl ⟨a, xs, rfl, .inr ta.sq, flatD_ok rd h1, i1, i2.symm⟩)
    · cases q
  · split at q
    · rename_i h
      cases q
      obtain ⟨h1, h2⟩ := Bool.and_eq_true_iff.mp h
      obtain ⟨a, xs, rfl, ta, ra⟩ := re
      obtain ⟨i1, i2⟩ := inV_ok rd h1 ra h2
      exact .inr (.inl ⟨a, xs, rfl, .inr ta.sq, flatD_ok rd h1, i1, i2.symm⟩)
    · cases q
  · split at q
    · split at q
      · rename_i _ z _ c hz
        cases q
        refine .inr (.inr (.inl ⟨c, _, ?_, re, rfl⟩))
        rw [show x = _ from rd]
        have : z = ⟨#[c]⟩ := by cases z with | mk a => cases a with | mk l => simp at hz; subst hz; rfl
        rw [this]
      · cases q
    · cases q
  · cases q
theorem sndIn {K : PySem.W.Frag} {C : NC} : Snd2 K C fIn (rInA K) := by
  intro W ρ N H σ d e x y Q R rd re q
  unfold fIn at q
  split at q
  · rename_i b hb
    have q' := q.ok (b := V.bl b) R rfl
    rcases snd_inN R rd re hb with ⟨p, ds, h1, h2, h3, h4, rfl⟩ | ⟨p, xs, h1, h2, h3, h4, rfl⟩ | ⟨c, z, h1, h2, rfl⟩ | ⟨a, o, h1, h2, rfl⟩
    · exact .inl ⟨p, ds, h1, h2, h3, h4, q'⟩
    · exact .inr (.inl ⟨p, xs, h1, h2, h3, h4, q'⟩)
    · exact .inr (.inr (.inl ⟨c, z, h1, h2, q'⟩))
    · exact .inr (.inr (.inr ⟨a, o, h1, h2, q'⟩))
  · exact q.elim
theorem sndNotIn {K : PySem.W.Frag} {C : NC} : Snd2 K C fNotIn (rNotInA K) := by
  intro W ρ N H σ d e x y Q R rd re q
  unfold fNotIn at q
  split at q
  · rename_i b hb
    have q' := q.ok (b := V.bl (!b)) R rfl
    rcases snd_inN R rd re hb with ⟨p, ds, h1, h2, h3, h4, rfl⟩ | ⟨p, xs, h1, h2, h3, h4, rfl⟩ | ⟨c, z, h1, h2, rfl⟩ | ⟨a, o, h1, h2, rfl⟩
    · exact .inl ⟨p, ds, h1, h2, h3, h4, q'⟩
    · exact .inr (.inl ⟨p, xs, h1, h2, h3, h4, q'⟩)
    · exact .inr (.inr (.inl ⟨c, z, h1, h2, q'⟩))
    · exact .inr (.inr (.inr ⟨a, o, h1, h2, q'⟩))
  · exact q.elim

/-! ### subscripts -/
def atD (l : List D) (i : Int) : Option D := (ixN l.length i).bind fun j => l[j]?
def getIx (N : NH) : D → D → Option D
  | .ref n, k => match N[n]?, k with
    | some (.lst l), .int i => atD l i
    | some (.lst _), _ => none
    | _, _ => (getN N n k).join
  | .tup l, .int i | .ctup l, .int i | .lsc l, .int i => atD l i
  | .str z, .int i => if z.length ≤ sizeLine then (atI z.cps.toList i).map fun c => .str ⟨#[c]⟩ else none
  | _, _ => none
def fGet : D → D → NH → R D := fun x y N => match getIx N x y with | some d => .ok d N | none => .bad
theorem atD_ok {K : PySem.W.Frag} {ρ : List Addr} {H : Hp} {l : List D} {xs : List V} {i : Int} {d : D} (r : RDs K ρ H l xs) (e : atD l i = some d) : ∃ v, atI xs i = some v ∧ RD K ρ H d v := by
  unfold atD at e
  obtain ⟨j, h1, h2⟩ := Option.bind_eq_some_iff.mp e
  obtain ⟨v, h3, h4⟩ := r.get' h2
  refine ⟨v, ?_, h4⟩
  unfold atI
  rw [r.length, h1]; exact h3
theorem ix_dict {X : Cx} (hu : X.A.units + 1 < cLine) : IxR X (fun x y H Q => ∃ a v, x = .ref a ∧ DGet H a y (some v) ∧ Q v H) := by
  intro value slice pins s σ H x y v u Q I rx ry h hs
  obtain ⟨a, w, rfl, g, q⟩ := h
  obtain rfl : v = Value.ref a := rx
  have hT := dict_typeIs I g
  unfold subscriptTail
  refine wpAny_bind ?_
  rw [getitemInPython_of_ne hT.not_modules]
  refine wpAny_bind (wpAny_specialOf hT PySem.F.slot_dict_getitem.lookup ?_)
  have fin : wpAny (model X.prog X.w) X.A (subscripted slice false (.ref a) u) (fun r s₃ => wpAny (model X.prog X.w) X.A (letTemporaryGo value (.ref a) r >>= fun _ => pure r) (EP X pins σ Q) X.xe s₃) X.xe s := by
    rw [hs]
    exact wpAny_operating (wpAny_mono (d_getItem (Q := EP X pins σ Q) hu I g ry fun w' s3 I3 rw' => ⟨w, H, I3, rw', q⟩) (fun r s₃ h₃ => wpAny_bind (wpAny_letTemporaryGo (wpAny_pure h₃))) fun _ _ x => x)
  first
    | exact wpAny_pure (wpAny_bind fin)
    | exact wpAny_bind (wpAny_pure (wpAny_bind fin))
    | exact wpAny_bind fin
def rGet (K : PySem.W.Frag) : R2 := fun x y H Q => rIx K x y H Q ∨ ∃ a v, x = .ref a ∧ DGet H a y (some v) ∧ Q v H
theorem ixGet {X : Cx} (hu : X.A.units + 1 < cLine) : IxR X (rGet X.K) := ix_seq.or (ix_dict hu)
theorem sndGet {K : PySem.W.Frag} {C : NC} : Snd2 K C fGet (rGet K) := by
  intro W ρ N H σ d e x y Q R rd re q
  unfold fGet at q
  split at q
  · rename_i b hb
    unfold getIx at hb
    split at hb
    · split at hb
      · rename_i n _ _ l i hN
        obtain ⟨a, xs, rfl, _, ha, ra⟩ := R.lst rd hN
        obtain ⟨v, h1, h2⟩ := atD_ok ra hb
        exact .inl (.inl ⟨a, xs, _, v, rfl, re, SqL.of ha, h1, q.ok R h2⟩)
      · cases hb
      · have h1 := Option.join_eq_some_iff.mp hb
        obtain ⟨a, r, e1, e2, _, e4⟩ := getN_ok R rd re h1
        obtain ⟨v, ev, rv⟩ := e4 b rfl
        subst ev
        exact .inr ⟨a, v, e1, e2, q.ok R rv⟩
    · obtain ⟨a, xs, rfl, ta, ra⟩ := rd
      obtain ⟨v, h1, h2⟩ := atD_ok ra hb
      exact .inl (.inr (.inl ⟨a, xs, _, v, rfl, re, ta.sq, h1, q.ok R h2⟩))
    · obtain ⟨a, xs, rfl, ta, ra⟩ := rd
      obtain ⟨v, h1, h2⟩ := atD_ok ra hb
      exact .inl (.inr (.inl ⟨a, xs, _, v, rfl, re, ta.sq, h1, q.ok R h2⟩))
    · obtain ⟨a, xs, rfl, ta, ra⟩ := rd
      obtain ⟨v, h1, h2⟩ := atD_ok ra hb
      exact .inl (.inl ⟨a, xs, _, v, rfl, re, ta.sq, h1, q.ok R h2⟩)
    · split at hb
      · rename_i hz
        obtain ⟨c, h1, h2⟩ := Option.map_eq_some_iff.mp hb
        subst h2
        exact .inl (.inr (.inr ⟨_, _, c, rd, re, hz, h1, q.ok R rfl⟩))
      · cases hb
    · cases hb
  · exact q.elim
theorem n_get {X : Cx} {C : NC} {W : WX} {a b : Expr} {pos : Pos} {ma mb : NE} (hu : X.A.units + 1 < cLine) (ha : PE X a (tE X.K C W ma)) (hb : PE X b (tE X.K C W mb)) (hs : PlainIx b) : PE X (.Subscript a b pos) (tE X.K C W (nOp2 fGet ma mb)) :=
  pe_weak (pe_ix (ixGet hu) ha hb hs) fun σ H Q q => snd_op sndGet q

/-! ### slices -/
def cutD (l : List D) (lo hi : Option Int) : List D := (l.drop (HT.sIx l.length 0 lo)).take (HT.sIx l.length l.length hi - HT.sIx l.length 0 lo)
def fCut (x : D) (lo hi : Option Int) (N : NH) : R D := match x with
  | .tup l => .ok (.tup (cutD l lo hi)) N
  | .str z => if z.length ≤ sizeLine then .ok (.str (cutS z lo hi)) N else .bad
  | .lsc l => N.new (.lst (cutD l lo hi))
  | .ref n => match N[n]? with
    | some (.lst l) => N.new (.lst (cutD l lo hi))
    | _ => .bad
  | _ => .bad
abbrev NO := NEnv → NH → R (Option Int)
def nNoPart : NO := fun _ N => .ok none N
def nPart (a : NE) : NO := fun σ N => (a σ N).bind fun x N => match x with | .int i => .ok (some i) N | _ => .bad
def nCut (e : NE) (lo hi : NO) : NE := fun σ N => (e σ N).bind fun x N => (lo σ N).bind fun l N => (hi σ N).bind fun u N => fCut x l u N
abbrev rOpt : List Addr → Hp → Option Int → Option Int → Prop := fun _ _ a b => b = a
def tO (K : PySem.W.Frag) (C : NC) (W : WX) (m : NO) : TO := tR rOpt K C W m
section
variable {X : Cx} {C : NC} {W : WX} {a b e : Expr} {pos p2 : Pos} {lo hi : Option Expr}
theorem po_weak {t t' : TO} {e : Option Expr} (h : PO X e t) (w : ∀ σ H Q, t' σ H Q → t σ H Q) : PO X e t' := ⟨fun pins s σ H Q I q => h.run pins s σ H Q I (w σ H Q q)⟩
theorem n_noPart : PO X none (tO X.K C W nNoPart) := po_weak po_none fun σ H Q ⟨ρ, σn, N, R, S, q⟩ => q.ok R rfl
theorem n_part {ma : NE} (ha : PE X a (tE X.K C W ma)) : PO X (some a) (tO X.K C W (nPart ma)) := po_weak (po_some ha) fun σ H Q ⟨ρ, σn, N, R, S, q⟩ => PostR.then R S q fun x H1 ρ1 N1 d E1 R1 S1 rd q1 => by
  cases d with
  | int i => exact ⟨i, rd, q1.ok R1 rfl⟩
  | _ => exact q1.elim
theorem cutD_ok {K : PySem.W.Frag} {ρ : List Addr} {H : Hp} {l : List D} {xs : List V} (r : RDs K ρ H l xs) (lo hi : Option Int) : RDs K ρ H (cutD l lo hi) (cutV xs lo hi) := by
  unfold cutD cutV
  rw [r.length]
  exact (r.drop _).take _
def rCut (K : PySem.W.Frag) : V → Option Int → Option Int → Hp → VK → Prop := fun x lo hi H Q => rSlA K x lo hi H Q ∨ rSlL K x lo hi H Q ∨ rSlS x lo hi H Q
theorem cutV_whole {xs : List V} {lo hi : Option Int} (h : HT.sIx xs.length 0 lo = 0 ∧ HT.sIx xs.length xs.length hi = xs.length) : cutV xs lo hi = xs := by
  unfold cutV
  rw [h.1, h.2, List.drop_zero, Nat.sub_zero, List.take_length]
theorem cutD_whole {l : List D} {lo hi : Option Int} (h : HT.sIx l.length 0 lo = 0 ∧ HT.sIx l.length l.length hi = l.length) : cutD l lo hi = l := by
  unfold cutD
  rw [h.1, h.2, List.drop_zero, Nat.sub_zero, List.take_length]
theorem snd_cut {K : PySem.W.Frag} {ρ : List Addr} {N : NH} {H : Hp} {σ : L2.St} {d : D} {x : V} {lo hi : Option Int} {Q : VK} (R : NRel K C ρ N H) (rd : RD K ρ H d x) (q : PostR (RD K) K C W ρ H σ Q (fCut d lo hi N)) : rCut K x lo hi H Q := by
  unfold fCut at q
  split at q
  · rename_i l
    obtain ⟨a, xs, rfl, ta, ra⟩ := rd
    refine .inl ⟨a, xs, rfl, ta.sq, fun h => ?_, fun _ p hp => q.newT R (cutD_ok ra lo hi) hp⟩
    rw [ra.length] at h
    exact q.ok R ⟨a, xs, rfl, ta, by rw [cutD_whole h]; exact ra⟩
  · split at q
    · rename_i hz
      exact .inr (.inr ⟨_, rd, hz, q.ok R rfl⟩)
    · exact q.elim
  · obtain ⟨a, xs, rfl, ta, ra⟩ := rd
    exact .inr (.inl ⟨a, xs, rfl, ta.sq, fun p hp => q.newL R (cutD_ok ra lo hi) hp⟩)
  · split at q
    · rename_i n _ l hN
      obtain ⟨a, xs, rfl, _, ha, ra⟩ := R.lst rd hN
      exact .inr (.inl ⟨a, xs, rfl, SqL.of ha, fun p hp => q.newL R (cutD_ok ra lo hi) hp⟩)
    · exact q.elim
  · exact q.elim
theorem n_cut {me : NE} {ml mh : NO} (he : PE X e (tE X.K C W me)) (hl : PO X lo (tO X.K C W ml)) (hh : PO X hi (tO X.K C W mh)) : PE X (.Subscript e (.Slice lo hi none p2) pos) (tE X.K C W (nCut me ml mh)) :=
  pe_weak (pe_slice (sl_tupA.or (sl_list.or sl_str)) he hl hh) fun σ H Q ⟨ρ, σn, N, R, S, q⟩ => PostR.then R S q fun x H1 ρ1 N1 d E1 R1 S1 rd q1 =>
    PostR.then R1 S1 q1 fun l H2 ρ2 N2 l' E2 R2 S2 rl q2 => PostR.then R2 S2 q2 fun u H3 ρ3 N3 u' E3 R3 S3 ru q3 => by
      have rl : l = l' := rl
      have ru : u = u' := ru
      subst rl ru
      exact snd_cut R3 ((rd.ext E2).ext E3) q3

/-! ### truth -/
def truN (N : NH) : D → Option Bool
  | .non => some false
  | .bl b => some b
  | .int i => some (i != 0)
  | .str z => if z.length ≤ sizeLine then some ((z.length : Int) != 0) else none
  | .tup l | .ctup l | .lsc l => some (!l.isEmpty)
  | .ref n => match N[n]? with
    | some (.lst l) => some (!l.isEmpty)
    | some (.dK l) => some (!l.isEmpty)
    | _ => none
def nTru (a : NE) : NT := fun σ N => (a σ N).bind fun x N => match truN N x with | some b => .ok b N | none => .bad
theorem truN_ok {K : PySem.W.Frag} {ρ : List Addr} {N : NH} {H : Hp} {d : D} {x : V} {b : Bool} (R : NRel K C ρ N H) (rd : RD K ρ H d x) (e : truN N d = some b) : TruV K x H b := by
  unfold truN at e
  split at e
  · cases e; rw [show x = _ from rd]; rfl
  · cases e; rw [show x = _ from rd]; rfl
  · cases e; rw [show x = _ from rd]; rfl
  · split at e
    · rename_i hz
      cases e; rw [show x = _ from rd]; exact ⟨hz, rfl⟩
    · cases e
  · cases e
    obtain ⟨a, xs, rfl, ta, ra⟩ := rd
    exact .inr (.inl ⟨xs, ta.sq, by rw [ra.empty_iff]⟩)
  · cases e
    obtain ⟨a, xs, rfl, ta, ra⟩ := rd
    exact .inr (.inl ⟨xs, ta.sq, by rw [ra.empty_iff]⟩)
  · cases e
    obtain ⟨a, xs, rfl, ta, ra⟩ := rd
    exact .inl ⟨xs, ta.sq, by rw [ra.empty_iff]⟩
  · split at e
    · rename_i n _ l hN
      cases e
      obtain ⟨a, xs, rfl, _, ha, ra⟩ := R.lst rd hN
      exact .inl ⟨xs, SqL.of ha, by rw [ra.empty_iff]⟩
    · rename_i n _ l hN
      cases e
      obtain ⟨a, rfl, ha⟩ := rd
      obtain ⟨m, h1, h2⟩ := R.obj n a _ ha hN
      have hl := h2.length
      exact .inr (.inr ⟨m, h1, by cases l <;> cases m <;> simp_all⟩)
    · cases e
theorem n_tru {ma : NE} (ha : PE X a (tE X.K C W ma)) (he : ∀ whole, isTrue a X.env whole = (do let v ← whole; standAt a.pos; holding [v] (truthy v)) := by intro _; rfl) : PT X a (tT X.K C W (nTru ma)) :=
  pt_weak (pt_truth ha he) fun σ H Q ⟨ρ, σn, N, R, S, q⟩ => PostR.then R S q fun x H1 ρ1 N1 d E1 R1 S1 rd q1 => by
    cases e : truN N1 d with
    | none => rw [e] at q1; exact q1.elim
    | some b =>
      rw [e] at q1
      exact ⟨b, truN_ok R1 rd e, q1.ok R1 rfl⟩

/-! ### and, or, not, if -/
variable {rest : List Expr}
theorem n_andT {ma mb : NT} (ha : PT X a (tT X.K C W ma)) (hb : PW X (.BoolOp .And (b :: rest) pos) (tT X.K C W mb)) : PW X (.BoolOp .And (a :: b :: rest) pos) (tT X.K C W (nAndT ma mb)) :=
  pw_weak (pw_and ha hb) fun σ H Q ⟨ρ, σn, N, R, S, q⟩ => PostR.then R S q fun x H1 ρ1 N1 d E1 R1 S1 rd q1 => by
    have rd : x = d := rd
    subst rd
    cases x with
    | true => exact iteT ⟨ρ1, σn, N1, R1, S1, q1⟩
    | false => exact iteF (q1.ok R1 rfl)
theorem n_andT1 {ma : NT} (ha : PT X a (tT X.K C W ma)) : PW X (.BoolOp .And [a] pos) (tT X.K C W ma) := pw_and1 ha
theorem n_orT {ma mb : NT} (ha : PT X a (tT X.K C W ma)) (hb : PW X (.BoolOp .Or (b :: rest) pos) (tT X.K C W mb)) : PW X (.BoolOp .Or (a :: b :: rest) pos) (tT X.K C W (nOrT ma mb)) :=
  pw_weak (pw_or ha hb) fun σ H Q ⟨ρ, σn, N, R, S, q⟩ => PostR.then R S q fun x H1 ρ1 N1 d E1 R1 S1 rd q1 => by
    have rd : x = d := rd
    subst rd
    cases x with
    | true => exact iteT (q1.ok R1 rfl)
    | false => exact iteF ⟨ρ1, σn, N1, R1, S1, q1⟩
theorem n_orT1 {ma : NT} (ha : PT X a (tT X.K C W ma)) : PW X (.BoolOp .Or [a] pos) (tT X.K C W ma) := pw_or1 ha
theorem n_notT {ma : NT} (ha : PT X a (tT X.K C W ma)) : PT X (.UnaryOp .Not a pos) (tT X.K C W (nNotT ma)) :=
  pt_weak (pt_not ha) fun σ H Q ⟨ρ, σn, N, R, S, q⟩ => PostR.then R S q fun x H1 ρ1 N1 d E1 R1 S1 rd q1 => by
    have rd : x = d := rd
    subst rd
    exact q1.ok R1 rfl
theorem n_and {ma mb : NE} (ha : PE X a (tE X.K C W ma)) (hb : PE X (.BoolOp .And (b :: rest) pos) (tE X.K C W mb)) : PE X (.BoolOp .And (a :: b :: rest) pos) (tE X.K C W (nAnd ma mb)) :=
  pe_weak (pe_and ha hb) fun σ H Q ⟨ρ, σn, N, R, S, q⟩ => PostR.then R S q fun x H1 ρ1 N1 d E1 R1 S1 rd q1 => by
    cases d with
    | bl k =>
      refine ⟨k, rd, ?_⟩
      cases k with
      | true => exact iteT ⟨ρ1, σn, N1, R1, S1, q1⟩
      | false => exact iteF (q1.ok R1 rfl)
    | _ => exact q1.elim
theorem n_or {ma mb : NE} (ha : PE X a (tE X.K C W ma)) (hb : PE X (.BoolOp .Or (b :: rest) pos) (tE X.K C W mb)) : PE X (.BoolOp .Or (a :: b :: rest) pos) (tE X.K C W (nOr ma mb)) :=
  pe_weak (pe_or ha hb) fun σ H Q ⟨ρ, σn, N, R, S, q⟩ => PostR.then R S q fun x H1 ρ1 N1 d E1 R1 S1 rd q1 => by
    cases d with
    | bl k =>
      refine ⟨k, rd, ?_⟩
      cases k with
      | true => exact iteT (q1.ok R1 rfl)
      | false => exact iteF ⟨ρ1, σn, N1, R1, S1, q1⟩
    | _ => exact q1.elim
theorem n_one {op} {ma : NE} (ha : PE X a (tE X.K C W ma)) : PE X (.BoolOp op [a] pos) (tE X.K C W ma) := pe_one ha
theorem n_not {ma : NE} (ha : PE X a (tE X.K C W ma)) : PE X (.UnaryOp .Not a pos) (tE X.K C W (nNot ma)) :=
  pe_weak (pe_not ha) fun σ H Q ⟨ρ, σn, N, R, S, q⟩ => PostR.then R S q fun x H1 ρ1 N1 d E1 R1 S1 rd q1 => by
    cases d with
    | bl k => exact ⟨k, rd, q1.ok R1 rfl⟩
    | _ => exact q1.elim
theorem n_if {c : Expr} {mc : NT} {ma mb : NE} (hc : PT X c (tT X.K C W mc)) (ha : PE X a (tE X.K C W ma)) (hb : PE X b (tE X.K C W mb)) : PE X (.IfExp c a b pos) (tE X.K C W (nIf mc ma mb)) :=
  pe_weak (pe_ifExp hc ha hb) fun σ H Q ⟨ρ, σn, N, R, S, q⟩ => PostR.then R S q fun x H1 ρ1 N1 d E1 R1 S1 rd q1 => by
    have rd : x = d := rd
    subst rd
    cases x with
    | true => exact iteT ⟨ρ1, σn, N1, R1, S1, q1⟩
    | false => exact iteF ⟨ρ1, σn, N1, R1, S1, q1⟩
end
end NY

set_option Elab.async false
set_option linter.all false
set_option maxRecDepth 100000
set_option maxHeartbeats 4000000
/-! NY5: attributes, displays, calls of defs, methods, classes -/
namespace NY
open PySem PySem.Spec PyProof.Rows L2

section
variable {X : Cx} {C : NC} {W : WX} {a b e o : Expr} {es : List Expr} {pos p apos : Pos}
theorem n_nil : PA X [] (tA X.K C W nNil) := pa_weak pa_nil fun σ H Q ⟨ρ, σn, N, R, S, q⟩ => q.ok R rfl
theorem n_cons {ma : NE} {mr : NA} (ha : PE X e (tE X.K C W ma)) (hr : PA X es (tA X.K C W mr)) (hs : starEach (e :: es) X.env = (false, eval e X.env) :: starEach es X.env := by rfl) : PA X (e :: es) (tA X.K C W (nCons ma mr)) :=
  pa_weak (pa_cons ha hr hs) fun σ H Q ⟨ρ, σn, N, R, S, q⟩ => PostR.then R S q fun x H1 ρ1 N1 d E1 R1 S1 rd q1 => PostR.then R1 S1 q1 fun xs H2 ρ2 N2 ds E2 R2 S2 rs q2 => q2.ok R2 ⟨x, xs, rfl, rd.ext E2, rs⟩

/-! ### displays -/
def nTup (m : NA) : NE := fun σ N => (m σ N).bind fun ds N => if ds.length ≤ sizeLine then .ok (.tup ds) N else .bad
def nLst (m : NA) : NE := fun σ N => (m σ N).bind fun ds N => if ds.length ≤ sizeLine then N.new (.lst ds) else .bad
theorem n_tup {k : Nat} {m : NA} (h : PA X es (tA X.K C W m)) : PE X (.Tuple es k pos) (tE X.K C W (nTup m)) :=
  pe_weak (pe_tup h) fun σ H Q ⟨ρ, σn, N, R, S, q⟩ => PostR.then R S q fun xs H1 ρ1 N1 ds E1 R1 S1 rs q1 => by
    have hl := rs.length
    split at q1
    · rename_i h
      exact ⟨by omega, fun p hp => q1.newT R1 rs hp⟩
    · exact q1.elim
theorem n_lst {m : NA} (h : PA X es (tA X.K C W m)) : PE X (.List es pos) (tE X.K C W (nLst m)) :=
  pe_weak (pe_lst h) fun σ H Q ⟨ρ, σn, N, R, S, q⟩ => PostR.then R S q fun xs H1 ρ1 N1 ds E1 R1 S1 rs q1 => by
    have hl := rs.length
    split at q1
    · rename_i h
      exact ⟨by omega, fun p hp => q1.newL R1 rs hp⟩
    · exact q1.elim
def nDK : NE := fun _ N => N.new (.dK [])
def nDT : NE := fun _ N => N.new (.dT [])
theorem n_dK : PE X (.Dict [] [] pos) (tE X.K C W nDK) := pe_weak pe_dnewK fun σ H Q ⟨ρ, σn, N, R, S, q⟩ p hp => PostR.newDK (kvs := []) (l := []) R rfl hp q
theorem n_dT : PE X (.Dict [] [] pos) (tE X.K C W nDT) := pe_weak pe_dnewT fun σ H Q ⟨ρ, σn, N, R, S, q⟩ p hp => PostR.newDT (kvs := []) (l := []) R rfl hp q

/-! ### attributes -/
def lookF (f : Nat) : List (Nat × D) → Option D
  | [] => none
  | (g, d) :: r => if g = f then some d else lookF f r
def putFD (f : Nat) (d : D) : List (Nat × D) → List (Nat × D)
  | [] => [(f, d)]
  | (g, e) :: r => if g = f then (g, d) :: r else (g, e) :: putFD f d r
theorem RF.look {K : PySem.W.Frag} {ρ : List Addr} {H : Hp} {names : List Str} (nd : names.Nodup) {f : Nat} {x : Str} (hx : names[f]? = some x) {d : D} : ∀ {fs : List (Nat × D)} {l : List (Str × V)}, RF K ρ H names fs l → lookF f fs = some d → ∃ v, l.lookup x = some v ∧ RD K ρ H d v
  | [], _, _, e => nomatch e
  | (g, d') :: r, _, h, e => by
    obtain ⟨y, v, s, rfl, h1, h2, h3⟩ := h
    unfold lookF at e
    by_cases q : g = f
    · rw [if_pos q] at e; cases e
      subst q
      rw [hx] at h1; cases h1
      exact ⟨v, by simp [List.lookup], h2⟩
    · rw [if_neg q] at e
      have ne : (x == y) = false := beq_eq_false_iff_ne.mpr fun z => q (nd_ix nd h1 (z ▸ hx))
      obtain ⟨w, e1, e2⟩ := RF.look nd hx h3 e
      exact ⟨w, by rw [List.lookup_cons, ne]; exact e1, e2⟩
theorem RF.no {K : PySem.W.Frag} {ρ : List Addr} {H : Hp} {names : List Str} {x : Str} (hx : x ∉ names) : ∀ {fs : List (Nat × D)} {l : List (Str × V)}, RF K ρ H names fs l → l.lookup x = none
  | [], _, h => by cases h; rfl
  | (g, d') :: r, _, h => by
    obtain ⟨y, v, s, rfl, h1, h2, h3⟩ := h
    have ne : (x == y) = false := beq_eq_false_iff_ne.mpr fun z => hx (z ▸ List.mem_of_getElem? h1)
    rw [List.lookup_cons, ne]; exact RF.no hx h3
theorem RF.length {K : PySem.W.Frag} {ρ : List Addr} {H : Hp} {names : List Str} : ∀ {fs : List (Nat × D)} {l : List (Str × V)}, RF K ρ H names fs l → l.length = fs.length
  | [], _, h => by cases h; rfl
  | (g, d') :: r, _, h => by
    obtain ⟨y, v, s, rfl, h1, h2, h3⟩ := h
    rw [List.length_cons, List.length_cons, RF.length h3]
theorem RF.put {K : PySem.W.Frag} {ρ : List Addr} {H : Hp} {names : List Str} (nd : names.Nodup) {f : Nat} {x : Str} (hx : names[f]? = some x) {d : D} {v : V} (hd : RD K ρ H d v) : ∀ {fs : List (Nat × D)} {l : List (Str × V)}, RF K ρ H names fs l → RF K ρ H names (putFD f d fs) (putF x v l)
  | [], _, h => by cases h; exact ⟨x, v, [], rfl, hx, hd, rfl⟩
  | (g, d') :: r, _, h => by
    obtain ⟨y, w, s, rfl, h1, h2, h3⟩ := h
    unfold putFD putF
    by_cases q : g = f
    · subst q
      rw [hx] at h1; cases h1
      rw [if_pos rfl, if_pos rfl]
      exact ⟨x, v, s, rfl, hx, hd, h3⟩
    · have ne : ¬ y = x := fun z => q (nd_ix nd h1 (z ▸ hx))
      rw [if_neg q, if_neg ne]
      exact ⟨y, w, _, rfl, h1, h2, RF.put nd hx hd h3⟩
/-- a.f of instances of the classes cs -/
def nFld (cs : List Nat) (f : Nat) (a : NE) : NE := fun σ N => (a σ N).bind fun x N => match x with
  | .ref n => match N[n]? with
    | some (.ins c fs) => if c ∈ cs then (match lookF f fs with | some d => .ok d N | none => .bad) else .bad
    | _ => .bad
  | _ => .bad
def Attr (K : PySem.W.Frag) (C : NC) (x : Str) (cs : List Nat) : Prop := ∀ c ∈ cs, Cls K (C.cls c) ∧ NoAttr K (C.cls c) x
theorem Attr.one {K : PySem.W.Frag} {C : NC} {x : Str} {c : Nat} (h : Cls K (C.cls c)) (h' : NoAttr K (C.cls c) x) : Attr K C x [c] := fun c' hc => by rw [List.mem_singleton.mp hc]; exact ⟨h, h'⟩
theorem Attr.cons {K : PySem.W.Frag} {C : NC} {x : Str} {c : Nat} {cs : List Nat} (h : Cls K (C.cls c)) (h' : NoAttr K (C.cls c) x) (r : Attr K C x cs) : Attr K C x (c :: cs) := fun c' hc => by
  rcases List.mem_cons.mp hc with e | e
  · rw [e]; exact ⟨h, h'⟩
  · exact r c' e
theorem n_fld {x : Str} {f : Nat} {cs : List Nat} {ma : NE} (hA : Attr X.K C x cs) (hx : C.names[f]? = some x) (he : PE X e (tE X.K C W ma)) (hb : attributeBase e x X.env (eval e X.env) = eval e X.env := by rfl) : PE X (.Attribute e x pos) (tE X.K C W (nFld cs f ma)) :=
  pe_weak (pe_fld he hb) fun σ H Q ⟨ρ, σn, N, R, S, q⟩ => PostR.then R S q fun v H1 ρ1 N1 d E1 R1 S1 rd q1 => by
    cases d with
    | ref n =>
      revert q1
      show PostR _ _ _ _ _ _ _ _ (match N1[n]? with
        | some (.ins c fs) => if c ∈ cs then (match lookF f fs with | some d => NY.R.ok d N1 | none => .bad) else .bad
        | _ => .bad) → _
      intro q1
      obtain ⟨a, rfl, ha⟩ := rd
      split at q1
      · rename_i c fs hN
        split at q1
        · rename_i hc
          split at q1
          · rename_i d' hd
            obtain ⟨dx, l, h1, h2⟩ := R1.obj n a _ ha hN
            obtain ⟨w, e1, rw⟩ := h2.look R1.names hx hd
            exact ⟨a, _, dx, l, w, rfl, h1, (hA c hc).1, (hA c hc).2, e1, q1.ok R1 rw⟩
          · exact q1.elim
        · exact q1.elim
      · exact q1.elim
    | _ => exact q1.elim
end

/-- a part and what follows it, its equation told -/
theorem PostR.bindE {α β γ δ : Type} {rel : List Addr → Hp → α → β → Prop} {rel' : List Addr → Hp → γ → δ → Prop} {K : PySem.W.Frag} {C : NC} {W : WX} {ρ : List Addr} {H : Hp} {σ : L2.St} {Q : δ → Hp → Prop} {r : R α} {k : α → NH → R γ} (h : PostR rel' K C W ρ H σ Q (r.bind k)) :
    PostR rel K C W ρ H σ (fun b H1 => ∃ a ρ1 N1, Ext ρ H ρ1 H1 ∧ NRel K C ρ1 N1 H1 ∧ rel ρ1 H1 a b ∧ PostR rel' K C W ρ1 H1 σ Q (k a N1) ∧ r = .ok a N1) r := by
  cases r with
  | ok d N => exact fun v H' ρ' e n q => ⟨d, ρ', N, e, n, q, PostR.ext e h, rfl⟩
  | exc x N => exact h
  | bad => exact h
/-! ### promises of defs -/
/-- what a def promises: what the nice function says -/
def spN (K : PySem.W.Frag) (C : NC) (n : Nat) (m : NF) : Sp := fun vs H Q E => vs.length = n ∧ ∃ (ρ : List Addr) (N : NH) (ds : List D), NRel K C ρ N H ∧ RDs K ρ H ds vs ∧ PostR (RD K) K C (fun c d _ H => E c d H) ρ H [] Q (m ds N)
theorem PostR.at {α β : Type} {rel : List Addr → Hp → α → β → Prop} {K : PySem.W.Frag} {C : NC} {W : WX} {ρ : List Addr} {H : Hp} {σ : L2.St} {Q : β → Hp → Prop} {r : R α} (h : PostR rel K C W ρ H σ Q r) : PostR rel K C (fun c d _ H => W c d σ H) ρ H [] Q r := by
  cases r with
  | ok d N => exact h
  | exc x N => exact h
  | bad => exact h
section
variable (P : Program) (w : World) (K : PySem.W.Frag) (mg : Str → Option Value) (base : Heap) (C : NC)
structure FunN (k : Nat) (x : Str) (n : Nat) (m : NF) : Prop where
  ex : ∃ (f : Addr) (fd : FuncData) (ps : List Str), mg x = some (.ref f) ∧ PySem.W.keepIn K (.ref f) = true ∧ Binds K fd ps [] ∧ FnOk P w K mg base (L2.CX P w) k f fd ps (spN K C n m)
structure MthN (k : Nat) (c : Nat) (x : Str) (n : Nat) (m : NF) : Prop where
  cls : Cls K (C.cls c)
  no : x ∉ C.names
  ex : ∃ (f : Addr) (fd : FuncData) (ps : List Str), Meth K (C.cls c) x f ∧ Binds K fd ps [] ∧ FnOk P w K mg base (L2.CX P w) k f fd ps (spN K C n m)
structure MakN (k : Nat) (c : Nat) (x : Str) (n : Nat) (m : NF) : Prop where
  at_ : mg x = some (.ref (C.cls c))
  ex : ∃ (f : Addr) (fd : FuncData) (ps : List Str), Mk K (C.cls c) f ∧ Binds K fd ps [] ∧ FnOk P w K mg base (L2.CX P w) k f fd ps (spN K C n m)
end
/-- what a call lets out reaches the wish -/
abbrev PX (X : Cx) (W : WX) : Prop := ∀ σ, PassesAt (L2.CX X.prog X.w) X σ (WE W σ)
theorem px {X : Cx} {W : WX} (tk : Takes X W) : PX X W := fun σ => passAt tk σ
abbrev W0 : WX := fun _ _ _ _ => False
theorem px0 {X : Cx} : PX X W0 := fun _ _ _ _ _ _ _ h => by
  obtain ⟨_, _, _, _, _, _, _, _, _, _, _, _, z⟩ := h
  exact z.elim

def nCall (f : NF) (m : NA) : NE := fun σ N => (m σ N).bind fun ds N => f ds N
section
variable {X : Cx} {C : NC} {W : WX} {k n c : Nat} {x : Str} {f : NF} {p pos apos : Pos} {e o : Expr} {es : List Expr} {m : NA}
theorem n_call (F : FunN X.prog X.w X.K X.mg X.base C k x n f) (hr : Room k X.A) (hx : PX X W) (hn : (e :: es).length = n) (ha : PA X (e :: es) (tA X.K C W m)) (hg : Gl X x := by rfl)
    (hdb : (x == ("__debug__" : Str)) = false := by decide) (he : starEach (e :: es) X.env = (false, eval e X.env) :: starEach es X.env := by rfl) (hpl : (backTo pos (starEach es X.env)).any (·.1) = false := by rfl) (hm : ∀ σ N ds N', m σ N = .ok ds N' → ds.length = n) :
    PE X (.Call (.Name x p) (e :: es) [] pos) (tE X.K C W (nCall f m)) := by
  obtain ⟨fa, fd, ps, h1, h2, h3, h4⟩ := F.ex
  refine pe_weak (pe_callS h4 hr hg h1 h2 h3 hx ha hdb he hpl) fun σ H Q ⟨ρ, σn, N, R, S, q⟩ => ?_
  have hl : ∀ ds N', m σn N = .ok ds N' → ds.length = n := hm σn N
  refine ⟨ρ, σn, N, R, S, ?_⟩
  revert q
  show PostR (RD X.K) X.K C W ρ H σ Q ((m σn N).bind fun ds N => f ds N) → PostR (RDs X.K) X.K C W ρ H σ _ (m σn N)
  intro q
  cases e : m σn N with
  | ok ds N' =>
    rw [e] at q
    exact fun vs H' ρ' E' R' rs => ⟨by rw [rs.length]; exact hl ds N' e, ρ', N', ds, R', rs, (PostR.ext E' q).at⟩
  | exc x N' => rw [e] at q; exact q
  | bad => rw [e] at q; exact q
theorem nNil_len (σ : NEnv) (N : NH) (ds : List D) (N' : NH) (h : nNil σ N = .ok ds N') : ds.length = 0 := by cases h; rfl
theorem nCons_len {a : NE} {r : NA} {j : Nat} (hr : ∀ σ N ds N', r σ N = .ok ds N' → ds.length = j) (σ : NEnv) (N : NH) (ds : List D) (N' : NH) (h : nCons a r σ N = .ok ds N') : ds.length = j + 1 := by
  unfold nCons at h
  cases e : a σ N with
  | ok x N1 =>
    rw [e] at h
    replace h : ((r σ N1).bind fun xs N => NY.R.ok (x :: xs) N) = .ok ds N' := h
    cases e2 : r σ N1 with
    | ok xs N2 =>
      rw [e2] at h
      cases h
      rw [List.length_cons, hr _ _ _ _ e2]
    | exc y N2 => rw [e2] at h; cases h
    | bad => rw [e2] at h; cases h
  | exc y N2 => rw [e] at h; cases h
  | bad => rw [e] at h; cases h
theorem pe_callS0 {CX : CXT} {fa : Addr} {fd : FuncData} {ps : List Str} {sp : Sp} {E : L2.St → XK} (F : FnOk X.prog X.w X.K X.mg X.base CX k fa fd ps sp) (hr : Room k X.A) (hg : Gl X x) (hm : X.mg x = some (.ref fa)) (hk : PySem.W.keepIn X.K (.ref fa) = true) (hb : Binds X.K fd ps []) (hx : ∀ σ, PassesAt CX X σ (E σ))
    (hdb : (x == ("__debug__" : Str)) = false := by decide) : PE X (.Call (.Name x p) [] [] pos) (tCallS sp E tNil) := by
  refine ⟨fun pins s σ H Q I h => ?_⟩
  refine wpAny_Call_Name_kw (ld_glob I hg hm ?_ hdb)
  exact PySem.W.callWith_K0 I.kIn hk (run_fnS (us := []) F hr hb (hx σ) I .nil h)
theorem n_call0 (F : FunN X.prog X.w X.K X.mg X.base C k x 0 f) (hr : Room k X.A) (hx : PX X W) (hg : Gl X x := by rfl) (hdb : (x == ("__debug__" : Str)) = false := by decide) : PE X (.Call (.Name x p) [] [] pos) (tE X.K C W (nCall f nNil)) := by
  obtain ⟨fa, fd, ps, h1, h2, h3, h4⟩ := F.ex
  refine pe_weak (pe_callS0 h4 hr hg h1 h2 h3 hx hdb) fun σ H Q ⟨ρ, σn, N, R, S, q⟩ => ?_
  exact ⟨rfl, ρ, N, [], R, rfl, PostR.at (show PostR (RD X.K) X.K C W ρ H σ Q (f [] N) from q)⟩

/-! ### methods -/
/-- o.m(..): the receiver's class chooses the def -/
def nMeth (fs : List (Nat × NF)) (o : NE) (m : NA) : NE := fun σ N => (o σ N).bind fun x N => match x with
  | .ref n => match N[n]? with
    | some (.ins c _) => match fs.find? (fun p => decide (p.1 = c)) with
      | some (_, f) => (m σ N).bind fun ds N => f (x :: ds) N
      | none => .bad
    | _ => .bad
  | _ => .bad
/-- the receiver is of one of the classes, each with its def -/
def MthsN (X : Cx) (C : NC) (k : Nat) (x : Str) (n : Nat) (fs : List (Nat × NF)) : Prop := ∀ p ∈ fs, MthN X.prog X.w X.K X.mg X.base C k p.1 x n p.2
theorem MthsN.nil {X : Cx} : MthsN X C k x n [] := fun p h => nomatch h
theorem MthsN.cons {X : Cx} {fs : List (Nat × NF)} (h : MthN X.prog X.w X.K X.mg X.base C k c x n f) (r : MthsN X C k x n fs) : MthsN X C k x n ((c, f) :: fs) := fun p hp => by
  rcases List.mem_cons.mp hp with e | e
  · rw [e]; exact h
  · exact r p e
theorem MthN.mono {P : Program} {w : World} {K : PySem.W.Frag} {mg : Str → Option Value} {base : Heap} {j : Nat} (h : MthN P w K mg base C j c x n f) (l : j ≤ k) : MthN P w K mg base C k c x n f :=
  ⟨h.cls, h.no, let ⟨fa, fd, ps, a, b, d⟩ := h.ex; ⟨fa, fd, ps, a, b, d.mono l⟩⟩
theorem FunN.mono {P : Program} {w : World} {K : PySem.W.Frag} {mg : Str → Option Value} {base : Heap} {j : Nat} (h : FunN P w K mg base C j x n f) (l : j ≤ k) : FunN P w K mg base C k x n f :=
  ⟨let ⟨fa, fd, ps, a, b, d, g⟩ := h.ex; ⟨fa, fd, ps, a, b, d, g.mono l⟩⟩
theorem MakN.mono {P : Program} {w : World} {K : PySem.W.Frag} {mg : Str → Option Value} {base : Heap} {j : Nat} (h : MakN P w K mg base C j c x n f) (l : j ≤ k) : MakN P w K mg base C k c x n f :=
  ⟨h.at_, let ⟨fa, fd, ps, a, b, d⟩ := h.ex; ⟨fa, fd, ps, a, b, d.mono l⟩⟩
/-- the receiver stands, its def is found -/
def MethAt (X : Cx) (C : NC) (W : WX) (k : Nat) (x : Str) (n : Nat) (m : NA) (ρ : List Addr) (σ : L2.St) (σn : NEnv) (Q : VK) (v : V) (H1 : Hp) : Prop :=
  ∃ (ρ1 : List Addr) (N1 : NH) (j : Nat) (a : Addr) (c : Nat) (dx : Addr) (l : List (Str × V)) (f : NF), v = .ref a ∧ H1 a = some (.ins (C.cls c) dx l) ∧ l.lookup x = none ∧ MthN X.prog X.w X.K X.mg X.base C k c x (n + 1) f ∧
    NRel X.K C ρ1 N1 H1 ∧ RSt X.K ρ1 H1 σn σ ∧ RD X.K ρ1 H1 (.ref j) (.ref a) ∧ PostR (RD X.K) X.K C W ρ1 H1 σ Q ((m σn N1).bind fun ds N => f (.ref j :: ds) N)
theorem meth_at {fs : List (Nat × NF)} {mo : NE} (F : MthsN X C k x (n + 1) fs) {σ : L2.St} {H : Hp} {Q : VK} {ρ : List Addr} {σn : NEnv} {N : NH} (R : NRel X.K C ρ N H) (S : RSt X.K ρ H σn σ) (q : PostR (RD X.K) X.K C W ρ H σ Q (nMeth fs mo m σn N)) :
    tE X.K C W mo σ H (MethAt X C W k x n m ρ σ σn Q) := by
  refine PostR.then R S q fun v H1 ρ1 N1 d E1 R1 S1 rd q1 => ?_
  cases d with
  | ref j =>
    replace q1 : PostR (RD X.K) X.K C W ρ1 H1 σ Q (match N1[j]? with
        | some (.ins c _) => match fs.find? (fun p => decide (p.1 = c)) with
          | some (_, f) => (m σn N1).bind fun ds N => f (.ref j :: ds) N
          | none => .bad
        | _ => .bad) := q1
    obtain ⟨a, rfl, ha1⟩ := _root_.id rd
    split at q1
    · rename_i c' fl hN
      obtain ⟨dx, l, h1, h2⟩ := R1.obj j a _ ha1 hN
      split at q1
      · rename_i c2 f hf
        have hc : c2 = c' := of_decide_eq_true (List.find?_some (p := fun p : Nat × NF => decide (p.1 = c')) hf)
        subst hc
        have hM := F _ (List.mem_of_find?_eq_some hf)
        exact ⟨ρ1, N1, j, a, c2, dx, l, f, rfl, h1, h2.no hM.no, hM, R1, S1, rd, q1⟩
      · exact q1.elim
    · exact q1.elim
  | _ => exact q1.elim
theorem n_meth {fs : List (Nat × NF)} {mo : NE} {pl : Sem Bool} (F : MthsN X C k x (n + 1) fs) (hr : Room k X.A) (hx : PX X W) (he : PE X o (tE X.K C W mo)) (ha : PA X (e :: es) (tA X.K C W m)) (hm : ∀ σ N ds N', m σ N = .ok ds N' → ds.length = n)
    (hst : starEach (e :: es) X.env = (false, eval e X.env) :: starEach es X.env := by rfl) (hpl : (backTo pos (starEach es X.env)).any (·.1) = false := by rfl)
    (ht : eval (.Call (.Attribute o x apos) (e :: es) [] pos) X.env = (do
      let ov ← eval o X.env
      standAt apos.atName
      let (f, first) ← holding [ov] (getMethod ov x pl)
      callWith pos f first (backTo pos (starEach (e :: es) X.env)) (backToKw pos (keywordEach [] X.env))) := by rfl) :
    PE X (.Call (.Attribute o x apos) (e :: es) [] pos) (tE X.K C W (nMeth fs mo m)) := by
  refine ⟨fun pins s σ H Q I ⟨ρ, σn, N, R, S, q⟩ => ?_⟩
  refine PySem.W.methodCall_KW (pl := pl) (thn (he.run pins s σ H _ I (meth_at F R S q)) fun u s1 ⟨v, H1, I1, rx, ρ1, N1, j, a, c, dx, l, f, ev, h1, h2, hM, R1, S1, rd, q1⟩ => ?_) ht
  subst ev
  obtain rfl : u = Value.ref a := rx
  obtain ⟨fa, fd, ps, M, B, G⟩ := hM.ex
  refine getmeth_ok I1 h1 hM.cls M h2 ?_
  refine PySem.W.callWith_K (first := [.ref a]) (h₀ := X.base) I.ok.mod.kin M.kp (thn (ha.run pos pins s1 σ H1 _ I1 ⟨ρ1, σn, N1, R1, S1, (PostR.bindE (rel := RDs X.K) q1)⟩) fun us s2 ⟨vs, H2, I2, r, ds, ρ2, N2, E2, R2, rs, q2, em⟩ => ⟨I2.kIn, ?_⟩) hst hpl
  refine run_fnS (us := .ref a :: us) (vs := .ref a :: vs) (E := WE W) G hr B (hx σ) I2 (.cons rfl r) ⟨?_, ρ2, N2, .ref j :: ds, R2, ⟨.ref a, vs, rfl, rd.ext E2, rs⟩, q2.at⟩
  rw [List.length_cons, rs.length, hm _ _ _ _ em]
theorem n_meth0 {fs : List (Nat × NF)} {mo : NE} {pl : Sem Bool} (F : MthsN X C k x 1 fs) (hr : Room k X.A) (hx : PX X W) (he : PE X o (tE X.K C W mo))
    (ht : eval (.Call (.Attribute o x apos) [] [] pos) X.env = (do
      let ov ← eval o X.env
      standAt apos.atName
      let (f, first) ← holding [ov] (getMethod ov x pl)
      callWith pos f first (backTo pos (starEach [] X.env)) (backToKw pos (keywordEach [] X.env))) := by rfl) :
    PE X (.Call (.Attribute o x apos) [] [] pos) (tE X.K C W (nMeth fs mo nNil)) := by
  refine ⟨fun pins s σ H Q I ⟨ρ, σn, N, R, S, q⟩ => ?_⟩
  refine PySem.W.methodCall_KW (pl := pl) (thn (he.run pins s σ H _ I (meth_at (n := 0) F R S q)) fun u s1 ⟨v, H1, I1, rx, ρ1, N1, j, a, c, dx, l, f, ev, h1, h2, hM, R1, S1, rd, q1⟩ => ?_) ht
  subst ev
  obtain rfl : u = Value.ref a := rx
  obtain ⟨fa, fd, ps, M, B, G⟩ := hM.ex
  refine getmeth_ok I1 h1 hM.cls M h2 ?_
  exact PySem.W.callWith_K0 (first := [.ref a]) I1.kIn M.kp (run_fnS (us := [.ref a]) (vs := [.ref a]) (E := WE W) G hr B (hx σ) I1 (.cons rfl .nil) ⟨rfl, ρ1, N1, [.ref j], R1, ⟨.ref a, [], rfl, rd, rfl⟩, PostR.at (show PostR (RD X.K) X.K C W ρ1 H1 σ Q (f [.ref j] N1) from q1)⟩)

/-! ### objects made -/
def nMake (c : Nat) (f : NF) (m : NA) : NE := fun σ N => (m σ N).bind fun ds N => (f (.ref N.length :: ds) (N ++ [.ins c []])).bind fun d N' => if d = .non then .ok (.ref N.length) N' else .bad
theorem run_makeS {pins : List (Addr × Obj)} {σ : L2.St} {H : Hp} {s : Shared} {Q : VK} {us : List Value} {vs : List V} {CX : CXT} {Ca fa : Addr} {fd : FuncData} {ps : List Str} {sp : Sp} {E : L2.St → XK} (M : Mk X.K Ca fa) (F : FnOk X.prog X.w X.K X.mg X.base CX k fa fd ps sp) (hr : Room (k + 1) X.A) (hb : Binds X.K fd ps [])
    (hx : PassesAt CX X σ (E σ)) (I : Inv X pins σ H s) (r : Vals vs us)
    (h : ∀ x dx, H x = none → H dx = none → dx ≠ x → sp (.ref x :: vs) (upd (upd H dx (.own x)) x (.ins Ca dx [])) (fun v H2 => v = .non ∧ Q (.ref x) H2) (E σ)) :
    wpAny (model X.prog X.w) X.A (call (.ref Ca) us) (EP X pins σ Q) X.xe s := by
  have hq := h (s.heap.objs.size + 1) s.heap.objs.size (I.hok.fresh (Nat.le_succ _)) (I.hok.fresh (Nat.le_refl _)) (Nat.ne_of_lt (Nat.lt_succ_self _))
  have I2 := Inv.made (C := Ca) I
  have r2 : Vals (V.ref (s.heap.objs.size + 1) :: vs) (Value.ref (s.heap.objs.size + 1) :: us) := .cons rfl r
  have hl : (Value.ref (s.heap.objs.size + 1) :: us).length = ps.length := by
    have e := r2.length
    rw [F.len _ _ _ _ hq] at e
    exact e.symm
  have b := hb { s with heap := (s.heap.push PySem.W.emptyDict).push (PySem.W.instObj Ca s.heap.objs.size) } (Value.ref (s.heap.objs.size + 1) :: us) I2.kIn (by rw [List.append_nil]; exact hl)
  rw [List.append_nil] at b
  refine wpAny_call (make_map (f := fa) I.kIn M.makes M.init (beq_iff_eq.mp M.fn) (codeAny_mono (F.run _ X.stack _ _ ⟨Value.ref (s.heap.objs.size + 1) :: us, []⟩ (Value.ref (s.heap.objs.size + 1) :: us) _ _ (E σ) (hr.make Ca us [])
    (I2.env0.make Ca us []) b r2 hq) fun r s' hq' => ?_))
  cases r with
  | error e => exact hx pins _ _ e s' I2 hq'
  | ok fl =>
    cases fl with
    | ret u =>
      obtain ⟨v, H', I3, rv, ev, q3⟩ := I2.after hq'
      subst ev
      exact ⟨rv, ⟨V.ref (s.heap.objs.size + 1), H', I3, rfl, q3⟩⟩
    | next => exact False.elim hq'
    | brk => exact False.elim hq'
    | cont => exact False.elim hq'
def tMakeS (Ca : Addr) (sp : Sp) (E : L2.St → XK) (t : TA) : TE := fun σ H Q => t σ H fun vs H1 => ∀ x dx, H1 x = none → H1 dx = none → dx ≠ x →
  sp (.ref x :: vs) (upd (upd H1 dx (.own x)) x (.ins Ca dx [])) (fun v H2 => v = .non ∧ Q (.ref x) H2) (E σ)
theorem snd_make {σ : L2.St} {H : Hp} {Q : VK} {ρ : List Addr} {N : NH} {ds : List D} {vs : List V} {c : Nat} (R : NRel X.K C ρ N H) (rs : RDs X.K ρ H ds vs) (hn : ds.length = n)
    (q : PostR (RD X.K) X.K C W ρ H σ Q ((f (.ref N.length :: ds) (N ++ [.ins c []])).bind fun d N' => if d = .non then .ok (.ref N.length) N' else .bad)) :
    ∀ x dx, H x = none → H dx = none → dx ≠ x → spN X.K C (n + 1) f (.ref x :: vs) (upd (upd H dx (.own x)) x (.ins (C.cls c) dx [])) (fun v H2 => v = .non ∧ Q (.ref x) H2) (WE W σ) := by
  intro x dx hx hdx ne
  obtain ⟨E1, R1⟩ := R.side (u := .own x) hdx
  obtain ⟨E2, R2⟩ := R1.more (o' := .ins c []) (u := .ins (C.cls c) dx []) (show upd H dx (.own x) x = none by rw [upd_ne (Ne.symm ne)]; exact hx) fun E => ⟨dx, [], upd_same, rfl⟩
  have E3 := E1.trans E2
  refine ⟨by rw [List.length_cons, rs.length, hn], _, _, .ref N.length :: ds, R2, ⟨.ref x, vs, rfl, ⟨x, rfl, by rw [← R.len]; exact get_last⟩, RDs.ext E3 ds rs⟩, ?_⟩
  have q2 := PostR.ext E3 q
  cases e : f (.ref N.length :: ds) (N ++ [.ins c []]) with
  | ok d N' =>
    rw [e] at q2
    intro v H' ρ' E' R' rv
    by_cases hd : d = .non
    · subst hd
      exact ⟨rv, PostR.ok R' (PostR.ext E' q2) ⟨x, rfl, E'.get (by rw [← R.len]; exact get_last)⟩⟩
    · replace q2 : PostR (RD X.K) X.K C W _ _ σ Q (if d = .non then NY.R.ok (.ref N.length) N' else .bad) := q2
      rw [if_neg hd] at q2; exact q2.elim
  | exc y N' => rw [e] at q2; exact q2
  | bad => rw [e] at q2; exact q2
theorem n_make (F : MakN X.prog X.w X.K X.mg X.base C k c x (n + 1) f) (hr : Room (k + 1) X.A) (hx : PX X W) (ha : PA X (e :: es) (tA X.K C W m)) (hm : ∀ σ N ds N', m σ N = .ok ds N' → ds.length = n) (hg : Gl X x := by rfl)
    (hdb : (x == ("__debug__" : Str)) = false := by decide) (he : starEach (e :: es) X.env = (false, eval e X.env) :: starEach es X.env := by rfl) (hpl : (backTo pos (starEach es X.env)).any (·.1) = false := by rfl) :
    PE X (.Call (.Name x p) (e :: es) [] pos) (tE X.K C W (nMake c f m)) := by
  obtain ⟨fa, fd, ps, M, B, G⟩ := F.ex
  have h0 : PE X (.Call (.Name x p) (e :: es) [] pos) (tMakeS (C.cls c) (spN X.K C (n + 1) f) (WE W) (tA X.K C W m)) := by
    refine ⟨fun pins s σ H Q I h => ?_⟩
    refine wpAny_Call_Name_kw (ld_glob I hg F.at_ ?_ hdb)
    refine PySem.W.callWith_K (h₀ := X.base) I.ok.mod.kin M.kp (thn (ha.run pos pins s σ H _ I h) fun us s1 ⟨vs, H1, I1, r, q⟩ => ⟨I1.kIn, ?_⟩) he hpl
    exact run_makeS M G hr B (hx σ) I1 r q
  refine pe_weak h0 fun σ H Q ⟨ρ, σn, N, R, S, q⟩ => ⟨ρ, σn, N, R, S, (PostR.bindE (rel := RDs X.K) q).imp fun vs H1 ⟨ds, ρ1, N1, E1, R1, rs, q1, em⟩ => snd_make R1 rs (hm _ _ _ _ em) q1⟩
theorem n_make0 (F : MakN X.prog X.w X.K X.mg X.base C k c x 1 f) (hr : Room (k + 1) X.A) (hx : PX X W) (hg : Gl X x := by rfl) (hdb : (x == ("__debug__" : Str)) = false := by decide) : PE X (.Call (.Name x p) [] [] pos) (tE X.K C W (nMake c f nNil)) := by
  obtain ⟨fa, fd, ps, M, B, G⟩ := F.ex
  refine ⟨fun pins s σ H Q I ⟨ρ, σn, N, R, S, q⟩ => ?_⟩
  refine wpAny_Call_Name_kw (ld_glob I hg F.at_ ?_ hdb)
  exact PySem.W.callWith_K0 I.kIn M.kp (run_makeS (us := []) (vs := []) (E := WE W) M G hr B (hx σ) I .nil (snd_make (n := 0) (ds := []) R rfl rfl q))
end
end NY

set_option Elab.async false
set_option linter.all false
set_option maxRecDepth 100000
set_option maxHeartbeats 4000000
/-! NY6: calls of built-ins, methods of built-in types, isinstance -/
namespace NY
open PySem PySem.Spec PyProof.Rows L2

def SndN (K : PySem.W.Frag) (C : NC) (f : NF) (r : List V → Hp → VK → Prop) : Prop :=
  ∀ (W : WX) (ρ : List Addr) (N : NH) (H : Hp) (σ : L2.St) (ds : List D) (xs : List V) (Q : VK), NRel K C ρ N H → RDs K ρ H ds xs → PostR (RD K) K C W ρ H σ Q (f ds N) → r xs H Q
def SndM (K : PySem.W.Frag) (C : NC) (f : D → List D → NH → R D) (T : String) (r : V → List V → Hp → VK → Prop) : Prop :=
  ∀ (W : WX) (ρ : List Addr) (N : NH) (H : Hp) (σ : L2.St) (d : D) (ds : List D) (x : V) (xs : List V) (Q : VK), NRel K C ρ N H → RD K ρ H d x → RDs K ρ H ds xs → PostR (RD K) K C W ρ H σ Q (f d ds N) → r x xs H Q
section
variable {X : Cx} {C : NC} {W : WX} {e o : Expr} {es : List Expr} {pos p apos cpos : Pos} {x name : Str} {id T : String} {m : NA} {f : NF}
theorem n_callB {r : List V → Hp → VK → Prop} (hc : CallR X (.builtin id) r) (h : SndN X.K C f r) (hm : X.mg x = none) (hv : bootBuiltins x = some (.builtin id)) (ha : PA X (e :: es) (tA X.K C W m)) (hg : Gl X x := by rfl)
    (hn : x ≠ "__name__" := by decide) (hdb : (x == ("__debug__" : Str)) = false := by decide) (he : starEach (e :: es) X.env = (false, eval e X.env) :: starEach es X.env := by rfl) (hpl : (backTo pos (starEach es X.env)).any (·.1) = false := by rfl) :
    PE X (.Call (.Name x p) (e :: es) [] pos) (tE X.K C W (nCall f m)) :=
  pe_weak (pe_callB hc hg hm hv ha hn hdb he hpl) fun σ H Q ⟨ρ, σn, N, R, S, q⟩ => PostR.then R S q fun xs H1 ρ1 N1 ds E1 R1 S1 rs q1 => h W ρ1 N1 H1 σ ds xs Q R1 rs q1
theorem n_callTy {r : List V → Hp → VK → Prop} (hc : CallR X (.type T) r) (h : SndN X.K C f r) (hm : X.mg x = none) (hv : bootBuiltins x = some (.type T)) (ha : PA X (e :: es) (tA X.K C W m)) (hg : Gl X x := by rfl)
    (hn : x ≠ "__name__" := by decide) (hdb : (x == ("__debug__" : Str)) = false := by decide) (he : starEach (e :: es) X.env = (false, eval e X.env) :: starEach es X.env := by rfl) (hpl : (backTo pos (starEach es X.env)).any (·.1) = false := by rfl) :
    PE X (.Call (.Name x p) (e :: es) [] pos) (tE X.K C W (nCall f m)) :=
  pe_weak (pe_callTy hc hg hm hv ha hn hdb he hpl) fun σ H Q ⟨ρ, σn, N, R, S, q⟩ => PostR.then R S q fun xs H1 ρ1 N1 ds E1 R1 S1 rs q1 => h W ρ1 N1 H1 σ ds xs Q R1 rs q1
/-- of what type the receiver is seen to be -/
def tyN (N : NH) (T : String) : D → Bool
  | .str _ => T == "str"
  | .ref n => match N[n]? with
    | some (.lst _) => T == "list"
    | some (.dK _) | some (.dT _) => T == "dict"
    | _ => false
  | .ctup _ => false
  | _ => false
def nBM (T : String) (f : D → List D → NH → R D) (o : NE) (m : NA) : NE := fun σ N => (o σ N).bind fun x N => if tyN N T x = true then (m σ N).bind fun ds N => f x ds N else .bad
theorem tyN_ok {K : PySem.W.Frag} {ρ : List Addr} {N : NH} {H : Hp} {d : D} {v : V} (R : NRel K C ρ N H) (h : RD K ρ H d v) (e : tyN N T d = true) : tyV K T v H := by
  unfold tyN at e
  split at e
  · rw [show v = _ from h]; exact beq_iff_eq.mp e
  · split at e
    · rename_i n _ l hN
      obtain ⟨a, xs, rfl, _, ha, _⟩ := R.lst h hN
      exact .inl ⟨beq_iff_eq.mp e, xs, SqL.of ha⟩
    · rename_i n _ l hN
      obtain ⟨a, rfl, ha⟩ := h
      obtain ⟨l', h1, _⟩ := R.obj n a _ ha hN
      exact .inr (.inr (.inl ⟨beq_iff_eq.mp e, .inl ⟨l', h1⟩⟩))
    · rename_i n _ l hN
      obtain ⟨a, rfl, ha⟩ := h
      obtain ⟨l', h1, _⟩ := R.obj n a _ ha hN
      exact .inr (.inr (.inl ⟨beq_iff_eq.mp e, .inr ⟨l', h1⟩⟩))
    · cases e
  · cases e
  · cases e
theorem n_bm {r : V → List V → Hp → VK → Prop} {f : D → List D → NH → R D} {mo : NE} (pa : PlainAttrs T) (slot : Slot T name id) (hty : typeOf (.builtin id) = pure (.type "method_descriptor")) (hm : MtR X id r) (h : SndM X.K C f T r) (ho : PE X o (tE X.K C W mo)) (ha : PA X (e :: es) (tA X.K C W m))
    (hbase : attributeBase o name X.env (eval o X.env) = eval o X.env := by rfl)
    (hfew : ((backTo cpos (starEach (e :: es) X.env)).all (fun x => !x.1) && (backToKw cpos (keywordEach [] X.env)).all (fun x => x.1.isSome)
      && decide ((e :: es).length + ([] : List Keyword).length + (if ([] : List Keyword).isEmpty then 0 else 1) < 30)) = true := by rfl)
    (hline : (apos.endLine == cpos.line) = true := by rfl) (hs : starEach (e :: es) X.env = (false, eval e X.env) :: starEach es X.env := by rfl) (hplain : (backTo cpos (starEach es X.env)).any (·.1) = false := by rfl) :
    PE X (.Call (.Attribute o name apos) (e :: es) [] cpos) (tE X.K C W (nBM T f mo m)) :=
  pe_weak (pe_bm pa slot hty hm ho ha hbase hfew hline hs hplain) fun σ H Q ⟨ρ, σn, N, R, S, q⟩ => PostR.then R S q fun v H1 ρ1 N1 d E1 R1 S1 rd q1 => by
    split at q1
    · rename_i ht
      exact ⟨tyN_ok R1 rd ht, PostR.then R1 S1 q1 fun xs H2 ρ2 N2 ds E2 R2 S2 rs q2 => h W ρ2 N2 H2 σ d ds v xs Q R2 (rd.ext E2) rs q2⟩
    · exact q1.elim
theorem n_bm0 {r : V → List V → Hp → VK → Prop} {f : D → List D → NH → R D} {mo : NE} (pa : PlainAttrs T) (slot : Slot T name id) (hty : typeOf (.builtin id) = pure (.type "method_descriptor")) (hm : MtR X id r) (h : SndM X.K C f T r) (ho : PE X o (tE X.K C W mo))
    (hbase : attributeBase o name X.env (eval o X.env) = eval o X.env := by rfl) (hline : (apos.endLine == cpos.line) = true := by rfl) :
    PE X (.Call (.Attribute o name apos) [] [] cpos) (tE X.K C W (nBM T f mo nNil)) :=
  pe_weak (pe_bm0 pa slot hty hm ho hbase hline) fun σ H Q ⟨ρ, σn, N, R, S, q⟩ => PostR.then R S q fun v H1 ρ1 N1 d E1 R1 S1 rd q1 => by
    split at q1
    · rename_i ht
      exact ⟨tyN_ok R1 rd ht, h W ρ1 N1 H1 σ d [] v [] Q R1 rd rfl q1⟩
    · exact q1.elim
end

/-! ### what the built-ins give -/
def intsOf : List D → Option (List Int)
  | [] => some []
  | .int i :: r => (intsOf r).map (i :: ·)
  | _ :: _ => none
def strsOf : List D → Option (List Str)
  | [] => some []
  | .str i :: r => (strsOf r).map (i :: ·)
  | _ :: _ => none
def blsOf : List D → Option (List Bool)
  | [] => some []
  | .bl i :: r => (blsOf r).map (i :: ·)
  | _ :: _ => none
theorem intsOf_eq : ∀ {l : List D} {ns : List Int}, intsOf l = some ns → l = ns.map D.int
  | [], _, h => by cases h; rfl
  | .int i :: r, ns, h => by
    obtain ⟨m, h1, rfl⟩ := Option.map_eq_some_iff.mp (show (intsOf r).map (i :: ·) = some ns from h)
    rw [intsOf_eq h1]; rfl
  | .non :: _, _, h | .bl _ :: _, _, h | .str _ :: _, _, h | .tup _ :: _, _, h | .ctup _ :: _, _, h | .lsc _ :: _, _, h | .ref _ :: _, _, h => nomatch h
theorem strsOf_eq : ∀ {l : List D} {ns : List Str}, strsOf l = some ns → l = ns.map D.str
  | [], _, h => by cases h; rfl
  | .str i :: r, ns, h => by
    obtain ⟨m, h1, rfl⟩ := Option.map_eq_some_iff.mp (show (strsOf r).map (i :: ·) = some ns from h)
    rw [strsOf_eq h1]; rfl
  | .non :: _, _, h | .bl _ :: _, _, h | .int _ :: _, _, h | .tup _ :: _, _, h | .ctup _ :: _, _, h | .lsc _ :: _, _, h | .ref _ :: _, _, h => nomatch h
theorem blsOf_eq : ∀ {l : List D} {ns : List Bool}, blsOf l = some ns → l = ns.map D.bl
  | [], _, h => by cases h; rfl
  | .bl i :: r, ns, h => by
    obtain ⟨m, h1, rfl⟩ := Option.map_eq_some_iff.mp (show (blsOf r).map (i :: ·) = some ns from h)
    rw [blsOf_eq h1]; rfl
  | .non :: _, _, h | .str _ :: _, _, h | .int _ :: _, _, h | .tup _ :: _, _, h | .ctup _ :: _, _, h | .lsc _ :: _, _, h | .ref _ :: _, _, h => nomatch h
theorem intsOf_map : ∀ ns : List Int, intsOf (ns.map D.int) = some ns
  | [] => rfl
  | n :: ns => by rw [List.map_cons]; unfold intsOf; rw [intsOf_map ns]; rfl
theorem strsOf_map : ∀ ns : List Str, strsOf (ns.map D.str) = some ns
  | [] => rfl
  | n :: ns => by rw [List.map_cons]; unfold strsOf; rw [strsOf_map ns]; rfl
theorem blsOf_map : ∀ ns : List Bool, blsOf (ns.map D.bl) = some ns
  | [] => rfl
  | n :: ns => by rw [List.map_cons]; unfold blsOf; rw [blsOf_map ns]; rfl
/-- a list or tuple that can be walked -/
def seqN (N : NH) : D → Option (List D)
  | .ref n => match N[n]? with
    | some (.lst l) => some l
    | _ => none
  | .tup l | .ctup l | .lsc l => some l
  | _ => none
/-- a list -/
def lstN (N : NH) : D → Option (List D)
  | .ref n => match N[n]? with
    | some (.lst l) => some l
    | _ => none
  | .lsc l => some l
  | _ => none
section
variable {K : PySem.W.Frag} {C : NC} {ρ : List Addr} {N : NH} {H : Hp}
theorem seqN_ok {d : D} {v : V} {l : List D} (R : NRel K C ρ N H) (h : RD K ρ H d v) (e : seqN N d = some l) : ∃ a xs, v = .ref a ∧ (SqL K H a xs ∨ SqT K H a xs) ∧ RDs K ρ H l xs := by
  unfold seqN at e
  split at e
  · split at e
    · rename_i n _ l' hN
      cases e
      obtain ⟨a, xs, rfl, _, ha, ra⟩ := R.lst h hN
      exact ⟨a, xs, rfl, .inl (SqL.of ha), ra⟩
    · cases e
  · cases e
    obtain ⟨a, xs, rfl, ta, ra⟩ := h
    exact ⟨a, xs, rfl, .inr ta.sq, ra⟩
  · cases e
    obtain ⟨a, xs, rfl, ta, ra⟩ := h
    exact ⟨a, xs, rfl, .inr ta.sq, ra⟩
  · cases e
    obtain ⟨a, xs, rfl, ta, ra⟩ := h
    exact ⟨a, xs, rfl, .inl ta.sq, ra⟩
  · cases e
theorem lstN_ok {d : D} {v : V} {l : List D} (R : NRel K C ρ N H) (h : RD K ρ H d v) (e : lstN N d = some l) : ∃ a xs, v = .ref a ∧ SqL K H a xs ∧ RDs K ρ H l xs := by
  unfold lstN at e
  split at e
  · split at e
    · rename_i n _ l' hN
      cases e
      obtain ⟨a, xs, rfl, _, ha, ra⟩ := R.lst h hN
      exact ⟨a, xs, rfl, SqL.of ha, ra⟩
    · cases e
  · cases e
    obtain ⟨a, xs, rfl, ta, ra⟩ := h
    exact ⟨a, xs, rfl, ta.sq, ra⟩
  · cases e
theorem RDs.one_of {d : D} {xs : List V} (h : RDs K ρ H [d] xs) : ∃ x, xs = [x] ∧ RD K ρ H d x := by
  obtain ⟨x, r, rfl, h1, h2⟩ := h
  rw [show r = [] from h2]
  exact ⟨x, rfl, h1⟩
theorem RDs.two_of {d e : D} {xs : List V} (h : RDs K ρ H [d, e] xs) : ∃ x y, xs = [x, y] ∧ RD K ρ H d x ∧ RD K ρ H e y := by
  obtain ⟨x, r, rfl, h1, h2⟩ := h
  obtain ⟨y, rfl, h3⟩ := RDs.one_of h2
  exact ⟨x, y, rfl, h1, h3⟩
end

/-- len -/
def lenN (N : NH) : D → Option Int
  | .str z => if z.length ≤ sizeLine then some z.length else none
  | .ref n => match N[n]? with
    | some (.lst l) => some l.length
    | some (.dK l) => some l.length
    | some (.dT l) => some l.length
    | _ => none
  | .tup l | .ctup l | .lsc l => some l.length
  | _ => none
def fLen : NF
  | [d], N => match lenN N d with | some i => .ok (.int i) N | none => .bad
  | _, _ => .bad
def rLen (K : PySem.W.Frag) : List V → Hp → VK → Prop := fun xs H Q => (∃ x n, xs = [x] ∧ LenV K x H n ∧ Q (.int n) H) ∨ (∃ a kvs, xs = [V.ref a] ∧ H a = some (.dK kvs) ∧ Q (.int kvs.length) H) ∨ rLenT xs H Q
theorem crLen {X : Cx} : CallR X (.builtin "len") (rLen X.K) := call_len.or (call_lenD.or call_len_dT)
theorem sndLen {K : PySem.W.Frag} {C : NC} : SndN K C fLen (rLen K) := by
  intro W ρ N H σ ds xs Q R rs q
  unfold fLen at q
  split at q
  · rename_i d _
    obtain ⟨x, rfl, rd⟩ := rs.one_of
    split at q
    · rename_i i hi
      have q' := q.ok (b := V.int i) R rfl
      unfold lenN at hi
      split at hi
      · split at hi
        · rename_i hz
          cases hi
          exact .inl ⟨_, _, rfl, by rw [show x = _ from rd]; exact ⟨hz, rfl⟩, q'⟩
        · cases hi
      · split at hi
        · rename_i n _ l hN
          cases hi
          obtain ⟨a, us, rfl, _, ha, ra⟩ := R.lst rd hN
          exact .inl ⟨_, _, rfl, .inl ⟨us, SqL.of ha, rfl⟩, by rw [ra.length]; exact q'⟩
        · rename_i n _ l hN
          cases hi
          obtain ⟨a, rfl, ha⟩ := rd
          obtain ⟨l', h1, h2⟩ := R.obj n a _ ha hN
          exact .inr (.inl ⟨a, l', rfl, h1, by rw [h2.length]; exact q'⟩)
        · rename_i n _ l hN
          cases hi
          obtain ⟨a, rfl, ha⟩ := rd
          obtain ⟨l', h1, h2⟩ := R.obj n a _ ha hN
          exact .inr (.inr ⟨a, l', rfl, h1, by rw [h2.length]; exact q'⟩)
        · cases hi
      · cases hi
        obtain ⟨a, us, rfl, ta, ra⟩ := rd
        exact .inl ⟨_, _, rfl, .inr ⟨us, ta.sq, rfl⟩, by rw [ra.length]; exact q'⟩
      · cases hi
        obtain ⟨a, us, rfl, ta, ra⟩ := rd
        exact .inl ⟨_, _, rfl, .inr ⟨us, ta.sq, rfl⟩, by rw [ra.length]; exact q'⟩
      · cases hi
        obtain ⟨a, us, rfl, ta, ra⟩ := rd
        exact .inl ⟨_, _, rfl, .inl ⟨us, ta.sq, rfl⟩, by rw [ra.length]; exact q'⟩
      · cases hi
    · exact q.elim
  · exact q.elim
/-- abs, min, max of two -/
def fAbs : NF
  | [.int i], N => .ok (.int (if i < 0 then -i else i)) N
  | _, _ => .bad
theorem sndAbs {K : PySem.W.Frag} {C : NC} : SndN K C fAbs (fun xs H Q => ∃ i, xs = [.int i] ∧ Q (.int (if i < 0 then -i else i)) H) := by
  intro W ρ N H σ ds xs Q R rs q
  unfold fAbs at q
  split at q
  · obtain ⟨x, rfl, rd⟩ := rs.one_of
    exact ⟨_, by rw [show x = _ from rd], q.ok R rfl⟩
  · exact q.elim
/-- int -/
def fInt : NF
  | [.int i], N => .ok (.int i) N
  | [.bl k], N => .ok (.int (if k then 1 else 0)) N
  | [.str a], N => match PySem.intText? a with
    | some n => if a.length ≤ 640 then .ok (.int n) N else .bad
    | none => .bad
  | _, _ => .bad
def rInt : List V → Hp → VK → Prop := fun xs H Q => ((∃ i, xs = [.int i] ∧ Q (.int i) H) ∨ ∃ k, xs = [.bl k] ∧ Q (.int (if k then 1 else 0)) H) ∨ (∃ a n, xs = [.str a] ∧ PySem.intText? a = some n ∧ a.length ≤ 640 ∧ Q (.int n) H)
theorem crInt {X : Cx} : CallR X (.type "int") rInt := call_int1.or call_int_str
theorem sndInt {K : PySem.W.Frag} {C : NC} : SndN K C fInt rInt := by
  intro W ρ N H σ ds xs Q R rs q
  unfold fInt at q
  split at q
  · obtain ⟨x, rfl, rd⟩ := rs.one_of
    exact .inl (.inl ⟨_, by rw [show x = _ from rd], q.ok R rfl⟩)
  · obtain ⟨x, rfl, rd⟩ := rs.one_of
    exact .inl (.inr ⟨_, by rw [show x = _ from rd], q.ok R rfl⟩)
  · obtain ⟨x, rfl, rd⟩ := rs.one_of
    split at q
    · rename_i n hn
      split at q
      · rename_i hz
        exact .inr ⟨_, n, by rw [show x = _ from rd], hn, hz, q.ok R rfl⟩
      · exact q.elim
    · exact q.elim
  · exact q.elim
def fStr : NF
  | [.int i], N => if i.natAbs.log2 < 1920 then .ok (.str (toString i)) N else .bad
  | _, _ => .bad
theorem sndStr {K : PySem.W.Frag} {C : NC} : SndN K C fStr (fun xs H Q => ∃ i, xs = [.int i] ∧ i.natAbs.log2 < 1920 ∧ Q (.str (toString i)) H) := by
  intro W ρ N H σ ds xs Q R rs q
  unfold fStr at q
  split at q
  · obtain ⟨x, rfl, rd⟩ := rs.one_of
    split at q
    · rename_i h
      exact ⟨_, by rw [show x = _ from rd], h, q.ok R rfl⟩
    · exact q.elim
  · exact q.elim
/-- list -/
def fList : NF
  | [d], N => match seqN N d with
    | some l => N.new (.lst l)
    | none => match d with
      | .ref n => match N[n]? with
        | some (.dK kvs) | some (.fK kvs) => N.new (.lst (kvs.map fun p => dKey p.1))
        | some (.dT kvs) | some (.fT kvs) => N.new (.lst (kvs.map fun p => .tup (p.1.map dKey)))
        | _ => .bad
      | _ => .bad
  | _, _ => .bad
def rListA (K : PySem.W.Frag) : List V → Hp → VK → Prop := fun xs H Q => (∃ p ys, xs = [.ref p] ∧ (SqL K H p ys ∨ SqT K H p ys) ∧ ∀ l, H l = none → Q (.ref l) (upd H l (.lst ys))) ∨
  (∃ (a : Addr) (kvs : List (Key × V)), xs = [.ref a] ∧ Rd H a (.dK kvs) ∧ ∀ p, H p = none → Q (.ref p) (upd H p (.lst (kvs.map fun kv => kV kv.1)))) ∨
  (∃ d kvs, xs = [V.ref d] ∧ Rd H d (.dT kvs) ∧ ∀ p bs, H p = none → IsKeys H kvs bs → Q (.ref p) (upd H p (.lst (bs.map V.ref))))
theorem crList {X : Cx} (hc : X.calm = true) : CallR X (.type "list") (rListA X.K) := call_list_of.or ((call_listD hc).or (call_list_dT hc))
theorem RK.dkeys {K : PySem.W.Frag} {ρ : List Addr} {H : Hp} : ∀ {kvs : List (Key × D)} {l : List (Key × V)}, RK K ρ H kvs l → RDs K ρ H (kvs.map fun p => dKey p.1) (l.map fun kv => kV kv.1)
  | [], _, h => by cases h; rfl
  | (k, d) :: r, _, h => by
    obtain ⟨v, s, rfl, _, h2⟩ := h
    exact ⟨_, _, rfl, dKey_ok k, RK.dkeys h2⟩
theorem RK.tkeys {K : PySem.W.Frag} {C : NC} {ρ : List Addr} {N : NH} {H : Hp} (R : NRel K C ρ N H) : ∀ {kvs : List (List Key × D)} {l : List (List Key × V)} {bs : List Addr}, RK K ρ H kvs l → IsKeys H l bs → RDs K ρ H (kvs.map fun p => .tup (p.1.map dKey)) (bs.map V.ref)
  | [], _, _, h, hb => by cases h; cases hb; rfl
  | (k, d) :: r, _, _, h, hb => by
    obtain ⟨v, s, rfl, _, h2⟩ := h
    cases hb with
    | cons h3 h4 =>
      rename_i b bs'
      refine ⟨_, _, rfl, ⟨b, k.map kV, rfl, ⟨fun m => ?_, h3⟩, dKeys_ok k⟩, RK.tkeys R h2 h4⟩
      obtain ⟨u, e, nt, _⟩ := R.tracked m
      rw [h3] at e
      exact nt _ (Option.some.inj e).symm
theorem sndList {K : PySem.W.Frag} {C : NC} : SndN K C fList (rListA K) := by
  intro W ρ N H σ ds xs Q R rs q
  unfold fList at q
  split at q
  · obtain ⟨x, rfl, rd⟩ := rs.one_of
    split at q
    · rename_i l hl
      obtain ⟨a, us, rfl, hs, ra⟩ := seqN_ok R rd hl
      exact .inl ⟨a, us, rfl, hs, fun p hp => q.newL R ra hp⟩
    · split at q
      · rename_i n hl
        obtain ⟨a, rfl, ha⟩ := rd
        split at q
        · rename_i kvs hN
          obtain ⟨l, h1, h2⟩ := R.obj n a _ ha hN
          exact .inr (.inl ⟨a, l, rfl, .inl h1, fun p hp => q.newL R h2.dkeys hp⟩)
        · rename_i kvs hN
          obtain ⟨ob, l, h1, h2⟩ := R.obj n a _ ha hN
          exact .inr (.inl ⟨a, l, rfl, .inr ⟨ob, h1⟩, fun p hp => q.newL R h2.dkeys hp⟩)
        · rename_i kvs hN
          obtain ⟨l, h1, h2⟩ := R.obj n a _ ha hN
          exact .inr (.inr ⟨a, l, rfl, .inl h1, fun p bs hp hb => q.newL R (RK.tkeys R h2 hb) hp⟩)
        · rename_i kvs hN
          obtain ⟨ob, l, h1, h2⟩ := R.obj n a _ ha hN
          exact .inr (.inr ⟨a, l, rfl, .inr ⟨ob, h1⟩, fun p bs hp hb => q.newL R (RK.tkeys R h2 hb) hp⟩)
        · exact q.elim
      · exact q.elim
  · exact q.elim
/-- tuple -/
def fTuple : NF
  | [.tup l], N => .ok (.tup l) N
  | [d], N => match lstN N d with
    | some l => .ok (.tup l) N
    | none => .bad
  | _, _ => .bad
theorem sndTuple {K : PySem.W.Frag} {C : NC} : SndN K C fTuple (fun xs H Q => ∃ p ys, xs = [.ref p] ∧ ((SqL K H p ys ∧ ∀ l, H l = none → Q (.ref l) (upd H l (.tup ys))) ∨ (SqT K H p ys ∧ Q (.ref p) H))) := by
  intro W ρ N H σ ds xs Q R rs q
  unfold fTuple at q
  split at q
  · obtain ⟨x, rfl, rd⟩ := rs.one_of
    obtain ⟨a, us, rfl, ta, ra⟩ := _root_.id rd
    exact ⟨a, us, rfl, .inr ⟨ta.sq, q.ok R rd⟩⟩
  · obtain ⟨x, rfl, rd⟩ := rs.one_of
    split at q
    · rename_i l hl
      obtain ⟨a, us, rfl, hs, ra⟩ := lstN_ok R rd hl
      exact ⟨a, us, rfl, .inl ⟨hs, fun p hp => q.newT R ra hp⟩⟩
    · exact q.elim
  · exact q.elim
/-- dict(d) -/
def fDict : NF
  | [.ref n], N => match N[n]? with
    | some (.dK kvs) | some (.fK kvs) => N.new (.dK kvs)
    | _ => .bad
  | _, _ => .bad
theorem sndDict {K : PySem.W.Frag} {C : NC} : SndN K C fDict (fun xs H Q => ∃ (a : Addr) (kvs : List (Key × V)), xs = [.ref a] ∧ Rd H a (.dK kvs) ∧ ∀ p, H p = none → Q (.ref p) (upd H p (.dK kvs))) := by
  intro W ρ N H σ ds xs Q R rs q
  unfold fDict at q
  split at q
  · rename_i n
    obtain ⟨x, rfl, rd⟩ := rs.one_of
    obtain ⟨a, rfl, ha⟩ := rd
    split at q
    · rename_i kvs hN
      obtain ⟨l, h1, h2⟩ := R.obj n a _ ha hN
      exact ⟨a, l, rfl, .inl h1, fun p hp => q.newDK R h2 hp⟩
    · rename_i kvs hN
      obtain ⟨ob, l, h1, h2⟩ := R.obj n a _ ha hN
      exact ⟨a, l, rfl, .inr ⟨ob, h1⟩, fun p hp => q.newDK R h2 hp⟩
    · exact q.elim
  · exact q.elim
/-- sum, all, any of a list -/
def fSum : NF
  | [d], N => match (lstN N d).bind intsOf with
    | some ns => .ok (.int ns.sum) N
    | none => .bad
  | _, _ => .bad
theorem lst_ints {K : PySem.W.Frag} {C : NC} {ρ : List Addr} {N : NH} {H : Hp} {d : D} {v : V} {ns : List Int} (R : NRel K C ρ N H) (h : RD K ρ H d v) (e : (lstN N d).bind intsOf = some ns) : ∃ a, v = .ref a ∧ SqL K H a (ns.map V.int) := by
  obtain ⟨l, h1, h2⟩ := Option.bind_eq_some_iff.mp e
  obtain ⟨a, us, rfl, hs, ra⟩ := lstN_ok R h h1
  rw [intsOf_eq h2] at ra
  rw [ra.ints] at hs
  exact ⟨a, rfl, hs⟩
theorem lst_strs {K : PySem.W.Frag} {C : NC} {ρ : List Addr} {N : NH} {H : Hp} {d : D} {v : V} {ns : List Str} (R : NRel K C ρ N H) (h : RD K ρ H d v) (e : (lstN N d).bind strsOf = some ns) : ∃ a, v = .ref a ∧ SqL K H a (ns.map V.str) := by
  obtain ⟨l, h1, h2⟩ := Option.bind_eq_some_iff.mp e
  obtain ⟨a, us, rfl, hs, ra⟩ := lstN_ok R h h1
  rw [strsOf_eq h2] at ra
  rw [ra.strs] at hs
  exact ⟨a, rfl, hs⟩
theorem lst_bls {K : PySem.W.Frag} {C : NC} {ρ : List Addr} {N : NH} {H : Hp} {d : D} {v : V} {ns : List Bool} (R : NRel K C ρ N H) (h : RD K ρ H d v) (e : (lstN N d).bind blsOf = some ns) : ∃ a, v = .ref a ∧ SqL K H a (ns.map V.bl) := by
  obtain ⟨l, h1, h2⟩ := Option.bind_eq_some_iff.mp e
  obtain ⟨a, us, rfl, hs, ra⟩ := lstN_ok R h h1
  rw [blsOf_eq h2] at ra
  rw [ra.bls] at hs
  exact ⟨a, rfl, hs⟩
theorem sndSum {K : PySem.W.Frag} {C : NC} : SndN K C fSum (rSum K) := by
  intro W ρ N H σ ds xs Q R rs q
  unfold fSum at q
  split at q
  · obtain ⟨x, rfl, rd⟩ := rs.one_of
    split at q
    · rename_i ns hn
      obtain ⟨a, rfl, hs⟩ := lst_ints R rd hn
      exact ⟨a, ns, rfl, hs, q.ok R rfl⟩
    · exact q.elim
  · exact q.elim
def fAll : NF
  | [d], N => match (lstN N d).bind blsOf with
    | some ns => .ok (.bl (ns.all _root_.id)) N
    | none => .bad
  | _, _ => .bad
theorem sndAll {K : PySem.W.Frag} {C : NC} : SndN K C fAll (rAll K) := by
  intro W ρ N H σ ds xs Q R rs q
  unfold fAll at q
  split at q
  · obtain ⟨x, rfl, rd⟩ := rs.one_of
    split at q
    · rename_i ns hn
      obtain ⟨a, rfl, hs⟩ := lst_bls R rd hn
      exact ⟨a, ns, rfl, hs, q.ok R rfl⟩
    · exact q.elim
  · exact q.elim
def fAny : NF
  | [d], N => match (lstN N d).bind blsOf with
    | some ns => .ok (.bl (ns.any _root_.id)) N
    | none => .bad
  | _, _ => .bad
theorem sndAny {K : PySem.W.Frag} {C : NC} : SndN K C fAny (rAny K) := by
  intro W ρ N H σ ds xs Q R rs q
  unfold fAny at q
  split at q
  · obtain ⟨x, rfl, rd⟩ := rs.one_of
    split at q
    · rename_i ns hn
      obtain ⟨a, rfl, hs⟩ := lst_bls R rd hn
      exact ⟨a, ns, rfl, hs, q.ok R rfl⟩
    · exact q.elim
  · exact q.elim
/-- min, max: of two ints, of a list of ints -/
def minOf : List Int → Option Int
  | [] => none
  | [a] => some a
  | a :: r => (minOf r).map fun b => min a b
def maxOf : List Int → Option Int
  | [] => none
  | [a] => some a
  | a :: r => (maxOf r).map fun b => max a b
def fMin : NF
  | [.int i, .int j], N => .ok (.int (if j < i then j else i)) N
  | [d], N => match ((lstN N d).bind intsOf).bind minOf with
    | some n => .ok (.int n) N
    | none => .bad
  | _, _ => .bad
def fMax : NF
  | [.int i, .int j], N => .ok (.int (if j > i then j else i)) N
  | [d], N => match ((lstN N d).bind intsOf).bind maxOf with
    | some n => .ok (.int n) N
    | none => .bad
  | _, _ => .bad
theorem minOf_ok : ∀ {ns : List Int} {m : Int}, minOf ns = some m → m ∈ ns ∧ ∀ y ∈ ns, m ≤ y
  | [], _, h => nomatch h
  | [a], _, h => by cases h; simp
  | a :: b :: r, m, h => by
    obtain ⟨k, h1, rfl⟩ := Option.map_eq_some_iff.mp (show (minOf (b :: r)).map (fun b => min a b) = some m from h)
    obtain ⟨h2, h3⟩ := minOf_ok h1
    refine ⟨?_, fun y hy => ?_⟩
    · by_cases q : a ≤ k
      · rw [Int.min_eq_left q]; exact List.mem_cons_self
      · rw [Int.min_eq_right (by omega)]; exact List.mem_cons_of_mem _ h2
    · rcases List.mem_cons.mp hy with e | e
      · subst e; omega
      · have := h3 y e; omega
theorem maxOf_ok : ∀ {ns : List Int} {m : Int}, maxOf ns = some m → m ∈ ns ∧ ∀ y ∈ ns, y ≤ m
  | [], _, h => nomatch h
  | [a], _, h => by cases h; simp
  | a :: b :: r, m, h => by
    obtain ⟨k, h1, rfl⟩ := Option.map_eq_some_iff.mp (show (maxOf (b :: r)).map (fun b => max a b) = some m from h)
    obtain ⟨h2, h3⟩ := maxOf_ok h1
    refine ⟨?_, fun y hy => ?_⟩
    · by_cases q : k ≤ a
      · rw [Int.max_eq_left q]; exact List.mem_cons_self
      · rw [Int.max_eq_right (by omega)]; exact List.mem_cons_of_mem _ h2
    · rcases List.mem_cons.mp hy with e | e
      · subst e; omega
      · have := h3 y e; omega
def rMinA (K : PySem.W.Frag) : List V → Hp → VK → Prop := fun xs H Q => (∃ i j, xs = [.int i, .int j] ∧ Q (.int (if j < i then j else i)) H) ∨ rMin K xs H Q
def rMaxA (K : PySem.W.Frag) : List V → Hp → VK → Prop := fun xs H Q => (∃ i j, xs = [.int i, .int j] ∧ Q (.int (if j > i then j else i)) H) ∨ rMax K xs H Q
theorem crMin {X : Cx} (hc : X.calm = true) : CallR X (.builtin "min") (rMinA X.K) := (call_min2 hc).or (cr_min hc)
theorem crMax {X : Cx} (hc : X.calm = true) : CallR X (.builtin "max") (rMaxA X.K) := (call_max2 hc).or (cr_max hc)
theorem sndMin {K : PySem.W.Frag} {C : NC} : SndN K C fMin (rMinA K) := by
  intro W ρ N H σ ds xs Q R rs q
  unfold fMin at q
  split at q
  · obtain ⟨x, y, rfl, rx, ry⟩ := rs.two_of
    exact .inl ⟨_, _, by rw [show x = _ from rx, show y = _ from ry], q.ok R rfl⟩
  · obtain ⟨x, rfl, rd⟩ := rs.one_of
    split at q
    · rename_i n hn
      obtain ⟨ns, h1, h2⟩ := Option.bind_eq_some_iff.mp hn
      obtain ⟨a, rfl, hs⟩ := lst_ints R rd h1
      obtain ⟨h3, h4⟩ := minOf_ok h2
      refine .inr ⟨a, ns, rfl, hs, List.length_pos_of_mem h3, fun m hm hle => ?_⟩
      have e : m = n := Int.le_antisymm (hle n h3) (h4 m hm)
      subst e
      exact q.ok R rfl
    · exact q.elim
  · exact q.elim
theorem sndMax {K : PySem.W.Frag} {C : NC} : SndN K C fMax (rMaxA K) := by
  intro W ρ N H σ ds xs Q R rs q
  unfold fMax at q
  split at q
  · obtain ⟨x, y, rfl, rx, ry⟩ := rs.two_of
    exact .inl ⟨_, _, by rw [show x = _ from rx, show y = _ from ry], q.ok R rfl⟩
  · obtain ⟨x, rfl, rd⟩ := rs.one_of
    split at q
    · rename_i n hn
      obtain ⟨ns, h1, h2⟩ := Option.bind_eq_some_iff.mp hn
      obtain ⟨a, rfl, hs⟩ := lst_ints R rd h1
      obtain ⟨h3, h4⟩ := maxOf_ok h2
      refine .inr ⟨a, ns, rfl, hs, List.length_pos_of_mem h3, fun m hm hle => ?_⟩
      have e : m = n := Int.le_antisymm (h4 m hm) (hle n h3)
      subst e
      exact q.ok R rfl
    · exact q.elim
  · exact q.elim
/-! sorted -/
theorem ltCps_lt : ∀ a b : List Nat, ltCps a b = decide (a < b)
  | [], [] => by simp [ltCps]
  | [], _ :: _ => by simp [ltCps]
  | _ :: _, [] => by simp [ltCps]
  | x :: a, y :: b => by
    unfold ltCps
    rw [ltCps_lt a b]
    rw [Bool.eq_iff_iff]
    simp only [Bool.or_eq_true, Bool.and_eq_true, decide_eq_true_eq, beq_iff_eq, List.cons_lt_cons_iff]
def leS (a b : Str) : Bool := !decide (b.cps.toList < a.cps.toList)
def srtI (l : List Int) : List Int := l.mergeSort fun a b => decide (a ≤ b)
def srtS (l : List Str) : List Str := l.mergeSort leS
theorem Str.ext_cps {a b : Str} (h : a.cps.toList = b.cps.toList) : a = b := by
  cases a with | mk a => cases b with | mk b => cases a; cases b; simp at h; rw [h]
theorem leS_iff {a b : Str} : leS a b = true ↔ a.cps.toList ≤ b.cps.toList := by
  unfold leS
  rw [Bool.not_eq_true', decide_eq_false_iff_not, List.not_lt]
theorem leS_trans (a b c : Str) (h : leS a b = true) (h' : leS b c = true) : leS a c = true := leS_iff.mpr (List.le_trans (leS_iff.mp h) (leS_iff.mp h'))
theorem leS_total (a b : Str) : (leS a b || leS b a) = true := by
  rw [Bool.or_eq_true, leS_iff, leS_iff]; exact List.le_total _ _
theorem leS_anti {a b : Str} (h : leS a b = true) (h' : leS b a = true) : a = b := Str.ext_cps (List.le_antisymm (leS_iff.mp h) (leS_iff.mp h'))
theorem srtI_eq {ns ms : List Int} (h : ms.Perm ns) (hs : ms.Pairwise (· ≤ ·)) : ms = srtI ns := by
  refine List.Perm.eq_of_pairwise (le := (· ≤ ·)) (fun x y _ _ h1 h2 => Int.le_antisymm h1 h2) hs ?_ (h.trans (List.mergeSort_perm ns _).symm)
  have := List.pairwise_mergeSort (le := fun a b : Int => decide (a ≤ b)) (fun a b c h h' => by simp at h h' ⊢; omega) (fun a b => by simp; omega) ns
  exact this.imp fun h => by simpa using h
theorem rising_pair : ∀ {l : List Str} {p : Str}, risingS p l = true → (∀ y ∈ l, leS p y = true) ∧ l.Pairwise fun a b => leS a b = true
  | [], _, _ => ⟨(fun _ h => nomatch h), .nil⟩
  | x :: r, p, h => by
    unfold risingS at h
    obtain ⟨h1, h2⟩ := Bool.and_eq_true_iff.mp h
    rw [ltCps_lt] at h1
    obtain ⟨i1, i2⟩ := rising_pair h2
    have hp : leS p x = true := h1
    refine ⟨fun y hy => ?_, List.pairwise_cons.mpr ⟨i1, i2⟩⟩
    rcases List.mem_cons.mp hy with e | e
    · subst e; exact hp
    · exact leS_trans _ _ _ hp (i1 y e)
theorem srtS_eq {ns ms : List Str} (h : ms.Perm ns) (hs : sortedS ms = true) : ms = srtS ns := by
  have hp : ms.Pairwise fun a b => leS a b = true := by
    cases ms with
    | nil => exact .nil
    | cons x r =>
      obtain ⟨i1, i2⟩ := rising_pair (show risingS x r = true from hs)
      exact List.pairwise_cons.mpr ⟨i1, i2⟩
  exact List.Perm.eq_of_pairwise (le := fun a b => leS a b = true) (fun x y _ _ h1 h2 => leS_anti h1 h2) hp (List.pairwise_mergeSort (le := leS) leS_trans leS_total ns) (h.trans (List.mergeSort_perm ns _).symm)
def fSorted : NF
  | [d], N => match (lstN N d).bind intsOf with
    | some ns => N.new (.lst ((srtI ns).map D.int))
    | none => match (lstN N d).bind strsOf with
      | some xs => if xs.length < 64 then N.new (.lst ((srtS xs).map D.str)) else .bad
      | none => match d with
        | .ref n => match N[n]? with
          | some (.dK kvs) | some (.fK kvs) => match intsOf (kvs.map fun p => dKey p.1) with
            | some ns => if ns.length < 64 then N.new (.lst ((srtI ns).map D.int)) else .bad
            | none => .bad
          | _ => .bad
        | _ => .bad
  | _, _ => .bad
def rSortedA (K : PySem.W.Frag) : List V → Hp → VK → Prop := fun xs H Q => rSortedI K xs H Q ∨ rSortedS K xs H Q ∨ (∃ (a : Addr) (kvs : List (Key × V)) (ks : List Int), xs = [.ref a] ∧ Rd H a (.dK kvs) ∧ kvs.map (·.1) = ks.map Sum.inl ∧ ks.length < 64 ∧
    ∀ (ys : List Int) (p : Addr), ys.Perm ks → ys.Pairwise (· ≤ ·) → H p = none → Q (.ref p) (upd H p (.lst (ys.map V.int))))
theorem crSorted {X : Cx} (hc : X.calm = true) : CallR X (.builtin "sorted") (rSortedA X.K) := cr_sortedI.or (cr_sortedS.or (call_sortedDI hc))
theorem key_ints : ∀ {kvs : List (Key × D)} {ns : List Int}, intsOf (kvs.map fun p => dKey p.1) = some ns → kvs.map (·.1) = ns.map Sum.inl
  | [], _, h => by cases h; rfl
  | (.inl i, _) :: r, ns, h => by
    obtain ⟨m, h1, rfl⟩ := Option.map_eq_some_iff.mp (show (intsOf (r.map fun p => dKey p.1)).map (i :: ·) = some ns from h)
    rw [List.map_cons, List.map_cons, key_ints h1]
  | (.inr _, _) :: _, _, h => nomatch h
theorem sndSorted {K : PySem.W.Frag} {C : NC} : SndN K C fSorted (rSortedA K) := by
  intro W ρ N H σ ds xs Q R rs q
  unfold fSorted at q
  split at q
  · obtain ⟨x, rfl, rd⟩ := rs.one_of
    split at q
    · rename_i ns hn
      obtain ⟨a, rfl, hs⟩ := lst_ints R rd hn
      exact .inl ⟨a, ns, rfl, hs, fun ms p h1 h2 hp => by rw [srtI_eq h1 h2]; exact q.newL R (RDs.of_ints _) hp⟩
    · split at q
      · rename_i ns hn
        split at q
        · rename_i h64
          obtain ⟨a, rfl, hs⟩ := lst_strs R rd hn
          exact .inr (.inl ⟨a, ns, rfl, hs, h64, fun ms p h1 h2 hp => by rw [srtS_eq h1 h2]; exact q.newL R (RDs.of_strs _) hp⟩)
        · exact q.elim
      · split at q
        · rename_i n _ _
          obtain ⟨a, rfl, ha⟩ := rd
          split at q
          · rename_i kvs hN
            obtain ⟨l, h1, h2⟩ := R.obj n a _ ha hN
            split at q
            · rename_i ns hn
              split at q
              · rename_i h64
                exact .inr (.inr ⟨a, l, ns, rfl, .inl h1, by rw [h2.keys]; exact key_ints hn, h64, fun ms p h1 h2 hp => by rw [srtI_eq h1 h2]; exact q.newL R (RDs.of_ints _) hp⟩)
              · exact q.elim
            · exact q.elim
          · rename_i kvs hN
            obtain ⟨ob, l, h1, h2⟩ := R.obj n a _ ha hN
            split at q
            · rename_i ns hn
              split at q
              · rename_i h64
                exact .inr (.inr ⟨a, l, ns, rfl, .inr ⟨ob, h1⟩, by rw [h2.keys]; exact key_ints hn, h64, fun ms p h1 h2 hp => by rw [srtI_eq h1 h2]; exact q.newL R (RDs.of_ints _) hp⟩)
              · exact q.elim
            · exact q.elim
          · exact q.elim
        · exact q.elim
  · exact q.elim
end NY

set_option Elab.async false
set_option linter.all false
set_option maxRecDepth 100000
set_option maxHeartbeats 4000000
/-! NY7: statements -/
namespace NY
open PySem PySem.Spec PyProof.Rows L2

def PostS (K : PySem.W.Frag) (C : NC) (W : WX) (D : Ends) (ρ : List Addr) (H : Hp) : RS → Prop
  | .nx σn N => ∀ σ H' ρ', Ext ρ H ρ' H' → NRel K C ρ' N H' → RSt K ρ' H' σn σ → D.nx σ H'
  | .rt d N => ∀ v H' ρ', Ext ρ H ρ' H' → NRel K C ρ' N H' → RD K ρ' H' d v → D.rt v H'
  | .bk σn N => ∀ σ H' ρ', Ext ρ H ρ' H' → NRel K C ρ' N H' → RSt K ρ' H' σn σ → D.bk σ H'
  | .exc x σn N => ∀ c dx σ H' ρ', Ext ρ H ρ' H' → NRel K C ρ' N H' → RSt K ρ' H' σn σ → RX K C ρ' H' x c dx → W c dx σ H'
  | .bad => False
def tS (K : PySem.W.Frag) (C : NC) (W : WX) (m : NS) : TS := fun D σ H => ∃ (ρ : List Addr) (σn : NEnv) (N : NH), NRel K C ρ N H ∧ RSt K ρ H σn σ ∧ PostS K C W D ρ H (m σn N)
theorem ps_weak {X : Cx} {st : Stmt} {t t' : TS} (h : PS X st t) (w : ∀ D σ H, t' D σ H → t D σ H) : PS X st t' := ⟨fun pins s σ H D I q => h.run pins s σ H D I (w D σ H q)⟩
theorem pss_weak {X : Cx} {st : List Stmt} {t t' : TS} (h : PSs X st t) (w : ∀ D σ H, t' D σ H → t D σ H) : PSs X st t' := ⟨fun pins s σ H D I q => h.run pins s σ H D I (w D σ H q)⟩
theorem ps_or {X : Cx} {st : Stmt} {t t' : TS} (h : PS X st t) (h' : PS X st t') : PS X st (fun D σ H => t D σ H ∨ t' D σ H) := ⟨fun pins s σ H D I q => q.elim (h.run pins s σ H D I) (h'.run pins s σ H D I)⟩
theorem pg_or {X : Cx} {e : Expr} {t t' : TG} (h : PG X e t) (h' : PG X e t') : PG X e (fun v σ H Q => t v σ H Q ∨ t' v σ H Q) := ⟨fun pins s σ H v u Q I r q => q.elim (h.run pins s σ H v u Q I r) (h'.run pins s σ H v u Q I r)⟩
theorem pi_or {X : Cx} {tg e : Expr} {t t' : TI} (h : PI X tg e t) (h' : PI X tg e t') : PI X tg e (fun σ H R => t σ H R ∨ t' σ H R) := ⟨fun pins s σ H R I q => q.elim (h.run pins s σ H R I) (h'.run pins s σ H R I)⟩
theorem pe_or {X : Cx} {e : Expr} {t t' : TE} (h : PE X e t) (h' : PE X e t') : PE X e (fun σ H Q => t σ H Q ∨ t' σ H Q) := ⟨fun pins s σ H Q I q => q.elim (h.run pins s σ H Q I) (h'.run pins s σ H Q I)⟩
theorem pi_weak {X : Cx} {tg e : Expr} {t t' : TI} (h : PI X tg e t) (w : ∀ σ H R, t' σ H R → t σ H R) : PI X tg e t' := ⟨fun pins s σ H R I q => h.run pins s σ H R I (w σ H R q)⟩
theorem pg_weak {X : Cx} {e : Expr} {t t' : TG} (h : PG X e t) (w : ∀ v σ H Q, t' v σ H Q → t v σ H Q) : PG X e t' := ⟨fun pins s σ H v u Q I r q => h.run pins s σ H v u Q I r (w v σ H Q q)⟩

section
variable {K : PySem.W.Frag} {C : NC} {W : WX} {D : Ends} {ρ ρ' : List Addr} {H H' : Hp} {σ : L2.St} {σn : NEnv} {N : NH}
theorem PostS.ext {r : RS} (e : Ext ρ H ρ' H') (h : PostS K C W D ρ H r) : PostS K C W D ρ' H' r := by
  cases r with
  | nx s N => exact fun σ H1 ρ1 e' n q => h σ H1 ρ1 (e.trans e') n q
  | rt d N => exact fun σ H1 ρ1 e' n q => h σ H1 ρ1 (e.trans e') n q
  | bk s N => exact fun σ H1 ρ1 e' n q => h σ H1 ρ1 (e.trans e') n q
  | exc x s N => exact fun c dx σ H1 ρ1 e' n q => h c dx σ H1 ρ1 (e.trans e') n q
  | bad => exact h
/-- the value part of a statement -/
def R.stm {α : Type} (r : R α) (σ : NEnv) (k : α → NH → RS) : RS := match r with
  | .ok a N => k a N
  | .exc x N => .exc x σ N
  | .bad => .bad
theorem PostS.stm {α β : Type} {rel : List Addr → Hp → α → β → Prop} {r : R α} {k : α → NH → RS} (S : RSt K ρ H σn σ) (h : PostS K C W D ρ H (r.stm σn k)) :
    PostR rel K C W ρ H σ (fun b H1 => ∃ ρ1 N1 a, Ext ρ H ρ1 H1 ∧ NRel K C ρ1 N1 H1 ∧ rel ρ1 H1 a b ∧ PostS K C W D ρ1 H1 (k a N1)) r := by
  cases r with
  | ok d N => exact fun v H' ρ' e n q => ⟨ρ', N, d, e, n, q, PostS.ext e h⟩
  | exc x N => exact fun c dx H' ρ' e n q => h c dx σ H' ρ' e n (S.ext e) q
  | bad => exact h
theorem PostS.part {α β : Type} {rel : List Addr → Hp → α → β → Prop} {m : NEnv → NH → R α} {k : α → NH → RS} {Q' : β → Hp → Prop} (R : NRel K C ρ N H) (S : RSt K ρ H σn σ) (h : PostS K C W D ρ H ((m σn N).stm σn k))
    (hk : ∀ b H1 ρ1 N1 a, Ext ρ H ρ1 H1 → NRel K C ρ1 N1 H1 → RSt K ρ1 H1 σn σ → rel ρ1 H1 a b → PostS K C W D ρ1 H1 (k a N1) → Q' b H1) : tR rel K C W m σ H Q' :=
  ⟨ρ, σn, N, R, S, (PostS.stm (rel := rel) S h).imp fun b H1 ⟨ρ1, N1, a, e, n, q, p⟩ => hk b H1 ρ1 N1 a e n (S.ext e) q p⟩
theorem PostS.nx (R : NRel K C ρ N H) (S : RSt K ρ H σn σ) (h : PostS K C W D ρ H (.nx σn N)) : D.nx σ H := h σ H ρ .refl R S
theorem PostS.rt {d : NY.D} {v : V} (R : NRel K C ρ N H) (r : RD K ρ H d v) (h : PostS K C W D ρ H (.rt d N)) : D.rt v H := h v H ρ .refl R r
theorem RSt.set {d : NY.D} {v : V} (S : RSt K ρ H σn σ) (r : RD K ρ H d v) (i : Nat) : RSt K ρ H (σn.set i (some d)) (σ.set i (some v)) := by
  refine ⟨by rw [List.length_set, List.length_set]; exact S.1, fun j e h => ?_⟩
  by_cases q : i = j
  · subst q
    by_cases hl : i < σn.length
    · rw [List.getElem?_set_self hl] at h
      cases h
      exact ⟨v, by rw [List.getElem?_set_self (by rw [← S.1]; exact hl)], r⟩
    · rw [List.getElem?_eq_none (by rw [List.length_set]; omega)] at h; cases h
  · rw [List.getElem?_set_ne q] at h
    obtain ⟨w, h1, h2⟩ := S.2 j e h
    exact ⟨w, by rw [List.getElem?_set_ne q]; exact h1, h2⟩
end

/-! ### the simple statements -/
def sPass : NS := fun σ N => .nx σ N
def RS.then (r : RS) (k : NEnv → NH → RS) : RS := match r with
  | .nx σ N => k σ N
  | r => r
def sSeq (a b : NS) : NS := fun σ N => (a σ N).then b
def sRet (a : NE) : NS := fun σ N => (a σ N).stm σ fun d N => .rt d N
def sRetN : NS := fun _ N => .rt .non N
def sExpr (a : NE) : NS := fun σ N => (a σ N).stm σ fun _ N => .nx σ N
def sBreak : NS := fun σ N => .bk σ N
def sIf (t : NT) (a b : NS) : NS := fun σ N => (t σ N).stm σ fun c N => if c = true then a σ N else b σ N
/-- a target: what the names hold behind it -/
structure NP where
  is : List Nat
  put : D → NEnv → NH → Option NEnv
def pName (i : Nat) : NP := ⟨[i], fun d σ _ => some (σ.set i (some d))⟩
def setAll : List Nat → List D → NEnv → NEnv
  | i :: is, d :: ds, σ => setAll is ds (σ.set i (some d))
  | _, _, σ => σ
def pTup (is : List Nat) : NP := ⟨is, fun d σ N => match seqN N d with
  | some l => if l.length = is.length then some (setAll is l σ) else none
  | none => none⟩
def sAsg (a : NE) (p : NP) : NS := fun σ N => (a σ N).stm σ fun d N => match p.put d σ N with
  | some σ' => .nx σ' N
  | none => .bad
def sPar (is : List Nat) (a : NA) : NS := fun σ N => (a σ N).stm σ fun ds N => if ds.length = is.length then .nx (setAll is ds σ) N else .bad
/-- only the slots is differ -/
def Only (is : List Nat) (σ σ' : L2.St) : Prop := σ'.length = σ.length ∧ ∀ j, j ∉ is → σ'[j]? = σ[j]?
theorem Only.refl {is : List Nat} {σ : L2.St} : Only is σ σ := ⟨rfl, fun _ _ => rfl⟩
theorem Only.set {is : List Nat} {σ : L2.St} {i : Nat} {v : Option V} (h : i ∈ is) : Only is σ (σ.set i v) := ⟨List.length_set, fun j hj => List.getElem?_set_ne (fun (z : i = j) => hj (z ▸ h))⟩
theorem Only.trans {is : List Nat} {σ σ1 σ2 : L2.St} (h : Only is σ σ1) (h' : Only is σ1 σ2) : Only is σ σ2 := ⟨h'.1.trans h.1, fun j hj => (h'.2 j hj).trans (h.2 j hj)⟩
theorem Only.mono {is js : List Nat} {σ σ1 : L2.St} (h : Only is σ σ1) (l : ∀ i ∈ is, i ∈ js) : Only js σ σ1 := ⟨h.1, fun j hj => h.2 j (fun z => hj (l j z))⟩
def tG (K : PySem.W.Frag) (C : NC) (p : NP) : TG := fun v σ H Q => ∃ (ρ : List Addr) (σn : NEnv) (N : NH) (d : D), NRel K C ρ N H ∧ RSt K ρ H σn σ ∧ RD K ρ H d v ∧ match p.put d σn N with
  | some σn' => ∀ σ', RSt K ρ H σn' σ' → Only p.is σ σ' → Q σ' H
  | none => False
section
variable {X : Cx} {C : NC} {W : WX} {e o i : Expr} {st : Stmt} {sts : List Stmt} {pos p pos' tpos : Pos}
theorem s_pass : PS X (.Pass pos) (tS X.K C W sPass) := ps_weak ps_pass fun D σ H ⟨ρ, σn, N, R, S, q⟩ => q.nx R S
theorem s_nil : PSs X [] (tS X.K C W sPass) := pss_weak pss_nil fun D σ H ⟨ρ, σn, N, R, S, q⟩ => q.nx R S
theorem s_one {m : NS} (h : PS X st (tS X.K C W m)) : PSs X [st] (tS X.K C W m) := pss_one h
theorem s_cons {st2 : Stmt} {a b : NS} (h : PS X st (tS X.K C W a)) (h2 : PSs X (st2 :: sts) (tS X.K C W b)) : PSs X (st :: st2 :: sts) (tS X.K C W (sSeq a b)) :=
  pss_weak (pss_cons h h2) fun D σ H ⟨ρ, σn, N, R, S, q⟩ => ⟨ρ, σn, N, R, S, by
    unfold sSeq at q
    cases e : a σn N with
    | nx s1 N1 =>
      rw [e] at q
      exact fun σ2 H2 ρ2 E2 R2 S2 => ⟨ρ2, s1, N1, R2, S2, PostS.ext E2 (show PostS X.K C W D ρ H (b s1 N1) from q)⟩
    | rt d N1 => rw [e] at q; exact q
    | bk s1 N1 => rw [e] at q; exact q
    | exc x s1 N1 => rw [e] at q; exact q
    | bad => rw [e] at q; exact q⟩
theorem s_ret {a : NE} (h : PE X e (tE X.K C W a)) : PS X (.Return (some e) pos) (tS X.K C W (sRet a)) :=
  ps_weak (ps_ret h) fun D σ H ⟨ρ, σn, N, R, S, q⟩ => PostS.part R S q fun v H1 ρ1 N1 d E1 R1 S1 rd q1 => q1.rt R1 rd
theorem s_retN : PS X (.Return none pos) (tS X.K C W sRetN) := ps_weak ps_retN fun D σ H ⟨ρ, σn, N, R, S, q⟩ => PostS.rt R (d := .non) rfl q
theorem s_expr {a : NE} (h : PE X e (tE X.K C W a)) (hs : swapsWith e none pos.line X.env = pure false := by rfl) : PS X (.Expr e pos) (tS X.K C W (sExpr a)) :=
  ps_weak (ps_expr h hs) fun D σ H ⟨ρ, σn, N, R, S, q⟩ => PostS.part R S q fun v H1 ρ1 N1 d E1 R1 S1 rd q1 => q1.nx R1 S1
theorem s_break : PS X (.Break pos) (tS X.K C W sBreak) := ps_weak ps_break fun D σ H ⟨ρ, σn, N, R, S, q⟩ => q σ H ρ .refl R S
theorem s_if {c : Expr} {b1 b2 : List Stmt} {t : NT} {m1 m2 : NS} (hc : PT X c (tT X.K C W t)) (h1 : PSs X b1 (tS X.K C W m1)) (h2 : PSs X b2 (tS X.K C W m2)) : PS X (.If c b1 b2 pos) (tS X.K C W (sIf t m1 m2)) :=
  ps_weak (ps_if hc h1 h2) fun D σ H ⟨ρ, σn, N, R, S, q⟩ => PostS.part R S q fun b H1 ρ1 N1 c E1 R1 S1 rd q1 => by
    have rd' : b = c := rd
    subst rd'
    by_cases hb : b = true
    · rw [if_pos hb] at q1 ⊢; exact ⟨ρ1, σn, N1, R1, S1, q1⟩
    · rw [if_neg hb] at q1 ⊢; exact ⟨ρ1, σn, N1, R1, S1, q1⟩
/-! targets -/
theorem g_name {x : Str} (i : Nat) (hN : X.N.Nodup) (hi : X.N[i]? = some x := by rfl) (hx : L2.Loc X.env.scope x := by first | exact Or.inl rfl | exact Or.inr rfl) (hf : X.fn x = true ∨ X.env.scope.names.lookup x = some .local := by first | exact Or.inl rfl | exact Or.inr rfl) : PG X (.Name x pos) (tG X.K C (pName i)) :=
  pg_weak (pg_name hN hi hx hf) fun v σ H Q ⟨ρ, σn, N, d, R, S, rd, q⟩ => q _ (S.set rd i) (Only.set (List.mem_singleton.mpr rfl))
/-- the names of a tuple target -/
def tGs (K : PySem.W.Frag) (is : List Nat) : TGs := fun vs σ H Q => ∃ (ρ : List Addr) (σn : NEnv) (ds : List D), RSt K ρ H σn σ ∧ RDs K ρ H ds vs ∧ ds.length = is.length ∧ ∀ σ', RSt K ρ H (setAll is ds σn) σ' → Only is σ σ' → Q σ' H
theorem pgs_weak {es : List Expr} {t t' : TGs} (h : PGs X es t) (w : ∀ v σ H Q, t' v σ H Q → t v σ H Q) : PGs X es t' := ⟨fun pins s σ H v u Q I r q => h.run pins s σ H v u Q I r (w v σ H Q q)⟩
theorem g_nil : PGs X [] (tGs X.K []) := pgs_weak pgs_nil fun v σ H Q ⟨ρ, σn, ds, S, rd, hl, q⟩ => by
  cases ds with
  | nil => exact ⟨rd, q σ S .refl⟩
  | cons => simp at hl
theorem g_cons {x : Str} {es : List Expr} {is : List Nat} (i : Nat) (hN : X.N.Nodup) (hr : PGs X es (tGs X.K is)) (hi : X.N[i]? = some x := by rfl) (hx : L2.Loc X.env.scope x := by first | exact Or.inl rfl | exact Or.inr rfl) (hf : X.fn x = true ∨ X.env.scope.names.lookup x = some .local := by first | exact Or.inl rfl | exact Or.inr rfl)
    (he : List.map (fun x => x.snd) (assignEach (.Name x pos :: es) X.env) = assign (.Name x pos) X.env :: List.map (fun x => x.snd) (assignEach es X.env) := by rfl) : PGs X (.Name x pos :: es) (tGs X.K (i :: is)) :=
  pgs_weak (pgs_cons (pg_name hN hi hx hf) hr he) fun v σ H Q ⟨ρ, σn, ds, S, rd, hl, q⟩ => by
    cases ds with
    | nil => simp at hl
    | cons d ds =>
      obtain ⟨y, r, rfl, h1, h2⟩ := rd
      exact ⟨y, r, rfl, ρ, _, ds, S.set h1 i, h2, by simpa using hl, fun σ' S' O' => q σ' S' ((Only.set (by simp)).trans (O'.mono (fun j hj => List.mem_cons_of_mem _ hj)))⟩
theorem g_tup {es : List Expr} {k : Nat} {is : List Nat} (hc : X.calm = true) (h : PGs X es (tGs X.K is)) (hl : (assignEach es X.env).length = is.length := by rfl) (hp : List.findIdx? (fun x => x.fst) (assignEach es X.env) = none := by rfl) : PG X (.Tuple es k pos) (tG X.K C (pTup is)) :=
  pg_weak (pg_or (pg_tup (n := is.length) hc h hl hp) (pg_lst (n := is.length) hc h hl hp)) fun v σ H Q ⟨ρ, σn, N, d, R, S, rd, q⟩ => by
    unfold pTup at q
    dsimp only at q
    split at q
    · rename_i h0
      split at h0
      · rename_i l hs
        split at h0
        · rename_i hl2
          cases h0
          obtain ⟨a, xs, rfl, hsq, ra⟩ := seqN_ok R rd hs
          rcases hsq with hq | hq
          · exact .inr ⟨a, xs, rfl, hq, by rw [ra.length]; exact hl2, ρ, σn, l, S, ra, hl2, q⟩
          · exact .inl ⟨a, xs, rfl, hq, by rw [ra.length]; exact hl2, ρ, σn, l, S, ra, hl2, q⟩
        · cases h0
      · cases h0
    · exact q.elim
theorem s_asg {tg : Expr} {a : NE} {pt : NP} (h : PE X e (tE X.K C W a)) (hg : PG X tg (tG X.K C pt)) (h1 : swapsWithSole [tg] e pos.line X.env = pure false := by rfl) (h2 : swappedStores [tg] e X.env = pure none := by rfl) (h3 : List.map (fun x => x.snd) (assignEach [tg] X.env) = [assign tg X.env] := by rfl) :
    PS X (.Assign [tg] e pos) (tS X.K C W (sAsg a pt)) :=
  ps_weak (ps_asg h hg h1 h2 h3) fun D σ H ⟨ρ, σn, N, R, S, q⟩ => PostS.part R S q fun v H1 ρ1 N1 d E1 R1 S1 rd q1 => by
    refine ⟨ρ1, σn, N1, d, R1, S1, rd, ?_⟩
    cases e : pt.put d σn N1 with
    | none => rw [e] at q1; exact q1
    | some s => rw [e] at q1; exact fun σ' S' _ => q1.nx R1 S'
theorem s_par2 {x y : Str} {a b : Expr} {ma : NA} {px py pt pt2 : Pos} {kt k2 : Nat} (i j : Nat) (hc : X.calm = true) (hN : X.N.Nodup) (ha : PA X [a, b] (tA X.K C W ma)) (hi : X.N[i]? = some x := by rfl) (hj : X.N[j]? = some y := by rfl) (hij : i ≠ j := by decide)
    (hx : X.env.scope.names.lookup x = some .local := by rfl) (hy : X.env.scope.names.lookup y = some .local := by rfl)
    (hw : swappedStores [.Tuple [.Name x px, .Name y py] kt pt] (.Tuple [a, b] k2 pt2) X.env = pure (some [x, y]) := by rfl) (hs : swapsWithSole [.Tuple [.Name x px, .Name y py] kt pt] (.Tuple [a, b] k2 pt2) pos.line X.env = pure false := by rfl) :
    PS X (.Assign [.Tuple [.Name x px, .Name y py] kt pt] (.Tuple [a, b] k2 pt2) pos) (tS X.K C W (sPar [i, j] ma)) :=
  ps_weak (ps_par hc hN hi hj hij hx hy ha hw hs) fun D σ H ⟨ρ, σn, N, R, S, q⟩ => PostS.part R S q fun v H1 ρ1 N1 d E1 R1 S1 rd q1 => by
    split at q1
    · rename_i hl
      match d, hl with
      | [d1, d2], _ =>
        obtain ⟨x, y, rfl, r1, r2⟩ := RDs.two_of rd
        exact ⟨x, y, rfl, q1.nx R1 ((S1.set r1 i).set r2 j)⟩
    · exact q1.elim
theorem s_par3 {x y z : Str} {a b c : Expr} {ma : NA} {px py pz pt pt2 : Pos} {kt k2 : Nat} (i j l : Nat) (hc : X.calm = true) (hN : X.N.Nodup) (ha : PA X [a, b, c] (tA X.K C W ma)) (hi : X.N[i]? = some x := by rfl) (hj : X.N[j]? = some y := by rfl) (hl : X.N[l]? = some z := by rfl) (hij : i ≠ j := by decide) (hil : i ≠ l := by decide) (hjl : j ≠ l := by decide)
    (hx : X.env.scope.names.lookup x = some .local := by rfl) (hy : X.env.scope.names.lookup y = some .local := by rfl) (hz : X.env.scope.names.lookup z = some .local := by rfl)
    (hw : swappedStores [.Tuple [.Name x px, .Name y py, .Name z pz] kt pt] (.Tuple [a, b, c] k2 pt2) X.env = pure (some [x, y, z]) := by rfl) (hs : swapsWithSole [.Tuple [.Name x px, .Name y py, .Name z pz] kt pt] (.Tuple [a, b, c] k2 pt2) pos.line X.env = pure false := by rfl) :
    PS X (.Assign [.Tuple [.Name x px, .Name y py, .Name z pz] kt pt] (.Tuple [a, b, c] k2 pt2) pos) (tS X.K C W (sPar [i, j, l] ma)) :=
  ps_weak (ps_par3 hc hN hi hj hl hij hil hjl hx hy hz ha hw hs) fun D σ H ⟨ρ, σn, N, R, S, q⟩ => PostS.part R S q fun v H1 ρ1 N1 d E1 R1 S1 rd q1 => by
    split at q1
    · rename_i hl
      match d, hl with
      | [d1, d2, d3], _ =>
        obtain ⟨x, r, rfl, r1, r'⟩ := rd
        obtain ⟨y, z, rfl, r2, r3⟩ := RDs.two_of r'
        exact ⟨x, y, z, rfl, q1.nx R1 (((S1.set r1 i).set r2 j).set r3 l)⟩
    · exact q1.elim
/-! o[i] = v -/
def putIx (N : NH) (o i v : D) : Option NH := match o with
  | .ref n => match N[n]? with
    | some (.lst l) => match i with
      | .int k => (ixN l.length k).map fun j => N.set n (.lst (l.set j v))
      | _ => none
    | some (.dK kvs) => (keyD i).bind fun k => if kvs.length < sizeLine then some (N.set n (.dK (putD kvs k v))) else none
    | some (.dT kvs) => match i with
      | .tup ds => (keysD ds).bind fun k => if kvs.length < sizeLine then some (N.set n (.dT (putD kvs k v))) else none
      | _ => none
    | _ => none
  | _ => none
def sPut (o i v : NE) : NS := fun σ N => (v σ N).stm σ fun v N => (o σ N).stm σ fun o N => (i σ N).stm σ fun i N => match putIx N o i v with
  | some N' => .nx σ N'
  | none => .bad
def rPut : TSet := fun o i v H Q => rSetL o i v H Q ∨ rSetD o i v H Q
theorem setPut {X : Cx} (hu : X.A.units + 1 < cLine) : PSet X rPut := fun pins s σ H o i v ov iv u Q I ro ri rv h => h.elim (set_list pins s σ H o i v ov iv u Q I ro ri rv) (set_dict hu pins s σ H o i v ov iv u Q I ro ri rv)
theorem snd_put {K : PySem.W.Frag} {ρ : List Addr} {N N' : NH} {H : Hp} {o i v : D} {x y z : V} {Q : Hp → Prop} (R : NRel K C ρ N H) (ro : RD K ρ H o x) (ri : RD K ρ H i y) (rv : RD K ρ H v z) (e : putIx N o i v = some N')
    (q : ∀ H', Ext ρ H ρ H' → NRel K C ρ N' H' → Q H') : rPut x y z H Q := by
  unfold putIx at e
  split at e
  · rename_i n
    obtain ⟨a, rfl, ha⟩ := ro
    split at e
    · rename_i l hN
      split at e
      · rename_i k
        obtain ⟨j, hj, rfl⟩ := Option.map_eq_some_iff.mp e
        obtain ⟨xs, h1, h2⟩ := R.obj n a _ ha hN
        obtain ⟨E, R'⟩ := R.write (o' := .lst (l.set j v)) (u := .lst (xs.set j z)) ha (fun _ _ z => by rw [h1] at z; cases z) (by
          have E0 : Ext ρ H ρ (upd H a (.lst (xs.set j z))) := Ext.write (memOf ha) (fun _ z => by rw [h1] at z; cases z) (fun _ _ z => by rw [h1] at z; cases z)
          exact ⟨_, upd_same, (h2.set rv j).ext E0⟩)
        exact .inl ⟨a, xs, k, j, rfl, ri, h1, by rw [h2.length]; exact hj, q _ E R'⟩
      · cases e
    · rename_i kvs hN
      obtain ⟨k, hk, e2⟩ := Option.bind_eq_some_iff.mp e
      split at e2
      · rename_i hl
        cases e2
        obtain ⟨l, h1, h2⟩ := R.obj n a _ ha hN
        obtain ⟨E, R'⟩ := R.write (o' := .dK (putD kvs k v)) (u := .dK (putK l k z)) ha (fun _ _ z => by rw [h1] at z; cases z) (by
          have E0 : Ext ρ H ρ (upd H a (.dK (putK l k z))) := Ext.write (memOf ha) (fun _ z => by rw [h1] at z; cases z) (fun _ _ z => by rw [h1] at z; cases z)
          exact ⟨_, upd_same, (h2.put rv).ext E0⟩)
        exact .inr ⟨a, _, rfl, .inl ⟨l, k, h1, keyD_ok ri hk, by rw [h2.length]; exact hl, rfl⟩, q _ E R'⟩
      · cases e2
    · rename_i kvs hN
      split at e
      · rename_i ds
        obtain ⟨k, hk, e2⟩ := Option.bind_eq_some_iff.mp e
        split at e2
        · rename_i hl
          cases e2
          obtain ⟨l, h1, h2⟩ := R.obj n a _ ha hN
          obtain ⟨b, xs, rfl, tb, rb⟩ := ri
          obtain ⟨E, R'⟩ := R.write (o' := .dT (putD kvs k v)) (u := .dT (putK l k z)) ha (fun _ _ z => by rw [h1] at z; cases z) (by
            have E0 : Ext ρ H ρ (upd H a (.dT (putK l k z))) := Ext.write (memOf ha) (fun _ z => by rw [h1] at z; cases z) (fun _ _ z => by rw [h1] at z; cases z)
            exact ⟨_, upd_same, (h2.put rv).ext E0⟩)
          exact .inr ⟨a, _, rfl, .inr ⟨l, k, b, h1, rfl, by rw [← keysD_ok rb hk]; exact tb.2, by rw [h2.length]; exact hl, rfl⟩, q _ E R'⟩
        · cases e2
      · cases e
    · cases e
  · cases e
theorem s_put {mo mi mv : NE} {value : Expr} (hu : X.A.units + 1 < cLine) (hv : PE X value (tE X.K C W mv)) (ho : PE X o (tE X.K C W mo)) (hi : PE X i (tE X.K C W mi))
    (h0 : ∀ (v : Value), (assign (o.Subscript i p) X.env v = do
      let ov ← holding [v] (eval o X.env)
      let iv ← holding [v, ov] (eval i X.env)
      standAt p
      holding [v, ov, iv] (setItem ov iv v)
      release [v, ov, iv] []) := by intro _; rfl)
    (h1 : swapsWithSole [.Subscript o i p] value pos.line X.env = pure false := by rfl) (h2 : swappedStores [.Subscript o i p] value X.env = pure none := by rfl) (h3 : List.map (fun x => x.snd) (assignEach [.Subscript o i p] X.env) = [assign (.Subscript o i p) X.env] := by rfl) :
    PS X (.Assign [.Subscript o i p] value pos) (tS X.K C W (sPut mo mi mv)) :=
  ps_weak (ps_asg hv (pg_sub ho hi (setPut hu) h0) h1 h2 h3) fun D σ H ⟨ρ, σn, N, R, S, q⟩ => PostS.part R S q fun v H1 ρ1 N1 d E1 R1 S1 rd q1 => PostS.part R1 S1 q1 fun x H2 ρ2 N2 do' E2 R2 S2 ro q2 => PostS.part R2 S2 q2 fun y H3 ρ3 N3 di E3 R3 S3 ri q3 => by
    split at q3
    · rename_i N4 hN4
      exact snd_put R3 (ro.ext E3) ri ((rd.ext E2).ext E3) hN4 fun H' E' R' => q3 σ H' ρ3 E' R' (S3.ext E')
    · exact q3.elim
/-! o.f = v -/
def sFldPut (cs : List Nat) (f : Nat) (o v : NE) : NS := fun σ N => (v σ N).stm σ fun v N => (o σ N).stm σ fun o N => match o with
  | .ref n => match N[n]? with
    | some (.ins c fs) => if c ∈ cs ∧ fs.length < 1000 then .nx σ (N.set n (.ins c (putFD f v fs))) else .bad
    | _ => .bad
  | _ => .bad
theorem s_fldput {x : Str} {f : Nat} {cs : List Nat} {mo mv : NE} {value : Expr} (hA : Attr X.K C x cs) (hx : C.names[f]? = some x) (hv : PE X value (tE X.K C W mv)) (ho : PE X o (tE X.K C W mo)) (hs : swapsWith value (some (.Attribute o x p)) pos.line X.env = pure false := by rfl) :
    PS X (.Assign [.Attribute o x p] value pos) (tS X.K C W (sFldPut cs f mo mv)) :=
  ps_weak (ps_fld ho hv hs) fun D σ H ⟨ρ, σn, N, R, S, q⟩ => PostS.part R S q fun v H1 ρ1 N1 d E1 R1 S1 rd q1 => PostS.part R1 S1 q1 fun u H2 ρ2 N2 do' E2 R2 S2 ro q2 => by
    split at q2
    · rename_i n
      obtain ⟨a, rfl, ha⟩ := ro
      split at q2
      · rename_i c fs hN
        split at q2
        · rename_i hc
          obtain ⟨dx, l, h1, h2⟩ := R2.obj n a _ ha hN
          obtain ⟨E, R'⟩ := R2.write (o' := .ins c (putFD f d fs)) (u := .ins (C.cls c) dx (putF x v l)) ha (fun _ _ z => by rw [h1] at z; cases z) (by
            have E0 : Ext ρ2 H2 ρ2 (upd H2 a (.ins (C.cls c) dx (putF x v l))) := Ext.write (memOf ha) (fun _ z => by rw [h1] at z; cases z) (fun _ _ z => by rw [h1] at z; cases z)
            exact ⟨_, _, upd_same, (RF.put R.names hx (rd.ext E2) h2).ext E0⟩)
          exact ⟨a, _, dx, l, rfl, h1, (hA c hc.1).1, (hA c hc.1).2, by rw [h2.length]; exact hc.2, q2 σ _ ρ2 E R' (S2.ext E)⟩
        · exact q2.elim
      · exact q2.elim
    · exact q2.elim
/-! x += e, o.f += e -/
def sAug (i : Nat) (f : D → D → NH → R D) (a : NE) : NS := fun σ N => match σ[i]? with
  | some (some x) => (a σ N).stm σ fun y N => (f x y N).stm σ fun z N => .nx (σ.set i (some z)) N
  | _ => .bad
def fAddI : D → D → NH → R D
  | .int i, .int j, N => .ok (.int (i + j)) N
  | _, _, _ => .bad
def fSubI : D → D → NH → R D
  | .int i, .int j, N => .ok (.int (i - j)) N
  | _, _, _ => .bad
theorem sndAddI {K : PySem.W.Frag} : Snd2 K C fAddI (ipI fun i j => i + j) := by
  intro W ρ N H σ d e x y Q R rd re q
  unfold fAddI at q
  split at q
  · exact ⟨_, _, rd, re, q.ok R rfl⟩
  · exact q.elim
theorem sndSubI {K : PySem.W.Frag} : Snd2 K C fSubI (ipI fun i j => i - j) := by
  intro W ρ N H σ d e x y Q R rd re q
  unfold fSubI at q
  split at q
  · exact ⟨_, _, rd, re, q.ok R rfl⟩
  · exact q.elim
theorem s_aug {x : Str} {op : Operator} {f : D → D → NH → R D} {r : R2} {ma : NE} (j : Nat) (hN : X.N.Nodup) (ho : PIp X op r) (hs : Snd2 X.K C f r) (he : PE X e (tE X.K C W ma)) (hi : X.N[j]? = some x := by rfl) (hx : L2.Loc X.env.scope x := by first | exact Or.inl rfl | exact Or.inr rfl)
    (hf : X.fn x = true ∨ X.env.scope.names.lookup x = some .local := by first | exact Or.inl rfl | exact Or.inr rfl) : PS X (.AugAssign (.Name x p) op e pos) (tS X.K C W (sAug j f ma)) :=
  ps_weak (ps_aug hN hi hx he ho hf) fun D σ H ⟨ρ, σn, N, R, S, q⟩ => by
    unfold sAug at q
    split at q
    · rename_i d hd
      obtain ⟨v, h1, h2⟩ := S.2 j d hd
      refine ⟨v, h1, PostS.part R S q fun y H1 ρ1 N1 d1 E1 R1 S1 r1 q1 => ?_⟩
      exact hs W ρ1 N1 H1 σ d d1 v y _ R1 (h2.ext E1) r1 ((PostS.stm (rel := RD X.K) S1 q1).imp fun z H2 ⟨ρ2, N2, d2, E2, R2, r2, q2⟩ => q2.nx R2 ((S1.ext E2).set r2 j))
    · exact q.elim
def sFldAugN (cs : List Nat) (f : Nat) (g : D → D → NH → R D) (o v : NE) : NS := fun σ N => (o σ N).stm σ fun o N => match o with
  | .ref n => match N[n]? with
    | some (.ins c fs) => if c ∈ cs then (match lookF f fs with
      | some x => (v σ N).stm σ fun y N => (g x y N).stm σ fun z N => match N[n]? with
        | some (.ins c' fs') => if c' = c ∧ fs'.length < 1000 then .nx σ (N.set n (.ins c (putFD f z fs'))) else .bad
        | _ => .bad
      | none => .bad) else .bad
    | _ => .bad
  | _ => .bad
theorem s_fldaug {x : Str} {f : Nat} {cs : List Nat} {op : Operator} {g : D → D → NH → R D} {r : R2} {mo mv : NE} {value : Expr} (hA : Attr X.K C x cs) (hx : C.names[f]? = some x) (hop : InOp X op r) (hs : Snd2 X.K C g r) (ho : PE X o (tE X.K C W mo)) (hv : PE X value (tE X.K C W mv)) :
    PS X (.AugAssign (.Attribute o x p) op value pos) (tS X.K C W (sFldAugN cs f g mo mv)) :=
  ps_weak (ps_fldaug ho hv hop) fun D σ H ⟨ρ, σn, N, R, S, q⟩ => PostS.part R S q fun v H1 ρ1 N1 d E1 R1 S1 ro q1 => by
    split at q1
    · rename_i n
      obtain ⟨a, rfl, ha⟩ := ro
      split at q1
      · rename_i c fs hN
        split at q1
        · rename_i hc
          split at q1
          · rename_i d' hd
            obtain ⟨dx, l, h1, h2⟩ := R1.obj n a _ ha hN
            obtain ⟨w, e1, rw⟩ := h2.look R1.names hx hd
            refine ⟨a, _, dx, l, w, rfl, h1, (hA c hc).1, (hA c hc).2, e1, PostS.part R1 S1 q1 fun y H2 ρ2 N2 d2 E2 R2 S2 r2 q2 => ?_⟩
            refine hs W ρ2 N2 H2 σ d' d2 w y _ R2 (rw.ext E2) r2 ((PostS.stm (rel := RD X.K) S2 q2).imp fun z H3 ⟨ρ3, N3, d3, E3, R3, r3, q3⟩ => ?_)
            split at q3
            · rename_i c' fs' hN'
              split at q3
              · rename_i hc'
                obtain ⟨hc1, hc2⟩ := hc'
                subst hc1
                have ha3 := E3.get (E2.get ha)
                obtain ⟨dx', l', h1', h2'⟩ := R3.obj n a _ ha3 hN'
                obtain ⟨E, R'⟩ := R3.write (o' := .ins c' (putFD f d3 fs')) (u := .ins (C.cls c') dx' (putF x z l')) ha3 (fun _ _ z => by rw [h1'] at z; cases z) (by
                  have E0 : Ext ρ3 H3 ρ3 (upd H3 a (.ins (C.cls c') dx' (putF x z l'))) := Ext.write (memOf ha3) (fun _ z => by rw [h1'] at z; cases z) (fun _ _ z => by rw [h1'] at z; cases z)
                  exact ⟨_, _, upd_same, (RF.put R.names hx r3 h2').ext E0⟩)
                exact ⟨dx', l', h1', by rw [h2'.length]; exact hc2, q3 σ _ ρ3 E R' ((S2.ext E3).ext E)⟩
              · exact q3.elim
            · exact q3.elim
          · exact q1.elim
        · exact q1.elim
      · exact q1.elim
    · exact q1.elim
theorem sndAddIn {K : PySem.W.Frag} : Snd2 K C fAddI L2.rAdd := by
  intro W ρ N H σ d e x y Q R rd re q
  unfold fAddI at q
  split at q
  · exact ⟨_, _, rd, re, q.ok R rfl⟩
  · exact q.elim
/-! del d[k] -/
def sDel (o i : NE) : NS := fun σ N => (o σ N).stm σ fun o N => (i σ N).stm σ fun i N => match o with
  | .ref n => match N[n]? with
    | some (.dK kvs) => match keyD i with
      | some k => if (valD kvs k).isSome = true then .nx σ (N.set n (.dK (dropD kvs k))) else .bad
      | none => .bad
    | _ => .bad
  | _ => .bad
theorem s_del {mo mi : NE} (ho : PE X o (tE X.K C W mo)) (hi : PE X i (tE X.K C W mi)) : PS X (.Delete [.Subscript o i p] pos) (tS X.K C W (sDel mo mi)) :=
  ps_weak (ps_ddel ho hi) fun D σ H ⟨ρ, σn, N, R, S, q⟩ => PostS.part R S q fun v H1 ρ1 N1 d E1 R1 S1 ro q1 => PostS.part R1 S1 q1 fun y H2 ρ2 N2 d2 E2 R2 S2 ri q2 => by
    split at q2
    · rename_i n
      obtain ⟨a, rfl, ha⟩ := ro.ext E2
      split at q2
      · rename_i kvs hN
        split at q2
        · rename_i k hk
          split at q2
          · rename_i hs
            obtain ⟨l, h1, h2⟩ := R2.obj n a _ ha hN
            obtain ⟨d0, hd0⟩ := Option.isSome_iff_exists.mp hs
            obtain ⟨v0, hv0, _⟩ := h2.valSome hd0
            obtain ⟨E, R'⟩ := R2.write (o' := .dK (dropD kvs k)) (u := .dK (dropK l k)) ha (fun _ _ z => by rw [h1] at z; cases z) (by
              have E0 : Ext ρ2 H2 ρ2 (upd H2 a (.dK (dropK l k))) := Ext.write (memOf ha) (fun _ z => by rw [h1] at z; cases z) (fun _ _ z => by rw [h1] at z; cases z)
              exact ⟨_, upd_same, h2.drop.ext E0⟩)
            exact ⟨a, l, k, rfl, h1, keyD_ok ri hk, by rw [hv0]; rfl, q2 σ _ ρ2 E R' (S2.ext E)⟩
          · exact q2.elim
        · exact q2.elim
      · exact q2.elim
    · exact q2.elim
end
end NY

set_option Elab.async false
set_option linter.all false
set_option maxRecDepth 100000
set_option maxHeartbeats 4000000
/-! NY8: loops -/
namespace NY
open PySem PySem.Spec PyProof.Rows L2

/-! ### a write that no plain value sees -/
def Same (ρ : List Addr) (H H' : Hp) : Prop := ∀ a, a ∉ ρ → ((∃ xs, H a = some (.tup xs)) ∨ (∃ o xs, H a = some (.frz o (.lst xs)))) → H' a = H a
section
variable {K : PySem.W.Frag} {C : NC} {ρ : List Addr} {H H' : Hp}
mutual
theorem RD.same (s : Same ρ H H') : ∀ (d : D) {v : V}, RD K ρ H d v → RD K ρ H' d v
  | .non, _, h => h
  | .bl _, _, h => h
  | .int _, _, h => h
  | .str _, _, h => h
  | .tup ds, _, h => by
    obtain ⟨a, xs, rfl, h1, h2⟩ := h
    exact ⟨a, xs, rfl, ⟨h1.1, (s a h1.1 (.inl ⟨_, h1.2⟩)).trans h1.2⟩, RDs.same s ds h2⟩
  | .ctup ds, _, h => by
    obtain ⟨a, xs, rfl, h1, h2⟩ := h
    exact ⟨a, xs, rfl, h1, RDs.same s ds h2⟩
  | .lsc ds, _, h => by
    obtain ⟨a, xs, rfl, h1, h2⟩ := h
    refine ⟨a, xs, rfl, ?_, RDs.same s ds h2⟩
    rcases h1 with ⟨n, o, h⟩ | h
    · exact .inl ⟨n, o, (s a n (.inr ⟨_, _, h⟩)).trans h⟩
    · exact .inr h
  | .ref n, _, h => h
theorem RDs.same (s : Same ρ H H') : ∀ (ds : List D) {xs : List V}, RDs K ρ H ds xs → RDs K ρ H' ds xs
  | [], _, h => h
  | d :: ds, _, h => by
    obtain ⟨x, r, rfl, h1, h2⟩ := h
    exact ⟨x, r, rfl, RD.same s d h1, RDs.same s ds h2⟩
end
theorem RF.same (e : Same ρ H H') {names : List Str} : ∀ (fs : List (Nat × D)) {l : List (Str × V)}, RF K ρ H names fs l → RF K ρ H' names fs l
  | [], _, h => h
  | (n, d) :: r, _, h => by
    obtain ⟨x, v, s, rfl, h1, h2, h3⟩ := h
    exact ⟨x, v, s, rfl, h1, h2.same e, RF.same e r h3⟩
theorem RK.same {κ : Type} (e : Same ρ H H') : ∀ (fs : List (κ × D)) {l : List (κ × V)}, RK K ρ H fs l → RK K ρ H' fs l
  | [], _, h => h
  | (k, d) :: r, _, h => by
    obtain ⟨v, s, rfl, h2, h3⟩ := h
    exact ⟨v, s, rfl, h2.same e, RK.same e r h3⟩
theorem RO.same {a : Addr} {o : O} (e : Same ρ H H') (hs : H' a = H a) (h : RO K C ρ H a o) : RO K C ρ H' a o := by
  cases o with
  | lst ds => obtain ⟨xs, e1, r⟩ := h; exact ⟨xs, hs.trans e1, r.same e⟩
  | dK _ => obtain ⟨xs, e1, r⟩ := h; exact ⟨xs, hs.trans e1, r.same e⟩
  | dT _ => obtain ⟨xs, e1, r⟩ := h; exact ⟨xs, hs.trans e1, r.same e⟩
  | fK _ => obtain ⟨ob, xs, e1, r⟩ := h; exact ⟨ob, xs, hs.trans e1, r.same e⟩
  | fT _ => obtain ⟨ob, xs, e1, r⟩ := h; exact ⟨ob, xs, hs.trans e1, r.same e⟩
  | ins _ _ => obtain ⟨dx, xs, e1, r⟩ := h; exact ⟨dx, xs, hs.trans e1, r.same e⟩
theorem RSt.same {σn : NEnv} {σ : L2.St} (e : Same ρ H H') (h : RSt K ρ H σn σ) : RSt K ρ H' σn σ :=
  ⟨h.1, fun i d q => let ⟨v, a, b⟩ := h.2 i d q; ⟨v, a, b.same e⟩⟩
theorem Same.mem {a : Addr} {u : HO} (m : a ∈ ρ) : Same ρ H (upd H a u) := fun b n _ => upd_ne (fun z => n (z ▸ m))
theorem Same.lst {a : Addr} {u : HO} {xs : List V} (m : H a = some (.lst xs)) : Same ρ H (upd H a u) := fun b _ h => upd_ne (fun z => by
  subst z
  rcases h with ⟨_, h⟩ | ⟨_, _, h⟩
  · rw [m] at h; cases h
  · rw [m] at h; cases h)
theorem NRel.unlock {N : NH} {a : Addr} {n : Nat} {o' : O} (R : NRel K C ρ N H) (h : ρ[n]? = some a) {u : HO} (new : RO K C ρ (upd H a u) a o') : NRel K C ρ (N.set n o') (upd H a u) := by
  have m := memOf h
  have E : Same ρ H (upd H a u) := Same.mem m
  refine ⟨by rw [List.length_set]; exact R.len, R.nd, R.names, fun k b o hk ho => ?_, fun P hP => ?_⟩
  · by_cases e : k = n
    · subst e
      rw [h] at hk; cases hk
      rw [List.getElem?_set_self (by have := (List.getElem?_eq_some_iff.mp h).1; have := R.len; omega)] at ho
      cases ho
      exact new
    · rw [List.getElem?_set_ne (fun z => e z.symm)] at ho
      have ne : b ≠ a := fun z => e (nd_ix R.nd (z ▸ hk) h)
      exact (R.obj k b o hk ho).same E (upd_ne ne)
  · obtain ⟨ps, e, t⟩ := R.tab P hP
    exact ⟨ps, by rw [upd_ne (show P ≠ a from fun z => R.notab hP (z ▸ m))]; exact e, t⟩
/-- a write at a list that is none of the nice objects -/
theorem NRel.aside {N : NH} {a : Addr} {xs : List V} (R : NRel K C ρ N H) (m : H a = some (.lst xs)) (n : a ∉ ρ) {u : HO} : NRel K C ρ N (upd H a u) := by
  have E : Same ρ H (upd H a u) := Same.lst m
  refine ⟨R.len, R.nd, R.names, fun k b o hk ho => ?_, fun P hP => ?_⟩
  · exact (R.obj k b o hk ho).same E (upd_ne (fun z => n (z ▸ memOf hk)))
  · obtain ⟨ps, e, t⟩ := R.tab P hP
    exact ⟨ps, by rw [upd_ne (show P ≠ a from fun z => by rw [z, m] at e; cases e)]; exact e, t⟩
/-- a list joins the nice objects -/
theorem NRel.adopt {N : NH} {a : Addr} {xs : List V} {ds : List D} (R : NRel K C ρ N H) (m : H a = some (.lst xs)) (n : a ∉ ρ) (r : RDs K ρ H ds xs) (ρ0 : List Addr) (H0 : Hp) (E0 : Ext ρ0 H0 ρ H) (h0 : H0 a = none) :
    Ext ρ0 H0 (ρ ++ [a]) H ∧ NRel K C (ρ ++ [a]) (N ++ [.lst ds]) H := by
  have hin : ∀ b, H b ≠ some (.lst xs) → b ∉ ρ → b ∉ ρ ++ [a] := fun b hb nb hm => by
    rcases List.mem_append.mp hm with q | q
    · exact nb q
    · rw [List.mem_singleton.mp q] at hb; exact hb m
  have rd : (∀ (d : D) (v : V), RD K ρ H d v → RD K (ρ ++ [a]) H d v) ∧ (∀ (d : List D) (v : List V), RDs K ρ H d v → RDs K (ρ ++ [a]) H d v) := by
    have hT : ∀ (b : Addr) (ys : List V), TupAt ρ H b ys → TupAt (ρ ++ [a]) H b ys := fun b ys h => ⟨hin b (by rw [h.2]; exact fun z => nomatch z) h.1, h.2⟩
    have hL : ∀ (b : Addr) (ys : List V), LscAt K ρ H b ys → LscAt K (ρ ++ [a]) H b ys := fun b ys h => by
      rcases h with ⟨n, o, h⟩ | h
      · exact .inl ⟨hin b (by rw [h]; exact fun z => nomatch z) n, o, h⟩
      · exact .inr h
    have key : ∀ (d : D) (v : V), RD K ρ H d v → RD K (ρ ++ [a]) H d v := fun d =>
      D.rec (motive_1 := fun d => ∀ v, RD K ρ H d v → RD K (ρ ++ [a]) H d v) (motive_2 := fun ds => ∀ vs, RDs K ρ H ds vs → RDs K (ρ ++ [a]) H ds vs)
        (fun _ h => h) (fun _ _ h => h) (fun _ _ h => h) (fun _ _ h => h)
        (fun ds ih v ⟨b, ys, e, h1, h2⟩ => ⟨b, ys, e, hT b ys h1, ih ys h2⟩)
        (fun ds ih v ⟨b, ys, e, h1, h2⟩ => ⟨b, ys, e, h1, ih ys h2⟩)
        (fun ds ih v ⟨b, ys, e, h1, h2⟩ => ⟨b, ys, e, hL b ys h1, ih ys h2⟩)
        (fun n v ⟨b, e, h⟩ => ⟨b, e, by rw [List.getElem?_append_left (List.getElem?_eq_some_iff.mp h).1]; exact h⟩)
        (fun _ h => h) (fun d ds ih1 ih2 vs ⟨x, r, e, h1, h2⟩ => ⟨x, r, e, ih1 x h1, ih2 r h2⟩) d
    refine ⟨key, fun d => ?_⟩
    induction d with
    | nil => exact fun v h => h
    | cons d ds ih => exact fun v ⟨x, r, e, h1, h2⟩ => ⟨x, r, e, key d x h1, ih r h2⟩
  have rf : ∀ (names : List Str) (fs : List (Nat × D)) (l : List (Str × V)), RF K ρ H names fs l → RF K (ρ ++ [a]) H names fs l := fun names fs => by
    induction fs with
    | nil => exact fun v h => h
    | cons p ds ih => exact fun v ⟨x, v', s, e, h1, h2, h3⟩ => ⟨x, v', s, e, h1, rd.1 _ _ h2, ih s h3⟩
  have rk : ∀ {κ : Type} (fs : List (κ × D)) (l : List (κ × V)), RK K ρ H fs l → RK K (ρ ++ [a]) H fs l := fun fs => by
    induction fs with
    | nil => exact fun v h => h
    | cons p ds ih => exact fun v ⟨v', s, e, h2, h3⟩ => ⟨v', s, e, rd.1 _ _ h2, ih s h3⟩
  have ro : ∀ (b : Addr) (o : O), RO K C ρ H b o → RO K C (ρ ++ [a]) H b o := fun b o h => by
    cases o with
    | lst ds => obtain ⟨xs, e1, r⟩ := h; exact ⟨xs, e1, rd.2 _ _ r⟩
    | dK _ => obtain ⟨xs, e1, r⟩ := h; exact ⟨xs, e1, rk _ _ r⟩
    | dT _ => obtain ⟨xs, e1, r⟩ := h; exact ⟨xs, e1, rk _ _ r⟩
    | fK _ => obtain ⟨ob, xs, e1, r⟩ := h; exact ⟨ob, xs, e1, rk _ _ r⟩
    | fT _ => obtain ⟨ob, xs, e1, r⟩ := h; exact ⟨ob, xs, e1, rk _ _ r⟩
    | ins _ _ => obtain ⟨dx, xs, e1, r⟩ := h; exact ⟨dx, xs, e1, rf _ _ _ r⟩
  refine ⟨⟨?_, fun b hb nb => ?_, E0.keep, E0.tbl, E0.frz⟩, by simp [R.len], List.nodup_append.mpr ⟨R.nd, by simp, fun x hx y hy z => n (by rw [List.mem_singleton.mp hy] at z; exact z ▸ hx)⟩, R.names, fun k b o hk ho => ?_, R.tab⟩
  · obtain ⟨t, e⟩ := E0.pre
    exact ⟨t ++ [a], by rw [e, List.append_assoc]⟩
  · rcases List.mem_append.mp hb with q | q
    · exact E0.new b q nb
    · rw [List.mem_singleton.mp q]; exact h0
  · by_cases e : k < ρ.length
    · rw [List.getElem?_append_left e] at hk
      rw [List.getElem?_append_left (by have := R.len; omega)] at ho
      exact ro b o (R.obj k b o hk ho)
    · have hk1 := (List.getElem?_eq_some_iff.mp hk).1
      rw [List.length_append, List.length_singleton] at hk1
      have e2 : k = ρ.length := by omega
      subst e2
      rw [List.getElem?_concat_length] at hk
      rw [R.len, List.getElem?_concat_length] at ho
      cases hk; cases ho
      exact ⟨xs, m, rd.2 _ _ r⟩
end

/-! ### what is walked -/
structure NIt where
  items : List D
  ok : NH → Bool
abbrev NI := NEnv → NH → R NIt
def JOk (K : PySem.W.Frag) (C : NC) (ρ0 : List Addr) (H0 : Hp) (t : NIt) (J : It) : Prop := ∀ ρ H N, Ext ρ0 H0 ρ H → NRel K C ρ N H → t.ok N = true →
  (∀ (i : Nat) (d : D), t.items[i]? = some d → J.go i H ∧ ∀ x H', J.yld i H x H' → ∃ ρ', Ext ρ H ρ' H' ∧ NRel K C ρ' N H' ∧ RD K ρ' H' d x) ∧ J.stop t.items.length H
def tI (K : PySem.W.Frag) (C : NC) (W : WX) (m : NI) : TI := tR (JOk K C) K C W m
def chars (s : Str) : List D := s.cps.toList.map fun c => .str ⟨#[c]⟩
/-- a list, a tuple, a text, a dict that is locked -/
def itOf (N : NH) : D → Option NIt
  | .tup l | .ctup l | .lsc l => some ⟨l, fun _ => true⟩
  | .str s => some ⟨chars s, fun _ => true⟩
  | .ref n => match N[n]? with
    | some (.lst l) => some ⟨l, fun N => decide (N[n]? = some (.lst l))⟩
    | some (.fK kvs) => some ⟨kvs.map fun p => dKey p.1, fun _ => true⟩
    | some (.fT kvs) => some ⟨kvs.map fun p => .tup (p.1.map dKey), fun _ => true⟩
    | _ => none
  | _ => none
def iSeq (a : NE) : NI := fun σ N => (a σ N).bind fun d N => match itOf N d with | some t => .ok t N | none => .bad
section
variable {K : PySem.W.Frag} {C : NC} {ρ : List Addr} {N : NH} {H : Hp}
theorem jok_lst {n : Nat} {l : List D} {a : Addr} (ha : ρ[n]? = some a) : JOk K C ρ H ⟨l, fun N => decide (N[n]? = some (.lst l))⟩ (Itl K a) := fun ρ1 H1 N1 E R h => by
  obtain ⟨xs, h1, h2⟩ := R.obj n a _ (E.get ha) (of_decide_eq_true h)
  refine ⟨fun i d hd => ?_, xs, SqL.of h1, by rw [h2.length]; exact Nat.le_refl _⟩
  obtain ⟨x, e1, e2⟩ := h2.get' hd
  refine ⟨⟨xs, x, SqL.of h1, e1⟩, fun y H' ⟨hH, hy⟩ => ⟨ρ1, ?_⟩⟩
  subst hH
  have := hy xs (SqL.of h1)
  rw [e1] at this; cases this
  exact ⟨.refl, R, e2⟩
theorem jok_lsc {l : List D} {a : Addr} {xs : List V} (ha : LscAt K ρ H a xs) (hr : RDs K ρ H l xs) : JOk K C ρ H ⟨l, fun N => true⟩ (Itl K a) := fun ρ1 H1 N1 E R h => by
  have h1 := (ha.ext E).sq
  have h2 := RDs.ext E l hr
  refine ⟨fun i d hd => ?_, xs, h1, by rw [h2.length]; exact Nat.le_refl _⟩
  obtain ⟨x, e1, e2⟩ := h2.get' hd
  refine ⟨⟨xs, x, h1, e1⟩, fun y H' ⟨hH, hy⟩ => ⟨ρ1, ?_⟩⟩
  subst hH
  have := hy xs h1
  rw [e1] at this; cases this
  exact ⟨.refl, R, e2⟩
theorem jok_tup {l : List D} {a : Addr} {xs : List V} (ha : TupAt ρ H a xs ∨ CtupAt K a xs) (hr : RDs K ρ H l xs) : JOk K C ρ H ⟨l, fun N => true⟩ (Itt K a) := fun ρ1 H1 N1 E R h => by
  have h1 : SqT K H1 a xs := by
    rcases ha with h | h
    · exact (h.ext E).sq
    · exact h.sq
  have h2 := RDs.ext E l hr
  refine ⟨fun i d hd => ?_, xs, h1, by rw [h2.length]; exact Nat.le_refl _⟩
  obtain ⟨x, e1, e2⟩ := h2.get' hd
  refine ⟨⟨xs, x, h1, e1⟩, fun y H' ⟨hH, hy⟩ => ⟨ρ1, ?_⟩⟩
  subst hH
  have := hy xs h1
  rw [e1] at this; cases this
  exact ⟨.refl, R, e2⟩
theorem jok_str {x : Str} : JOk K C ρ H ⟨chars x, fun N => true⟩ (Its x) := fun ρ1 H1 N1 E R h => by
  have hl : (chars x).length = x.cps.size := by unfold chars; simp
  refine ⟨fun i d hd => ?_, by rw [show (NIt.mk (chars x) fun _ => true).items = chars x from rfl, hl]; exact Nat.le_refl _⟩
  have hi := (List.getElem?_eq_some_iff.mp hd).1
  refine ⟨by rw [show (NIt.mk (chars x) fun _ => true).items = chars x from rfl, hl] at hi; exact hi, fun y H' ⟨hH, c, hc, hy⟩ => ⟨ρ1, ?_⟩⟩
  subst hH
  refine ⟨.refl, R, ?_⟩
  have e : (chars x)[i]? = some (.str ⟨#[c]⟩) := by
    unfold chars
    rw [List.getElem?_map, show x.cps.toList[i]? = some c by rw [Array.getElem?_toList]; exact hc]; rfl
  rw [show (NIt.mk (chars x) fun _ => true).items = chars x from rfl, e] at hd
  cases hd
  exact hy
theorem RK.dkeys_get {kvs : List (Key × D)} {l : List (Key × V)} {i : Nat} {d : D} (h : RK K ρ H kvs l) (hd : (kvs.map fun p => dKey p.1)[i]? = some d) : ∃ k v, l[i]? = some (k, v) ∧ d = dKey k := by
  rw [List.getElem?_map] at hd
  obtain ⟨p, h1, rfl⟩ := Option.map_eq_some_iff.mp hd
  have hl : i < l.length := by rw [h.length]; exact (List.getElem?_eq_some_iff.mp h1).1
  have e : l[i]? = some (l[i]'hl) := List.getElem?_eq_getElem _
  obtain ⟨d', h2, _⟩ := h.get e
  rw [h1] at h2
  refine ⟨(l[i]'hl).1, (l[i]'hl).2, e, ?_⟩
  rw [Option.some.inj h2]
theorem RK.tkeys_get {kvs : List (List Key × D)} {l : List (List Key × V)} {i : Nat} {d : D} (h : RK K ρ H kvs l) (hd : (kvs.map fun p => D.tup (p.1.map dKey))[i]? = some d) : ∃ k v, l[i]? = some (k, v) ∧ d = .tup (k.map dKey) := by
  rw [List.getElem?_map] at hd
  obtain ⟨p, h1, rfl⟩ := Option.map_eq_some_iff.mp hd
  have hl : i < l.length := by rw [h.length]; exact (List.getElem?_eq_some_iff.mp h1).1
  have e : l[i]? = some (l[i]'hl) := List.getElem?_eq_getElem _
  obtain ⟨d', h2, _⟩ := h.get e
  rw [h1] at h2
  refine ⟨(l[i]'hl).1, (l[i]'hl).2, e, ?_⟩
  rw [Option.some.inj h2]
theorem jok_fK {kvs : List (Key × D)} {l : List (Key × V)} {a : Addr} {ob : Obj} (ha : H a = some (.frz ob (.dK l))) (hr : RK K ρ H kvs l) : JOk K C ρ H ⟨kvs.map fun p => dKey p.1, fun N => true⟩ (Itk a ob l) := fun ρ1 H1 N1 E R h => by
  have h1 := E.frz a _ _ ha
  refine ⟨fun i d hd => ?_, h1, by simp [hr.length]⟩
  obtain ⟨k, v, e1, rfl⟩ := hr.dkeys_get hd
  refine ⟨⟨h1, (List.getElem?_eq_some_iff.mp e1).1⟩, fun y H' ⟨hH, k', v', e2, hy⟩ => ⟨ρ1, ?_⟩⟩
  subst hH
  rw [e1] at e2; cases e2
  exact ⟨.refl, R, by rw [hy]; exact dKey_ok k⟩
theorem jok_fT {kvs : List (List Key × D)} {l : List (List Key × V)} {a : Addr} {ob : Obj} (ha : H a = some (.frz ob (.dT l))) (hr : RK K ρ H kvs l) : JOk K C ρ H ⟨kvs.map fun p => .tup (p.1.map dKey), fun N => true⟩ (Itkt a ob l) := fun ρ1 H1 N1 E R h => by
  have h1 := E.frz a _ _ ha
  refine ⟨fun i d hd => ?_, h1, by simp [hr.length]⟩
  obtain ⟨k, v, e1, rfl⟩ := hr.tkeys_get hd
  refine ⟨⟨h1, (List.getElem?_eq_some_iff.mp e1).1⟩, fun y H' ⟨hH, k', v', b, e2, hy, hb⟩ => ⟨ρ1, ?_⟩⟩
  subst hH
  rw [e1] at e2; cases e2
  refine ⟨.refl, R, ⟨b, k.map kV, hy, ⟨fun m => ?_, hb⟩, dKeys_ok k⟩⟩
  obtain ⟨u, e, nt, _⟩ := R.tracked m
  rw [hb] at e
  exact nt _ (Option.some.inj e).symm
end
section
variable {X : Cx} {C : NC} {W : WX} {e a b c tg iter : Expr} {body : List Stmt} {pos p : Pos}
theorem n_it {ma : NE} (h : PE X e (tE X.K C W ma)) : PI X tg e (tI X.K C W (iSeq ma)) :=
  pi_weak (pi_or (pi_list h) (pi_or (pi_tup h) (pi_or (pi_str h) (pi_keys h)))) fun σ H R' ⟨ρ, σn, N, R, S, q⟩ => by
    have hb := PostR.bind (rel := RD X.K) q
    have hS : ∀ {P : V → Hp → Prop}, (PostR (RD X.K) X.K C W ρ H σ P (ma σn N)) → tE X.K C W ma σ H P := fun h => ⟨ρ, σn, N, R, S, h⟩
    cases e : ma σn N with
    | exc x N' => rw [e] at hb; exact .inl (hS (by rw [e]; exact hb))
    | bad => rw [e] at hb; exact hb.elim
    | ok d N' =>
      have q0 := q
      unfold iSeq at q0
      rw [e] at q0
      replace q0 : PostR (JOk X.K C) X.K C W ρ H σ R' (match itOf N' d with | some t => NY.R.ok t N' | none => .bad) := q0
      unfold itOf at q0
      cases d with
      | tup l =>
        refine .inr (.inl (hS ?_)); rw [e]
        intro v H1 ρ1 E1 R1 rd
        obtain ⟨a, xs, rfl, ta, ra⟩ := rd
        exact ⟨a, rfl, ⟨xs, ta.sq⟩, q0 _ H1 ρ1 E1 R1 (jok_tup (.inl ta) ra)⟩
      | ctup l =>
        refine .inr (.inl (hS ?_)); rw [e]
        intro v H1 ρ1 E1 R1 rd
        obtain ⟨a, xs, rfl, ta, ra⟩ := rd
        exact ⟨a, rfl, ⟨xs, ta.sq⟩, q0 _ H1 ρ1 E1 R1 (jok_tup (.inr ta) ra)⟩
      | lsc l =>
        refine .inl (hS ?_); rw [e]
        intro v H1 ρ1 E1 R1 rd
        obtain ⟨a, xs, rfl, ta, ra⟩ := rd
        exact ⟨a, rfl, ⟨xs, ta.sq⟩, q0 _ H1 ρ1 E1 R1 (jok_lsc ta ra)⟩
      | str x =>
        refine .inr (.inr (.inl (hS ?_))); rw [e]
        intro v H1 ρ1 E1 R1 rd
        exact ⟨x, rd, q0 _ H1 ρ1 E1 R1 jok_str⟩
      | ref n =>
        dsimp only at q0
        split at q0
        · rename_i t ht
          split at ht
          · rename_i l hN
            cases ht
            refine .inl (hS ?_); rw [e]
            intro v H1 ρ1 E1 R1 rd
            obtain ⟨a, us, rfl, ha, h1, ra⟩ := R1.lst rd hN
            exact ⟨a, rfl, ⟨us, SqL.of h1⟩, q0 _ H1 ρ1 E1 R1 (jok_lst ha)⟩
          · rename_i kvs hN
            cases ht
            refine .inr (.inr (.inr (hS ?_))); rw [e]
            intro v H1 ρ1 E1 R1 rd
            obtain ⟨a, rfl, ha⟩ := rd
            obtain ⟨ob, l, h1, h2⟩ := R1.obj n a _ ha hN
            exact ⟨a, ob, rfl, .inl ⟨l, h1, q0 _ H1 ρ1 E1 R1 (jok_fK h1 h2)⟩⟩
          · rename_i kvs hN
            cases ht
            refine .inr (.inr (.inr (hS ?_))); rw [e]
            intro v H1 ρ1 E1 R1 rd
            obtain ⟨a, rfl, ha⟩ := rd
            obtain ⟨ob, l, h1, h2⟩ := R1.obj n a _ ha hN
            exact ⟨a, ob, rfl, .inr ⟨l, h1, q0 _ H1 ρ1 E1 R1 (jok_fT h1 h2)⟩⟩
          · cases ht
        · exact q0.elim
      | _ => exact q0.elim
/-! range -/
def iRng (a : NA) : NI := fun σ N => (a σ N).bind fun ds N => match ds with
  | [.int j] => if -(2 ^ 62) ≤ j ∧ j < 2 ^ 62 then .ok ⟨(List.range j.toNat).map fun (i : Nat) => .int (i : Int), fun _ => true⟩ N else .bad
  | [.int i, .int j] => if -(2 ^ 62) ≤ i ∧ i < 2 ^ 62 ∧ -(2 ^ 62) ≤ j ∧ j < 2 ^ 62 then .ok ⟨(List.range (j - i).toNat).map fun (k : Nat) => .int (i + (k : Int)), fun _ => true⟩ N else .bad
  | _ => .bad
theorem jok_rng {K : PySem.W.Frag} {ρ : List Addr} {H : Hp} {lo : Int} {n : Nat} {l : List D} (hl : l = (List.range n).map fun (k : Nat) => .int (lo + (k : Int))) : JOk K C ρ H ⟨l, fun N => true⟩ (Itr lo n) := fun ρ1 H1 N1 E R h => by
  subst hl
  refine ⟨fun i d hd => ?_, by simp [Itr]⟩
  rw [List.getElem?_map] at hd
  obtain ⟨k, h1, rfl⟩ := Option.map_eq_some_iff.mp hd
  obtain ⟨h2, h3⟩ := List.getElem?_eq_some_iff.mp h1
  rw [List.length_range] at h2
  rw [List.getElem_range] at h3
  subst h3
  refine ⟨h2, fun y H' ⟨hH, hy⟩ => ⟨ρ1, ?_⟩⟩
  subst hH
  exact ⟨.refl, R, hy⟩
theorem n_range1 {ma : NA} (hm : X.mg "range" = none) (h : PA X [a] (tA X.K C W ma)) (hg : Gl X "range" := by rfl) (hs : starEach [a] X.env = [(false, eval a X.env)] := by rfl) (hl : ∀ σ N ds N', ma σ N = .ok ds N' → ds.length = 1) : PI X tg (.Call (.Name "range" p) [a] [] pos) (tI X.K C W (iRng ma)) :=
  pi_weak (pi_range1 hg hm h hs) fun σ H R' ⟨ρ, σn, N, R, S, q⟩ => ⟨ρ, σn, N, R, S, (PostR.bindE (rel := RDs X.K) q).imp fun us H1 ⟨ds, ρ1, N1, E1, R1, rs, q1, em⟩ => by
    have h1 := hl _ _ _ _ em
    split at q1
    · split at q1
      · rename_i hj
        obtain ⟨x, rfl, rx⟩ := rs.one_of
        exact ⟨_, by rw [show x = _ from rx], hj.1, hj.2, q1 _ H1 ρ1 .refl R1 (jok_rng (by simp))⟩
      · exact q1.elim
    · simp at h1
    · exact q1.elim⟩
theorem n_range2 {ma : NA} (hm : X.mg "range" = none) (h : PA X [a, b] (tA X.K C W ma)) (hg : Gl X "range" := by rfl) (hs : starEach [a, b] X.env = [(false, eval a X.env), (false, eval b X.env)] := by rfl) (hs2 : starEach [b] X.env = [(false, eval b X.env)] := by rfl) (hl : ∀ σ N ds N', ma σ N = .ok ds N' → ds.length = 2) : PI X tg (.Call (.Name "range" p) [a, b] [] pos) (tI X.K C W (iRng ma)) :=
  pi_weak (pi_range2 hg hm h hs hs2) fun σ H R' ⟨ρ, σn, N, R, S, q⟩ => ⟨ρ, σn, N, R, S, (PostR.bindE (rel := RDs X.K) q).imp fun us H1 ⟨ds, ρ1, N1, E1, R1, rs, q1, em⟩ => by
    have h1 := hl _ _ _ _ em
    split at q1
    · simp at h1
    · split at q1
      · rename_i hj
        obtain ⟨x, y, rfl, rx, ry⟩ := rs.two_of
        exact ⟨_, _, by rw [show x = _ from rx, show y = _ from ry], hj, q1 _ H1 ρ1 .refl R1 (jok_rng rfl)⟩
      · exact q1.elim
    · exact q1.elim⟩
def iRng3 (a : NA) : NI := fun σ N => (a σ N).bind fun ds N => match ds with
  | [.int i, .int j, .int c] => if c ≠ 0 ∧ c.natAbs < 1073741824 ∧ Builtin.Range.small i j c = true ∧ 0 ≤ Builtin.Range.rangeSize i j c then .ok ⟨(List.range (Builtin.Range.rangeSize i j c).toNat).map fun (k : Nat) => .int (i + (k : Int) * c), fun _ => true⟩ N else .bad
  | _ => .bad
theorem jok_rngC {K : PySem.W.Frag} {ρ : List Addr} {H : Hp} {lo c : Int} {n : Nat} : JOk K C ρ H ⟨(List.range n).map fun (k : Nat) => .int (lo + (k : Int) * c), fun N => true⟩ (Itc lo c n) := fun ρ1 H1 N1 E R h => by
  refine ⟨fun i d hd => ?_, by simp [Itc]⟩
  rw [List.getElem?_map] at hd
  obtain ⟨k, h1, rfl⟩ := Option.map_eq_some_iff.mp hd
  obtain ⟨h2, h3⟩ := List.getElem?_eq_some_iff.mp h1
  rw [List.length_range] at h2
  rw [List.getElem_range] at h3
  subst h3
  refine ⟨h2, fun y H' ⟨hH, hy⟩ => ⟨ρ1, ?_⟩⟩
  subst hH
  exact ⟨.refl, R, hy⟩
theorem n_range3 {ma : NA} (hm : X.mg "range" = none) (h : PA X [a, b, c] (tA X.K C W ma)) (hg : Gl X "range" := by rfl) (hs : starEach [a, b, c] X.env = (false, eval a X.env) :: starEach [b, c] X.env := by rfl) (hs2 : ((backTo pos (starEach [b, c] X.env)).any fun x => x.fst) = false := by rfl) : PI X tg (.Call (.Name "range" p) [a, b, c] [] pos) (tI X.K C W (iRng3 ma)) :=
  pi_weak (pi_range3 hg hm h hs hs2) fun σ H R' ⟨ρ, σn, N, R, S, q⟩ => ⟨ρ, σn, N, R, S, (PostR.bindE (rel := RDs X.K) q).imp fun us H1 ⟨ds, ρ1, N1, E1, R1, rs, q1, em⟩ => by
    split at q1
    · split at q1
      · rename_i hj
        obtain ⟨x, r, rfl, rx, r'⟩ := rs
        obtain ⟨y, z, rfl, ry, rz⟩ := RDs.two_of r'
        exact ⟨_, _, _, _, by rw [show x = _ from rx, show y = _ from ry, show z = _ from rz], ⟨hj.1, hj.2.1, hj.2.2.1, (Int.toNat_of_nonneg hj.2.2.2).symm⟩, q1 _ H1 ρ1 .refl R1 jok_rngC⟩
      · exact q1.elim
    · exact q1.elim⟩
end

/-! ### for -/
def loopN (p : NP) (body : NS) (ok : NH → Bool) : List D → NS
  | [], σ, N => if ok N = true then .nx σ N else .bad
  | x :: r, σ, N => if ok N = true then (match p.put x σ N with
    | some σ1 => match body σ1 N with
      | .nx σ2 N2 => loopN p body ok r σ2 N2
      | .bk σ2 N2 => .nx σ2 N2
      | q => q
    | none => .bad) else .bad
def sFor (it : NI) (p : NP) (body : NS) : NS := fun σ N => (it σ N).stm σ fun t N => loopN p body t.ok t.items σ N
section
variable {X : Cx} {C : NC} {W : WX} {e a b c tg iter : Expr} {body : List Stmt} {pos p : Pos}
theorem s_for {mi : NI} {pt : NP} {mb : NS} (hp : PassesOwn (model X.prog X.w) X.A X.env X.xe) (hc : X.calm = true) (hi : PI X tg iter (tI X.K C W mi)) (hg : PG X tg (tG X.K C pt)) (hb : PSs X body (tS X.K C W mb)) (hf : ∀ (x : Value), foldedSetIterable iter X.env x = pure x := by intro _; rfl) :
    PS X (.For tg iter body [] pos) (tS X.K C W (sFor mi pt mb)) :=
  ps_weak (ps_for hp hc hi hg hb hf) fun D σ H ⟨ρ, σn, N, R, S, q⟩ => PostS.part R S q fun J H1 ρ1 N1 t E1 R1 S1 hJ q1 => by
    refine ⟨fun i m σ H => ∃ ρ σn N, Ext ρ1 H1 ρ H ∧ NRel X.K C ρ N H ∧ RSt X.K ρ H σn σ ∧ i ≤ t.items.length ∧ m = t.items.length - i ∧ PostS X.K C W D ρ H (loopN pt mb t.ok (t.items.drop i) σn N), ⟨_, ρ1, σn, N1, .refl, R1, S1, Nat.zero_le _, rfl, q1⟩, ?_⟩
    intro i m σ2 H2 ⟨ρ2, σn2, N2, E2, R2, S2, hi, hm, q2⟩
    by_cases hlt : i < t.items.length
    · have hd : t.items.drop i = t.items[i] :: t.items.drop (i + 1) := List.drop_eq_getElem_cons hlt
      rw [hd] at q2
      unfold loopN at q2
      split at q2
      · rename_i hok
        have ⟨hJ1, _⟩ := hJ ρ2 H2 N2 E2 R2 hok
        have ⟨hgo, hy⟩ := hJ1 i t.items[i] (List.getElem?_eq_getElem hlt)
        refine .inr ⟨hgo, fun σ3 H3 => ∃ ρ3 σn3 N3, Ext ρ1 H1 ρ3 H3 ∧ NRel X.K C ρ3 N3 H3 ∧ RSt X.K ρ3 H3 σn3 σ3 ∧ PostS X.K C W D ρ3 H3 (loopN pt mb t.ok (t.items.drop (i + 1)) σn3 N3), fun σ3 H3 ⟨ρ3, σn3, N3, E3, R3, S3, q3⟩ => ⟨_, by omega, ρ3, σn3, N3, E3, R3, S3, hlt, rfl, q3⟩, ?_⟩
        intro x H3 hx
        obtain ⟨ρ3, E3, R3, rd⟩ := hy x H3 hx
        refine ⟨ρ3, σn2, N2, _, R3, S2.ext E3, rd, ?_⟩
        split
        · rename_i σn4 hp4
          rw [hp4] at q2
          intro σ4 S4 _
          refine ⟨ρ3, σn4, N2, R3, S4, ?_⟩
          have E13 := E2.trans E3
          cases eb : mb σn4 N2 with
          | nx σ5 N5 =>
            dsimp only at q2
            rw [eb] at q2
            exact fun σ' H' ρ' E' R' S' => ⟨ρ', σ5, N5, E13.trans E', R', S', PostS.ext (E3.trans E') q2⟩
          | rt d N5 => dsimp only at q2; rw [eb] at q2; exact PostS.ext E3 q2
          | bk σ5 N5 => dsimp only at q2; rw [eb] at q2; exact PostS.ext E3 q2
          | exc x σ5 N5 => dsimp only at q2; rw [eb] at q2; exact PostS.ext E3 q2
          | bad => dsimp only at q2; rw [eb] at q2; exact q2
        · rename_i hp4
          rw [hp4] at q2
          exact q2.elim
      · exact q2.elim
    · have hil : i = t.items.length := by omega
      subst hil
      rw [List.drop_length] at q2
      unfold loopN at q2
      split at q2
      · rename_i hok
        have ⟨_, hJ2⟩ := hJ ρ2 H2 N2 E2 R2 hok
        exact .inl ⟨hJ2, q2.nx R2 S2⟩
      · exact q2.elim
/-! a dict walked: it is locked -/
def unlockS (n : Nat) (o f : O) : RS → RS
  | .nx σ N => if N[n]? = some f then .nx σ (N.set n o) else .bad
  | .rt d N => if N[n]? = some f then .rt d (N.set n o) else .bad
  | .bk σ N => if N[n]? = some f then .bk σ (N.set n o) else .bad
  | .exc x σ N => .exc x σ N
  | .bad => .bad
def lockO : O → Option O
  | .dK kvs => some (.fK kvs)
  | .dT kvs => some (.fT kvs)
  | _ => none
/-- what the iterable is, before it is locked -/
def lockAt (a : NE) (σ : NEnv) (N : NH) : Option (Nat × O × O) := match a σ N with
  | .ok (.ref n) _ => (N[n]?).bind fun o => (lockO o).map fun f => (n, o, f)
  | _ => none
def sForL (a : NE) (p : NP) (body : NS) : NS := fun σ N => match lockAt a σ N with
  | some (n, o, f) => unlockS n o f (sFor (iSeq a) p body σ (N.set n f))
  | none => sFor (iSeq a) p body σ N
theorem lock_at {K : PySem.W.Frag} {ρ : List Addr} {N : NH} {H : Hp} {n : Nat} {o f : O} (R : NRel K C ρ N H) (hN : N[n]? = some o) (hf : lockO o = some f) :
    ∃ a u, ρ[n]? = some a ∧ H a = some u ∧ Mut (some u) ∧ (∀ ob w, u ≠ .frz ob w) ∧ (∀ ps, u ≠ .tbl ps) ∧ (∀ od, Ext ρ H ρ (upd H a (.frz od u)) ∧ NRel K C ρ (N.set n f) (upd H a (.frz od u))) ∧
      (∀ od ρ' H' N', Ext ρ (upd H a (.frz od u)) ρ' H' → NRel K C ρ' N' H' → N'[n]? = some f → H' a = some (.frz od u) ∧ Ext ρ H ρ' (upd H' a u) ∧ NRel K C ρ' (N'.set n o) (upd H' a u) ∧ Same ρ' H' (upd H' a u)) := by
  have hback : ∀ (a : Addr) (u : HO), ρ[n]? = some a → H a = some u → (∀ ob w, u ≠ .frz ob w) → (∀ ps, u ≠ .tbl ps) → (∀ ρ' H' N' od, Ext ρ (upd H a (.frz od u)) ρ' H' → NRel K C ρ' N' H' → N'[n]? = some f → RO K C ρ' (upd H' a u) a o) →
    (∀ od ρ' H' N', Ext ρ (upd H a (.frz od u)) ρ' H' → NRel K C ρ' N' H' → N'[n]? = some f → H' a = some (.frz od u) ∧ Ext ρ H ρ' (upd H' a u) ∧ NRel K C ρ' (N'.set n o) (upd H' a u) ∧ Same ρ' H' (upd H' a u)) := by
    intro a u ha hu hz ht hro od ρ' H' N' E R' hN'
    have h1 := E.frz a od u upd_same
    have hne : ∀ b, b ≠ a → upd H a (.frz od u) b = H b := fun b hb => upd_ne hb
    refine ⟨h1, ⟨E.pre, fun b hb nb => ?_, fun b w hw nb nt => ?_, fun b ps hb => ?_, fun b ob w hb => ?_⟩, R'.unlock (E.get ha) (hro ρ' H' N' od E R' hN'), Same.mem (memOf (E.get ha))⟩
    · have := E.new b hb nb
      by_cases q : b = a
      · subst q; rw [upd_same] at this; cases this
      · rw [hne b q] at this; exact this
    · have q : b ≠ a := fun z => nb (z ▸ memOf ha)
      rw [upd_ne q]
      exact E.keep b w (by rw [hne b q]; exact hw) nb nt
    · have q : b ≠ a := fun z => by subst z; rw [hu] at hb; exact ht ps (Option.some.inj hb)
      obtain ⟨qs, e⟩ := E.tbl b ps (by rw [hne b q]; exact hb)
      exact ⟨qs, by rw [upd_ne q]; exact e⟩
    · have q : b ≠ a := fun z => by subst z; rw [hu] at hb; exact hz ob w (Option.some.inj hb)
      rw [upd_ne q]
      exact E.frz b ob w (by rw [hne b q]; exact hb)
  cases o with
  | dK kvs =>
    cases hf
    obtain ⟨a, ha, l, h1, h2⟩ := R.at' hN
    have hl : ∀ od, Ext ρ H ρ (upd H a (.frz od (.dK l))) ∧ NRel K C ρ (N.set n (.fK kvs)) (upd H a (.frz od (.dK l))) := fun od =>
      R.write ha (fun _ _ z => by rw [h1] at z; cases z) ⟨od, l, upd_same, h2.ext (Ext.write (memOf ha) (fun _ z => by rw [h1] at z; cases z) (fun _ _ z => by rw [h1] at z; cases z))⟩
    refine ⟨a, .dK l, ha, h1, trivial, (fun _ _ z => nomatch z), (fun _ z => nomatch z), hl, hback a _ ha h1 (fun _ _ z => nomatch z) (fun _ z => nomatch z) fun ρ' H' N' od E R' hN' => ?_⟩
    exact ⟨l, upd_same, RK.same (Same.mem (memOf (E.get ha))) _ (RK.ext ((hl od).1.trans E) _ h2)⟩
  | dT kvs =>
    cases hf
    obtain ⟨a, ha, l, h1, h2⟩ := R.at' hN
    have hl : ∀ od, Ext ρ H ρ (upd H a (.frz od (.dT l))) ∧ NRel K C ρ (N.set n (.fT kvs)) (upd H a (.frz od (.dT l))) := fun od =>
      R.write ha (fun _ _ z => by rw [h1] at z; cases z) ⟨od, l, upd_same, h2.ext (Ext.write (memOf ha) (fun _ z => by rw [h1] at z; cases z) (fun _ _ z => by rw [h1] at z; cases z))⟩
    refine ⟨a, .dT l, ha, h1, trivial, (fun _ _ z => nomatch z), (fun _ z => nomatch z), hl, hback a _ ha h1 (fun _ _ z => nomatch z) (fun _ z => nomatch z) fun ρ' H' N' od E R' hN' => ?_⟩
    exact ⟨l, upd_same, RK.same (Same.mem (memOf (E.get ha))) _ (RK.ext ((hl od).1.trans E) _ h2)⟩
  | lst _ => cases hf
  | fK _ => cases hf
  | fT _ => cases hf
  | ins _ _ => cases hf
theorem s_forL {ma : NE} {pt : NP} {mb : NS} (hp : PassesOwn (model X.prog X.w) X.A X.env X.xe) (hc : X.calm = true) (hi : PE X iter (tE X.K C W ma)) (hg : PG X tg (tG X.K C pt)) (hb : PSs X body (tS X.K C W mb)) (hf : ∀ (x : Value), foldedSetIterable iter X.env x = pure x := by intro _; rfl) :
    PS X (.For tg iter body [] pos) (tS X.K C W (sForL ma pt mb)) := by
  have h0 := s_for (W := W) hp hc (n_it hi) hg hb (pos := pos) hf
  refine ps_weak (ps_or h0 (ps_lock h0)) fun D σ H ⟨ρ, σn, N, R, S, q⟩ => ?_
  unfold sForL at q
  split at q
  · rename_i n o f hlk
    unfold lockAt at hlk
    split at hlk
    · rename_i n' N' _
      obtain ⟨o', hN, h2⟩ := Option.bind_eq_some_iff.mp hlk
      obtain ⟨f', hf', e⟩ := Option.map_eq_some_iff.mp h2
      cases e
      obtain ⟨a, u, ha, hu, hm, hz, ht, hl, hback⟩ := lock_at R hN hf'
      refine .inr ⟨a, u, hu, hm, fun od => ?_⟩
      obtain ⟨E, R'⟩ := hl od
      refine ⟨ρ, σn, _, R', S.ext E, ?_⟩
      revert q
      cases sFor (iSeq ma) pt mb σn (N.set n f) with
      | nx σ1 N1 =>
        intro q σ' H' ρ' E' R2 S'
        replace q : PostS X.K C W D ρ H (if N1[n]? = some f then .nx σ1 (N1.set n o) else .bad) := q
        by_cases hN1 : N1[n]? = some f
        · rw [if_pos hN1] at q
          obtain ⟨b1, b2, b3, b4⟩ := hback od ρ' H' N1 E' R2 hN1
          exact ⟨b1, q σ' _ ρ' b2 b3 (S'.same b4)⟩
        · rw [if_neg hN1] at q; exact q.elim
      | rt d N1 =>
        intro q σ' H' ρ' E' R2 S'
        replace q : PostS X.K C W D ρ H (if N1[n]? = some f then .rt d (N1.set n o) else .bad) := q
        by_cases hN1 : N1[n]? = some f
        · rw [if_pos hN1] at q
          obtain ⟨b1, b2, b3, b4⟩ := hback od ρ' H' N1 E' R2 hN1
          exact ⟨b1, q σ' _ ρ' b2 b3 (RD.same b4 _ S')⟩
        · rw [if_neg hN1] at q; exact q.elim
      | bk σ1 N1 =>
        intro q σ' H' ρ' E' R2 S'
        replace q : PostS X.K C W D ρ H (if N1[n]? = some f then .bk σ1 (N1.set n o) else .bad) := q
        by_cases hN1 : N1[n]? = some f
        · rw [if_pos hN1] at q
          obtain ⟨b1, b2, b3, b4⟩ := hback od ρ' H' N1 E' R2 hN1
          exact ⟨b1, q σ' _ ρ' b2 b3 (S'.same b4)⟩
        · rw [if_neg hN1] at q; exact q.elim
      | exc x σ1 N1 => exact fun q c dx σ' H' ρ' E' R2 S' rx => q c dx σ' H' ρ' (E.trans E') R2 S' rx
      | bad => exact fun q => q
    · cases hlk
  · exact .inl ⟨ρ, σn, N, R, S, q⟩
/-! ### while -/
def sWhile (c : NT) (b : NS) : Nat → NS
  | 0 => fun _ _ => .bad
  | f + 1 => fun σ N => (c σ N).stm σ fun k N => if k = true then (match b σ N with
    | .nx σ N => sWhile c b f σ N
    | .bk σ N => .nx σ N
    | r => r) else .nx σ N
theorem s_while {mc : NT} {mb : NS} (fuel : Nat) (hp : PassesOwn (model X.prog X.w) X.A X.env X.xe) (hc : PT X c (tT X.K C W mc)) (hb : PSs X body (tS X.K C W mb)) : PS X (.While c body [] pos) (tS X.K C W (sWhile mc mb fuel)) :=
  ps_weak (ps_while hp hc hb) fun D σ H ⟨ρ, σn, N, R, S, q⟩ => by
    refine ⟨fun m σ H => ∃ ρ σn N, NRel X.K C ρ N H ∧ RSt X.K ρ H σn σ ∧ PostS X.K C W D ρ H (sWhile mc mb m σn N), ⟨fuel, ρ, σn, N, R, S, q⟩, ?_⟩
    intro m σ1 H1 ⟨ρ1, σn1, N1, R1, S1, q1⟩
    cases m with
    | zero => exact q1.elim
    | succ f =>
      refine PostS.part (rel := rB) R1 S1 q1 fun b H2 ρ2 N2 k E2 R2 S2 rk q2 => ?_
      have rk' : b = k := rk
      subst rk'
      by_cases hb : b = true
      · rw [if_pos hb] at q2 ⊢
        refine ⟨fun σ3 H3 => ∃ ρ σn N, NRel X.K C ρ N H3 ∧ RSt X.K ρ H3 σn σ3 ∧ PostS X.K C W D ρ H3 (sWhile mc mb f σn N), fun σ3 H3 h3 => ⟨f, Nat.lt_succ_self f, h3⟩, ρ2, σn1, N2, R2, S2, ?_⟩
        cases eb : mb σn1 N2 with
        | nx σ5 N5 => rw [eb] at q2; exact fun σ' H' ρ' E' R' S' => ⟨ρ', σ5, N5, R', S', PostS.ext E' q2⟩
        | rt d N5 => rw [eb] at q2; exact q2
        | bk σ5 N5 => rw [eb] at q2; exact q2
        | exc x σ5 N5 => rw [eb] at q2; exact q2
        | bad => rw [eb] at q2; exact q2
      · rw [if_neg hb] at q2 ⊢
        exact q2.nx R2 S2
end
end NY

set_option Elab.async false
set_option linter.all false
set_option maxRecDepth 100000
set_option maxHeartbeats 4000000
/-! NY9: list comprehensions -/
namespace NY
open PySem PySem.Spec PyProof.Rows L2

def wipeN (σ : NEnv) : List Nat → NEnv
  | [] => σ
  | i :: is => (wipeN σ is).set i none
theorem wipe_len : ∀ (vs : List Nat) (σ : L2.St), (wipe σ vs).length = σ.length
  | [], σ => rfl
  | i :: is, σ => by rw [show wipe σ (i :: is) = (wipe σ is).set i none from rfl, List.length_set, wipe_len is]
theorem wipe_get : ∀ (vs : List Nat) (σ : L2.St) (j : Nat), (wipe σ vs)[j]? = if j ∈ vs ∧ j < σ.length then some none else σ[j]?
  | [], σ, j => by simp [L2.wipe]
  | i :: is, σ, j => by
    rw [show wipe σ (i :: is) = (wipe σ is).set i none from rfl]
    by_cases h2 : i = j
    · subst h2
      by_cases h3 : i < σ.length
      · rw [if_pos ⟨List.mem_cons_self, h3⟩, List.getElem?_set_self (by rw [wipe_len]; exact h3)]
      · rw [if_neg (fun z => h3 z.2), List.getElem?_eq_none (by rw [List.length_set, wipe_len]; omega), List.getElem?_eq_none (by omega)]
    · rw [List.getElem?_set_ne h2, wipe_get is σ j]
      by_cases h1 : j ∈ is
      · by_cases h3 : j < σ.length
        · rw [if_pos ⟨h1, h3⟩, if_pos ⟨List.mem_cons_of_mem _ h1, h3⟩]
        · rw [if_neg (fun z => h3 z.2), if_neg (fun z => h3 z.2)]
      · rw [if_neg (fun z => h1 z.1), if_neg (fun z => by rcases List.mem_cons.mp z.1 with e | e; exact h2 e.symm; exact h1 e)]
theorem wipe_only {vs : List Nat} {σ σ' : L2.St} (h : Only vs (wipe σ vs) σ') : wipe σ' vs = wipe σ vs := by
  apply List.ext_getElem?
  intro j
  have hl : σ'.length = σ.length := h.1.trans (wipe_len vs σ)
  rw [wipe_get, hl]
  by_cases q : j ∈ vs
  · by_cases q2 : j < σ.length
    · rw [if_pos ⟨q, q2⟩, wipe_get, if_pos ⟨q, q2⟩]
    · rw [if_neg (fun z => q2 z.2), List.getElem?_eq_none (by omega), List.getElem?_eq_none (by rw [wipe_len]; omega)]
  · rw [if_neg (fun z => q z.1)]; exact h.2 j q
section
variable {K : PySem.W.Frag} {C : NC} {ρ ρ' : List Addr} {H H' : Hp}
theorem RSt.setNone {σn : NEnv} {σ : L2.St} (S : RSt K ρ H σn σ) (i : Nat) : RSt K ρ H (σn.set i none) (σ.set i none) := by
  refine ⟨by rw [List.length_set, List.length_set]; exact S.1, fun j e h => ?_⟩
  by_cases q : i = j
  · subst q
    by_cases hl : i < σn.length
    · rw [List.getElem?_set_self hl] at h; cases h
    · rw [List.getElem?_eq_none (by rw [List.length_set]; omega)] at h; cases h
  · rw [List.getElem?_set_ne q] at h
    obtain ⟨w, h1, h2⟩ := S.2 j e h
    exact ⟨w, by rw [List.getElem?_set_ne q]; exact h1, h2⟩
theorem RSt.wipe : ∀ (vs : List Nat) {σn : NEnv} {σ : L2.St}, RSt K ρ H σn σ → RSt K ρ H (wipeN σn vs) (L2.wipe σ vs)
  | [], _, _, S => S
  | i :: is, _, _, S => (RSt.wipe is S).setNone i
/-- a list beside the nice objects, that a comprehension fills -/
def Fill (K : PySem.W.Frag) (ρ : List Addr) (H : Hp) (a : Addr) (acc : List D) : Prop := a ∉ ρ ∧ ∃ xs, H a = some (.lst xs) ∧ RDs K ρ H acc xs
theorem Fill.ext {a : Addr} {acc : List D} (e : Ext ρ H ρ' H') (h : Fill K ρ H a acc) : Fill K ρ' H' a acc := by
  obtain ⟨n, xs, h1, h2⟩ := h
  refine ⟨fun m => ?_, xs, e.keep a _ h1 n (fun _ z => nomatch z), h2.ext e⟩
  rw [e.new a m n] at h1; cases h1
theorem Fill.push {a : Addr} {acc : List D} {xs : List V} {N : NH} {ρ0 : List Addr} {H0 : Hp} {y : D} {v : V} (R : NRel K C ρ N H) (n : a ∉ ρ) (h1 : H a = some (.lst xs)) (h2 : RDs K ρ H acc xs) (hy : RD K ρ H y v) (E0 : Ext ρ0 H0 ρ H) (h0 : H0 a = none) :
    Ext ρ0 H0 ρ (upd H a (.lst (xs ++ [v]))) ∧ NRel K C ρ N (upd H a (.lst (xs ++ [v]))) ∧ Fill K ρ (upd H a (.lst (xs ++ [v]))) a (acc ++ [y]) := by
  have hs : Same ρ H (upd H a (.lst (xs ++ [v]))) := Same.lst h1
  refine ⟨⟨E0.pre, E0.new, fun b o hb nb nt => ?_, fun b ps hb => ?_, fun b o w hb => ?_⟩, R.aside h1 n, n, _, upd_same, (RDs.same hs _ h2).append (RDs.one (hy.same hs))⟩
  · rw [upd_ne (ne_of_none hb h0)]; exact E0.keep b o hb nb nt
  · rw [upd_ne (ne_of_none hb h0)]; exact E0.tbl b ps hb
  · rw [upd_ne (ne_of_none hb h0)]; exact E0.frz b o w hb
theorem Fill.new {a : Addr} {N : NH} (R : NRel K C ρ N H) (h : H a = none) : Ext ρ H ρ (upd H a (.lst [])) ∧ NRel K C ρ N (upd H a (.lst [])) ∧ Fill K ρ (upd H a (.lst [])) a [] := by
  obtain ⟨E, R'⟩ := R.side (u := .lst []) h
  exact ⟨E, R', R.fresh h, [], upd_same, rfl⟩
end

/-- a comprehension's row: what follows the list so far -/
def lcLoop (p : NP) (c : NT) (elt : NE) (ok : NH → Bool) (σ0 : NEnv) : List D → List D → NH → R (List D)
  | [], acc, N => if ok N = true then .ok acc N else .bad
  | x :: r, acc, N => if ok N = true then (match p.put x σ0 N with
    | some σ1 => match c σ1 N with
      | .ok true N1 => match elt σ1 N1 with
        | .ok y N2 => if acc.length < sizeLine then lcLoop p c elt ok σ0 r (acc ++ [y]) N2 else .bad
        | _ => .bad
      | .ok false N1 => lcLoop p c elt ok σ0 r acc N1
      | _ => .bad
    | none => .bad) else .bad
def nLc (it : NI) (p : NP) (c : NT) (elt : NE) (vs : List Nat) : NE := fun σ N => (it σ N).bind fun t N => (lcLoop p c elt t.ok (wipeN σ vs) t.items [] N).bind fun l N => N.new (.lst l)
def nYes : NT := fun _ N => .ok true N
theorem pts_weak {X : Cx} {e : List Expr} {t t' : TT} (h : PTs X e t) (w : ∀ σ H Q, t' σ H Q → t σ H Q) : PTs X e t' := ⟨fun pins s σ H Q I q => h.run pins s σ H Q I (w σ H Q q)⟩
section
variable {X : Cx} {C : NC} {W : WX} {elt tg iter tg1 iter1 : Expr} {ifs ifs1 : List Expr} {scope : Scope} {own : List (Str × Nat)} {pos p : Pos} {vs1 : List Nat}
theorem n_noif : PTs X [] (tT X.K C W nYes) := pts_weak pts_nil fun σ H Q ⟨ρ, σn, N, R, S, q⟩ => q true H ρ .refl R rfl
theorem n_oneif {c : Expr} {m : NT} (h : PT X c (tT X.K C W m)) : PTs X [c] (tT X.K C W m) := pts_one h
theorem snd_lc {mi : NI} {pt : NP} {mc : NT} {me : NE} {vs : List Nat} {σ : L2.St} {H : Hp} {Q : VK} (hv : ∀ i ∈ pt.is, i ∈ vs) (q : tE X.K C W (nLc mi pt mc me vs) σ H Q) :
    tLc (tI X.K C W mi) (tG X.K C pt) (tT X.K C W0 mc) (tE X.K C W0 me) vs σ H Q := by
  obtain ⟨ρ, σn, N, R, S, q⟩ := q
  refine PostR.then R S q fun J H1 ρ1 N1 t E1 R1 S1 hJ q1 => ?_
  intro Da hDa
  obtain ⟨E2, R2, F2⟩ := Fill.new R1 hDa
  refine ⟨fun i m H => ∃ ρ N acc, Ext ρ1 H1 ρ H ∧ NRel X.K C ρ N H ∧ Fill X.K ρ H Da acc ∧ i ≤ t.items.length ∧ m = t.items.length - i ∧ PostR (RD X.K) X.K C W ρ1 H1 σ Q ((lcLoop pt mc me t.ok (wipeN σn vs) (t.items.drop i) acc N).bind fun l N => N.new (.lst l)), ⟨_, ρ1, N1, [], E2, R2, F2, Nat.zero_le _, rfl, q1⟩, ?_⟩
  intro i m H3 ⟨ρ3, N3, acc, E3, R3, F3, hi, hm, q3⟩
  by_cases hlt : i < t.items.length
  · have hd : t.items.drop i = t.items[i] :: t.items.drop (i + 1) := List.drop_eq_getElem_cons hlt
    rw [hd] at q3
    unfold lcLoop at q3
    by_cases hok : t.ok N3 = true
    · rw [if_pos hok] at q3
      have ⟨hJ1, _⟩ := hJ ρ3 H3 N3 E3 R3 hok
      have ⟨hgo, hy⟩ := hJ1 i t.items[i] (List.getElem?_eq_getElem hlt)
      refine .inr ⟨hgo, fun H4 => ∃ ρ N acc, Ext ρ1 H1 ρ H4 ∧ NRel X.K C ρ N H4 ∧ Fill X.K ρ H4 Da acc ∧ PostR (RD X.K) X.K C W ρ1 H1 σ Q ((lcLoop pt mc me t.ok (wipeN σn vs) (t.items.drop (i + 1)) acc N).bind fun l N => N.new (.lst l)), fun H4 ⟨ρ4, N4, acc4, E4, R4, F4, q4⟩ => ⟨_, by omega, ρ4, N4, acc4, E4, R4, F4, hlt, rfl, q4⟩, ?_⟩
      intro x H4 hx
      obtain ⟨ρ4, E4, R4, rd⟩ := hy x H4 hx
      have E14 := E3.trans E4
      refine ⟨ρ4, wipeN σn vs, N3, _, R4, RSt.wipe vs (S1.ext E14), rd, ?_⟩
      cases hp4 : pt.put t.items[i] (wipeN σn vs) N3 with
      | none => rw [hp4] at q3; exact q3.elim
      | some σ1 =>
        rw [hp4] at q3
        dsimp only at q3 ⊢
        intro σ5 S5 O5
        refine ⟨wipe_only (O5.mono hv), ρ4, σ1, N3, R4, S5, ?_⟩
        cases hc : mc σ1 N3 with
        | exc y N5 => rw [hc] at q3; exact q3.elim
        | bad => rw [hc] at q3; exact q3.elim
        | ok k N5 =>
          rw [hc] at q3
          intro b H5 ρ5 E5 R5 rk
          have rk' : b = k := rk
          subst rk'
          cases b with
          | false =>
            rw [if_neg (by simp)]
            exact ⟨ρ5, N5, acc, E14.trans E5, R5, (F3.ext E4).ext E5, q3⟩
          | true =>
            rw [if_pos rfl]
            refine ⟨ρ5, σ1, N5, R5, S5.ext E5, ?_⟩
            dsimp only at q3
            cases he : me σ1 N5 with
            | exc y N6 => rw [he] at q3; exact q3.elim
            | bad => rw [he] at q3; exact q3.elim
            | ok y N6 =>
              rw [he] at q3
              intro v H6 ρ6 E6 R6 rv
              obtain ⟨n6, xs, h1, h2⟩ := ((F3.ext E4).ext E5).ext E6
              dsimp only at q3
              by_cases hl : acc.length < sizeLine
              · rw [if_pos hl] at q3
                obtain ⟨E7, R7, F7⟩ := Fill.push R6 n6 h1 h2 rv ((E14.trans E5).trans E6) hDa
                exact ⟨xs, h1, by rw [h2.length]; exact hl, ρ6, N6, _, E7, R7, F7, q3⟩
              · rw [if_neg hl] at q3; exact q3.elim
    · rw [if_neg hok] at q3; exact q3.elim
  · have hil : i = t.items.length := by omega
    subst hil
    rw [List.drop_length] at q3
    unfold lcLoop at q3
    by_cases hok : t.ok N3 = true
    · rw [if_pos hok] at q3
      have ⟨_, hJ2⟩ := hJ ρ3 H3 N3 E3 R3 hok
      obtain ⟨n3, xs, h1, h2⟩ := F3
      obtain ⟨E8, R8⟩ := R3.adopt h1 n3 h2 ρ1 H1 E3 hDa
      exact .inl ⟨hJ2, q3 _ H3 _ E8 R8 ⟨Da, rfl, by rw [← R3.len]; exact get_last⟩⟩
    · rw [if_neg hok] at q3; exact q3.elim
theorem n_lc {mi : NI} {pt : NP} {mc : NT} {me : NE} (own : List (Str × Nat)) (hc : X.calm = true) (hN : X.N.Nodup) (ok : BlkOk X.N X.env.scope scope own) (hv : ∀ i ∈ pt.is, i ∈ own.map (fun x => x.2)) (hi : PI X tg iter (tI X.K C W mi))
    (hg : ∀ (s : Shared) (H : Hp) (Cc : Addr) (cl : List (Str × Addr)) (fp : List Addr), PG (X.blk s H scope (compEnvC scope cl Cc X.env) fp) tg (tG X.K C pt))
    (ht : ∀ (s : Shared) (H : Hp) (Cc : Addr) (cl : List (Str × Addr)) (fp : List Addr), PTs (X.blk s H scope (compEnvC scope cl Cc X.env) fp) ifs (tT X.K C W0 mc))
    (he : ∀ (s : Shared) (H : Hp) (Cc : Addr) (cl : List (Str × Addr)) (fp : List Addr), PE (X.blk s H scope (compEnvC scope cl Cc X.env) fp) elt (tE X.K C W0 me))
    (hf : ∀ (x : Value), foldedSetIterable iter X.env x = pure x := by intro _; rfl) : PE X (.ListComp elt [⟨tg, iter, ifs, 0⟩] scope pos) (tE X.K C W (nLc mi pt mc me (own.map fun x => x.2))) :=
  pe_weak (pe_lc hc hN hi ok hg ht he hf) fun σ H Q q => snd_lc hv q
/-! x = [..] -/
theorem s_setLc {i : Nat} {y : Str} {py spos : Pos} {mi : NI} {pt : NP} {mc : NT} {me : NE} (own : List (Str × Nat)) (hc : X.calm = true) (hN : X.N.Nodup) (ok : BlkOk X.N X.env.scope scope own) (hv : ∀ i ∈ pt.is, i ∈ own.map (fun x => x.2)) (hi : PI X tg iter (tI X.K C W mi))
    (hg : ∀ (s : Shared) (H : Hp) (Cc : Addr) (cl : List (Str × Addr)) (fp : List Addr), PG (X.blk s H scope (compEnvC scope cl Cc X.env) fp) tg (tG X.K C pt))
    (ht : ∀ (s : Shared) (H : Hp) (Cc : Addr) (cl : List (Str × Addr)) (fp : List Addr), PTs (X.blk s H scope (compEnvC scope cl Cc X.env) fp) ifs (tT X.K C W0 mc))
    (he : ∀ (s : Shared) (H : Hp) (Cc : Addr) (cl : List (Str × Addr)) (fp : List Addr), PE (X.blk s H scope (compEnvC scope cl Cc X.env) fp) elt (tE X.K C W0 me))
    (hy : X.N[i]? = some y := by rfl) (hyl : X.env.scope.names.lookup y = some .local := by rfl) (hsw : swapsWith (.ListComp elt [⟨tg, iter, ifs, 0⟩] scope pos) (some (.Name y py)) spos.line X.env = pure true := by rfl)
    (hf : ∀ (x : Value), foldedSetIterable iter X.env x = pure x := by intro _; rfl) : PS X (.Assign [.Name y py] (.ListComp elt [⟨tg, iter, ifs, 0⟩] scope pos) spos) (tS X.K C W (sAsg (nLc mi pt mc me (own.map fun x => x.2)) (pName i))) :=
  ps_weak (ps_setLc hc hN hy hyl hsw hi ok hg ht he hf) fun D σ H ⟨ρ, σn, N, R, S, q⟩ => snd_lc hv (PostS.part R S q fun v H1 ρ1 N1 d E1 R1 S1 rd q1 => q1 _ H1 ρ1 .refl R1 (S1.set rd i))

/-! a dict walked by a comprehension -/
def unlockR (n : Nat) (o f : O) : R D → R D
  | .ok d N => if N[n]? = some f then .ok d (N.set n o) else .bad
  | .exc x N => .exc x N
  | .bad => .bad
def nLcL (a : NE) (p : NP) (c : NT) (elt : NE) (vs : List Nat) : NE := fun σ N => match lockAt a σ N with
  | some (n, o, f) => unlockR n o f (nLc (iSeq a) p c elt vs σ (N.set n f))
  | none => nLc (iSeq a) p c elt vs σ N
theorem snd_lock {t : TE} {m : NE} {n : Nat} {o f : O} {σ : L2.St} {H : Hp} {Q : VK} {ρ : List Addr} {σn : NEnv} {N : NH} (R : NRel X.K C ρ N H) (S : RSt X.K ρ H σn σ) (hN : N[n]? = some o) (hf : lockO o = some f)
    (ht : ∀ H' Q', tE X.K C W m σ H' Q' → t σ H' Q') (q : PostR (RD X.K) X.K C W ρ H σ Q (unlockR n o f (m σn (N.set n f)))) : tLockE t σ H Q := by
  obtain ⟨a, u, ha, hu, hm, hz, ht2, hl, hback⟩ := lock_at R hN hf
  refine ⟨a, u, hu, hm, fun od => ht _ _ ?_⟩
  obtain ⟨E, R'⟩ := hl od
  refine ⟨ρ, σn, _, R', S.ext E, ?_⟩
  revert q
  cases m σn (N.set n f) with
  | ok d N1 =>
    intro q v H' ρ' E' R2 rv
    replace q : PostR (RD X.K) X.K C W ρ H σ Q (if N1[n]? = some f then .ok d (N1.set n o) else .bad) := q
    by_cases hN1 : N1[n]? = some f
    · rw [if_pos hN1] at q
      obtain ⟨b1, b2, b3, b4⟩ := hback od ρ' H' N1 E' R2 hN1
      exact ⟨b1, q v _ ρ' b2 b3 (RD.same b4 _ rv)⟩
    · rw [if_neg hN1] at q; exact q.elim
  | exc x N1 => exact fun q c dx H' ρ' E' R2 rx => q c dx H' ρ' (E.trans E') R2 rx
  | bad => exact fun q => q
theorem n_lcL {ma : NE} {pt : NP} {mc : NT} {me : NE} (own : List (Str × Nat)) (hc : X.calm = true) (hN : X.N.Nodup) (ok : BlkOk X.N X.env.scope scope own) (hv : ∀ i ∈ pt.is, i ∈ own.map (fun x => x.2)) (hi : PE X iter (tE X.K C W ma))
    (hg : ∀ (s : Shared) (H : Hp) (Cc : Addr) (cl : List (Str × Addr)) (fp : List Addr), PG (X.blk s H scope (compEnvC scope cl Cc X.env) fp) tg (tG X.K C pt))
    (ht : ∀ (s : Shared) (H : Hp) (Cc : Addr) (cl : List (Str × Addr)) (fp : List Addr), PTs (X.blk s H scope (compEnvC scope cl Cc X.env) fp) ifs (tT X.K C W0 mc))
    (he : ∀ (s : Shared) (H : Hp) (Cc : Addr) (cl : List (Str × Addr)) (fp : List Addr), PE (X.blk s H scope (compEnvC scope cl Cc X.env) fp) elt (tE X.K C W0 me))
    (hf : ∀ (x : Value), foldedSetIterable iter X.env x = pure x := by intro _; rfl) : PE X (.ListComp elt [⟨tg, iter, ifs, 0⟩] scope pos) (tE X.K C W (nLcL ma pt mc me (own.map fun x => x.2))) := by
  have h0 := n_lc (W := W) (pos := pos) own hc hN ok hv (n_it (tg := tg) hi) hg ht he hf
  refine pe_weak (pe_or h0 (pe_lock h0)) fun σ H Q ⟨ρ, σn, N, R, S, q⟩ => ?_
  unfold nLcL at q
  split at q
  · rename_i n o f hlk
    unfold lockAt at hlk
    split at hlk
    · rename_i n' N' _
      obtain ⟨o', hN, h2⟩ := Option.bind_eq_some_iff.mp hlk
      obtain ⟨f', hf', e⟩ := Option.map_eq_some_iff.mp h2
      cases e
      exact .inr (snd_lock R S hN hf' (fun _ _ h => h) q)
    · cases hlk
  · exact .inl ⟨ρ, σn, N, R, S, q⟩
end
end NY

set_option Elab.async false
set_option linter.all false
set_option maxRecDepth 100000
set_option maxHeartbeats 4000000
/-! NY10: defs, methods, classes, the law's end -/
namespace NY
open PySem PySem.Spec PyProof.Rows L2

def nFun (slots : Nat) (m : NS) : NF := fun ds N => match m (ds.map some ++ List.replicate (slots - ds.length) none) N with
  | .nx _ N => .ok .non N
  | .rt d N => .ok d N
  | .exc x _ N => .exc x N
  | _ => .bad
theorem RSt.start {K : PySem.W.Frag} {ρ : List Addr} {H : Hp} {ds : List D} {vs : List V} (Ns : List Str) (r : RDs K ρ H ds vs) : RSt K ρ H (ds.map some ++ List.replicate (Ns.length - ds.length) none) (L2.start Ns vs) := by
  have hl := r.length
  refine ⟨by unfold L2.start; simp [hl], fun i d h => ?_⟩
  by_cases hi : i < ds.length
  · rw [List.getElem?_append_left (by simpa using hi), List.getElem?_map] at h
    obtain ⟨e, h1, h2⟩ := Option.map_eq_some_iff.mp h
    cases h2
    obtain ⟨x, e1, e2⟩ := r.get' h1
    exact ⟨x, by unfold L2.start; rw [List.getElem?_append_left (by simp [hl]; exact hi), List.getElem?_map, e1]; rfl, e2⟩
  · rw [List.getElem?_append_right (by simp; omega)] at h
    have := List.getElem?_eq_some_iff.mp h
    obtain ⟨h1, h2⟩ := this
    rw [List.getElem_replicate] at h2; cases h2

/-- what the text of a def is in the frame -/
structure DefF (K : PySem.W.Frag) (mg : Str → Option Value) (x : Str) (st : Stmt) (ps : List Str) : Prop where
  ex : ∃ (f : Addr) (fd : FuncData), mg x = some (.ref f) ∧ L2.Fun K x x st f fd ∧ L2.Binds K fd ps []
structure MthF (K : PySem.W.Frag) (c : Addr) (x qual : Str) (st : Stmt) (ps : List Str) : Prop where
  ex : ∃ (f : Addr) (fd : FuncData), Meth K c x f ∧ L2.Fun K x qual st f fd ∧ L2.Binds K fd ps []
structure MakF (K : PySem.W.Frag) (mg : Str → Option Value) (c : Addr) (x qual : Str) (st : Stmt) (ps : List Str) : Prop where
  ex : ∃ (f : Addr) (fd : FuncData), mg x = some (.ref c) ∧ Mk K c f ∧ L2.Fun K "__init__" qual st f fd ∧ L2.Binds K fd ps []
section
variable {P : Program} {w : World} {K : PySem.W.Frag} {mg : Str → Option Value} {base : Heap} {C : NC}
/-- a context that a def's body is walked in -/
structure Go (X : Cx) (W : WX) (k : Nat) : Prop where
  tk : Takes X W
  po : PassesOwn (model X.prog X.w) X.A X.env X.xe
  hr : Room k X.A
theorem Go.px {X : Cx} {W : WX} {k : Nat} (g : Go X W k) : PX X W := NY.px g.tk
theorem Go.room {X : Cx} {W : WX} {k j : Nat} (g : Go X W k) (h : j ≤ k := by decide) : Room j X.A := g.hr.mono h
theorem Go.u1 {X : Cx} {W : WX} {k : Nat} (g : Go X W k) : X.A.units + 1 < cLine := by have := g.hr.un; omega
theorem Go.u64 {X : Cx} {W : WX} {k : Nat} (g : Go X W k) : X.A.units + 64 < cLine := by have := g.hr.un; omega
theorem Go.u65 {X : Cx} {W : WX} {k : Nat} (g : Go X W k) : X.A.units + 65 < cLine := by have := g.hr.un; omega
abbrev WOf (E : XK) : WX := fun c d _ H => E c d H
theorem n_fun {x qual : Str} {st : Stmt} {f : Addr} {fd : FuncData} {Ns ps : List Str} {k n : Nat} {m : NS} (F : L2.Fun K x qual st f fd) (Sc : FnScope Ns ps (defScope st)) (hn : ps.length = n)
    (hb : ∀ (cdv : Value) (A : Around) (outer : List Env) (s : Shared) (H : Hp) (E : XK), Go (cxOf (L2.CX P w) P w K mg base Ns qual (defScope st) f cdv A outer s H E) (WOf E) k → PSs (cxOf (L2.CX P w) P w K mg base Ns qual (defScope st) f cdv A outer s H E) (defBody st) (tS K C (WOf E) m)) :
    FnOk P w K mg base (L2.CX P w) (k + 1) f fd ps (spN K C n (nFun Ns.length m)) := by
  refine F.okX Sc (fun vs H Q E h => by rw [h.1, hn]) fun cdv A outer s H vs Q E hr ⟨hl, ρ, N, ds, R, rs, q⟩ => ?_
  refine ⟨_, hb cdv A outer s H E ⟨takes_of rfl rfl rfl rfl, passes_of rfl, hr⟩, ρ, _, N, R, RSt.start Ns rs, ?_⟩
  unfold nFun at q
  cases e : m (ds.map some ++ List.replicate (Ns.length - ds.length) none) N with
  | nx s1 N1 => rw [e] at q; exact fun σ' H' ρ' E' R' S' => q .non H' ρ' E' R' rfl
  | rt d N1 => rw [e] at q; exact q
  | bk s1 N1 => rw [e] at q; exact q.elim
  | exc x s1 N1 => rw [e] at q; exact fun c dx σ' H' ρ' E' R' S' rx => q c dx H' ρ' E' R' rx
  | bad => rw [e] at q; exact q.elim
theorem n_def {x : Str} {st : Stmt} {Ns ps : List Str} {k n : Nat} {m : NS} (F : DefF K mg x st ps) (Sc : FnScope Ns ps (defScope st)) (hn : ps.length = n)
    (hb : ∀ (f : Addr) (cdv : Value) (A : Around) (outer : List Env) (s : Shared) (H : Hp) (E : XK), Go (cxOf (L2.CX P w) P w K mg base Ns x (defScope st) f cdv A outer s H E) (WOf E) k → PSs (cxOf (L2.CX P w) P w K mg base Ns x (defScope st) f cdv A outer s H E) (defBody st) (tS K C (WOf E) m)) :
    FunN P w K mg base C (k + 1) x n (nFun Ns.length m) := by
  obtain ⟨f, fd, h1, h2, h3⟩ := F.ex
  exact ⟨f, fd, ps, h1, h2.kp, h3, n_fun h2 Sc hn (hb f)⟩
theorem n_mth {x qual : Str} {st : Stmt} {Ns ps : List Str} {k n c : Nat} {m : NS} (F : MthF K (C.cls c) x qual st ps) (hc : Cls K (C.cls c)) (hx : x ∉ C.names) (Sc : FnScope Ns ps (defScope st)) (hn : ps.length = n)
    (hb : ∀ (f : Addr) (cdv : Value) (A : Around) (outer : List Env) (s : Shared) (H : Hp) (E : XK), Go (cxOf (L2.CX P w) P w K mg base Ns qual (defScope st) f cdv A outer s H E) (WOf E) k → PSs (cxOf (L2.CX P w) P w K mg base Ns qual (defScope st) f cdv A outer s H E) (defBody st) (tS K C (WOf E) m)) :
    MthN P w K mg base C (k + 1) c x n (nFun Ns.length m) := by
  obtain ⟨f, fd, h1, h2, h3⟩ := F.ex
  exact ⟨hc, hx, f, fd, ps, h1, h3, n_fun h2 Sc hn (hb f)⟩
theorem n_mak {x qual : Str} {st : Stmt} {Ns ps : List Str} {k n c : Nat} {m : NS} (F : MakF K mg (C.cls c) x qual st ps) (Sc : FnScope Ns ps (defScope st)) (hn : ps.length = n)
    (hb : ∀ (f : Addr) (cdv : Value) (A : Around) (outer : List Env) (s : Shared) (H : Hp) (E : XK), Go (cxOf (L2.CX P w) P w K mg base Ns qual (defScope st) f cdv A outer s H E) (WOf E) k → PSs (cxOf (L2.CX P w) P w K mg base Ns qual (defScope st) f cdv A outer s H E) (defBody st) (tS K C (WOf E) m)) :
    MakN P w K mg base C (k + 1) c x n (nFun Ns.length m) := by
  obtain ⟨f, fd, h0, h1, h2, h3⟩ := F.ex
  exact ⟨h0, f, fd, ps, h1, h3, n_fun h2 Sc hn (hb f)⟩
def nBad : NF := fun _ _ => .bad
theorem bad_fn {f : Addr} {fd : FuncData} {ps : List Str} {k n : Nat} (hn : ps.length = n) : FnOk P w K mg base (L2.CX P w) k f fd ps (spN K C n nBad) :=
  ⟨fun vs H Q E h => by rw [h.1, hn], fun A outer s H args us vs Q E _ _ _ _ ⟨_, _, _, _, _, _, q⟩ => q.elim⟩
/-- a def that calls itself, at no depth -/
theorem n_def0 {x : Str} {st : Stmt} {ps : List Str} {k n : Nat} (F : DefF K mg x st ps) (hn : ps.length = n) : FunN P w K mg base C k x n nBad := by
  obtain ⟨f, fd, h1, h2, h3⟩ := F.ex
  exact ⟨f, fd, ps, h1, h2.kp, h3, bad_fn hn⟩
theorem n_mth0 {x qual : Str} {st : Stmt} {ps : List Str} {k n c : Nat} (F : MthF K (C.cls c) x qual st ps) (hc : Cls K (C.cls c)) (hx : x ∉ C.names) (hn : ps.length = n) : MthN P w K mg base C k c x n nBad := by
  obtain ⟨f, fd, h1, h2, h3⟩ := F.ex
  exact ⟨hc, hx, f, fd, ps, h1, h3, bad_fn hn⟩

/-! ### the law -/
/-- the heap ahead of the law: no nice object yet -/
theorem nrel0 {ρ : List Addr} {H : Hp} (hn : C.names.Nodup) (ht : ∀ P ∈ C.tabs, GxR.TabG H P) : NRel K C [] [] H := ⟨rfl, .nil, hn, (fun n a o h _ => by simp at h), ht⟩
/-- the script as the law gets it: a list that it alone reads, or the first nice object -/
def Scr (N : NH) (d : D) (l : List D) : Prop := (N = [] ∧ d = .lsc l) ∨ (N = [.lst l] ∧ d = .ref 0)
theorem law_sp {m : NF} {H : Hp} {a : Addr} {ns : List Int} (hn : C.names.Nodup) (ht : ∀ P ∈ C.tabs, GxR.TabG H P) (hS : SqL K H a (ns.map V.int))
    (hm : ∀ N d, Scr N d (ns.map .int) → ∃ N', m [d] N = .ok (.bl true) N') : spN K C 1 m [V.ref a] H (fun v _ => v = V.bl true) (fun _ _ _ => False) := by
  have h1 : ∀ (hl : LscAt K [] H a (ns.map V.int)), spN K C 1 m [V.ref a] H (fun v _ => v = V.bl true) (fun _ _ _ => False) := fun hl => by
    refine ⟨rfl, [], [], [.lsc (ns.map .int)], nrel0 (ρ := []) hn ht, ⟨V.ref a, [], rfl, ⟨a, ns.map V.int, rfl, hl, RDs.of_ints ns⟩, rfl⟩, ?_⟩
    obtain ⟨N, hm⟩ := hm [] _ (.inl ⟨rfl, rfl⟩)
    rw [hm]
    exact fun v H' ρ' E R r => r
  rcases hS with (h | ⟨o, h⟩) | h
  · refine ⟨rfl, [a], [.lst (ns.map .int)], [.ref 0], ⟨rfl, by simp, hn, fun n b o hb ho => ?_, ht⟩, ⟨V.ref a, [], rfl, ⟨a, rfl, rfl⟩, rfl⟩, ?_⟩
    · cases n with
      | zero =>
        simp at hb ho
        subst hb ho
        exact ⟨_, h, RDs.of_ints ns⟩
      | succ n => simp at hb
    · obtain ⟨N, hm⟩ := hm _ _ (.inr ⟨rfl, rfl⟩)
      rw [hm]
      exact fun v H' ρ' E R r => r
  · exact h1 (.inl ⟨by simp, o, h⟩)
  · exact h1 (.inr h)
/-- the end of a law's row -/
theorem n_walk {l : PySem.W.OpenLaw} {q : Program} {loose : List Str} {XP : (Str → Option Value) → Heap → Prop} {YP : World → Heap → Prop} {d : DefRec} {Kw : Params → PySem.W.Frag} {x : Str} (k : Nat) (m : NF) (hn : l.most = some 63) (hdf : d.params.defaults = []) (hr : Room k callerA)
    (hY : ∀ (w : World) (h : Heap), YP w h → (Kw w.params).In h)
    (F : ∀ (w : World) (mg : Str → Option Value) (fa : Addr) (h : Heap), YP w h → (Kw w.params).In h → h.Ns mainGlobals mg → mg d.name = some (.ref fa) →
      ∃ (C : NC) (cs : List (Addr × Addr)) (fd : FuncData), C.names.Nodup ∧ C.tabs = cs.map (fun p => p.2) ∧ (∀ p ∈ cs, h.get? p.2 = some { cls := Value.none, data := Data.fields #[] }) ∧ (∀ p ∈ cs, (Kw w.params).lookup p.2 = none) ∧ (∀ p ∈ cs, PySem.W.CodeHd h p.1 p.2) ∧
        (∀ (s : Shared) (u : Value), BindsTo s fd { pos := [u] } [(x, u)]) ∧ ∀ (base : Heap), (Kw w.params).In base → base.Ns mainGlobals mg → (∀ p ∈ cs, LamX.TabB base mg p.1 p.2) → FnOk l.prog w (Kw w.params) mg base (L2.CX l.prog w) k fa fd [x] (spN (Kw w.params) C 1 m))
    (hm : ∀ (ns : List Int), ns.length ≤ 63 → (∀ z ∈ ns, Builtin.Int.intBits z ≤ 1048576) → ∀ N d, Scr N d (ns.map .int) → ∃ N', m [d] N = .ok (.bl true) N') :
    PySem.W.WalkO q loose XP YP l.row.toRowW d [] (fun f vs => PySem.call f vs) :=
  LamX.walk_ofTs (n := 63) (k := k) (x := x) (K := Kw) (CX := fun w => L2.CX l.prog w) hn (by decide) hdf hr hY (fun w mg fa h Y KX G hmg => by
    obtain ⟨C, cs, fd, h1, h2, h3, h4, h5, h6, h7⟩ := F w mg fa h Y KX G hmg
    refine ⟨fd, cs, spN (Kw w.params) C 1 m, h3, h4, h5, h6, fun H a ns hl hz ht hS => ?_, h7⟩
    refine law_sp h1 (fun P hP => ?_) hS (hm ns hl hz)
    rw [h2] at hP
    obtain ⟨p, hp, rfl⟩ := List.mem_map.mp hP
    exact ⟨#[], ht p hp, trivial⟩) fun w H s e s' z => by
      obtain ⟨_, _, _, _, _, _, _, _, _, _, _, _, z⟩ := z
      exact z
end
end NY

set_option Elab.async false
set_option linter.all false
set_option maxRecDepth 100000
set_option maxHeartbeats 4000000
/-! NY11: isinstance, methods of built-in types -/
namespace NY
open PySem PySem.Spec PyProof.Rows L2

/-! ### isinstance -/
inductive Kd where
  | non | bl | int | str | tup | lst | dic
  deriving DecidableEq
def Kd.nm : Kd → String
  | .non => "NoneType" | .bl => "bool" | .int => "int" | .str => "str" | .tup => "tuple" | .lst => "list" | .dic => "dict"
def isiK : Kd → Kd → Bool
  | .bl, .int => true
  | a, b => decide (a = b)
theorem isiK_ok : ∀ (a b : Kd), kitB a.nm b.nm = some (isiK a b) := by
  intro a b
  cases a <;> cases b <;> decide +kernel
def kindN (N : NH) : D → Option Kd
  | .non => some .non
  | .bl _ => some .bl
  | .int _ => some .int
  | .str _ => some .str
  | .tup _ | .ctup _ => some .tup
  | .lsc _ => some .lst
  | .ref n => match N[n]? with
    | some (.lst _) => some .lst
    | some (.dK _) | some (.dT _) => some .dic
    | _ => none
theorem kindN_ok {K : PySem.W.Frag} {C : NC} {ρ : List Addr} {N : NH} {H : Hp} {d : D} {v : V} {k : Kd} (R : NRel K C ρ N H) (h : RD K ρ H d v) (e : kindN N d = some k) : TyX K H v (.type k.nm) := by
  unfold kindN at e
  split at e
  · cases e; rw [show v = _ from h]; exact .base .non
  · cases e; rw [show v = _ from h]; exact .base (.bl _)
  · cases e; rw [show v = _ from h]; exact .base (.int _)
  · cases e; rw [show v = _ from h]; exact .base (.str _)
  · cases e
    obtain ⟨a, xs, rfl, ta, ra⟩ := h
    exact .base (.tup ta.2)
  · cases e
    obtain ⟨a, xs, rfl, ⟨o, its, n, h1, h2, _⟩, ra⟩ := h
    exact .kTuple h1 h2
  · cases e
    obtain ⟨a, xs, rfl, ⟨_, o, h1⟩ | ⟨o, its, n, h1, h2, _⟩, ra⟩ := h
    · exact .base (.frz h1)
    · exact .kList h1 h2
  · split at e
    · rename_i n _ l hN
      cases e
      obtain ⟨a, xs, rfl, _, ha, _⟩ := R.lst h hN
      exact .base (.lst ha)
    · rename_i n _ l hN
      cases e
      obtain ⟨a, rfl, ha⟩ := h
      obtain ⟨l', h1, _⟩ := R.obj n a _ ha hN
      exact .base (.dK h1)
    · rename_i n _ l hN
      cases e
      obtain ⟨a, rfl, ha⟩ := h
      obtain ⟨l', h1, _⟩ := R.obj n a _ ha hN
      exact .base (.dT h1)
    · cases e
def nIsi (T : Kd) (a : NE) : NE := fun σ N => (a σ N).bind fun d N => match kindN N d with | some k => .ok (.bl (isiK k T)) N | none => .bad
section
variable {X : Cx} {C : NC} {W : WX} {e o f : Expr} {es : List Expr} {pos p p2 apos cpos : Pos} {x : Str}
theorem n_isi {ma : NE} (T : Kd) (hm : X.mg "isinstance" = none) (hmT : X.mg x = none) (hb : bootBuiltins x = some (.type T.nm)) (ha : PE X e (tE X.K C W ma)) (hg : Gl X "isinstance" := by rfl) (hgT : Gl X x := by rfl) (hnT : x ≠ "__name__" := by decide) (hdT : (x == ("__debug__" : Str)) = false := by decide)
    (he : starEach [e, .Name x p2] X.env = (false, eval e X.env) :: starEach [.Name x p2] X.env := by rfl) (he2 : starEach [.Name x p2] X.env = (false, eval (.Name x p2) X.env) :: starEach [] X.env := by rfl) (hpl : (backTo pos (starEach [.Name x p2] X.env)).any (·.1) = false := by rfl) :
    PE X (.Call (.Name "isinstance" p) [e, .Name x p2] [] pos) (tE X.K C W (nIsi T ma)) :=
  pe_weak (pe_callB (call_isi (X := X)) hg hm boot_isinstance (pa_cons ha (pa_cons (pe_bltn (v := V.ty T.nm) hgT hmT hb rfl hnT hdT) pa_nil he2) he) (by decide) (by decide) he hpl) fun σ H Q ⟨ρ, σn, N, R, S, q⟩ => PostR.then R S q fun v H1 ρ1 N1 d E1 R1 S1 rd q1 => by
    split at q1
    · rename_i k hk
      exact ⟨v, _, _, _, _, rfl, .ty _, kindN_ok R1 rd hk, kit_ty (isiK_ok k T), q1.ok R1 rfl⟩
    · exact q1.elim
/-! ### methods of lists -/
def fAppend : D → List D → NH → R D
  | .ref n, [y], N => match N[n]? with
    | some (.lst l) => if l.length < sizeLine then .ok .non (N.set n (.lst (l ++ [y]))) else .bad
    | _ => .bad
  | _, _, _ => .bad
def fPop : D → List D → NH → R D
  | .ref n, [], N => match N[n]? with
    | some (.lst l) => match l[l.length - 1]? with
      | some y => .ok y (N.set n (.lst l.dropLast))
      | none => .bad
    | _ => .bad
  | _, _, _ => .bad
def fPopAt : D → List D → NH → R D
  | .ref n, [.int i], N => match N[n]? with
    | some (.lst l) => if -(2 ^ 63) ≤ i ∧ i < 2 ^ 63 then (match seqIndex? i l.length with
      | some k => match l[k]? with
        | some y => .ok y (N.set n (.lst (l.eraseIdx k)))
        | none => .bad
      | none => .bad) else .bad
    | _ => .bad
  | _, _, _ => .bad
def fInsert : D → List D → NH → R D
  | .ref n, [.int i, y], N => match N[n]? with
    | some (.lst l) => if l.length < sizeLine ∧ 0 ≤ i ∧ i < 2 ^ 63 then .ok .non (N.set n (.lst (l.take i.toNat ++ [y] ++ l.drop i.toNat))) else .bad
    | _ => .bad
  | _, _, _ => .bad
theorem PostR.lstSet {K : PySem.W.Frag} {ρ : List Addr} {N : NH} {H : Hp} {σ : L2.St} {n : Nat} {a : Addr} {l' : List D} {xs xs' : List V} {d : D} {v : V} {Q : VK} (R : NRel K C ρ N H) (ha : ρ[n]? = some a) (h1 : H a = some (.lst xs)) (h2 : RDs K ρ H l' xs') (hv : RD K ρ H d v)
    (q : PostR (RD K) K C W ρ H σ Q (.ok d (N.set n (.lst l')))) : Q v (upd H a (.lst xs')) := by
  have hz : ∀ o w, H a ≠ some (.frz o w) := fun _ _ z => by rw [h1] at z; cases z
  have E0 : Ext ρ H ρ (upd H a (.lst xs')) := Ext.write (memOf ha) (fun _ z => by rw [h1] at z; cases z) hz
  obtain ⟨E, R'⟩ := R.write (o' := .lst l') (u := .lst xs') ha hz ⟨_, upd_same, h2.ext E0⟩
  exact q v _ ρ E R' (hv.ext E)
theorem sndAppend {K : PySem.W.Frag} : SndM K C fAppend "list" rAppend := by
  intro W ρ N H σ d ds x xs Q R rd rs q
  unfold fAppend at q
  split at q
  · rename_i n y
    obtain ⟨v, rfl, rv⟩ := rs.one_of
    split at q
    · rename_i l hN
      split at q
      · rename_i hl
        obtain ⟨a, us, rfl, ha, h1, ra⟩ := R.lst rd hN
        exact ⟨a, us, v, rfl, rfl, h1, by rw [ra.length]; exact hl, PostR.lstSet (d := .non) R ha h1 (ra.append (RDs.one rv)) rfl q⟩
      · exact q.elim
    · exact q.elim
  · exact q.elim
theorem sndPop {K : PySem.W.Frag} : SndM K C fPop "list" rPop := by
  intro W ρ N H σ d ds x xs Q R rd rs q
  unfold fPop at q
  split at q
  · rename_i n
    split at q
    · rename_i l hN
      split at q
      · rename_i y hy
        obtain ⟨a, us, rfl, ha, h1, ra⟩ := R.lst rd hN
        obtain ⟨v, e1, e2⟩ := ra.get' hy
        have hl := ra.length
        refine ⟨a, us, v, rfl, rs, h1, by rw [hl]; exact e1, ?_⟩
        have ed : us.dropLast = us.take (us.length - 1) := List.dropLast_eq_take
        rw [ed, hl]
        refine PostR.lstSet (l' := l.dropLast) R ha h1 ?_ e2 q
        rw [List.dropLast_eq_take]
        exact ra.take _
      · exact q.elim
    · exact q.elim
  · exact q.elim
theorem sndPopAt {K : PySem.W.Frag} : SndM K C fPopAt "list" rPopAt := by
  intro W ρ N H σ d ds x xs Q R rd rs q
  unfold fPopAt at q
  split at q
  · rename_i n i
    obtain ⟨v, rfl, rv⟩ := rs.one_of
    split at q
    · rename_i l hN
      split at q
      · rename_i hi
        split at q
        · rename_i k hk
          split at q
          · rename_i y hy
            obtain ⟨a, us, rfl, ha, h1, ra⟩ := R.lst rd hN
            obtain ⟨w, e1, e2⟩ := ra.get' hy
            exact ⟨a, us, i, k, w, rfl, by rw [show v = _ from rv], h1, hi.1, hi.2, by rw [ra.length]; exact hk, e1, q.lstSet R ha h1 (ra.erase k) e2⟩
          · exact q.elim
        · exact q.elim
      · exact q.elim
    · exact q.elim
  · exact q.elim
def rInsert : V → List V → Hp → VK → Prop := fun x vs H Q => ∃ (l : Addr) (xs : List V) (i : Int) (y : V), x = .ref l ∧ vs = [.int i, y] ∧ H l = some (.lst xs) ∧ xs.length < sizeLine ∧ 0 ≤ i ∧ i < 2 ^ 63 ∧ Q .non (upd H l (.lst (xs.take i.toNat ++ [y] ++ xs.drop i.toNat)))
theorem sndInsert {K : PySem.W.Frag} : SndM K C fInsert "list" rInsert := by
  intro W ρ N H σ d ds x xs Q R rd rs q
  unfold fInsert at q
  split at q
  · rename_i n i y
    obtain ⟨u, v, rfl, ru, rv⟩ := rs.two_of
    split at q
    · rename_i l hN
      split at q
      · rename_i hi
        obtain ⟨a, us, rfl, ha, h1, ra⟩ := R.lst rd hN
        exact ⟨a, us, i, v, rfl, by rw [show u = _ from ru], h1, by rw [ra.length]; exact hi.1, hi.2.1, hi.2.2, PostR.lstSet (d := .non) R ha h1 (((ra.take _).append (RDs.one rv)).append (ra.drop _)) rfl q⟩
      · exact q.elim
    · exact q.elim
  · exact q.elim
/-- list.index, deep -/
def idxD (x : D) : List D → Option Nat
  | [] => none
  | y :: r => if eqD y x = true then some 0 else (idxD x r).map (· + 1)
def fIndex : D → List D → NH → R D
  | .ref n, [y], N => match N[n]? with
    | some (.lst l) => if okD y = true ∧ okDs l = true then (match idxD y l with | some k => .ok (.int (k : Nat)) N | none => .bad) else .bad
    | _ => .bad
  | _, _, _ => .bad
theorem idxD_ok : ∀ {l : List D} {x : D} {k : Nat}, idxD x l = some k → ∃ z, l[k]? = some z ∧ eqD z x = true ∧ ∀ m z', m < k → l[m]? = some z' → eqD z' x = false
  | [], _, _, h => nomatch h
  | y :: r, x, k, h => by
    unfold idxD at h
    by_cases q : eqD y x = true
    · rw [if_pos q] at h; cases h
      exact ⟨y, rfl, q, fun m z' hm => absurd hm (Nat.not_lt_zero _)⟩
    · rw [if_neg q] at h
      obtain ⟨j, h1, rfl⟩ := Option.map_eq_some_iff.mp h
      obtain ⟨z, e1, e2, e3⟩ := idxD_ok h1
      refine ⟨z, by simpa using e1, e2, fun m z' hm hz => ?_⟩
      cases m with
      | zero => simp at hz; subst hz; exact Bool.eq_false_iff.mpr q
      | succ m => exact e3 m z' (by omega) (by simpa using hz)
theorem toPys_get : ∀ {l : List D} {i : Nat}, (toPys l)[i]? = (l[i]?).map toPy
  | [], i => by unfold toPys; simp
  | d :: r, 0 => by unfold toPys; simp
  | d :: r, i + 1 => by unfold toPys; simpa using toPys_get (l := r) (i := i)
theorem plains_get : ∀ {l : List D} {i : Nat} {d : D}, plains l = true → l[i]? = some d → plain d = true
  | [], _, _, _, e => by simp at e
  | d :: r, 0, _, h, e => by
    unfold plains at h
    simp at e; subst e
    exact (Bool.and_eq_true_iff.mp h).1
  | d :: r, i + 1, _, h, e => by
    unfold plains at h
    exact plains_get (Bool.and_eq_true_iff.mp h).2 (by simpa using e)
theorem sndIndex {K : PySem.W.Frag} : SndM K C fIndex "list" (rIndexD K) := by
  intro W ρ N H σ d ds x xs Q R rd rs q
  unfold fIndex at q
  split at q
  · rename_i n y
    obtain ⟨v, rfl, rv⟩ := rs.one_of
    split at q
    · rename_i l hN
      split at q
      · rename_i hok
        split at q
        · rename_i k hk
          obtain ⟨a, us, rfl, ha, h1, ra⟩ := R.lst rd hN
          obtain ⟨z, e1, e2, e3⟩ := idxD_ok hk
          have py := (Bool.and_eq_true_iff.mp hok.1).1
          have pl := (Bool.and_eq_true_iff.mp hok.2).1
          have pz := plains_get pl e1
          refine ⟨a, v, toPy y, toPys l, k, toPy z, rfl, rfl, .lst (SqL.of h1) (RDs.dp l pl ra), RD.dp y py rv, okDs_shaped hok.2, okD_shaped hok.1, by rw [toPys_get, e1]; rfl, by rw [eqv_toPy z y pz py]; exact e2, fun m z' hm hz => ?_, q.ok R rfl⟩
          rw [toPys_get] at hz
          obtain ⟨w, hw, rfl⟩ := Option.map_eq_some_iff.mp hz
          rw [eqv_toPy w y (plains_get pl hw) py]
          exact e3 m w hm hw
        · exact q.elim
      · exact q.elim
    · exact q.elim
  · exact q.elim
/-! ### methods of texts -/
def fSplit : D → List D → NH → R D
  | .str a, [.str b], N => if (b.length == 0) = false ∧ a.length + 2 ≤ sizeLine then N.new (.lst ((Txt.split a b).map .str)) else .bad
  | _, _, _ => .bad
def fJoin : D → List D → NH → R D
  | .str a, [d], N => match (seqN N d).bind strsOf with
    | some ys => if (ys.map (·.length)).sum + ys.length * a.length ≤ 16777216 then .ok (.str (Txt.join a ys)) N else .bad
    | none => .bad
  | _, _, _ => .bad
def fStripC : D → List D → NH → R D
  | .str a, [.str b], N => if a.length ≤ sizeLine then .ok (.str (Txt.stripChars a b)) N else .bad
  | _, _, _ => .bad
def fStrip : D → List D → NH → R D
  | .str a, [], N => if a.length ≤ sizeLine then .ok (.str (Txt.strip a)) N else .bad
  | _, _, _ => .bad
def fUpper : D → List D → NH → R D
  | .str a, [], N => if a.length ≤ 5592405 then .ok (.str (Txt.upper a)) N else .bad
  | _, _, _ => .bad
def fPartition : D → List D → NH → R D
  | .str a, [.str b], N => if (b.length == 0) = false ∧ a.length ≤ sizeLine then .ok (.tup [.str (Txt.partition a b).1, .str (Txt.partition a b).2.1, .str (Txt.partition a b).2.2]) N else .bad
  | _, _, _ => .bad
theorem sndSplit {K : PySem.W.Frag} : SndM K C fSplit "str" (fun x xs H Q => ∃ a b, x = .str a ∧ xs = [.str b] ∧ (b.length == 0) = false ∧ a.length + 2 ≤ sizeLine ∧ rNewStrs (Txt.split a b) H Q) := by
  intro W ρ N H σ d ds x xs Q R rd rs q
  unfold fSplit at q
  split at q
  · obtain ⟨v, rfl, rv⟩ := rs.one_of
    split at q
    · rename_i h
      exact ⟨_, _, rd, by rw [show v = _ from rv], h.1, h.2, fun p hp => q.newL R (RDs.of_strs _) hp⟩
    · exact q.elim
  · exact q.elim
theorem sndJoin {K : PySem.W.Frag} : SndM K C fJoin "str" (fun x xs H Q => ∃ a p, ∃ ys : List Str, x = .str a ∧ xs = [.ref p] ∧ (SqL K H p (ys.map V.str) ∨ SqT K H p (ys.map V.str)) ∧ (ys.map (·.length)).sum + ys.length * a.length ≤ 16777216 ∧ Q (.str (Txt.join a ys)) H) := by
  intro W ρ N H σ d ds x xs Q R rd rs q
  unfold fJoin at q
  split at q
  · obtain ⟨v, rfl, rv⟩ := rs.one_of
    split at q
    · rename_i ys hy
      obtain ⟨l, h1, h2⟩ := Option.bind_eq_some_iff.mp hy
      split at q
      · rename_i h
        obtain ⟨a, us, rfl, hs, ra⟩ := seqN_ok R rv h1
        rw [strsOf_eq h2] at ra
        rw [ra.strs] at hs
        exact ⟨_, a, ys, rd, rfl, hs, h, q.ok R rfl⟩
      · exact q.elim
    · exact q.elim
  · exact q.elim
theorem sndStripC {K : PySem.W.Frag} : SndM K C fStripC "str" (fun x xs H Q => ∃ a b, x = .str a ∧ xs = [.str b] ∧ a.length ≤ sizeLine ∧ Q (.str (Txt.stripChars a b)) H) := by
  intro W ρ N H σ d ds x xs Q R rd rs q
  unfold fStripC at q
  split at q
  · obtain ⟨v, rfl, rv⟩ := rs.one_of
    split at q
    · rename_i h
      exact ⟨_, _, rd, by rw [show v = _ from rv], h, q.ok R rfl⟩
    · exact q.elim
  · exact q.elim
theorem sndUpper {K : PySem.W.Frag} : SndM K C fUpper "str" (fun x xs H Q => ∃ a, x = .str a ∧ xs = [] ∧ a.length ≤ 5592405 ∧ Q (.str (Txt.upper a)) H) := by
  intro W ρ N H σ d ds x xs Q R rd rs q
  unfold fUpper at q
  split at q
  · split at q
    · rename_i h
      exact ⟨_, rd, rs, h, q.ok R rfl⟩
    · exact q.elim
  · exact q.elim
theorem sndStrip {K : PySem.W.Frag} : SndM K C fStrip "str" (fun x xs H Q => ∃ a, x = .str a ∧ xs = [] ∧ a.length ≤ sizeLine ∧ Q (.str (Txt.strip a)) H) := by
  intro W ρ N H σ d ds x xs Q R rd rs q
  unfold fStrip at q
  split at q
  · split at q
    · rename_i h
      exact ⟨_, rd, rs, h, q.ok R rfl⟩
    · exact q.elim
  · exact q.elim
theorem sndPartition {K : PySem.W.Frag} : SndM K C fPartition "str" (fun x xs H Q => ∃ a b, x = .str a ∧ xs = [.str b] ∧ (b.length == 0) = false ∧ a.length ≤ sizeLine ∧ ∀ p, H p = none → Q (.ref p) (upd H p (.tup [.str (Txt.partition a b).1, .str (Txt.partition a b).2.1, .str (Txt.partition a b).2.2]))) := by
  intro W ρ N H σ d ds x xs Q R rd rs q
  unfold fPartition at q
  split at q
  · obtain ⟨v, rfl, rv⟩ := rs.one_of
    split at q
    · rename_i h
      exact ⟨_, _, rd, by rw [show v = _ from rv], h.1, h.2, fun p hp => PostR.newT (ds := [.str _, .str _, .str _]) R ⟨_, _, rfl, rfl, _, _, rfl, rfl, _, _, rfl, rfl, rfl⟩ hp q⟩
    · exact q.elim
  · exact q.elim
/-! ### dict.get, dict.setdefault -/
def isDic (N : NH) (n : Nat) : Bool := match N[n]? with
  | some (.dK _) | some (.dT _) | some (.fK _) | some (.fT _) => true
  | _ => false
theorem isDic_ok {K : PySem.W.Frag} {ρ : List Addr} {N : NH} {H : Hp} {n : Nat} {a : Addr} (R : NRel K C ρ N H) (ha : ρ[n]? = some a) (h : isDic N n = true) : IsD H a := by
  unfold isDic at h
  split at h
  · rename_i kvs hN
    obtain ⟨l, h1, _⟩ := R.obj n a _ ha hN
    exact .inl ⟨l, .inl h1⟩
  · rename_i kvs hN
    obtain ⟨l, h1, _⟩ := R.obj n a _ ha hN
    exact .inr ⟨l, .inl h1⟩
  · rename_i kvs hN
    obtain ⟨ob, l, h1, _⟩ := R.obj n a _ ha hN
    exact .inl ⟨l, .inr ⟨ob, h1⟩⟩
  · rename_i kvs hN
    obtain ⟨ob, l, h1, _⟩ := R.obj n a _ ha hN
    exact .inr ⟨l, .inr ⟨ob, h1⟩⟩
  · cases h
def nDGet1 (o k : NE) : NE := fun σ N => (o σ N).bind fun x N => match x with
  | .ref n => if isDic N n = true then (k σ N).bind fun y N => (match getN N n y with | some r => .ok (r.getD .non) N | none => .bad) else .bad
  | _ => .bad
def nDGet2 (o k e : NE) : NE := fun σ N => (o σ N).bind fun x N => match x with
  | .ref n => if isDic N n = true then (k σ N).bind fun y N => (e σ N).bind fun z N => (match getN N n y with | some r => .ok (r.getD z) N | none => .bad) else .bad
  | _ => .bad
def nDSet (o k e : NE) : NE := fun σ N => (o σ N).bind fun x N => match x with
  | .ref n => if isDic N n = true then (k σ N).bind fun y N => (e σ N).bind fun z N => (match N[n]? with
    | some (.dK kvs) => match keyD y with
      | some key => if kvs.length < sizeLine then (match valD kvs key with
        | some d => .ok d N
        | none => .ok z (N.set n (.dK (putD kvs key z)))) else .bad
      | none => .bad
    | _ => .bad) else .bad
  | _ => .bad
theorem get_at {K : PySem.W.Frag} {ρ : List Addr} {N : NH} {H : Hp} {n : Nat} {a : Addr} {k d0 : D} {y : V} {z : V} {o : Option D} {σ : L2.St} {Q : VK} (R : NRel K C ρ N H) (ha : ρ[n]? = some a) (ry : RD K ρ H k y) (rz : RD K ρ H d0 z) (e : getN N n k = some o) (q : PostR (RD K) K C W ρ H σ Q (.ok (o.getD d0) N)) :
    ∃ r, DGet H a y r ∧ Q (r.getD z) H := by
  obtain ⟨a', r, ea, h1, h2, h3⟩ := getN_ok R ⟨a, rfl, ha⟩ ry e
  cases ea
  refine ⟨r, h1, ?_⟩
  cases o with
  | none => rw [h2 rfl]; exact q.ok R rz
  | some d =>
    obtain ⟨v, e1, e2⟩ := h3 d rfl
    rw [e1]; exact q.ok R e2
theorem n_dget1 {mo mk : NE} (hu : X.A.units + 1 < cLine) (ho : PE X o (tE X.K C W mo)) (hk : PE X e (tE X.K C W mk)) (m : M1 X o "get" apos e cpos) : PE X (.Call (.Attribute o "get" apos) [e] [] cpos) (tE X.K C W (nDGet1 mo mk)) :=
  pe_weak (pe_dget1 hu ho hk m) fun σ H Q ⟨ρ, σn, N, R, S, q⟩ => PostR.then R S q fun v H1 ρ1 N1 d E1 R1 S1 rd q1 => by
    split at q1
    · rename_i n
      obtain ⟨a, rfl, ha⟩ := rd
      split at q1
      · rename_i hd
        refine ⟨a, rfl, isDic_ok R1 ha hd, PostR.then R1 S1 q1 fun y H2 ρ2 N2 dy E2 R2 S2 ry q2 => ?_⟩
        split at q2
        · rename_i r hr
          exact get_at (d0 := .non) R2 (E2.get ha) ry rfl hr q2
        · exact q2.elim
      · exact q1.elim
    · exact q1.elim
theorem n_dget2 {mo mk mf : NE} (hu : X.A.units + 1 < cLine) (ho : PE X o (tE X.K C W mo)) (hk : PE X e (tE X.K C W mk)) (hf : PE X f (tE X.K C W mf)) (m : M2 X o "get" apos e f cpos) : PE X (.Call (.Attribute o "get" apos) [e, f] [] cpos) (tE X.K C W (nDGet2 mo mk mf)) :=
  pe_weak (pe_dget2 hu ho hk hf m) fun σ H Q ⟨ρ, σn, N, R, S, q⟩ => PostR.then R S q fun v H1 ρ1 N1 d E1 R1 S1 rd q1 => by
    split at q1
    · rename_i n
      obtain ⟨a, rfl, ha⟩ := rd
      split at q1
      · rename_i hd
        refine ⟨a, rfl, isDic_ok R1 ha hd, PostR.then R1 S1 q1 fun y H2 ρ2 N2 dy E2 R2 S2 ry q2 => PostR.then R2 S2 q2 fun z H3 ρ3 N3 dz E3 R3 S3 rz q3 => ?_⟩
        split at q3
        · rename_i r hr
          exact get_at R3 (E3.get (E2.get ha)) (ry.ext E3) rz hr q3
        · exact q3.elim
      · exact q1.elim
    · exact q1.elim
theorem n_dset {mo mk mf : NE} (ho : PE X o (tE X.K C W mo)) (hk : PE X e (tE X.K C W mk)) (hf : PE X f (tE X.K C W mf)) (m : M2 X o "setdefault" apos e f cpos) : PE X (.Call (.Attribute o "setdefault" apos) [e, f] [] cpos) (tE X.K C W (nDSet mo mk mf)) :=
  pe_weak (pe_dsetd ho hk hf m) fun σ H Q ⟨ρ, σn, N, R, S, q⟩ => PostR.then R S q fun v H1 ρ1 N1 d E1 R1 S1 rd q1 => by
    split at q1
    · rename_i n
      obtain ⟨a, rfl, ha⟩ := rd
      split at q1
      · rename_i hd
        refine ⟨a, rfl, isDic_ok R1 ha hd, PostR.then R1 S1 q1 fun y H2 ρ2 N2 dy E2 R2 S2 ry q2 => PostR.then R2 S2 q2 fun z H3 ρ3 N3 dz E3 R3 S3 rz q3 => ?_⟩
        split at q3
        · rename_i kvs hN
          split at q3
          · rename_i key hkey
            split at q3
            · rename_i hl
              have ha3 := E3.get (E2.get ha)
              obtain ⟨l, h1, h2⟩ := R3.obj n a _ ha3 hN
              refine ⟨l, key, h1, keyD_ok (ry.ext E3) hkey, by rw [h2.length]; exact hl, fun v hv => ?_, fun hv => ?_⟩
              · cases hd : valD kvs key with
                | none => rw [h2.valNone hd] at hv; cases hv
                | some d =>
                  obtain ⟨v', e1, e2⟩ := h2.valSome hd
                  rw [e1] at hv; cases hv
                  rw [hd] at q3
                  exact q3.ok R3 e2
              · cases hd : valD kvs key with
                | some d =>
                  obtain ⟨v', e1, e2⟩ := h2.valSome hd
                  rw [e1] at hv; cases hv
                | none =>
                  rw [hd] at q3
                  have hz : ∀ o w, H3 a ≠ some (.frz o w) := fun _ _ z => by rw [h1] at z; cases z
                  have E0 : Ext ρ3 H3 ρ3 (upd H3 a (.dK (putK l key z))) := Ext.write (memOf ha3) (fun _ z => by rw [h1] at z; cases z) hz
                  obtain ⟨E, R'⟩ := R3.write (o' := .dK (putD kvs key dz)) (u := .dK (putK l key z)) ha3 hz ⟨_, upd_same, (h2.put rz).ext E0⟩
                  exact q3 z _ ρ3 E R' (rz.ext E)
            · exact q3.elim
          · exact q3.elim
        · exact q3.elim
      · exact q1.elim
    · exact q1.elim
end
end NY

set_option Elab.async false
set_option linter.all false
set_option maxRecDepth 100000
set_option maxHeartbeats 4000000
/-! NY12: dict displays, x = [..] over dicts -/
namespace NY
open PySem PySem.Spec PyProof.Rows L2
section
variable {K : PySem.W.Frag} {C : NC} {ρ : List Addr} {H : Hp}
theorem Same.dK {a : Addr} {u : HO} {l : List (Key × V)} (m : H a = some (.dK l)) : Same ρ H (upd H a u) := fun b _ h => upd_ne (fun z => by
  subst z
  rcases h with ⟨_, h⟩ | ⟨_, _, h⟩
  · rw [m] at h; cases h
  · rw [m] at h; cases h)
theorem NRel.asideD {N : NH} {a : Addr} {l : List (Key × V)} (R : NRel K C ρ N H) (m : H a = some (.dK l)) (n : a ∉ ρ) {u : HO} : NRel K C ρ N (upd H a u) := by
  have E : Same ρ H (upd H a u) := Same.dK m
  refine ⟨R.len, R.nd, R.names, fun k b o hk ho => ?_, fun P hP => ?_⟩
  · exact (R.obj k b o hk ho).same E (upd_ne (fun z => n (z ▸ memOf hk)))
  · obtain ⟨ps, e, t⟩ := R.tab P hP
    exact ⟨ps, by rw [upd_ne (show P ≠ a from fun z => by rw [z, m] at e; cases e)]; exact e, t⟩
/-- a thing beside the nice objects joins them: the values stay what they were -/
theorem RD.lift {a : Addr} {u : HO} (m : H a = some u) (ht : ∀ xs, u ≠ .tup xs) (hz : ∀ o w, u ≠ .frz o w) : (∀ (d : D) (v : V), RD K ρ H d v → RD K (ρ ++ [a]) H d v) ∧ (∀ (d : List D) (v : List V), RDs K ρ H d v → RDs K (ρ ++ [a]) H d v) := by
  have hin : ∀ b w, H b = some w → w ≠ u → b ∉ ρ → b ∉ ρ ++ [a] := fun b w hb hw nb hm => by
    rcases List.mem_append.mp hm with q | q
    · exact nb q
    · rw [List.mem_singleton.mp q, m] at hb; exact hw (Option.some.inj hb).symm
  have hT : ∀ (b : Addr) (ys : List V), TupAt ρ H b ys → TupAt (ρ ++ [a]) H b ys := fun b ys h => ⟨hin b _ h.2 (fun z => ht _ z.symm) h.1, h.2⟩
  have hL : ∀ (b : Addr) (ys : List V), LscAt K ρ H b ys → LscAt K (ρ ++ [a]) H b ys := fun b ys h => by
    rcases h with ⟨n, o, h⟩ | h
    · exact .inl ⟨hin b _ h (fun z => hz _ _ z.symm) n, o, h⟩
    · exact .inr h
  have key : ∀ (d : D) (v : V), RD K ρ H d v → RD K (ρ ++ [a]) H d v := fun d =>
    D.rec (motive_1 := fun d => ∀ v, RD K ρ H d v → RD K (ρ ++ [a]) H d v) (motive_2 := fun ds => ∀ vs, RDs K ρ H ds vs → RDs K (ρ ++ [a]) H ds vs)
      (fun _ h => h) (fun _ _ h => h) (fun _ _ h => h) (fun _ _ h => h)
      (fun ds ih v ⟨b, ys, e, h1, h2⟩ => ⟨b, ys, e, hT b ys h1, ih ys h2⟩)
      (fun ds ih v ⟨b, ys, e, h1, h2⟩ => ⟨b, ys, e, h1, ih ys h2⟩)
      (fun ds ih v ⟨b, ys, e, h1, h2⟩ => ⟨b, ys, e, hL b ys h1, ih ys h2⟩)
      (fun n v ⟨b, e, h⟩ => ⟨b, e, by rw [List.getElem?_append_left (List.getElem?_eq_some_iff.mp h).1]; exact h⟩)
      (fun _ h => h) (fun d ds ih1 ih2 vs ⟨x, r, e, h1, h2⟩ => ⟨x, r, e, ih1 x h1, ih2 r h2⟩) d
  refine ⟨key, fun d => ?_⟩
  induction d with
  | nil => exact fun v h => h
  | cons d ds ih => exact fun v ⟨x, r, e, h1, h2⟩ => ⟨x, r, e, key d x h1, ih r h2⟩
theorem RK.lift {κ : Type} {a : Addr} {u : HO} (m : H a = some u) (ht : ∀ xs, u ≠ .tup xs) (hz : ∀ o w, u ≠ .frz o w) : ∀ (fs : List (κ × D)) (l : List (κ × V)), RK K ρ H fs l → RK K (ρ ++ [a]) H fs l := fun fs => by
  induction fs with
  | nil => exact fun v h => h
  | cons p ds ih => exact fun v ⟨v', s, e, h2, h3⟩ => ⟨v', s, e, (RD.lift m ht hz).1 _ _ h2, ih s h3⟩
theorem NRel.adoptO {N : NH} {a : Addr} {u : HO} {o' : O} (R : NRel K C ρ N H) (m : H a = some u) (ht : ∀ xs, u ≠ .tup xs) (hz : ∀ o w, u ≠ .frz o w) (n : a ∉ ρ) (new : RO K C (ρ ++ [a]) H a o') (ρ0 : List Addr) (H0 : Hp) (E0 : Ext ρ0 H0 ρ H) (h0 : H0 a = none) :
    Ext ρ0 H0 (ρ ++ [a]) H ∧ NRel K C (ρ ++ [a]) (N ++ [o']) H := by
  have rd := RD.lift (K := K) (ρ := ρ) m ht hz
  have rk := fun {κ : Type} => RK.lift (K := K) (ρ := ρ) (κ := κ) m ht hz
  have rf : ∀ (names : List Str) (fs : List (Nat × D)) (l : List (Str × V)), RF K ρ H names fs l → RF K (ρ ++ [a]) H names fs l := fun names fs => by
    induction fs with
    | nil => exact fun v h => h
    | cons p ds ih => exact fun v ⟨x, v', s, e, h1, h2, h3⟩ => ⟨x, v', s, e, h1, rd.1 _ _ h2, ih s h3⟩
  have ro : ∀ (b : Addr) (o : O), RO K C ρ H b o → RO K C (ρ ++ [a]) H b o := fun b o h => by
    cases o with
    | lst ds => obtain ⟨xs, e1, r⟩ := h; exact ⟨xs, e1, rd.2 _ _ r⟩
    | dK _ => obtain ⟨xs, e1, r⟩ := h; exact ⟨xs, e1, rk _ _ r⟩
    | dT _ => obtain ⟨xs, e1, r⟩ := h; exact ⟨xs, e1, rk _ _ r⟩
    | fK _ => obtain ⟨ob, xs, e1, r⟩ := h; exact ⟨ob, xs, e1, rk _ _ r⟩
    | fT _ => obtain ⟨ob, xs, e1, r⟩ := h; exact ⟨ob, xs, e1, rk _ _ r⟩
    | ins _ _ => obtain ⟨dx, xs, e1, r⟩ := h; exact ⟨dx, xs, e1, rf _ _ _ r⟩
  refine ⟨⟨?_, fun b hb nb => ?_, E0.keep, E0.tbl, E0.frz⟩, by simp [R.len], List.nodup_append.mpr ⟨R.nd, by simp, fun x hx y hy z => n (by rw [List.mem_singleton.mp hy] at z; exact z ▸ hx)⟩, R.names, fun k b o hk ho => ?_, R.tab⟩
  · obtain ⟨t, e⟩ := E0.pre
    exact ⟨t ++ [a], by rw [e, List.append_assoc]⟩
  · rcases List.mem_append.mp hb with q | q
    · exact E0.new b q nb
    · rw [List.mem_singleton.mp q]; exact h0
  · by_cases e : k < ρ.length
    · rw [List.getElem?_append_left e] at hk
      rw [List.getElem?_append_left (by have := R.len; omega)] at ho
      exact ro b o (R.obj k b o hk ho)
    · have hk1 := (List.getElem?_eq_some_iff.mp hk).1
      rw [List.length_append, List.length_singleton] at hk1
      have e2 : k = ρ.length := by omega
      subst e2
      rw [List.getElem?_concat_length] at hk
      rw [R.len, List.getElem?_concat_length] at ho
      cases hk; cases ho
      exact new
end
/-! ### dict displays -/
abbrev NPs := NEnv → NH → R (List (Key × D))
def nPsNil : NPs := fun _ N => .ok [] N
def nPsCons (k v : NE) (r : NPs) : NPs := fun σ N => (k σ N).bind fun x N => (v σ N).bind fun y N => (r σ N).bind fun l N => match keyD x with
  | some key => .ok ((key, y) :: l) N
  | none => .bad
def mergeD (kvs more : List (Key × D)) : List (Key × D) := more.foldl (fun acc kv => putD acc kv.1 kv.2) kvs
def nDisp (m : NPs) : NE := fun σ N => (m σ N).bind fun l N => if l.length ≤ 15 then N.new (.dK (mergeD [] l)) else .bad
def relP (K : PySem.W.Frag) (ρ : List Addr) (H : Hp) (kvs : List (Key × D)) (ps : List (V × V)) : Prop := ∃ l : List (Key × V), ps = l.map (fun kv => (kV kv.1, kv.2)) ∧ RK K ρ H kvs l
theorem RK.merge {K : PySem.W.Frag} {ρ : List Addr} {H : Hp} : ∀ {more : List (Key × D)} {l : List (Key × V)} {kvs : List (Key × D)} {l0 : List (Key × V)}, RK K ρ H kvs l0 → RK K ρ H more l → RK K ρ H (mergeD kvs more) (mergeK l0 l)
  | [], _, _, _, h, h' => by cases h'; exact h
  | (k, d) :: r, _, _, _, h, h' => by
    obtain ⟨v, s, rfl, h1, h2⟩ := h'
    exact RK.merge (kvs := putD _ k d) (l0 := putK _ k v) (h.put h1) h2
section
variable {X : Cx} {C : NC} {W : WX} {pos : Pos} {keys : List (Option Expr)} {values : List Expr} {k v : Expr}
def PD (X : Cx) (C : NC) (W : WX) (pos : Pos) (keys : List (Option Expr)) (values : List Expr) (m : NPs) : Prop :=
  ∃ trs, PPs X pos keys values trs ∧ ∀ σ H Q, tR (relP X.K) X.K C W m σ H Q → tPairs trs σ H Q
theorem d_nil : PD X C W pos [] [] nPsNil := ⟨_, pps_nil, fun σ H Q ⟨ρ, σn, N, R, S, q⟩ => q [] H ρ .refl R ⟨[], rfl, rfl⟩⟩
theorem d_cons {mk mv : NE} {m : NPs} (hk : PE X k (tE X.K C W mk)) (hv : PE X v (tE X.K C W mv)) (hr : PD X C W pos keys values m) : PD X C W pos (some k :: keys) (v :: values) (nPsCons mk mv m) := by
  obtain ⟨trs, h1, h2⟩ := hr
  refine ⟨_, pps_cons hk hv h1, fun σ H Q ⟨ρ, σn, N, R, S, q⟩ => ?_⟩
  refine PostR.then R S q fun x H1 ρ1 N1 dx E1 R1 S1 rx q1 => PostR.then R1 S1 q1 fun y H2 ρ2 N2 dy E2 R2 S2 ry q2 => h2 _ _ _ (PostR.then (rel := relP X.K) R2 S2 q2 fun ps H3 ρ3 N3 l E3 R3 S3 rp q3 => ?_)
  obtain ⟨l', rfl, hl⟩ := rp
  split at q3
  · rename_i key hkey
    exact q3 _ H3 ρ3 .refl R3 ⟨(key, y) :: l', by rw [List.map_cons, ← keyD_ok ((rx.ext E2).ext E3) hkey], ⟨y, l', rfl, ry.ext E3, hl⟩⟩
  · exact q3.elim
theorem n_disp {m : NPs} (h : PD X C W pos keys values m) (h1 : (keys.all fun x => x.isSome) = true := by rfl) (h2 : keys.length = values.length := by rfl) (h3 : keys ≠ [] := by exact (fun z => nomatch z)) (h4 : keys.length ≤ 15 := by decide) : PE X (.Dict keys values pos) (tE X.K C W (nDisp m)) := by
  obtain ⟨trs, hp, hw⟩ := h
  refine pe_weak (pe_disp hp h1 h2 h3 h4) fun σ H Q ⟨ρ, σn, N, R, S, q⟩ p hp => ?_
  obtain ⟨E0, R0⟩ := R.side (u := .dK []) hp
  refine hw σ _ _ ⟨ρ, σn, N, R0, S.ext E0, ?_⟩
  have hb : PostR (relP X.K) X.K C W ρ (upd H p (.dK [])) σ _ (m σn N) := ((PostR.bindE (rel := relP X.K) q).ext E0).imp fun _ _ h => h
  unfold nDisp at q
  cases e : m σn N with
  | exc x N' => rw [e] at hb; exact hb
  | bad => rw [e] at hb; exact hb
  | ok l N' =>
    rw [e] at q
    replace q : PostR (RD X.K) X.K C W ρ H σ Q (if l.length ≤ 15 then N'.new (.dK (mergeD [] l)) else .bad) := q
    intro ps H' ρ' E' R' ⟨l', e1, hl⟩
    by_cases hlen : l.length ≤ 15
    · rw [if_pos hlen] at q
      have np : p ∉ ρ' := fun hm => by
        have := E'.new p hm (R.fresh hp)
        rw [upd_same] at this; cases this
      have h2p : H' p = some (.dK []) := E'.keep p _ upd_same (R.fresh hp) (fun _ z => nomatch z)
      refine ⟨h2p, l', e1, by rw [hl.length]; exact hlen, ?_⟩
      have hs : Same ρ' H' (upd H' p (.dK (mergeK [] l'))) := Same.dK h2p
      have R2 := R'.asideD (u := .dK (mergeK [] l')) h2p np
      have hl2 : RK X.K ρ' (upd H' p (.dK (mergeK [] l'))) l l' := RK.same hs _ hl
      have E2 : Ext ρ H ρ' (upd H' p (.dK (mergeK [] l'))) := by
        have E3 := E0.trans E'
        refine ⟨E3.pre, E3.new, fun b o hb nb nt => ?_, fun b ps hb => ?_, fun b o w hb => ?_⟩
        · rw [upd_ne (ne_of_none hb hp)]; exact E3.keep b o hb nb nt
        · rw [upd_ne (ne_of_none hb hp)]; exact E3.tbl b ps hb
        · rw [upd_ne (ne_of_none hb hp)]; exact E3.frz b o w hb
      have hlift := RK.lift (κ := Key) (K := X.K) (ρ := ρ') (H := upd H' p (.dK (mergeK [] l'))) (a := p) upd_same (fun _ z => nomatch z) (fun _ _ z => nomatch z)
      obtain ⟨E4, R4⟩ := R2.adoptO (o' := .dK (mergeD [] l)) upd_same (fun _ z => nomatch z) (fun _ _ z => nomatch z) np ⟨_, upd_same, RK.merge rfl (hlift _ _ hl2)⟩ ρ H E2 hp
      exact q _ _ _ E4 R4 ⟨p, rfl, by rw [← R2.len]; exact get_last⟩
    · rw [if_neg hlen] at q; exact q.elim
end
/-! ### x = [.. for .. in a dict] -/
section
variable {X : Cx} {C : NC} {W : WX} {elt tg iter : Expr} {ifs : List Expr} {scope : Scope} {pos : Pos}
theorem s_setLcL {i : Nat} {y : Str} {py spos : Pos} {ma : NE} {pt : NP} {mc : NT} {me : NE} (own : List (Str × Nat)) (hc : X.calm = true) (hN : X.N.Nodup) (ok : BlkOk X.N X.env.scope scope own) (hv : ∀ i ∈ pt.is, i ∈ own.map (fun x => x.2)) (hi : PE X iter (tE X.K C W ma))
    (hg : ∀ (s : Shared) (H : Hp) (Cc : Addr) (cl : List (Str × Addr)) (fp : List Addr), PG (X.blk s H scope (compEnvC scope cl Cc X.env) fp) tg (tG X.K C pt))
    (ht : ∀ (s : Shared) (H : Hp) (Cc : Addr) (cl : List (Str × Addr)) (fp : List Addr), PTs (X.blk s H scope (compEnvC scope cl Cc X.env) fp) ifs (tT X.K C W0 mc))
    (he : ∀ (s : Shared) (H : Hp) (Cc : Addr) (cl : List (Str × Addr)) (fp : List Addr), PE (X.blk s H scope (compEnvC scope cl Cc X.env) fp) elt (tE X.K C W0 me))
    (hy : X.N[i]? = some y := by rfl) (hyl : X.env.scope.names.lookup y = some .local := by rfl) (hsw : swapsWith (.ListComp elt [⟨tg, iter, ifs, 0⟩] scope pos) (some (.Name y py)) spos.line X.env = pure true := by rfl)
    (hf : ∀ (x : Value), foldedSetIterable iter X.env x = pure x := by intro _; rfl) : PS X (.Assign [.Name y py] (.ListComp elt [⟨tg, iter, ifs, 0⟩] scope pos) spos) (tS X.K C W (sAsg (nLcL ma pt mc me (own.map fun x => x.2)) (pName i))) := by
  have h0 := ps_setLc (spos := spos) hc hN hy hyl hsw (n_it (tg := tg) (W := W) hi) ok hg ht he hf
  refine ps_weak (ps_or h0 (ps_lock h0)) fun D σ H ⟨ρ, σn, N, R, S, q⟩ => ?_
  have hq : PostR (RD X.K) X.K C W ρ H σ (fun v H1 => D.nx (σ.set i (some v)) H1) (nLcL ma pt mc me (own.map fun x => x.2) σn N) :=
    (PostS.stm (rel := RD X.K) S q).imp fun v H1 ⟨ρ1, N1, d, E1, R1, rd, q1⟩ => q1 _ H1 ρ1 .refl R1 ((S.ext E1).set rd i)
  unfold nLcL at hq
  split at hq
  · rename_i n o f hlk
    unfold lockAt at hlk
    split at hlk
    · rename_i n' N' _
      obtain ⟨o', hN', h2⟩ := Option.bind_eq_some_iff.mp hlk
      obtain ⟨f', hf', e⟩ := Option.map_eq_some_iff.mp h2
      cases e
      have := snd_lock (t := tLc (tI X.K C W (iSeq ma)) (tG X.K C pt) (tT X.K C W0 mc) (tE X.K C W0 me) (own.map fun x => x.2)) R S hN' hf' (fun _ _ h => snd_lc hv h) hq
      exact .inr this
    · cases hlk
  · exact .inl (snd_lc hv ⟨ρ, σn, N, R, S, hq⟩)
end
end NY

set_option Elab.async false
set_option linter.all false
set_option maxRecDepth 100000
set_option maxHeartbeats 4000000
/-! NY13: names of the module -/
namespace NY
open PySem PySem.Spec PyProof.Rows L2
/-- a name of the top holds a plain value -/
def GD (K : PySem.W.Frag) (mg : Str → Option Value) (x : Str) (d : D) : Prop := ∃ u v, mg x = some u ∧ RelV v u ∧ ∀ ρ H, RD K ρ H d v
theorem GD.int {K : PySem.W.Frag} {mg : Str → Option Value} {x : Str} {i : Int} {t : Tok} (h : mg x = some (.int i t)) : GD K mg x (.int i) := ⟨_, .int i, h, ⟨t, rfl⟩, fun _ _ => rfl⟩
theorem GD.str {K : PySem.W.Frag} {mg : Str → Option Value} {x : Str} {i : Str} {t : Tok} (h : mg x = some (.str i t)) : GD K mg x (.str i) := ⟨_, .str i, h, ⟨t, rfl⟩, fun _ _ => rfl⟩
/-- a written tuple of numbers and texts -/
def relC : List D → List Value → Prop
  | [], us => us = []
  | .int i :: ds, us => ∃ t r, us = .int i t :: r ∧ relC ds r
  | .str i :: ds, us => ∃ t r, us = .str i t :: r ∧ relC ds r
  | _ :: _, _ => False
theorem relC_ok {K : PySem.W.Frag} : ∀ {ds : List D} {us : List Value}, relC ds us → ∃ xs, Vals xs us ∧ ∀ ρ H, RDs K ρ H ds xs
  | [], _, h => by
    have e : _ = [] := h
    subst e; exact ⟨[], .nil, fun _ _ => rfl⟩
  | .int i :: ds, _, h => by
    obtain ⟨t, r, rfl, h1⟩ := h
    obtain ⟨xs, e1, e2⟩ := relC_ok (K := K) h1
    exact ⟨.int i :: xs, .cons ⟨t, rfl⟩ e1, fun ρ H => ⟨_, _, rfl, rfl, e2 ρ H⟩⟩
  | .str i :: ds, _, h => by
    obtain ⟨t, r, rfl, h1⟩ := h
    obtain ⟨xs, e1, e2⟩ := relC_ok (K := K) h1
    exact ⟨.str i :: xs, .cons ⟨t, rfl⟩ e1, fun ρ H => ⟨_, _, rfl, rfl, e2 ρ H⟩⟩
  | .non :: _, _, h | .bl _ :: _, _, h | .tup _ :: _, _, h | .ctup _ :: _, _, h | .lsc _ :: _, _, h | .ref _ :: _, _, h => nomatch h
theorem GD.ctup {K : PySem.W.Frag} {mg : Str → Option Value} {x : Str} {a : Addr} {ds : List D} {us : List Value} {dd : Option Addr} {n : Nat} {sl : Array (Option Value)} (h : mg x = some (.ref a)) (hl : K.lookup a = some ⟨.type "tuple", dd, .seq us.toArray n, sl⟩) (hr : relC ds us) (hz : us.length ≤ 1000) : GD K mg x (.ctup ds) := by
  obtain ⟨xs, e1, e2⟩ := relC_ok (K := K) hr
  refine ⟨_, .ref a, h, rfl, fun ρ H => ⟨a, xs, rfl, ⟨_, us.toArray, n, hl, rfl, rfl, ?_, by simpa using e1⟩, e2 ρ H⟩⟩
  have : (1000 : Nat) ≤ sizeLine := by decide
  simp; omega
theorem n_gc {X : Cx} {C : NC} {W : WX} {x : Str} {d : D} {pos : Pos} (h : GD X.K X.mg x d) (hg : Gl X x := by rfl) (hd : (x == ("__debug__" : Str)) = false := by decide) : PE X (.Name x pos) (tE X.K C W (nC d)) := by
  obtain ⟨u, v, h1, h2, h3⟩ := h
  exact n_glob hg h1 h2 h3 hd
/-- len of a chain of arguments -/
theorem len1 {a : NE} : ∀ σ N ds N', nCons a nNil σ N = .ok ds N' → ds.length = 1 := nCons_len nNil_len
end NY

set_option Elab.async false
set_option linter.all false
set_option maxRecDepth 100000
set_option maxHeartbeats 4000000
/-! NY14: what holds behind a nice program: plain rules, applied from the goal -/
namespace NY
open PySem PySem.Spec PyProof.Rows L2

abbrev XP := Exn → NH → Prop
abbrev X0 : XP := fun _ _ => False
@[irreducible] def wpR {α : Type} (r : R α) (Q : α → NH → Prop) (E : XP := X0) : Prop := match r with
  | .ok a N => Q a N
  | .exc x N => E x N
  | .bad => False
/-- how a row of statements ends -/
structure En where
  nx : NEnv → NH → Prop
  rt : D → NH → Prop := fun _ _ => False
  bk : NEnv → NH → Prop := fun _ _ => False
  ex : Exn → NEnv → NH → Prop := fun _ _ _ => False
@[irreducible] def wpS (r : RS) (e : En) : Prop := match r with
  | .nx σ N => e.nx σ N
  | .rt d N => e.rt d N
  | .bk σ N => e.bk σ N
  | .exc x σ N => e.ex x σ N
  | .bad => False
theorem wpR.mono {α : Type} {r : R α} {Q Q' : α → NH → Prop} {E E' : XP} (h : wpR r Q E) (hq : ∀ a N, Q a N → Q' a N) (he : ∀ x N, E x N → E' x N) : wpR r Q' E' := by
  with_unfolding_all
    cases r with
    | ok a N => exact hq a N h
    | exc x N => exact he x N h
    | bad => exact h
theorem wpR.ex {α : Type} {r : R α} {Q : α → NH → Prop} (h : wpR r Q) : ∃ a N, r = .ok a N ∧ Q a N := by
  with_unfolding_all
    cases r with
    | ok a N => exact ⟨a, N, rfl, h⟩
    | exc x N => exact h.elim
    | bad => exact h.elim
theorem wpS.mono {r : RS} {e e' : En} (h : wpS r e) (h1 : ∀ σ N, e.nx σ N → e'.nx σ N) (h2 : ∀ d N, e.rt d N → e'.rt d N) (h3 : ∀ σ N, e.bk σ N → e'.bk σ N) (h4 : ∀ x σ N, e.ex x σ N → e'.ex x σ N) : wpS r e' := by
  with_unfolding_all
    cases r with
    | nx s N => exact h1 _ _ h
    | rt d N => exact h2 _ _ h
    | bk s N => exact h3 _ _ h
    | exc x s N => exact h4 _ _ _ h
    | bad => exact h
theorem wp_law {m : NF} {d : D} {N : NH} (h : wpR (m [d] N) fun v _ => v = .bl true) : ∃ N', m [d] N = .ok (.bl true) N' := by
  with_unfolding_all
    obtain ⟨a, N', h1, h2⟩ := h.ex
    exact ⟨N', by rw [h1, h2]⟩
section
variable {α β : Type} {Q : D → NH → Prop} {E : XP} {σ : NEnv} {N : NH} {e : En} {d x y z : D} {i j : Int} {n : Nat} {s t : Str} {l : List D} {a b c : NE} {p q r : NS} {T U : NT} {A B : NA} {f g : D → D → NH → R D}
theorem wp_bind {r : R α} {k : α → NH → R β} {Q : β → NH → Prop} (h : wpR r (fun a N => wpR (k a N) Q E) E) : wpR (r.bind k) Q E := by
  with_unfolding_all
    cases r with
    | ok a N => exact h
    | exc x N => exact h
    | bad => exact h
theorem wp_stm {r : R α} {k : α → NH → RS} (h : wpR r (fun a N => wpS (k a N) e) (fun x N => e.ex x σ N)) : wpS (r.stm σ k) e := by
  with_unfolding_all
    cases r with
    | ok a N => exact h
    | exc x N => exact h
    | bad => exact h
/-! expressions -/
theorem wp_C (h : Q d N) : wpR (nC d σ N) Q E := by with_unfolding_all exact (h)
theorem wp_V (i : Nat) (hd : σ[i]? = some (some d)) (h : Q d N) : wpR (nV i σ N) Q E := by with_unfolding_all (unfold nV; rw [hd]; exact h)
theorem wp_op2 (h : wpR (a σ N) (fun x N => wpR (b σ N) (fun y N => wpR (f x y N) Q E) E) E) : wpR (nOp2 f a b σ N) Q E := by with_unfolding_all exact (wp_bind (h.mono (fun _ _ h => wp_bind h) fun _ _ h => h))
theorem wp_op1 {f : D → NH → R D} (h : wpR (a σ N) (fun x N => wpR (f x N) Q E) E) : wpR (nOp1 f a σ N) Q E := by with_unfolding_all exact (wp_bind h)
theorem wp_bool {Q : Bool → NH → Prop} (h : wpR (a σ N) (fun x N => ∃ b, x = .bl b ∧ Q b N) E) : wpR (nBool a σ N) Q E := by with_unfolding_all exact (wp_bind (h.mono (fun x N ⟨b, e, h⟩ => by subst e; exact h) fun _ _ h => h))
theorem wp_if (h : wpR (T σ N) (fun c N => if c = true then wpR (a σ N) Q E else wpR (b σ N) Q E) E) : wpR (nIf T a b σ N) Q E := by with_unfolding_all exact (wp_bind (h.mono (fun c N h => by split <;> rename_i q <;> simpa [q] using h) fun _ _ h => h))
theorem wp_andT {Q : Bool → NH → Prop} (h : wpR (T σ N) (fun c N => if c = true then wpR (U σ N) Q E else Q false N) E) : wpR (nAndT T U σ N) Q E := by with_unfolding_all exact (wp_bind (h.mono (fun c N h => by split <;> rename_i q <;> simpa [q, wpR] using h) fun _ _ h => h))
theorem wp_orT {Q : Bool → NH → Prop} (h : wpR (T σ N) (fun c N => if c = true then Q true N else wpR (U σ N) Q E) E) : wpR (nOrT T U σ N) Q E := by with_unfolding_all exact (wp_bind (h.mono (fun c N h => by split <;> rename_i q <;> simpa [q, wpR] using h) fun _ _ h => h))
theorem wp_notT {Q : Bool → NH → Prop} (h : wpR (T σ N) (fun c N => Q (!c) N) E) : wpR (nNotT T σ N) Q E := by with_unfolding_all exact (wp_bind h)
theorem wp_and (h : wpR (a σ N) (fun x N => ∃ k, x = .bl k ∧ if k = true then wpR (b σ N) Q E else Q (.bl false) N) E) : wpR (nAnd a b σ N) Q E := by with_unfolding_all exact (wp_bind (h.mono (fun x N ⟨k, e, h⟩ => by subst e; cases k <;> simpa [wpR] using h) fun _ _ h => h))
theorem wp_or (h : wpR (a σ N) (fun x N => ∃ k, x = .bl k ∧ if k = true then Q (.bl true) N else wpR (b σ N) Q E) E) : wpR (nOr a b σ N) Q E := by with_unfolding_all exact (wp_bind (h.mono (fun x N ⟨k, e, h⟩ => by subst e; cases k <;> simpa [wpR] using h) fun _ _ h => h))
theorem wp_not (h : wpR (a σ N) (fun x N => ∃ k, x = .bl k ∧ Q (.bl (!k)) N) E) : wpR (nNot a σ N) Q E := by with_unfolding_all exact (wp_bind (h.mono (fun x N ⟨k, e, h⟩ => by subst e; exact h) fun _ _ h => h))
theorem wp_tru {Q : Bool → NH → Prop} (h : wpR (a σ N) (fun x N => ∃ k, truN N x = some k ∧ Q k N) E) : wpR (nTru a σ N) Q E := by with_unfolding_all exact (wp_bind (h.mono (fun x N ⟨k, e, h⟩ => by rw [e]; exact h) fun _ _ h => h))
theorem wp_chain (h : wpR (a σ N) (fun x N => wpR (b σ N) (fun y N => wpR (f x y N) (fun z N => ∃ k, z = .bl k ∧ if k = true then wpR (c σ N) (fun z N => wpR (g y z N) Q E) E else Q (.bl false) N) E) E) E) : wpR (nChain f g a b c σ N) Q E := by with_unfolding_all exact (wp_bind (h.mono (fun x N h => wp_bind (h.mono (fun y N h => wp_bind (h.mono (fun z N ⟨k, e, h⟩ => by subst e; cases k; exact h; exact wp_bind h) fun _ _ h => h)) fun _ _ h => h)) fun _ _ h => h))
theorem wp_nil {Q : List D → NH → Prop} (h : Q [] N) : wpR (nNil σ N) Q E := by with_unfolding_all exact (h)
theorem wp_cons {Q : List D → NH → Prop} (h : wpR (a σ N) (fun x N => wpR (A σ N) (fun l N => Q (x :: l) N) E) E) : wpR (nCons a A σ N) Q E := by with_unfolding_all exact (wp_bind (h.mono (fun x N h => wp_bind (h.mono (fun _ _ h => h) fun _ _ h => h)) fun _ _ h => h))
theorem wp_call {F : NF} (h : wpR (A σ N) (fun l N => wpR (F l N) Q E) E) : wpR (nCall F A σ N) Q E := by with_unfolding_all exact (wp_bind h)
theorem wp_bm {f : D → List D → NH → R D} {T : String} (h : wpR (a σ N) (fun x N => tyN N T x = true ∧ wpR (A σ N) (fun l N => wpR (f x l N) Q E) E) E) : wpR (nBM T f a A σ N) Q E := by with_unfolding_all exact (wp_bind (h.mono (fun x N ⟨e, h⟩ => by rw [if_pos e]; exact wp_bind h) fun _ _ h => h))
theorem wp_tup (h : wpR (A σ N) (fun l N => l.length ≤ sizeLine ∧ Q (.tup l) N) E) : wpR (nTup A σ N) Q E := by with_unfolding_all exact (wp_bind (h.mono (fun x N ⟨e, h⟩ => by rw [if_pos e]; exact h) fun _ _ h => h))
theorem wp_lst (h : wpR (A σ N) (fun l N => l.length ≤ sizeLine ∧ Q (.ref N.length) (N ++ [.lst l])) E) : wpR (nLst A σ N) Q E := by with_unfolding_all exact (wp_bind (h.mono (fun x N ⟨e, h⟩ => by rw [if_pos e]; exact h) fun _ _ h => h))
theorem wp_dK (h : Q (.ref N.length) (N ++ [.dK []])) : wpR (nDK σ N) Q E := by with_unfolding_all exact (h)
theorem wp_dT (h : Q (.ref N.length) (N ++ [.dT []])) : wpR (nDT σ N) Q E := by with_unfolding_all exact (h)
theorem wp_psNil {Q : List (Key × D) → NH → Prop} (h : Q [] N) : wpR (nPsNil σ N) Q E := by with_unfolding_all exact (h)
theorem wp_psCons {m : NPs} {Q : List (Key × D) → NH → Prop} (h : wpR (a σ N) (fun x N => wpR (b σ N) (fun y N => wpR (m σ N) (fun l N => ∃ k, keyD x = some k ∧ Q ((k, y) :: l) N) E) E) E) : wpR (nPsCons a b m σ N) Q E := by with_unfolding_all exact (wp_bind (h.mono (fun x N h => wp_bind (h.mono (fun y N h => wp_bind (h.mono (fun l N ⟨k, e, h⟩ => by rw [e]; exact h) fun _ _ h => h)) fun _ _ h => h)) fun _ _ h => h))
theorem wp_disp {m : NPs} (h : wpR (m σ N) (fun l N => l.length ≤ 15 ∧ Q (.ref N.length) (N ++ [.dK (mergeD [] l)])) E) : wpR (nDisp m σ N) Q E := by with_unfolding_all exact (wp_bind (h.mono (fun x N ⟨e, h⟩ => by rw [if_pos e]; exact h) fun _ _ h => h))
theorem wp_noPart {Q : Option Int → NH → Prop} (h : Q none N) : wpR (nNoPart σ N) Q E := by with_unfolding_all exact (h)
theorem wp_part {Q : Option Int → NH → Prop} (h : wpR (a σ N) (fun x N => ∃ i, x = .int i ∧ Q (some i) N) E) : wpR (nPart a σ N) Q E := by with_unfolding_all exact (wp_bind (h.mono (fun x N ⟨i, e, h⟩ => by subst e; exact h) fun _ _ h => h))
theorem wp_cut {lo hi : NO} (h : wpR (a σ N) (fun x N => wpR (lo σ N) (fun l N => wpR (hi σ N) (fun u N => wpR (fCut x l u N) Q E) E) E) E) : wpR (nCut a lo hi σ N) Q E := by with_unfolding_all exact (wp_bind (h.mono (fun x N h => wp_bind (h.mono (fun _ _ h => wp_bind h) fun _ _ h => h)) fun _ _ h => h))
theorem wp_isi {k : Kd} (h : wpR (a σ N) (fun x N => ∃ k', kindN N x = some k' ∧ Q (.bl (isiK k' k)) N) E) : wpR (nIsi k a σ N) Q E := by with_unfolding_all exact (wp_bind (h.mono (fun x N ⟨i, e, h⟩ => by rw [e]; exact h) fun _ _ h => h))
theorem wp_fld {cs : List Nat} {f : Nat} (h : wpR (a σ N) (fun x N => ∃ n c fs d, x = .ref n ∧ N[n]? = some (.ins c fs) ∧ c ∈ cs ∧ lookF f fs = some d ∧ Q d N) E) : wpR (nFld cs f a σ N) Q E := by with_unfolding_all exact (wp_bind (h.mono (fun x N ⟨n, c, fs, d, e1, e2, e3, e4, h⟩ => by subst e1; show wpR (match N[n]? with | some (.ins c fs) => _ | _ => _) Q E; rw [e2]; show wpR (if c ∈ cs then _ else _) Q E; rw [if_pos e3]; show wpR (match lookF f fs with | some d => _ | none => _) Q E; rw [e4]; exact h) fun _ _ h => h))
theorem wp_dget2 (h : wpR (a σ N) (fun x N => ∃ n, x = .ref n ∧ isDic N n = true ∧ wpR (b σ N) (fun y N => wpR (c σ N) (fun z N => ∃ r, getN N n y = some r ∧ Q (r.getD z) N) E) E) E) : wpR (nDGet2 a b c σ N) Q E := by with_unfolding_all exact (wp_bind (h.mono (fun x N ⟨n, e1, e2, h⟩ => by subst e1; show wpR (if isDic N n = true then _ else _) Q E; rw [if_pos e2]; exact wp_bind (h.mono (fun y N h => wp_bind (h.mono (fun z N ⟨r, e, h⟩ => by rw [e]; exact h) fun _ _ h => h)) fun _ _ h => h)) fun _ _ h => h))
theorem wp_dget1 (h : wpR (a σ N) (fun x N => ∃ n, x = .ref n ∧ isDic N n = true ∧ wpR (b σ N) (fun y N => ∃ r, getN N n y = some r ∧ Q (r.getD .non) N) E) E) : wpR (nDGet1 a b σ N) Q E := by with_unfolding_all exact (wp_bind (h.mono (fun x N ⟨n, e1, e2, h⟩ => by subst e1; show wpR (if isDic N n = true then _ else _) Q E; rw [if_pos e2]; exact wp_bind (h.mono (fun y N ⟨r, e, h⟩ => by rw [e]; exact h) fun _ _ h => h)) fun _ _ h => h))
theorem wp_meth {fs : List (Nat × NF)} (h : wpR (a σ N) (fun x N => ∃ n c fl F, x = .ref n ∧ N[n]? = some (.ins c fl) ∧ fs.find? (fun p => decide (p.1 = c)) = some (c, F) ∧ wpR (A σ N) (fun l N => wpR (F (.ref n :: l) N) Q E) E) E) : wpR (nMeth fs a A σ N) Q E := by with_unfolding_all exact (wp_bind (h.mono (fun x N ⟨n, c, fl, F, e1, e2, e3, h⟩ => by subst e1; show wpR (match N[n]? with | some (.ins c _) => _ | _ => _) Q E; rw [e2]; show wpR (match fs.find? (fun p => decide (p.1 = c)) with | some (_, f) => _ | none => _) Q E; rw [e3]; exact wp_bind h) fun _ _ h => h))
theorem wp_make {F : NF} {c : Nat} (h : wpR (A σ N) (fun l N => wpR (F (.ref N.length :: l) (N ++ [.ins c []])) (fun v N' => v = .non ∧ Q (.ref N.length) N') E) E) : wpR (nMake c F A σ N) Q E := by with_unfolding_all exact (wp_bind (h.mono (fun l N h => wp_bind (h.mono (fun v N' ⟨e, h⟩ => by rw [if_pos e]; exact h) fun _ _ h => h)) fun _ _ h => h))
/-! defs -/
theorem wp_fun {m : NS} {ds : List D} {k : Nat} (h : wpS (m (ds.map some ++ List.replicate (k - ds.length) none) N) ⟨fun _ N => Q .non N, Q, fun _ _ => False, fun x _ N => E x N⟩) : wpR (nFun k m ds N) Q E := by
  with_unfolding_all
    unfold nFun
    revert h
    cases m (ds.map some ++ List.replicate (k - ds.length) none) N <;> exact fun h => h
theorem wp_fun0 {m : NS} {k : Nat} (h : wpS (m (List.replicate k none) N) ⟨fun _ N => Q .non N, Q, fun _ _ => False, fun x _ N => E x N⟩) : wpR (nFun k m [] N) Q E := by with_unfolding_all exact (wp_fun h)
theorem wp_fun1 {m : NS} {k : Nat} (h : wpS (m (some x :: List.replicate k none) N) ⟨fun _ N => Q .non N, Q, fun _ _ => False, fun x _ N => E x N⟩) : wpR (nFun (k + 1) m [x] N) Q E := by with_unfolding_all exact (wp_fun h)
theorem wp_fun2 {m : NS} {k : Nat} (h : wpS (m (some x :: some y :: List.replicate k none) N) ⟨fun _ N => Q .non N, Q, fun _ _ => False, fun x _ N => E x N⟩) : wpR (nFun (k + 2) m [x, y] N) Q E := by with_unfolding_all exact (wp_fun h)
theorem wp_fun3 {m : NS} {k : Nat} (h : wpS (m (some x :: some y :: some z :: List.replicate k none) N) ⟨fun _ N => Q .non N, Q, fun _ _ => False, fun x _ N => E x N⟩) : wpR (nFun (k + 3) m [x, y, z] N) Q E := by with_unfolding_all exact (wp_fun h)
theorem wp_fun4 {m : NS} {k : Nat} {u : D} (h : wpS (m (some x :: some y :: some z :: some u :: List.replicate k none) N) ⟨fun _ N => Q .non N, Q, fun _ _ => False, fun x _ N => E x N⟩) : wpR (nFun (k + 4) m [x, y, z, u] N) Q E := by with_unfolding_all exact (wp_fun h)
/-! statements -/
theorem wp_seq (h : wpS (p σ N) { e with nx := fun σ N => wpS (q σ N) e }) : wpS (sSeq p q σ N) e := by
  with_unfolding_all
    unfold sSeq
    revert h
    cases p σ N <;> exact fun h => h
theorem wp_pass (h : e.nx σ N) : wpS (sPass σ N) e := by with_unfolding_all exact (h)
theorem wp_ret (h : wpR (a σ N) e.rt (fun x N => e.ex x σ N)) : wpS (sRet a σ N) e := by with_unfolding_all exact (wp_stm h)
theorem wp_retN (h : e.rt .non N) : wpS (sRetN σ N) e := by with_unfolding_all exact (h)
theorem wp_expr (h : wpR (a σ N) (fun _ N => e.nx σ N) (fun x N => e.ex x σ N)) : wpS (sExpr a σ N) e := by with_unfolding_all exact (wp_stm h)
theorem wp_asg (n : Nat) (h : wpR (a σ N) (fun d N => e.nx (σ.set n (some d)) N) (fun x N => e.ex x σ N)) : wpS (sAsg a (pName n) σ N) e := by with_unfolding_all exact (wp_stm (h.mono (fun _ _ h => h) fun _ _ h => h))
theorem wp_asgT {is : List Nat} (h : wpR (a σ N) (fun d N => ∃ l, seqN N d = some l ∧ l.length = is.length ∧ e.nx (setAll is l σ) N) (fun x N => e.ex x σ N)) : wpS (sAsg a (pTup is) σ N) e := by with_unfolding_all exact (wp_stm (h.mono (fun d N ⟨l, e1, e2, h⟩ => by
    have : (pTup is).put d σ N = some (setAll is l σ) := by unfold pTup; simp [e1, e2]
    rw [this]; exact h) fun _ _ h => h))
theorem wp_par {is : List Nat} (h : wpR (A σ N) (fun l N => l.length = is.length ∧ e.nx (setAll is l σ) N) (fun x N => e.ex x σ N)) : wpS (sPar is A σ N) e := by with_unfolding_all exact (wp_stm (h.mono (fun d N ⟨e1, h⟩ => by rw [if_pos e1]; exact h) fun _ _ h => h))
theorem wp_sif (h : wpR (T σ N) (fun c N => if c = true then wpS (p σ N) e else wpS (q σ N) e) (fun x N => e.ex x σ N)) : wpS (sIf T p q σ N) e := by with_unfolding_all exact (wp_stm (h.mono (fun c N h => by split <;> rename_i q <;> simpa [q] using h) fun _ _ h => h))
theorem wp_put (h : wpR (c σ N) (fun v N => wpR (a σ N) (fun o N => wpR (b σ N) (fun i N => ∃ N', putIx N o i v = some N' ∧ e.nx σ N') (fun x N => e.ex x σ N)) (fun x N => e.ex x σ N)) (fun x N => e.ex x σ N)) : wpS (sPut a b c σ N) e := by with_unfolding_all exact (wp_stm (h.mono (fun v N h => wp_stm (h.mono (fun o N h => wp_stm (h.mono (fun i N ⟨N', e1, h⟩ => by rw [e1]; exact h) fun _ _ h => h)) fun _ _ h => h)) fun _ _ h => h))
theorem wp_fldput {cs : List Nat} {f : Nat} (h : wpR (b σ N) (fun v N => wpR (a σ N) (fun o N => ∃ n c fs, o = .ref n ∧ N[n]? = some (.ins c fs) ∧ c ∈ cs ∧ fs.length < 1000 ∧ e.nx σ (N.set n (.ins c (putFD f v fs)))) (fun x N => e.ex x σ N)) (fun x N => e.ex x σ N)) : wpS (sFldPut cs f a b σ N) e := by with_unfolding_all exact (wp_stm (h.mono (fun v N h => wp_stm (h.mono (fun o N ⟨n, c, fs, e1, e2, e3, e4, h⟩ => by subst e1; show wpS (match N[n]? with | some (.ins c fs) => _ | _ => _) e; rw [e2]; show wpS (if c ∈ cs ∧ fs.length < 1000 then _ else _) e; rw [if_pos ⟨e3, e4⟩]; exact h) fun _ _ h => h)) fun _ _ h => h))
theorem wp_for {it : NI} {pt : NP} (h : wpR (it σ N) (fun t N => wpS (loopN pt p t.ok t.items σ N) e) (fun x N => e.ex x σ N)) : wpS (sFor it pt p σ N) e := by with_unfolding_all exact (wp_stm h)
theorem wp_it {Q : NIt → NH → Prop} (h : wpR (a σ N) (fun d N => ∃ t, itOf N d = some t ∧ Q t N) E) : wpR (iSeq a σ N) Q E := by with_unfolding_all exact (wp_bind (h.mono (fun d N ⟨t, e1, h⟩ => by rw [e1]; exact h) fun _ _ h => h))
theorem wp_rng1 {Q : NIt → NH → Prop} (h : wpR (A σ N) (fun l N => ∃ j, l = [.int j] ∧ -(2 ^ 62) ≤ j ∧ j < 2 ^ 62 ∧ Q ⟨(List.range j.toNat).map fun (i : Nat) => .int (i : Int), fun _ => true⟩ N) E) : wpR (iRng A σ N) Q E := by with_unfolding_all exact (wp_bind (h.mono (fun l N ⟨j, e1, e2, e3, h⟩ => by subst e1; show wpR (if _ ∧ _ then _ else _) Q E; rw [if_pos ⟨e2, e3⟩]; exact h) fun _ _ h => h))
theorem wp_rng2 {Q : NIt → NH → Prop} (h : wpR (A σ N) (fun l N => ∃ i j, l = [.int i, .int j] ∧ (-(2 ^ 62) ≤ i ∧ i < 2 ^ 62 ∧ -(2 ^ 62) ≤ j ∧ j < 2 ^ 62) ∧ Q ⟨(List.range (j - i).toNat).map fun (k : Nat) => .int (i + (k : Int)), fun _ => true⟩ N) E) : wpR (iRng A σ N) Q E := by with_unfolding_all exact (wp_bind (h.mono (fun l N ⟨i, j, e1, e2, h⟩ => by subst e1; show wpR (if _ ∧ _ then _ else _) Q E; rw [if_pos e2]; exact h) fun _ _ h => h))
/-- a loop that is not over a dict -/
theorem wp_forL {pt : NP} (hl : lockAt a σ N = none) (h : wpS (sFor (iSeq a) pt p σ N) e) : wpS (sForL a pt p σ N) e := by with_unfolding_all (unfold sForL; rw [hl]; exact h)
theorem lock_ref {n : Nat} {N' : NH} (h : a σ N = .ok (.ref n) N') (hn : ∀ o, N[n]? = some o → lockO o = none) : lockAt a σ N = none := by
  with_unfolding_all
    unfold lockAt; rw [h]
    cases q : N[n]? with
    | none => simp [q]
    | some o => simp [q, hn o q]
theorem lock_no {v : D} {N' : NH} (h : a σ N = .ok v N') (hv : ∀ n, v ≠ .ref n) : lockAt a σ N = none := by
  with_unfolding_all
    unfold lockAt; rw [h]
    cases v with
    | ref n => exact absurd rfl (hv n)
    | _ => rfl
/-- a loop's invariant -/
theorem wp_loop (I : Nat → NEnv → NH → Prop) {pt : NP} {ok : NH → Bool} {l : List D} (h0 : I 0 σ N) (hok : ∀ i σ N, I i σ N → ok N = true)
    (hs : ∀ i x σ N, l[i]? = some x → I i σ N → ∃ σ1, pt.put x σ N = some σ1 ∧ wpS (p σ1 N) ⟨I (i + 1), e.rt, e.nx, e.ex⟩) (he : ∀ σ N, I l.length σ N → e.nx σ N) : wpS (loopN pt p ok l σ N) e := by
  with_unfolding_all
    have key : ∀ (r : List D) (i : Nat) (σ : NEnv) (N : NH), l.drop i = r → i ≤ l.length → I i σ N → wpS (loopN pt p ok r σ N) e := by
      intro r
      induction r with
      | nil =>
        intro i σ N hd hi h
        have : i = l.length := by
          have := congrArg List.length hd
          simp at this; omega
        subst this
        unfold loopN
        rw [if_pos (hok _ _ _ h)]
        exact he σ N h
      | cons x r ih =>
        intro i σ N hd hi h
        have hx : l[i]? = some x := by
          have := congrArg (·[0]?) hd
          simpa using this
        have hd2 : l.drop (i + 1) = r := by
          have := congrArg List.tail hd
          simpa using this
        have hi2 : i + 1 ≤ l.length := (List.getElem?_eq_some_iff.mp hx).1
        obtain ⟨σ1, h1, h2⟩ := hs i x σ N hx h
        unfold loopN
        rw [if_pos (hok _ _ _ h), h1]
        dsimp only
        revert h2
        cases p σ1 N with
        | nx σ2 N2 => exact fun h2 => ih (i + 1) σ2 N2 hd2 hi2 h2
        | rt d N2 => exact fun h2 => h2
        | bk σ2 N2 => exact fun h2 => h2
        | exc x σ2 N2 => exact fun h2 => h2
        | bad => exact fun h2 => h2
    exact key l 0 σ N rfl (Nat.zero_le _) h0
theorem wp_lc {it : NI} {pt : NP} {me : NE} {vs : List Nat} (h : wpR (it σ N) (fun t N => wpR (lcLoop pt T me t.ok (wipeN σ vs) t.items [] N) (fun l N => Q (.ref N.length) (N ++ [.lst l])) E) E) : wpR (nLc it pt T me vs σ N) Q E := by with_unfolding_all exact (wp_bind (h.mono (fun t N h => wp_bind h) fun _ _ h => h))
theorem wp_lcL {pt : NP} {me : NE} {vs : List Nat} (hl : lockAt a σ N = none) (h : wpR (nLc (iSeq a) pt T me vs σ N) Q E) : wpR (nLcL a pt T me vs σ N) Q E := by with_unfolding_all (unfold nLcL; rw [hl]; exact h)
theorem wp_lcLoop (I : Nat → List D → NH → Prop) {pt : NP} {ok : NH → Bool} {l : List D} {me : NE} {Q : List D → NH → Prop} (h0 : I 0 [] N) (hok : ∀ i acc N, I i acc N → ok N = true ∧ acc.length < sizeLine)
    (hs : ∀ i x acc N, l[i]? = some x → I i acc N → ∃ σ1, pt.put x σ N = some σ1 ∧ wpR (T σ1 N) (fun k N => if k = true then wpR (me σ1 N) (fun y N => I (i + 1) (acc ++ [y]) N) else I (i + 1) acc N)) (he : ∀ acc N, I l.length acc N → Q acc N) : wpR (lcLoop pt T me ok σ l [] N) Q E := by
  with_unfolding_all
    have key : ∀ (r : List D) (i : Nat) (acc : List D) (N : NH), l.drop i = r → i ≤ l.length → I i acc N → wpR (lcLoop pt T me ok σ r acc N) Q E := by
      intro r
      induction r with
      | nil =>
        intro i acc N hd hi h
        have : i = l.length := by
          have := congrArg List.length hd
          simp at this; omega
        subst this
        unfold lcLoop
        rw [if_pos (hok _ _ _ h).1]
        exact he acc N h
      | cons x r ih =>
        intro i acc N hd hi h
        have hx : l[i]? = some x := by
          have := congrArg (·[0]?) hd
          simpa using this
        have hd2 : l.drop (i + 1) = r := by
          have := congrArg List.tail hd
          simpa using this
        have hi2 : i + 1 ≤ l.length := (List.getElem?_eq_some_iff.mp hx).1
        obtain ⟨σ1, h1, h2⟩ := hs i x acc N hx h
        unfold lcLoop
        rw [if_pos (hok _ _ _ h).1, h1]
        dsimp only
        revert h2
        cases T σ1 N with
        | exc x N2 => exact fun h2 => h2.elim
        | bad => exact fun h2 => h2.elim
        | ok k N2 =>
          cases k with
          | false => exact fun h2 => ih (i + 1) acc N2 hd2 hi2 h2
          | true =>
            intro h2
            replace h2 : wpR (me σ1 N2) (fun y N => I (i + 1) (acc ++ [y]) N) := h2
            dsimp only
            revert h2
            cases me σ1 N2 with
            | exc x N3 => exact fun h2 => h2.elim
            | bad => exact fun h2 => h2.elim
            | ok y N3 =>
              intro h2
              dsimp only
              rw [if_pos (hok _ _ _ h).2]
              exact ih (i + 1) _ N3 hd2 hi2 h2
    exact key l 0 [] N rfl (Nat.zero_le _) h0
/-! values -/
theorem wp_addI (h : Q (.int (i + j)) N) : wpR (fAdd (.int i) (.int j) N) Q E := by with_unfolding_all exact (h)
theorem wp_addS (hl : s.length + t.length ≤ sizeLine) (h : Q (.str (s ++ t)) N) : wpR (fAdd (.str s) (.str t) N) Q E := by with_unfolding_all (show wpR (if s.length + t.length ≤ sizeLine then _ else _) Q E; rw [if_pos hl]; exact h)
theorem wp_subI (h : Q (.int (i - j)) N) : wpR (fSub (.int i) (.int j) N) Q E := by with_unfolding_all exact (h)
theorem wp_mulI (hc : CMul i j) (h : Q (.int (i * j)) N) : wpR (fMul (.int i) (.int j) N) Q E := by with_unfolding_all (show wpR (if CMul i j then _ else _) Q E; rw [if_pos hc]; exact h)
theorem wp_divI (hc : CDivW i j) (h : Q (.int (i / j)) N) : wpR (fDiv (.int i) (.int j) N) Q E := by with_unfolding_all (show wpR (if CDivW i j then _ else _) Q E; rw [if_pos hc]; exact h)
theorem wp_modI (hc : 0 < j) (h : Q (.int (i % j)) N) : wpR (fMod (.int i) (.int j) N) Q E := by with_unfolding_all (show wpR (if 0 < j then _ else _) Q E; rw [if_pos hc]; exact h)
theorem wp_powI (hc : CPow i j) (h : Q (.int (i ^ j.toNat)) N) : wpR (fPow (.int i) (.int j) N) Q E := by with_unfolding_all (show wpR (if CPow i j then _ else _) Q E; rw [if_pos hc]; exact h)
theorem wp_negI (h : Q (.int (-i)) N) : wpR (fNeg (.int i) N) Q E := by with_unfolding_all exact (h)
theorem wp_ltI (h : Q (.bl (decide (i < j))) N) : wpR (fLt (.int i) (.int j) N) Q E := by with_unfolding_all exact (h)
theorem wp_leI (h : Q (.bl (decide (i ≤ j))) N) : wpR (fLe (.int i) (.int j) N) Q E := by with_unfolding_all exact (h)
theorem wp_gtI (h : Q (.bl (decide (j < i))) N) : wpR (fGt (.int i) (.int j) N) Q E := by with_unfolding_all exact (h)
theorem wp_geI (h : Q (.bl (decide (j ≤ i))) N) : wpR (fGe (.int i) (.int j) N) Q E := by with_unfolding_all exact (h)
theorem wp_eq {k : Bool} (hk : eqN N x y = some k) (h : Q (.bl k) N) : wpR (fEq x y N) Q E := by with_unfolding_all (unfold fEq; rw [hk]; exact h)
theorem wp_ne {k : Bool} (hk : eqN N x y = some k) (h : Q (.bl (!k)) N) : wpR (fNe x y N) Q E := by with_unfolding_all (unfold fNe; rw [hk]; exact h)
theorem wp_in {k : Bool} (hk : inN N x y = some k) (h : Q (.bl k) N) : wpR (fIn x y N) Q E := by with_unfolding_all (unfold fIn; rw [hk]; exact h)
theorem wp_notin {k : Bool} (hk : inN N x y = some k) (h : Q (.bl (!k)) N) : wpR (fNotIn x y N) Q E := by with_unfolding_all (unfold fNotIn; rw [hk]; exact h)
theorem wp_get (hk : getIx N x y = some d) (h : Q d N) : wpR (fGet x y N) Q E := by with_unfolding_all (unfold fGet; rw [hk]; exact h)
theorem wp_intI (h : Q (.int i) N) : wpR (fInt [.int i] N) Q E := by with_unfolding_all exact (h)
theorem wp_intB {k : Bool} (h : Q (.int (if k then 1 else 0)) N) : wpR (fInt [.bl k] N) Q E := by with_unfolding_all exact (h)
theorem wp_len (hk : lenN N x = some i) (h : Q (.int i) N) : wpR (fLen [x] N) Q E := by with_unfolding_all (show wpR (match lenN N x with | some i => _ | none => _) Q E; rw [hk]; exact h)
theorem wp_abs (h : Q (.int (if i < 0 then -i else i)) N) : wpR (fAbs [.int i] N) Q E := by with_unfolding_all exact (h)
theorem wp_list (hk : seqN N x = some l) (h : Q (.ref N.length) (N ++ [.lst l])) : wpR (fList [x] N) Q E := by with_unfolding_all (show wpR (match seqN N x with | some l => _ | none => _) Q E; rw [hk]; exact h)
theorem wp_tupleR {n : Nat} (hk : lstN N (.ref n) = some l) (h : Q (.tup l) N) : wpR (fTuple [.ref n] N) Q E := by
  with_unfolding_all
    show wpR (match lstN N (.ref n) with | some l => _ | none => _) Q E
    rw [hk]; exact h
theorem wp_append (hk : N[n]? = some (.lst l)) (hl : l.length < sizeLine) (h : Q .non (N.set n (.lst (l ++ [y])))) : wpR (fAppend (.ref n) [y] N) Q E := by
  with_unfolding_all
    show wpR (match N[n]? with | some (.lst l) => _ | _ => _) Q E
    rw [hk]
    show wpR (if l.length < sizeLine then _ else _) Q E
    rw [if_pos hl]; exact h
end
end NY

set_option Elab.async false
set_option linter.all false
set_option maxRecDepth 100000
set_option maxHeartbeats 4000000
/-! NY15: rules that look into the heap, rules that write -/
namespace NY
open PySem PySem.Spec PyProof.Rows L2
/-- what stays -/
abbrev Fr (ms : List Nat) (N N' : NH) : Prop := ∀ (m : Nat) (o : O), m ∉ ms → N[m]? = some o → N'[m]? = some o
theorem fr_set {N : NH} {n : Nat} {o : O} : ∀ (m : Nat) (o' : O), m ≠ n → N[m]? = some o' → (N.set n o)[m]? = some o' := fun m o' h e => by rw [List.getElem?_set_ne h.symm]; exact e
theorem set_at {N : NH} {n : Nat} {o o' : O} (h : N[n]? = some o') : (N.set n o)[n]? = some o := List.getElem?_set_self (List.getElem?_eq_some_iff.mp h).1
theorem new_at {N : NH} {o : O} : (N ++ [o])[N.length]? = some o := List.getElem?_concat_length ..
theorem new_fr {N : NH} {o : O} : ∀ (m : Nat) (o' : O), N[m]? = some o' → (N ++ [o])[m]? = some o' := fun m o' e => by rw [List.getElem?_append_left (List.getElem?_eq_some_iff.mp e).1]; exact e
theorem new_none {N : NH} : N[N.length]? = none := List.getElem?_eq_none (Nat.le_refl _)
section
variable {Q : D → NH → Prop} {E : XP} {σ : NEnv} {N : NH} {e : En} {d x y z : D} {i j : Int} {n k : Nat} {s t : Str} {l l' : List D} {a b c : NE} {A : NA}
theorem wp_getL (h : N[n]? = some (.lst l)) (hi : atD l i = some d) (hq : Q d N) : wpR (fGet (.ref n) (.int i) N) Q E := wp_get (by unfold getIx; simp [h, hi]) hq
theorem wp_getT (hi : atD l i = some d) (hq : Q d N) : wpR (fGet (.tup l) (.int i) N) Q E := wp_get (by unfold getIx; simp [hi]) hq
theorem wp_getCT (hi : atD l i = some d) (hq : Q d N) : wpR (fGet (.ctup l) (.int i) N) Q E := wp_get (by unfold getIx; simp [hi]) hq
theorem wp_lenL (h : N[n]? = some (.lst l)) (hq : Q (.int (l.length : Nat)) N) : wpR (fLen [.ref n] N) Q E := wp_len (i := (l.length : Nat)) (by unfold lenN; simp [h]) hq
theorem wp_lenT (hq : Q (.int (l.length : Nat)) N) : wpR (fLen [.tup l] N) Q E := wp_len (i := (l.length : Nat)) rfl hq
theorem wp_lenSc (hq : Q (.int (l.length : Nat)) N) : wpR (fLen [.lsc l] N) Q E := wp_len (i := (l.length : Nat)) rfl hq
theorem wp_lenS (hz : s.length ≤ sizeLine) (hq : Q (.int (s.length : Nat)) N) : wpR (fLen [.str s] N) Q E := wp_len (i := (s.length : Nat)) (by unfold lenN; simp [hz]) hq
theorem wp_lenK {kvs : List (Key × D)} (h : N[n]? = some (.dK kvs)) (hq : Q (.int (kvs.length : Nat)) N) : wpR (fLen [.ref n] N) Q E := wp_len (i := (kvs.length : Nat)) (by unfold lenN; simp [h]) hq
theorem wp_mulR (hj : -2 ^ 64 < j ∧ j < 2 ^ 64) (hq : Q (.int (i * j)) N) : wpR (fMul (.int i) (.int j) N) Q E := wp_mulI (.inr hj) hq
theorem wp_mulL (hj : -2 ^ 64 < i ∧ i < 2 ^ 64) (hq : Q (.int (i * j)) N) : wpR (fMul (.int i) (.int j) N) Q E := wp_mulI (.inl hj) hq
theorem wp_mid (I : NEnv → NH → Prop) {p : NS} (h : wpS (p σ N) { e with nx := I }) (h2 : ∀ σ N, I σ N → e.nx σ N) : wpS (p σ N) e := h.mono h2 (fun _ _ h => h) (fun _ _ h => h) fun _ _ _ h => h
theorem wp_midR {α : Type} {r : R α} {Q : α → NH → Prop} (I : α → NH → Prop) (h : wpR r I E) (h2 : ∀ a N, I a N → Q a N) : wpR r Q E := h.mono h2 fun _ _ h => h
theorem ifT {c : Bool} {A B : Prop} (h : c = true) (ha : A) : if c = true then A else B := by rw [if_pos h]; exact ha
theorem ifF {c : Bool} {A B : Prop} (h : c = false) (hb : B) : if c = true then A else B := by rw [if_neg (by rw [h]; exact Bool.false_ne_true)]; exact hb
theorem wp_eqI (h : Q (.bl (decide (i = j))) N) : wpR (fEq (.int i) (.int j) N) Q E := by with_unfolding_all exact (h)
theorem wp_neI (h : Q (.bl (!decide (i = j))) N) : wpR (fNe (.int i) (.int j) N) Q E := by with_unfolding_all exact (h)
theorem wp_eqS (h : Q (.bl (decide (s = t))) N) : wpR (fEq (.str s) (.str t) N) Q E := by with_unfolding_all exact (h)
theorem wp_neS (h : Q (.bl (!decide (s = t))) N) : wpR (fNe (.str s) (.str t) N) Q E := by with_unfolding_all exact (h)
theorem wp_isN (h : Q (.bl (decide (d = .non))) N) : wpR (fIs d .non N) Q E := by
  with_unfolding_all
    have : fIs d .non N = .ok (.bl (decide (d = .non))) N := by unfold fIs; cases d <;> rfl
    rw [this]; exact h
theorem wp_isNotN (h : Q (.bl (!decide (d = .non))) N) : wpR (fIsNot d .non N) Q E := by
  with_unfolding_all
    have : fIsNot d .non N = .ok (.bl (!decide (d = .non))) N := by unfold fIsNot; cases d <;> rfl
    rw [this]; exact h
theorem wp_isN0 (h : Q (.bl true) N) : wpR (fIs .non .non N) Q E := wp_isN (by simpa using h)
theorem wp_isNotN0 (h : Q (.bl false) N) : wpR (fIsNot .non .non N) Q E := wp_isNotN (by simpa using h)
theorem wp_isNI (h : Q (.bl false) N) : wpR (fIs (.int i) .non N) Q E := wp_isN (by simpa using h)
theorem wp_isNotNI (h : Q (.bl true) N) : wpR (fIsNot (.int i) .non N) Q E := wp_isNotN (by simpa using h)
theorem wp_isNS (h : Q (.bl false) N) : wpR (fIs (.str s) .non N) Q E := wp_isN (by simpa using h)
theorem wp_isNotNS (h : Q (.bl true) N) : wpR (fIsNot (.str s) .non N) Q E := wp_isNotN (by simpa using h)
theorem wp_isNT (h : Q (.bl false) N) : wpR (fIs (.tup l) .non N) Q E := wp_isN (by simpa using h)
theorem wp_isNotNT (h : Q (.bl true) N) : wpR (fIsNot (.tup l) .non N) Q E := wp_isNotN (by simpa using h)
theorem wp_isNR (h : Q (.bl false) N) : wpR (fIs (.ref n) .non N) Q E := wp_isN (by simpa using h)
theorem wp_isNotNR (h : Q (.bl true) N) : wpR (fIsNot (.ref n) .non N) Q E := wp_isNotN (by simpa using h)
theorem atD_int {l : List Int} (h0 : 0 ≤ i) (h1 : i < l.length) : atD (l.map .int) i = some (.int (l.getD i.toNat 0)) := by
  unfold atD ixN
  rw [List.length_map, if_pos h0, if_pos h1]
  have : i.toNat < l.length := by omega
  simp [List.getElem?_eq_getElem this, List.getD_eq_getElem?_getD]
theorem atD_map {α : Type} {f : α → D} {l : List α} {y : α} (h0 : 0 ≤ i) (h1 : l[i.toNat]? = some y) : atD (l.map f) i = some (f y) := by
  have hl := (List.getElem?_eq_some_iff.mp h1).1
  unfold atD ixN
  rw [List.length_map, if_pos h0, if_pos (by omega)]
  simp [h1]
theorem wp_getTI {l : List Int} (h0 : 0 ≤ i) (h1 : i < l.length) (hq : Q (.int (l.getD i.toNat 0)) N) : wpR (fGet (.tup (l.map .int)) (.int i) N) Q E := wp_getT (atD_int h0 h1) hq
theorem cut_take {l : List D} (h0 : 0 ≤ i) (h1 : i ≤ l.length) : cutD l none (some i) = l.take i.toNat := by
  unfold cutD HT.sIx
  simp
  rw [if_neg (by omega)]
  congr 1; omega
theorem le_size {n : Nat} (h : n ≤ 1000000) : n ≤ sizeLine := Nat.le_trans h (by decide)
theorem lt_size {n : Nat} (h : n ≤ 1000000) : n < sizeLine := Nat.lt_of_le_of_lt h (by decide)
theorem cutD_le (l : List D) (lo hi : Option Int) : (NY.cutD l lo hi).length ≤ l.length := by
  unfold NY.cutD
  rw [List.length_take, List.length_drop]; omega
theorem ex_refL {K : Nat → List D → Prop} (h : N[n]? = some (.lst l)) (hk : K n l) : ∃ (m : Nat) (l' : List D), D.ref n = .ref m ∧ N[m]? = some (.lst l') ∧ K m l' := ⟨n, l, rfl, h, hk⟩
theorem ex_bl {K : Bool → Prop} {k : Bool} (hk : K k) : ∃ b, D.bl k = .bl b ∧ K b := ⟨k, rfl, hk⟩
theorem ex_int {K : Int → Prop} (hk : K i) : ∃ j, D.int i = .int j ∧ K j := ⟨i, rfl, hk⟩
theorem ex_str {K : Str → Prop} (hk : K s) : ∃ t, D.str s = .str t ∧ K t := ⟨s, rfl, hk⟩
theorem ex_putL {K : Nat → List D → Int → Nat → Prop} {j : Nat} (h : N[n]? = some (.lst l)) (hj : ixN l.length i = some j) (hk : K n l i j) : ∃ (m : Nat) (l' : List D) (k : Int) (j : Nat), D.ref n = .ref m ∧ D.int i = .int k ∧ N[m]? = some (.lst l') ∧ ixN l'.length k = some j ∧ K m l' k j := ⟨n, l, i, j, rfl, rfl, h, hj, hk⟩
theorem ex_tup {K : List D → Prop} {k : Nat} (hl : l.length = k) (hk : K l) : ∃ l', seqN N (.tup l) = some l' ∧ l'.length = k ∧ K l' := ⟨l, rfl, hl, hk⟩
theorem ex_tru {K : Bool → Prop} {k : Bool} (hk : K k) : ∃ b, truN N (.bl k) = some b ∧ K b := ⟨k, rfl, hk⟩
theorem ex_kd0 {K : Kd → Prop} (hk : K .non) : ∃ q, kindN N .non = some q ∧ K q := ⟨_, rfl, hk⟩
theorem ex_kdB {K : Kd → Prop} {k : Bool} (hk : K .bl) : ∃ q, kindN N (.bl k) = some q ∧ K q := ⟨_, rfl, hk⟩
theorem ex_kdI {K : Kd → Prop} (hk : K .int) : ∃ q, kindN N (.int i) = some q ∧ K q := ⟨_, rfl, hk⟩
theorem ex_kdS {K : Kd → Prop} (hk : K .str) : ∃ q, kindN N (.str s) = some q ∧ K q := ⟨_, rfl, hk⟩
theorem ex_kdT {K : Kd → Prop} (hk : K .tup) : ∃ q, kindN N (.tup l) = some q ∧ K q := ⟨_, rfl, hk⟩
theorem ex_kdL {K : Kd → Prop} (h : N[n]? = some (.lst l)) (hk : K .lst) : ∃ q, kindN N (.ref n) = some q ∧ K q := ⟨.lst, by simp [kindN, h], hk⟩
theorem ex_kdD {K : Kd → Prop} {kvs : List (Key × D)} (h : N[n]? = some (.dK kvs)) (hk : K .dic) : ∃ q, kindN N (.ref n) = some q ∧ K q := ⟨.dic, by simp [kindN, h], hk⟩
theorem and_size {P : Prop} {k : Nat} (h : k ≤ sizeLine) (hp : P) : k ≤ sizeLine ∧ P := ⟨h, hp⟩
theorem ex_fld {K : Nat → Nat → List (Nat × D) → D → Prop} {c f : Nat} {cs : List Nat} {fs : List (Nat × D)} (h : N[n]? = some (.ins c fs)) (hc : c ∈ cs) (hf : lookF f fs = some d) (hk : K n c fs d) : ∃ m c fs d, D.ref n = .ref m ∧ N[m]? = some (.ins c fs) ∧ c ∈ cs ∧ lookF f fs = some d ∧ K m c fs d := ⟨n, c, fs, d, rfl, h, hc, hf, hk⟩
theorem wp_getKS {kvs : List (Key × D)} (h : N[n]? = some (.dK kvs)) (hv : valD kvs (Sum.inr s : Key) = some d) (hq : Q d N) : wpR (fGet (.ref n) (.str s) N) Q E := wp_get (by unfold getIx; simp [h, getN, keyD, hv]) hq
theorem wp_getKI {kvs : List (Key × D)} (h : N[n]? = some (.dK kvs)) (hv : valD kvs (Sum.inl i : Key) = some d) (hq : Q d N) : wpR (fGet (.ref n) (.int i) N) Q E := wp_get (by unfold getIx; simp [h, getN, keyD, hv]) hq
theorem lock_none (h : wpR (a σ N) (fun d _ => ∀ n, d = .ref n → ∀ o, N[n]? = some o → lockO o = none)) : lockAt a σ N = none := by
  obtain ⟨d, N', h1, h2⟩ := h.ex
  cases d with
  | ref m => exact lock_ref h1 (h2 m rfl)
  | _ => exact lock_no h1 (fun _ z => nomatch z)
theorem wp_cutL (h : N[n]? = some (.lst l)) {lo hi : Option Int} (hq : ∀ (k : Nat) (N' : NH), N[k]? = none → N'[k]? = some (.lst (NY.cutD l lo hi)) → (∀ (m : Nat) (o : O), N[m]? = some o → N'[m]? = some o) → Q (.ref k) N') : wpR (fCut (.ref n) lo hi N) Q E := by
  have e : fCut (.ref n) lo hi N = N.new (.lst (NY.cutD l lo hi)) := by unfold fCut; simp [h]
  rw [e]
  with_unfolding_all exact hq _ _ new_none new_at new_fr
theorem wp_divL (hj : 0 < j ∧ j.natAbs.log2 < 9000) (hq : Q (.int (i / j)) N) : wpR (fDiv (.int i) (.int j) N) Q E := wp_divI hj hq
/-- a new object -/
theorem wp_lstN (h : wpR (A σ N) (fun l N => l.length ≤ sizeLine ∧ ∀ (k : Nat) (N' : NH), N[k]? = none → N'[k]? = some (.lst l) → (∀ (m : Nat) (o : O), N[m]? = some o → N'[m]? = some o) → Q (.ref k) N') E) : wpR (nLst A σ N) Q E :=
  wp_lst (h.mono (fun l N ⟨h1, h2⟩ => ⟨h1, h2 _ _ new_none new_at new_fr⟩) fun _ _ h => h)
theorem wp_listN (hk : seqN N x = some l) (h : ∀ (k : Nat) (N' : NH), N[k]? = none → N'[k]? = some (.lst l) → (∀ (m : Nat) (o : O), N[m]? = some o → N'[m]? = some o) → Q (.ref k) N') : wpR (fList [x] N) Q E := wp_list hk (h _ _ new_none new_at new_fr)
theorem wp_dKN (h : ∀ (k : Nat) (N' : NH), N[k]? = none → N'[k]? = some (.dK []) → (∀ (m : Nat) (o : O), N[m]? = some o → N'[m]? = some o) → Q (.ref k) N') : wpR (nDK σ N) Q E := by with_unfolding_all exact (h _ _ new_none new_at new_fr)
theorem wp_dTN (h : ∀ (k : Nat) (N' : NH), N[k]? = none → N'[k]? = some (.dT []) → (∀ (m : Nat) (o : O), N[m]? = some o → N'[m]? = some o) → Q (.ref k) N') : wpR (nDT σ N) Q E := by with_unfolding_all exact (h _ _ new_none new_at new_fr)
theorem wp_dispN {m : NPs} (h : wpR (m σ N) (fun l N => l.length ≤ 15 ∧ ∀ (k : Nat) (N' : NH), N[k]? = none → N'[k]? = some (.dK (mergeD [] l)) → (∀ (m : Nat) (o : O), N[m]? = some o → N'[m]? = some o) → Q (.ref k) N') E) : wpR (nDisp m σ N) Q E :=
  wp_disp (h.mono (fun l N ⟨h1, h2⟩ => ⟨h1, h2 _ _ new_none new_at new_fr⟩) fun _ _ h => h)
theorem wp_lcN {it : NI} {pt : NP} {T : NT} {me : NE} {vs : List Nat} (h : wpR (it σ N) (fun t N => wpR (lcLoop pt T me t.ok (wipeN σ vs) t.items [] N) (fun l N => ∀ (k : Nat) (N' : NH), N[k]? = none → N'[k]? = some (.lst l) → (∀ (m : Nat) (o : O), N[m]? = some o → N'[m]? = some o) → Q (.ref k) N') E) E) : wpR (nLc it pt T me vs σ N) Q E :=
  wp_lc (h.mono (fun t N h => h.mono (fun l N h => h _ _ new_none new_at new_fr) fun _ _ h => h) fun _ _ h => h)
theorem wp_repL (h : N[n]? = some (.lst l)) (h0 : 0 ≤ i ∧ i < 1000000 ∧ l.length * i.toNat ≤ sizeLine) (hq : ∀ (k : Nat) (N' : NH), N[k]? = none → N'[k]? = some (.lst (List.replicate i.toNat l).flatten) → (∀ (m : Nat) (o : O), N[m]? = some o → N'[m]? = some o) → Q (.ref k) N') : wpR (fMul (.ref n) (.int i) N) Q E := by
  with_unfolding_all
    show wpR (match N[n]? with | some (.lst x) => _ | _ => _) Q E
    rw [h]
    show wpR (if 0 ≤ i ∧ i < 1000000 ∧ l.length * i.toNat ≤ sizeLine then _ else _) Q E
    rw [if_pos h0]
    exact hq _ _ new_none new_at new_fr
theorem wp_repT (h0 : l ≠ [] ∧ 2 ≤ i ∧ i ≤ 1000 ∧ l.length ≤ 1000) (hq : Q (.tup (List.replicate i.toNat l).flatten) N) : wpR (fMul (.tup l) (.int i) N) Q E := by
  with_unfolding_all
    show wpR (if l ≠ [] ∧ 2 ≤ i ∧ i ≤ 1000 ∧ l.length ≤ 1000 then _ else _) Q E
    rw [if_pos h0]
    exact hq
theorem wp_catT (h0 : l.length + l'.length ≤ sizeLine) (hq : Q (.tup (l ++ l')) N) : wpR (fAdd (.tup l) (.tup l') N) Q E := by
  with_unfolding_all
    show wpR (if l.length + l'.length ≤ sizeLine then _ else _) Q E
    rw [if_pos h0]
    exact hq
theorem wp_cutT {lo hi : Option Int} (hq : Q (.tup (cutD l lo hi)) N) : wpR (fCut (.tup l) lo hi N) Q E := by with_unfolding_all exact (hq)
/-- o[i] = v of a list -/
theorem wp_putL (h : wpR (c σ N) (fun v N => wpR (a σ N) (fun o N => wpR (b σ N) (fun i N => ∃ (n : Nat) (l : List D) (k : Int) (j : Nat), o = .ref n ∧ i = .int k ∧ N[n]? = some (.lst l) ∧ ixN l.length k = some j ∧
    ∀ (N' : NH), N'[n]? = some (.lst (l.set j v)) → (∀ (m : Nat) (o : O), m ≠ n → N[m]? = some o → N'[m]? = some o) → (∀ (m : Nat), N'[m]? = none ↔ N[m]? = none) → e.nx σ N') (fun x N => e.ex x σ N)) (fun x N => e.ex x σ N)) (fun x N => e.ex x σ N)) : wpS (sPut a b c σ N) e :=
  wp_put (h.mono (fun v N h => h.mono (fun o N h => h.mono (fun i N ⟨n, l, k, j, e1, e2, h1, h2, h3⟩ => ⟨N.set n (.lst (l.set j v)), by subst e1 e2; simp [putIx, h1, h2], h3 _ (set_at h1) fr_set (fun m => by simp)⟩) fun _ _ h => h) fun _ _ h => h) fun _ _ h => h)
/-- d[k] = v of a dict -/
theorem wp_putK (h : wpR (c σ N) (fun v N => wpR (a σ N) (fun o N => wpR (b σ N) (fun i N => ∃ (n : Nat) (kvs : List (Key × D)) (k : Key), o = .ref n ∧ keyD i = some k ∧ N[n]? = some (.dK kvs) ∧ kvs.length < sizeLine ∧
    ∀ (N' : NH), N'[n]? = some (.dK (putD kvs k v)) → (∀ (m : Nat) (o : O), m ≠ n → N[m]? = some o → N'[m]? = some o) → (∀ (m : Nat), N'[m]? = none ↔ N[m]? = none) → e.nx σ N') (fun x N => e.ex x σ N)) (fun x N => e.ex x σ N)) (fun x N => e.ex x σ N)) : wpS (sPut a b c σ N) e :=
  wp_put (h.mono (fun v N h => h.mono (fun o N h => h.mono (fun i N ⟨n, kvs, k, e1, e2, h1, h2, h3⟩ => ⟨N.set n (.dK (putD kvs k v)), by subst e1; simp [putIx, h1, h2, e2], h3 _ (set_at h1) fr_set (fun m => by simp)⟩) fun _ _ h => h) fun _ _ h => h) fun _ _ h => h)
theorem wp_appN (h : N[n]? = some (.lst l)) (hl : l.length < sizeLine) (hq : ∀ (N' : NH), N'[n]? = some (.lst (l ++ [y])) → (∀ (m : Nat) (o : O), m ≠ n → N[m]? = some o → N'[m]? = some o) → (∀ (m : Nat), N'[m]? = none ↔ N[m]? = none) → Q .non N') : wpR (fAppend (.ref n) [y] N) Q E :=
  wp_append h hl (hq _ (set_at h) fr_set (fun m => by simp))
theorem wp_pop0 (h : N[n]? = some (.lst (y :: l))) (hq : ∀ (N' : NH), N'[n]? = some (.lst l) → (∀ (m : Nat) (o : O), m ≠ n → N[m]? = some o → N'[m]? = some o) → (∀ (m : Nat), N'[m]? = none ↔ N[m]? = none) → Q y N') : wpR (fPopAt (.ref n) [.int 0] N) Q E := by
  with_unfolding_all
    show wpR (match N[n]? with | some (.lst l) => _ | _ => _) Q E
    rw [h]
    have e : seqIndex? 0 (y :: l).length = some 0 := by unfold seqIndex?; simp
    show wpR (if -(2 ^ 63) ≤ (0 : Int) ∧ (0 : Int) < 2 ^ 63 then (match seqIndex? 0 (y :: l).length with | some k => _ | none => _) else _) Q E
    rw [if_pos (by decide), e]
    exact hq _ (set_at h) fr_set (fun m => by simp)
theorem wp_bmL {f : D → List D → NH → R D} (h : wpR (a σ N) (fun x N => ∃ (n : Nat) (l : List D), x = .ref n ∧ N[n]? = some (.lst l) ∧ wpR (A σ N) (fun l N => wpR (f (.ref n) l N) Q E) E) E) : wpR (nBM "list" f a A σ N) Q E :=
  wp_bm (h.mono (fun x N ⟨n, l, e1, e2, h⟩ => by subst e1; exact ⟨by simp [tyN, e2], h⟩) fun _ _ h => h)
theorem wp_bmS {f : D → List D → NH → R D} (h : wpR (a σ N) (fun x N => ∃ s, x = .str s ∧ wpR (A σ N) (fun l N => wpR (f (.str s) l N) Q E) E) E) : wpR (nBM "str" f a A σ N) Q E :=
  wp_bm (h.mono (fun x N ⟨s, e1, h⟩ => by subst e1; exact ⟨by simp [tyN], h⟩) fun _ _ h => h)
theorem wp_itL {pt : NP} {p : NS} (h : wpR (a σ N) (fun d N => ∃ (n : Nat) (l : List D), d = .ref n ∧ N[n]? = some (.lst l) ∧ wpS (loopN pt p (fun N => decide (N[n]? = some (.lst l))) l σ N) e) (fun x N => e.ex x σ N)) (hl : lockAt a σ N = none) : wpS (sForL a pt p σ N) e :=
  wp_forL hl (wp_for (wp_it (h.mono (fun d N ⟨n, l, e1, e2, h⟩ => ⟨⟨l, fun N => decide (N[n]? = some (.lst l))⟩, by subst e1; unfold itOf; simp [e2], h⟩) fun _ _ h => h)))
end
end NY

set_option Elab.async false
set_option linter.all false
set_option maxRecDepth 100000
set_option maxHeartbeats 4000000
/-! NY16: dicts walked, sorted, sums -/
namespace NY
open PySem PySem.Spec PyProof.Rows L2
section
variable {Q : D → NH → Prop} {E : XP} {σ : NEnv} {N : NH} {e : En} {d x y z : D} {i j : Int} {n k : Nat} {s t : Str} {l l' : List D} {a b c : NE} {A : NA} {T : NT} {me : NE} {pt : NP} {vs : List Nat}
theorem set_set_new {o f q : O} (h : N[n]? = some o) : ((N.set n f) ++ [q]).set n o = N ++ [q] := by
  have hl := (List.getElem?_eq_some_iff.mp h).1
  rw [List.set_append_left _ _ (by simpa using hl), List.set_set]
  congr 1
  obtain ⟨h1, h2⟩ := List.getElem?_eq_some_iff.mp h
  rw [← h2, List.set_getElem_self]
theorem lc_pure {N1 : NH} {ok : NH → Bool} (hok : ok N1 = true) (f : D → Bool) (g : D → D) : ∀ (r : List D) (acc : List D), acc.length + r.length < sizeLine →
    (∀ x ∈ r, ∃ σ1, pt.put x σ N1 = some σ1 ∧ wpR (T σ1 N1) (fun b N' => b = f x ∧ N' = N1) ∧ (f x = true → wpR (me σ1 N1) (fun d N' => d = g x ∧ N' = N1))) → lcLoop pt T me ok σ r acc N1 = .ok (acc ++ (r.filter f).map g) N1
  | [], acc, _, _ => by unfold lcLoop; rw [if_pos hok]; simp
  | x :: r, acc, hl, h => by
    obtain ⟨σ1, h1, h2, h3⟩ := h x List.mem_cons_self
    obtain ⟨b, N2, e1, rfl, rfl⟩ := h2.ex
    rw [List.length_cons] at hl
    unfold lcLoop
    rw [if_pos hok, h1]
    dsimp only
    rw [e1]
    cases hf : f x with
    | false =>
      dsimp only
      rw [lc_pure hok f g r acc (by omega) fun y hy => h y (List.mem_cons_of_mem _ hy), List.filter_cons_of_neg (by rw [hf]; exact Bool.false_ne_true)]
    | true =>
      obtain ⟨d, N3, e2, rfl, rfl⟩ := (h3 hf).ex
      dsimp only
      rw [e2]
      dsimp only
      rw [if_pos (by omega), lc_pure hok f g r (acc ++ [g x]) (by rw [List.length_append, List.length_singleton]; omega) fun y hy => h y (List.mem_cons_of_mem _ hy), List.filter_cons_of_pos (by rw [hf])]
      simp
/-- a comprehension over a dict whose parts only look -/
theorem wp_lcD {kvs : List (Key × D)} (h : N[n]? = some (.dK kvs)) (ha : wpR (a σ N) (fun d N' => d = .ref n ∧ N' = N)) (ha' : wpR (a σ (N.set n (.fK kvs))) (fun d N' => d = .ref n ∧ N' = N.set n (.fK kvs))) (f : D → Bool) (g : D → D) (hl : kvs.length < sizeLine)
    (hb : ∀ N1, N1 = N.set n (.fK kvs) → N1[n]? = some (.fK kvs) → ∀ p ∈ kvs, ∃ σ1, pt.put (dKey p.1) (wipeN σ vs) N1 = some σ1 ∧ wpR (T σ1 N1) (fun b N' => b = f (dKey p.1) ∧ N' = N1) ∧ (f (dKey p.1) = true → wpR (me σ1 N1) (fun d N' => d = g (dKey p.1) ∧ N' = N1)))
    (hq : ∀ (k : Nat) (N' : NH), N[k]? = none → N'[k]? = some (.lst (((kvs.map fun p => dKey p.1).filter f).map g)) → (∀ (m : Nat) (o : O), N[m]? = some o → N'[m]? = some o) → Q (.ref k) N') : wpR (nLcL a pt T me vs σ N) Q E := by
  obtain ⟨d1, N1, e1, hd1, hN1⟩ := ha.ex
  obtain ⟨d2, N2, e2, hd2, hN2⟩ := ha'.ex
  rw [hd1, hN1] at e1
  rw [hd2, hN2] at e2
  have hk : lockAt a σ N = some (n, .dK kvs, .fK kvs) := by
    unfold lockAt
    rw [e1]
    simp [h, lockO]
  have hs : (N.set n (.fK kvs))[n]? = some (.fK kvs) := set_at h
  have hr : nLc (iSeq a) pt T me vs σ (N.set n (.fK kvs)) = .ok (.ref N.length) (N.set n (.fK kvs) ++ [.lst (((kvs.map fun p => dKey p.1).filter f).map g)]) := by
    unfold nLc iSeq
    rw [e2]
    have : itOf (N.set n (.fK kvs)) (.ref n) = some ⟨kvs.map fun p => dKey p.1, fun _ => true⟩ := by unfold itOf; simp [hs]
    show ((match itOf (N.set n (.fK kvs)) (.ref n) with | some t => NY.R.ok t (N.set n (.fK kvs)) | none => .bad).bind _) = _
    rw [this]
    show ((lcLoop pt T me (fun _ => true) (wipeN σ vs) (kvs.map fun p => dKey p.1) [] (N.set n (.fK kvs))).bind _) = _
    rw [lc_pure rfl f g _ [] (by simpa using hl) fun x hx => ?_]
    · simp [R.bind, NH.new]
    · obtain ⟨p, hp, rfl⟩ := List.mem_map.mp hx
      exact hb _ rfl hs p hp
  have hu : nLcL a pt T me vs σ N = .ok (.ref N.length) (N ++ [.lst (((kvs.map fun p => dKey p.1).filter f).map g)]) := by
    unfold nLcL
    rw [hk]
    show unlockR n (.dK kvs) (.fK kvs) (nLc (iSeq a) pt T me vs σ (N.set n (.fK kvs))) = _
    rw [hr]
    show (if (N.set n (.fK kvs) ++ [.lst (((kvs.map fun p => dKey p.1).filter f).map g)])[n]? = some (.fK kvs) then _ else _) = _
    rw [if_pos (new_fr _ _ hs), set_set_new h]
  rw [hu]
  with_unfolding_all exact hq _ _ new_none new_at new_fr
theorem wp_dictN {kvs : List (Key × D)} (h : N[n]? = some (.dK kvs)) (hq : ∀ (k : Nat) (N' : NH), N[k]? = none → N'[k]? = some (.dK kvs) → (∀ (m : Nat) (o : O), N[m]? = some o → N'[m]? = some o) → Q (.ref k) N') : wpR (fDict [.ref n] N) Q E := by
  have e : fDict [.ref n] N = N.new (.dK kvs) := by
    show (match N[n]? with | some (.dK kvs) | some (.fK kvs) => _ | _ => _) = _
    rw [h]
  rw [e]
  with_unfolding_all exact hq _ _ new_none new_at new_fr
theorem wp_sumL {ns : List Int} (h : N[n]? = some (.lst (ns.map .int))) (hq : Q (.int ns.sum) N) : wpR (fSum [.ref n] N) Q E := by
  have e : fSum [.ref n] N = .ok (.int ns.sum) N := by
    show (match (lstN N (.ref n)).bind intsOf with | some ns => _ | none => _) = _
    have : lstN N (.ref n) = some (ns.map .int) := by simp [lstN, h]
    rw [this, Option.bind_some, intsOf_map]
  rw [e]
  with_unfolding_all exact hq
theorem wp_sortS {xs : List Str} (h : N[n]? = some (.lst (xs.map .str))) (hl : xs.length < 64) (hq : ∀ (k : Nat) (N' : NH), N[k]? = none → N'[k]? = some (.lst ((srtS xs).map .str)) → (∀ (m : Nat) (o : O), N[m]? = some o → N'[m]? = some o) → Q (.ref k) N') : wpR (fSorted [.ref n] N) Q E := by
  have e : fSorted [.ref n] N = N.new (.lst ((srtS xs).map .str)) := by
    have h0 : lstN N (.ref n) = some (xs.map .str) := by simp [lstN, h]
    cases xs with
    | nil =>
      unfold fSorted
      simp only [h0, Option.bind_some]
      simp [intsOf, srtI, srtS]
    | cons x r =>
      have h1 : intsOf ((x :: r).map D.str) = none := rfl
      unfold fSorted
      simp only [h0, Option.bind_some, h1, strsOf_map]
      rw [if_pos hl]
  rw [e]
  with_unfolding_all exact hq _ _ new_none new_at new_fr
theorem wp_eqL {l l' : List D} {m : Nat} (h : N[n]? = some (.lst l)) (h' : N[m]? = some (.lst l')) (ho : okDs l = true) (ho' : okDs l' = true) (hq : Q (.bl (eqDs l l')) N) : wpR (fEq (.ref n) (.ref m) N) Q E := wp_eq (by
  show (match N[n]?, N[m]? with | some (.lst x), some (.lst y) => if okDs x && okDs y then some (eqDs x y) else none | _, _ => none) = _
  rw [h, h']
  simp [ho, ho']) hq
theorem wp_neL {l l' : List D} {m : Nat} (h : N[n]? = some (.lst l)) (h' : N[m]? = some (.lst l')) (ho : okDs l = true) (ho' : okDs l' = true) (hq : Q (.bl (!eqDs l l')) N) : wpR (fNe (.ref n) (.ref m) N) Q E := wp_ne (by
  show (match N[n]?, N[m]? with | some (.lst x), some (.lst y) => if okDs x && okDs y then some (eqDs x y) else none | _, _ => none) = _
  rw [h, h']
  simp [ho, ho']) hq
end
end NY

set_option Elab.async false
set_option linter.all false
set_option maxRecDepth 100000
set_option maxHeartbeats 4000000
namespace K40
open NY PySem PySem.Spec PyProof.Rows L2
abbrev t1__law_mix : NS := (sRet (nOp2 fMod (nCall fInt (nCons (nOp2 fAdd (nOp2 fAdd (nOp2 fMul (nV 2) (nC (.int 40692))) (nOp2 fMul (nV 1) (nC (.int 7919)))) (nC (.int 1))) nNil)) (nC (.int 2147483399))))
def m__law_mix : NF := nFun 3 (sSeq (sAsg (nOp2 fMod (nCall fInt (nCons (nOp2 fAdd (nOp2 fAdd (nOp2 fMul (nV 0) (nC (.int 48271))) (nOp2 fMul (nV 1) (nC (.int 69621)))) (nC (.int 12345))) nNil)) (nC (.int 2147483647))) (pName 2))
    t1__law_mix)
abbrev t1__law_numbers : NS := (sAsg (nOp2 fDiv (nV 6) (nC (.int 1000))) (pName 6))
abbrev i2__law_numbers : NS := (sSeq (sExpr (nBM "list" fAppend (nV 2) (nCons (nOp2 fMod (nCall fInt (nCons (nV 6) nNil)) (nC (.int 1000))) nNil)))
    t1__law_numbers)
abbrev b3__law_numbers : NS := (sIf (nBool (nOp2 fGt (nV 6) (nC (.int 0)))) i2__law_numbers sPass)
abbrev b4__law_numbers : NS := (sExpr (nBM "list" fAppend (nV 2) (nCons (nOp2 fMod (nCall fInt (nCons (nCall m__law_mix (nCons (nV 6) (nCons (nOp2 fAdd (nV 5) (nC (.int 1))) nNil))) nNil)) (nC (.int 1000))) nNil)))
abbrev i5__law_numbers : NS := (sFor (iRng (nCons (nC (.int 60)) nNil)) (pName 5) b3__law_numbers)
abbrev i6__law_numbers : NS := (sFor (iRng (nCons (nC (.int 6)) nNil)) (pName 5) b4__law_numbers)
abbrev t7__law_numbers : NS := (sIf (nBool (nOp2 fGe (nV 6) (nOp2 fPow (nC (.int 10)) (nC (.int 18))))) i5__law_numbers i6__law_numbers)
abbrev t8__law_numbers : NS := (sSeq (sAsg (nCall m__law_mix (nCons (nV 3) (nCons (nOp2 fMod (nCall fInt (nCons (nV 6) nNil)) (nC (.int 2147483647))) nNil))) (pName 3))
    t7__law_numbers)
abbrev b9__law_numbers : NS := (sSeq (sAsg (nCall fAbs (nCons (nV 4) nNil)) (pName 6))
    t8__law_numbers)
abbrev t10__law_numbers : NS := (sExpr (nBM "list" fAppend (nV 2) (nCons (nOp2 fMod (nCall fInt (nCons (nV 3) nNil)) (nC (.int 1000))) nNil)))
abbrev i11__law_numbers : NS := (sSeq (sAsg (nCall m__law_mix (nCons (nV 3) (nCons (nOp2 fAdd (nV 5) (nC (.int 3))) nNil))) (pName 3))
    t10__law_numbers)
abbrev b12__law_numbers : NS := (sIf (nBool (nOp2 fLt (nCall fLen (nCons (nV 2) nNil)) (nV 1))) i11__law_numbers sPass)
abbrev t13__law_numbers : NS := (sRet (nCut (nV 2) nNoPart (nPart (nV 1))))
abbrev t14__law_numbers : NS := (sSeq (sFor (iRng (nCons (nV 1) nNil)) (pName 5) b12__law_numbers)
    t13__law_numbers)
abbrev t15__law_numbers : NS := (sSeq (sForL (nCut (nV 0) nNoPart (nPart (nC (.int 63)))) (pName 4) b9__law_numbers)
    t14__law_numbers)
abbrev t16__law_numbers : NS := (sSeq (sAsg (nOp2 fAdd (nCall fLen (nCons (nV 0) nNil)) (nC (.int 1))) (pName 3))
    t15__law_numbers)
def m__law_numbers : NF := nFun 7 (sSeq (sAsg (nLst nNil) (pName 2))
    t16__law_numbers)
def m__law_draws : NF := nFun 2 (sRet (nDisp (nPsCons (nC (.str "at")) (nC (.int 0)) (nPsCons (nC (.str "row")) (nCall m__law_numbers (nCons (nV 0) (nCons (nV 1) nNil))) nPsNil))))
abbrev t1__law_take : NS := (sRet (nOp2 fMod (nCall fInt (nCons (nV 4) nNil)) (nV 1)))
abbrev t2__law_take : NS := (sSeq (sAsg (nOp2 fAdd (nOp2 fGet (nV 2) (nOp2 fMod (nCall fInt (nCons (nV 3) nNil)) (nCall fLen (nCons (nV 2) nNil)))) (nOp2 fDiv (nV 3) (nCall fLen (nCons (nV 2) nNil)))) (pName 4))
    t1__law_take)
abbrev t3__law_take : NS := (sSeq (sPut (nV 0) (nC (.str "at")) (nOp2 fAdd (nV 3) (nC (.int 1))))
    t2__law_take)
abbrev t4__law_take : NS := (sSeq (sAsg (nOp2 fGet (nV 0) (nC (.str "at"))) (pName 3))
    t3__law_take)
def m__law_take : NF := nFun 5 (sSeq (sAsg (nOp2 fGet (nV 0) (nC (.str "row"))) (pName 2))
    t4__law_take)
abbrev e1__law_name : NE := (nOp2 fGet (nV 3) (nCall m__law_take (nCons (nV 0) (nCons (nC (.int 63)) nNil))))
abbrev t2__law_name : NS := (sRet (nOp2 fAdd (nV 4) (nV 6)))
abbrev t3__law_name : NS := (sSeq (sIf (nBool (nOp2 fIn (nOp2 fAdd (nV 4) (nV 6)) (nV 7))) (sRet (nOp2 fAdd (nV 4) (nC (.str "_0")))) sPass)
    t2__law_name)
abbrev t4__law_name : NS := (sSeq (sAsg (nBM "str" fSplit (nC (.str "as fn if in of all and div end let mod rec sig val case else open then")) (nCons (nC (.str " ")) nNil)) (pName 7))
    t3__law_name)
abbrev t5__law_name : NS := (sSeq (sAsg (nBM "str" fJoin (nC (.str "")) (nCons (nLc (iRng (nCons (nV 5) nNil)) (pName 8) nYes e1__law_name [8]) nNil)) (pName 6))
    t4__law_name)
abbrev t6__law_name : NS := (sSeq (sIf (nBool (nOp2 fEq (nCall m__law_take (nCons (nV 0) (nCons (nC (.int 9)) nNil))) (nC (.int 0)))) (sAsg (nC (.int 15)) (pName 5)) sPass)
    t5__law_name)
abbrev t7__law_name : NS := (sSeq (sAsg (nCall m__law_take (nCons (nV 0) (nCons (nC (.int 4)) nNil))) (pName 5))
    t6__law_name)
abbrev t8__law_name : NS := (sSeq (sIf (nTru (nV 1)) (sAsg (nBM "str" fUpper (nV 4) nNil) (pName 4)) sPass)
    t7__law_name)
abbrev t9__law_name : NS := (sSeq (sAsg (nOp2 fGet (nV 2) (nCall m__law_take (nCons (nV 0) (nCons (nC (.int 26)) nNil)))) (pName 4))
    t8__law_name)
abbrev t10__law_name : NS := (sSeq (sAsg (nOp2 fAdd (nV 2) (nC (.str "ABCDEFGHIJKLMNOPQRSTUVWXYZ0123456789_"))) (pName 3))
    t9__law_name)
def m__law_name : NF := nFun 9 (sSeq (sAsg (nC (.str "abcdefghijklmnopqrstuvwxyz")) (pName 2))
    t10__law_name)
abbrev i1__law_pool : NS := (sAsg (nOp2 fAdd (nOp2 fAdd (nV 6) (nC (.str "_"))) (nCall fStr (nCons (nV 7) nNil))) (pName 5))
abbrev b2__law_pool : NS := (sIf (nBool (nOp2 fIn (nV 5) (nV 3))) i1__law_pool sPass)
abbrev t3__law_pool : NS := (sExpr (nBM "list" fAppend (nV 3) (nCons (nV 5) nNil)))
abbrev t4__law_pool : NS := (sSeq (sFor (iRng (nCons (nOp2 fAdd (nV 2) (nC (.int 1))) nNil)) (pName 7) b2__law_pool)
    t3__law_pool)
abbrev t5__law_pool : NS := (sSeq (sAsg (nCut (nV 5) nNoPart (nPart (nC (.int 12)))) (pName 6))
    t4__law_pool)
abbrev b6__law_pool : NS := (sSeq (sAsg (nCall m__law_name (nCons (nV 0) (nCons (nV 1) nNil))) (pName 5))
    t5__law_pool)
abbrev t7__law_pool : NS := (sRet (nV 3))
abbrev t8__law_pool : NS := (sSeq (sFor (iRng (nCons (nV 2) nNil)) (pName 4) b6__law_pool)
    t7__law_pool)
def m__law_pool : NF := nFun 8 (sSeq (sAsg (nLst nNil) (pName 3))
    t8__law_pool)
def m_Accounts_init : NF := nFun 2 (sFldPut [0] 0 (nV 0) (nCall fDict (nCons (nV 1) nNil)))
def m_Accounts_copy : NF := nFun 1 (sRet (nMake 0 m_Accounts_init (nCons (nFld [0] 0 (nV 0)) nNil)))
abbrev i1__law_amount : NS := (sRet (nOp2 fSub (nOp1 fNeg (nC (.int 1))) (nCall m__law_take (nCons (nV 0) (nCons (nC (.int 3)) nNil)))))
abbrev t2__law_amount : NS := (sRet (nCall m__law_take (nCons (nV 0) (nCons (nOp2 fAdd (nV 1) (nC (.int 1))) nNil))))
abbrev t3__law_amount : NS := (sSeq (sIf (nBool (nOp2 fEq (nV 2) (nC (.int 3)))) (sRet (nC (.int 0))) sPass)
    t2__law_amount)
abbrev t4__law_amount : NS := (sSeq (sIf (nBool (nOp2 fEq (nV 2) (nC (.int 2)))) i1__law_amount sPass)
    t3__law_amount)
abbrev t5__law_amount : NS := (sSeq (sIf (nBool (nOp2 fEq (nV 2) (nC (.int 1)))) (sRet (nOp2 fAdd (nV 1) (nC (.int 1)))) sPass)
    t4__law_amount)
abbrev t6__law_amount : NS := (sSeq (sIf (nBool (nOp2 fEq (nV 2) (nC (.int 0)))) (sRet (nV 1)) sPass)
    t5__law_amount)
def m__law_amount : NF := nFun 3 (sSeq (sAsg (nCall m__law_take (nCons (nV 0) (nCons (nC (.int 6)) nNil))) (pName 2))
    t6__law_amount)
def m_Accounts_amount : NF := nFun 2 (sRet (nDGet2 (nFld [0] 0 (nV 0)) (nV 1) (nC (.int 0))))
abbrev t1_Accounts_move : NS := (sRet (nC (.bl true)))
abbrev t2_Accounts_move : NS := (sSeq (sPut (nFld [0] 0 (nV 0)) (nV 2) (nOp2 fAdd (nMeth [(0, m_Accounts_amount)] (nV 0) (nCons (nV 2) nNil)) (nV 3)))
    t1_Accounts_move)
abbrev t3_Accounts_move : NS := (sSeq (sPut (nFld [0] 0 (nV 0)) (nV 1) (nOp2 fSub (nMeth [(0, m_Accounts_amount)] (nV 0) (nCons (nV 1) nNil)) (nV 3)))
    t2_Accounts_move)
def m_Accounts_move : NF := nFun 4 (sSeq (sIf (nOrT (nBool (nOp2 fLt (nV 3) (nC (.int 0)))) (nBool (nOp2 fGt (nV 3) (nMeth [(0, m_Accounts_amount)] (nV 0) (nCons (nV 1) nNil))))) (sRet (nC (.bl false))) sPass)
    t3_Accounts_move)
abbrev e1_Accounts_names : NE := (nV 1)
def m_Accounts_names : NF := nFun 2 (sRet (nCall fSorted (nCons (nLcL (nFld [0] 0 (nV 0)) (pName 1) (nBool (nOp2 fGt (nOp2 fGet (nFld [0] 0 (nV 0)) (nV 1)) (nC (.int 0)))) e1_Accounts_names [1]) nNil)))
abbrev e1_Accounts_total : NE := (nOp2 fGet (nFld [0] 0 (nV 0)) (nV 1))
def m_Accounts_total : NF := nFun 2 (sRet (nCall fSum (nCons (nLcL (nFld [0] 0 (nV 0)) (pName 1) nYes e1_Accounts_total [1]) nNil)))
abbrev t1__law_same : NS := (sIf (nOrT (nNotT (nTru (nIsi .int (nV 4)))) (nOrT (nTru (nIsi .bl (nV 4))) (nBool (nOp2 fNe (nV 4) (nDGet2 (nV 1) (nV 3) (nC (.int 0))))))) (sRet (nC (.bl false))) sPass)
abbrev b2__law_same : NS := (sSeq (sAsg (nMeth [(0, m_Accounts_amount)] (nV 0) (nCons (nV 3) nNil)) (pName 4))
    t1__law_same)
abbrev e3__law_same : NE := (nV 3)
abbrev e4__law_same : NE := (nOp2 fGet (nV 1) (nV 3))
abbrev t5__law_same : NS := (sRet (nOp2 fEq (nMeth [(0, m_Accounts_total)] (nV 0) nNil) (nCall fSum (nCons (nLcL (nV 1) (pName 3) nYes e4__law_same [3]) nNil))))
abbrev t6__law_same : NS := (sSeq (sIf (nBool (nOp2 fNe (nMeth [(0, m_Accounts_names)] (nV 0) nNil) (nCall fSorted (nCons (nLcL (nV 1) (pName 3) (nBool (nOp2 fGt (nOp2 fGet (nV 1) (nV 3)) (nC (.int 0)))) e3__law_same [3]) nNil)))) (sRet (nC (.bl false))) sPass)
    t5__law_same)
def m__law_same : NF := nFun 5 (sSeq (sForL (nV 2) (pName 3) b2__law_same)
    t6__law_same)
abbrev b1_law : NS := (sPut (nV 3) (nV 4) (nOp2 fMul (nCall m__law_take (nCons (nV 1) (nCons (nC (.int 1000)) nNil))) (nOp2 fGet (nLst (nCons (nC (.int 1)) (nCons (nC (.int 1000)) (nCons (nC (.int 1000000000)) nNil)))) (nCall m__law_take (nCons (nV 1) (nCons (nC (.int 3)) nNil))))))
abbrev t2_law : NS := (sPut (nV 5) (nV 11) (nOp2 fAdd (nDGet2 (nV 5) (nV 11) (nC (.int 0))) (nV 12)))
abbrev i3_law : NS := (sSeq (sPut (nV 5) (nV 10) (nOp2 fSub (nDGet2 (nV 5) (nV 10) (nC (.int 0))) (nV 12)))
    t2_law)
abbrev t4_law : NS := (sAsg (nCall fDict (nCons (nV 5) nNil)) (pName 8))
abbrev i5_law : NS := (sSeq (sAsg (nMeth [(0, m_Accounts_copy)] (nV 6) nNil) (pName 7))
    t4_law)
abbrev t6_law : NS := (sIf (nBool (nOp2 fEq (nCall m__law_take (nCons (nV 1) (nCons (nC (.int 5)) nNil))) (nC (.int 0)))) i5_law sPass)
abbrev t7_law : NS := (sSeq (sIf (nOrT (nNotT (nTru (nCall m__law_same (nCons (nV 6) (nCons (nV 5) (nCons (nV 2) nNil)))))) (nNotT (nTru (nCall m__law_same (nCons (nV 7) (nCons (nV 8) (nCons (nV 2) nNil))))))) (sRet (nC (.bl false))) sPass)
    t6_law)
abbrev t8_law : NS := (sSeq (sIf (nTru (nV 13)) i3_law sPass)
    t7_law)
abbrev t9_law : NS := (sSeq (sIf (nOrT (nNotT (nTru (nIsi .bl (nV 14)))) (nBool (nOp2 fNe (nV 14) (nV 13)))) (sRet (nC (.bl false))) sPass)
    t8_law)
abbrev t10_law : NS := (sSeq (sAsg (nMeth [(0, m_Accounts_move)] (nV 6) (nCons (nV 10) (nCons (nV 11) (nCons (nV 12) nNil)))) (pName 14))
    t9_law)
abbrev t11_law : NS := (sSeq (sAsg (nChain fLe fLe (nC (.int 0)) (nV 12) (nDGet2 (nV 5) (nV 10) (nC (.int 0)))) (pName 13))
    t10_law)
abbrev t12_law : NS := (sSeq (sAsg (nCall m__law_amount (nCons (nV 1) (nCons (nDGet2 (nV 5) (nV 10) (nC (.int 0))) nNil))) (pName 12))
    t11_law)
abbrev t13_law : NS := (sSeq (sAsg (nOp2 fGet (nV 2) (nCall m__law_take (nCons (nV 1) (nCons (nC (.int 6)) nNil)))) (pName 11))
    t12_law)
abbrev b14_law : NS := (sSeq (sAsg (nOp2 fGet (nV 2) (nCall m__law_take (nCons (nV 1) (nCons (nC (.int 6)) nNil)))) (pName 10))
    t13_law)
abbrev t15_law : NS := (sRet (nCall m__law_same (nCons (nV 6) (nCons (nV 5) (nCons (nOp2 fAdd (nV 2) (nLst (nCons (nC (.str "zz")) nNil))) nNil)))))
abbrev t16_law : NS := (sSeq (sPut (nV 3) (nC (.str "zz")) (nC (.int 5)))
    t15_law)
abbrev t17_law : NS := (sSeq (sFor (iRng (nCons (nCall m__law_take (nCons (nV 1) (nCons (nC (.int 21)) nNil))) nNil)) (pName 9) b14_law)
    t16_law)
abbrev t18_law : NS := (sSeq (sAsg (nCall fDict (nCons (nV 5) nNil)) (pName 8))
    t17_law)
abbrev t19_law : NS := (sSeq (sAsg (nMeth [(0, m_Accounts_copy)] (nV 6) nNil) (pName 7))
    t18_law)
abbrev t20_law : NS := (sSeq (sAsg (nMake 0 m_Accounts_init (nCons (nV 3) nNil)) (pName 6))
    t19_law)
abbrev t21_law : NS := (sSeq (sAsg (nCall fDict (nCons (nV 3) nNil)) (pName 5))
    t20_law)
abbrev t22_law : NS := (sSeq (sForL (nCut (nV 2) nNoPart (nPart (nCall m__law_take (nCons (nV 1) (nCons (nC (.int 7)) nNil))))) (pName 4) b1_law)
    t21_law)
abbrev t23_law : NS := (sSeq (sAsg nDK (pName 3))
    t22_law)
abbrev t24_law : NS := (sSeq (sAsg (nCall m__law_pool (nCons (nV 1) (nCons (nC (.bl false)) (nCons (nC (.int 6)) nNil)))) (pName 2))
    t23_law)
def m_law : NF := nFun 15 (sSeq (sAsg (nCall m__law_draws (nCons (nV 0) (nCons (nC (.int 160)) nNil))) (pName 1))
    t24_law)
end K40

set_option Elab.async false
set_option linter.all false
set_option maxRecDepth 100000
set_option maxHeartbeats 4000000
namespace K40
open NY PySem PySem.Spec PyProof.Rows L2
local macro_rules | `(tactic| array_get_dec) => `(tactic| first
  | ((with_reducible apply wp_V); rfl) | with_reducible refine wp_C ?_ | with_reducible refine wp_op2 ?_
  | with_reducible refine wp_eqS ?_ | with_reducible refine wp_eqI ?_ | with_reducible refine wp_addI ?_ | ((with_reducible apply wp_getT); rfl) | ((with_reducible apply wp_getL); assumption; rfl)
  | with_reducible refine wp_bool ?_ | with_reducible refine ex_bl ?_ | with_reducible refine ex_tru ?_ | with_reducible refine ex_kdT ?_ | with_reducible refine ex_kdI ?_ | with_reducible refine ex_kdB ?_ | with_reducible refine ex_kdS ?_ | with_reducible refine ex_kd0 ?_ | ((with_reducible apply ex_kdL); assumption) | ((with_reducible apply ex_kdD); assumption) | with_reducible refine ex_int ?_ | with_reducible refine wp_seq ?_ | with_reducible refine wp_cons ?_ | with_reducible refine wp_nil ?_ | with_reducible refine wp_call ?_ | with_reducible refine wp_asg _ ?_ | with_reducible refine wp_ret ?_ | with_reducible refine wp_pass ?_
  | dsimp only [List.set_cons_zero, List.set_cons_succ, setAll]
  | with_reducible refine wp_expr ?_ | with_reducible refine wp_asgT ?_ | with_reducible refine wp_tup ?_ | with_reducible refine wp_fldput ?_ | with_reducible refine wp_putL ?_
  | with_reducible refine wp_subI ?_ | ((with_reducible apply wp_mulR); decide) | ((with_reducible apply wp_mulL); decide) | ((with_reducible apply wp_modI); (first | decide | assumption)) | ((with_reducible apply wp_divL); decide) | ((with_reducible apply wp_divI); (first | decide | assumption)) | with_reducible refine wp_negI ?_ | with_reducible refine wp_ltI ?_ | with_reducible refine wp_leI ?_ | with_reducible refine wp_gtI ?_ | with_reducible refine wp_geI ?_ | with_reducible refine wp_intI ?_ | with_reducible refine wp_abs ?_
  | with_reducible refine wp_neI ?_ | with_reducible refine wp_neS ?_ | with_reducible refine wp_isN0 ?_ | with_reducible refine wp_isNotN0 ?_ | with_reducible refine wp_isNI ?_ | with_reducible refine wp_isNotNI ?_ | with_reducible refine wp_isNS ?_ | with_reducible refine wp_isNotNS ?_ | with_reducible refine wp_isNT ?_ | with_reducible refine wp_isNotNT ?_ | with_reducible refine wp_isNR ?_ | with_reducible refine wp_isNotNR ?_ | with_reducible refine wp_cutT ?_ | with_reducible refine wp_lenT ?_ | ((with_reducible apply wp_getTI); (first | assumption | omega); (first | assumption | omega))
  | ((with_reducible apply wp_catT); exact le_size (by simp only [List.length_append, List.length_cons, List.length_nil, List.length_map]; omega)) | ((with_reducible apply wp_lenL); assumption) | ((with_reducible apply wp_pop0); assumption)
  | with_reducible refine wp_op1 ?_ | with_reducible refine wp_andT ?_ | with_reducible refine wp_orT ?_ | with_reducible refine wp_notT ?_ | with_reducible refine wp_and ?_ | with_reducible refine wp_or ?_ | with_reducible refine wp_not ?_ | with_reducible refine wp_tru ?_ | with_reducible refine wp_chain ?_ | with_reducible refine wp_lstN ?_ | with_reducible refine wp_bmL ?_
  | with_reducible refine wp_psNil ?_ | with_reducible refine wp_psCons ?_ | with_reducible refine wp_dispN ?_ | with_reducible refine wp_noPart ?_ | with_reducible refine wp_part ?_ | with_reducible refine wp_cut ?_ | with_reducible refine wp_isi ?_ | with_reducible refine wp_fld ?_ | with_reducible refine wp_dget2 ?_ | with_reducible refine wp_meth ?_ | with_reducible refine wp_make ?_
  | ((with_reducible apply ex_refL); assumption) | ((with_reducible apply ex_tup); exact rfl) | ((with_reducible apply ex_putL); assumption; rfl) | ((with_reducible apply and_size); (first | decide | (simp only [List.length_cons, List.length_nil]; decide))) | with_reducible refine ex_str ?_ | ((with_reducible apply ex_fld); assumption; (decide); rfl) | fail)
local macro_rules | `(tactic| sizeOf_list_dec) => `(tactic| first | with_reducible refine ifT (by decide +kernel) ?_ | with_reducible refine ifF (by decide +kernel) ?_ | with_reducible refine wp_sif ?_ | array_get_dec | with_reducible refine wp_if ?_ | with_reducible refine ifT (by simp only [List.length_cons, List.length_nil]; decide +kernel) ?_ | with_reducible refine ifF (by simp only [List.length_cons, List.length_nil]; decide +kernel) ?_ | fail)
section
variable {Q : D → NH → Prop} {E : XP} {N : NH} {n k : Nat} {σ : NEnv}
theorem mix_ok {a b : Int} (hQ : ∀ w : Int, 0 ≤ w → Q (.int w) N) : wpR (m__law_mix [.int a, .int b] N) Q E := by
  refine wp_fun2 ?_
  simp only [List.replicate]
  repeat' array_get_dec
  exact hQ _ (Int.emod_nonneg _ (by decide))
/-- a list of small numbers -/
abbrev Small (l : List Int) : Prop := ∀ v ∈ l, 0 ≤ v ∧ v < 1000
theorem rng_get {n : Nat} {i : Nat} {d : D} (h : ((List.range n).map fun (i : Nat) => D.int (i : Int))[i]? = some d) : i < n ∧ d = .int (i : Int) := by
  have hi := (List.getElem?_eq_some_iff.mp h).1
  have hi : i < n := by simpa using hi
  rw [List.getElem?_map, List.getElem?_range hi] at h
  exact ⟨hi, (Option.some.inj h).symm⟩
theorem small_app {l : List Int} (h : Small l) (v : Int) : Small (l ++ [v % 1000]) := fun u hu => by
  rcases List.mem_append.mp hu with q | q
  · exact h u q
  · rw [List.mem_singleton.mp q]; exact ⟨Int.emod_nonneg _ (by decide), Int.emod_lt_of_pos _ (by decide)⟩
theorem scr_seq {d : D} {l : List D} (h : Scr N d l) : seqN N d = some l ∧ lenN N d = some (l.length : Nat) := by
  rcases h with ⟨rfl, rfl⟩ | ⟨rfl, rfl⟩
  · exact ⟨rfl, rfl⟩
  · exact ⟨rfl, rfl⟩
/-- the part of the script that is read -/
theorem cut_scr {d : D} {l : List D} {N0 : NH} (h : Scr N0 d l) (hf : ∀ (m : Nat) (o : O), N0[m]? = some o → N[m]? = some o) {lo hi : Option Int} (hq : ∀ (k : Nat) (N' : NH), N[k]? = none → N'[k]? = some (.lst (NY.cutD l lo hi)) → (∀ (m : Nat) (o : O), N[m]? = some o → N'[m]? = some o) → Q (.ref k) N') : wpR (fCut d lo hi N) Q E := by
  rcases h with ⟨rfl, rfl⟩ | ⟨rfl, rfl⟩
  · with_unfolding_all exact hq _ _ new_none new_at new_fr
  · exact wp_cutL (hf 0 _ rfl) hq
theorem len_scr {d : D} {l : List D} {N0 : NH} (h : Scr N0 d l) (hf : ∀ (m : Nat) (o : O), N0[m]? = some o → N[m]? = some o) : lenN N d = some (l.length : Nat) := by
  rcases h with ⟨rfl, rfl⟩ | ⟨rfl, rfl⟩
  · rfl
  · simp [lenN, hf 0 _ rfl]
theorem cut_ints (l : List Int) (lo hi : Option Int) : ∃ r : List Int, NY.cutD (l.map D.int) lo hi = r.map D.int ∧ r.length ≤ l.length ∧ ∀ v ∈ r, v ∈ l := by
  unfold NY.cutD
  rw [← List.map_drop, ← List.map_take]
  refine ⟨_, rfl, by rw [List.length_take, List.length_drop]; omega, fun v hv => List.mem_of_mem_drop (List.mem_of_mem_take hv)⟩
theorem numbers_ok {d : D} {ns : List Int} (h : Scr N d (ns.map .int)) (hn : ns.length ≤ 63) (hQ : ∀ (r : Nat) (l : List Int) N', N[r]? = none → N'[r]? = some (.lst (l.map .int)) → l.length = 160 → Small l → (∀ (m : Nat) (o : O), N[m]? = some o → N'[m]? = some o) → Q (.ref r) N') : wpR (m__law_numbers [d, .int 160] N) Q E := by
  refine wp_fun2 ?_
  simp only [List.replicate]
  repeat' array_get_dec
  intro f N1 f1 e1 g1
  repeat' array_get_dec
  refine wp_len (len_scr h g1) ?_
  repeat' array_get_dec
  have hfr : ∀ (m : Nat) (o : O), N[m]? = some o → m ≠ f := fun m o e z => by rw [z, f1] at e; cases e
  refine wp_forL (lock_none ?_) (wp_for (wp_it ?_))
  · repeat' array_get_dec
    refine cut_scr h g1 fun k N2 f2 e2 g2 n hn o ho => ?_
    cases hn
    rw [f2] at ho; cases ho
  repeat' array_get_dec
  refine cut_scr h g1 fun k2 N2 f2 e2 g2 => ?_
  have e1' := g2 _ _ e1
  have hk2 : k2 ≠ f := fun z => by rw [z, e1] at f2; cases f2
  have fr2 : ∀ (m : Nat) (o : O), N[m]? = some o → N2[m]? = some o := fun m o e => g2 m o (g1 m o e)
  obtain ⟨cs, hcs, hcl, _⟩ := cut_ints ns none (some 63)
  rw [hcs] at e2
  refine ⟨⟨cs.map .int, fun N => decide (N[k2]? = some (.lst (cs.map .int)))⟩, by unfold itOf; simp [e2], ?_⟩
  refine wp_loop (fun i σ N' => ∃ (fl : List Int) (tot : Int) (s4 s5 s6 : Option D), σ = [some d, some (.int 160), some (.ref f), some (.int tot), s4, s5, s6] ∧ N'[f]? = some (.lst (fl.map .int)) ∧ Small fl ∧ fl.length ≤ 60 * i ∧ i ≤ 63 ∧ N'[k2]? = some (.lst (cs.map .int)) ∧ (∀ (m : Nat) (o : O), N[m]? = some o → N'[m]? = some o))
    ⟨[], _, _, _, _, rfl, e1', (fun _ h => nomatch h), by simp, by omega, e2, fr2⟩ (fun i σ N' ⟨_, _, _, _, _, _, _, _, _, _, e, _⟩ => decide_eq_true e) ?_ ?_
  · rintro i z σ N3 hz ⟨fl, tot, s4, s5, s6, rfl, e3, hs3, hl3, hi, e4, fr3⟩
    obtain ⟨c, hc, rfl⟩ : ∃ c, cs[i]? = some c ∧ z = D.int c := by
      rw [List.getElem?_map] at hz
      obtain ⟨c, h1, h2⟩ := Option.map_eq_some_iff.mp hz
      exact ⟨c, h1, h2.symm⟩
    have hi2 := (List.getElem?_eq_some_iff.mp hc).1
    refine ⟨_, rfl, ?_⟩
    repeat' array_get_dec
    generalize (if c < 0 then -c else c) = nm
    refine mix_ok fun tot h0 => ?_
    repeat' array_get_dec
    refine wp_sif ?_
    repeat' array_get_dec
    refine wp_powI (by decide) ?_
    repeat' array_get_dec
    split
    · refine wp_for (wp_rng1 ?_)
      repeat' array_get_dec
      refine ⟨_, rfl, by decide, by decide, ?_⟩
      refine wp_loop (fun j σ N' => ∃ (fl : List Int) (nm : Int) (s5 : Option D), σ = [some d, some (.int 160), some (.ref f), some (.int tot), some (.int c), s5, some (.int nm)] ∧ N'[f]? = some (.lst (fl.map .int)) ∧ Small fl ∧ fl.length ≤ 60 * i + j ∧ j ≤ 60 ∧ N'[k2]? = some (.lst (cs.map .int)) ∧ (∀ (m : Nat) (o : O), N[m]? = some o → N'[m]? = some o))
        ⟨fl, nm, _, rfl, e3, hs3, by omega, by omega, e4, fr3⟩ (fun _ _ _ _ => rfl) ?_ ?_
      · rintro j z σ N4 hz ⟨fl, nm, s5, rfl, e5, hs5, hl5, hj, e6, fr5⟩
        obtain ⟨hj2, rfl⟩ := rng_get (n := 60) hz
        refine ⟨_, rfl, ?_⟩
        repeat' array_get_dec
        refine wp_sif ?_
        repeat' array_get_dec
        split
        · repeat' array_get_dec
          refine wp_appN e5 (lt_size (by rw [List.length_map]; omega)) fun N5 e7 g7 o7 => ?_
          repeat' array_get_dec
          refine ⟨fl ++ [nm % 1000], _, _, rfl, by rw [e7]; simp, small_app hs5 nm, by rw [List.length_append, List.length_singleton]; omega, by omega, g7 _ _ hk2 e6, fun m o e => g7 _ _ (hfr m o e) (fr5 m o e)⟩
        · repeat' array_get_dec
          exact ⟨fl, nm, _, rfl, e5, hs5, by omega, by omega, e6, fr5⟩
      · rintro σ N4 ⟨fl, nm, s5, rfl, e5, hs5, hl5, hj, e6, fr5⟩
        simp only [List.length_map, List.length_range] at hl5
        exact ⟨fl, tot, _, _, _, rfl, e5, hs5, by simp at hl5; omega, by omega, e6, fr5⟩
    · refine wp_for (wp_rng1 ?_)
      repeat' array_get_dec
      refine ⟨_, rfl, by decide, by decide, ?_⟩
      refine wp_loop (fun j σ N' => ∃ (fl : List Int) (s5 : Option D), σ = [some d, some (.int 160), some (.ref f), some (.int tot), some (.int c), s5, some (.int nm)] ∧ N'[f]? = some (.lst (fl.map .int)) ∧ Small fl ∧ fl.length ≤ 60 * i + j ∧ j ≤ 60 ∧ N'[k2]? = some (.lst (cs.map .int)) ∧ (∀ (m : Nat) (o : O), N[m]? = some o → N'[m]? = some o))
        ⟨fl, _, rfl, e3, hs3, by omega, by omega, e4, fr3⟩ (fun _ _ _ _ => rfl) ?_ ?_
      · rintro j z σ N4 hz ⟨fl, s5, rfl, e5, hs5, hl5, hj, e6, fr5⟩
        obtain ⟨hj2, rfl⟩ := rng_get (n := 6) hz
        refine ⟨_, rfl, ?_⟩
        repeat' array_get_dec
        refine mix_ok fun mx h0 => ?_
        repeat' array_get_dec
        refine wp_appN e5 (lt_size (by rw [List.length_map]; omega)) fun N5 e7 g7 o7 => ?_
        repeat' array_get_dec
        refine ⟨fl ++ [mx % 1000], _, rfl, by rw [e7]; simp, small_app hs5 mx, by rw [List.length_append, List.length_singleton]; omega, by omega, g7 _ _ hk2 e6, fun m o e => g7 _ _ (hfr m o e) (fr5 m o e)⟩
      · rintro σ N4 ⟨fl, s5, rfl, e5, hs5, hl5, hj, e6, fr5⟩
        exact ⟨fl, tot, _, _, _, rfl, e5, hs5, by simp at hl5; omega, by omega, e6, fr5⟩
  · rintro σ N3 ⟨fl, tot, s4, s5, s6, rfl, e3, hs3, hl3, hi, e4, fr3⟩
    repeat' array_get_dec
    refine wp_for (wp_rng1 ?_)
    repeat' array_get_dec
    refine ⟨_, rfl, by decide, by decide, ?_⟩
    refine wp_loop (fun j σ N' => ∃ (fl : List Int) (tot : Int) (s5 : Option D), σ = [some d, some (.int 160), some (.ref f), some (.int tot), s4, s5, s6] ∧ N'[f]? = some (.lst (fl.map .int)) ∧ Small fl ∧ j ≤ fl.length ∧ fl.length ≤ 4000 + j ∧ j ≤ 160 ∧ (∀ (m : Nat) (o : O), N[m]? = some o → N'[m]? = some o))
      ⟨fl, tot, _, rfl, e3, hs3, by omega, by omega, by omega, fr3⟩ (fun _ _ _ _ => rfl) ?_ ?_
    · rintro j z σ N4 hz ⟨fl, tot, s5, rfl, e5, hs5, hl5, hl6, hj, fr5⟩
      obtain ⟨hj2, rfl⟩ := rng_get (n := 160) hz
      refine ⟨_, rfl, ?_⟩
      refine wp_sif ?_
      repeat' array_get_dec
      rw [List.length_map]
      split
      · repeat' array_get_dec
        refine mix_ok fun mx h0 => ?_
        repeat' array_get_dec
        refine wp_appN e5 (lt_size (by rw [List.length_map]; omega)) fun N5 e7 g7 o7 => ?_
        repeat' array_get_dec
        refine ⟨fl ++ [mx % 1000], _, _, rfl, by rw [e7]; simp, small_app hs5 mx, by rw [List.length_append, List.length_singleton]; omega, by rw [List.length_append, List.length_singleton]; omega, by omega, fun m o e => g7 _ _ (hfr m o e) (fr5 m o e)⟩
      · rename_i hc
        have hc : ¬ (fl.length : Int) < 160 := by simpa using hc
        repeat' array_get_dec
        exact ⟨fl, _, _, rfl, e5, hs5, by omega, by omega, by omega, fr5⟩
    · rintro σ N4 ⟨fl, tot, s5, rfl, e5, hs5, hl5, hl6, hj, fr5⟩
      have hl5 : 160 ≤ fl.length := by simpa using hl5
      repeat' array_get_dec
      refine wp_cutL e5 fun r N5 f6 e6 g6 => ?_
      have hcut : NY.cutD (fl.map D.int) none (some 160) = (fl.take 160).map D.int := by
        rw [cut_take (by decide) (by simp; omega), List.map_take]; rfl
      rw [hcut] at e6
      refine hQ r (fl.take 160) N5 ?_ e6 (by rw [List.length_take]; omega) (fun v hv => hs5 v (List.mem_of_mem_take hv)) fun m o e => g6 _ _ (fr5 m o e)
      cases q : N[r]? with
      | none => rfl
      | some o => have := fr5 _ _ q; rw [f6] at this; cases this
end
end K40

set_option Elab.async false
set_option linter.all false
set_option maxRecDepth 100000
set_option maxHeartbeats 4000000
namespace K40
open NY PySem PySem.Spec PyProof.Rows L2
local macro_rules | `(tactic| array_get_dec) => `(tactic| first
  | ((with_reducible apply wp_V); rfl) | with_reducible refine wp_C ?_ | with_reducible refine wp_op2 ?_
  | with_reducible refine wp_eqS ?_ | with_reducible refine wp_eqI ?_ | with_reducible refine wp_addI ?_ | ((with_reducible apply wp_getT); rfl) | ((with_reducible apply wp_getL); assumption; rfl)
  | with_reducible refine wp_bool ?_ | with_reducible refine ex_bl ?_ | with_reducible refine ex_tru ?_ | with_reducible refine ex_kdT ?_ | with_reducible refine ex_kdI ?_ | with_reducible refine ex_kdB ?_ | with_reducible refine ex_kdS ?_ | with_reducible refine ex_kd0 ?_ | ((with_reducible apply ex_kdL); assumption) | ((with_reducible apply ex_kdD); assumption) | with_reducible refine ex_int ?_ | with_reducible refine wp_seq ?_ | with_reducible refine wp_cons ?_ | with_reducible refine wp_nil ?_ | with_reducible refine wp_call ?_ | with_reducible refine wp_asg _ ?_ | with_reducible refine wp_ret ?_ | with_reducible refine wp_pass ?_
  | dsimp only [List.set_cons_zero, List.set_cons_succ, setAll]
  | with_reducible refine wp_expr ?_ | with_reducible refine wp_asgT ?_ | with_reducible refine wp_tup ?_ | with_reducible refine wp_fldput ?_ | with_reducible refine wp_putL ?_
  | with_reducible refine wp_subI ?_ | ((with_reducible apply wp_mulR); decide) | ((with_reducible apply wp_mulL); decide) | ((with_reducible apply wp_modI); (first | decide | assumption)) | ((with_reducible apply wp_divL); decide) | ((with_reducible apply wp_divI); (first | decide | assumption)) | with_reducible refine wp_negI ?_ | with_reducible refine wp_ltI ?_ | with_reducible refine wp_leI ?_ | with_reducible refine wp_gtI ?_ | with_reducible refine wp_geI ?_ | with_reducible refine wp_intI ?_ | with_reducible refine wp_abs ?_
  | with_reducible refine wp_neI ?_ | with_reducible refine wp_neS ?_ | with_reducible refine wp_isN0 ?_ | with_reducible refine wp_isNotN0 ?_ | with_reducible refine wp_isNI ?_ | with_reducible refine wp_isNotNI ?_ | with_reducible refine wp_isNS ?_ | with_reducible refine wp_isNotNS ?_ | with_reducible refine wp_isNT ?_ | with_reducible refine wp_isNotNT ?_ | with_reducible refine wp_isNR ?_ | with_reducible refine wp_isNotNR ?_ | with_reducible refine wp_cutT ?_ | with_reducible refine wp_lenT ?_ | ((with_reducible apply wp_getTI); (first | assumption | omega); (first | assumption | omega))
  | ((with_reducible apply wp_catT); exact le_size (by simp only [List.length_append, List.length_cons, List.length_nil, List.length_map]; omega)) | ((with_reducible apply wp_lenL); assumption) | ((with_reducible apply wp_pop0); assumption)
  | with_reducible refine wp_op1 ?_ | with_reducible refine wp_andT ?_ | with_reducible refine wp_orT ?_ | with_reducible refine wp_notT ?_ | with_reducible refine wp_and ?_ | with_reducible refine wp_or ?_ | with_reducible refine wp_not ?_ | with_reducible refine wp_tru ?_ | with_reducible refine wp_chain ?_ | with_reducible refine wp_lstN ?_ | with_reducible refine wp_bmL ?_
  | with_reducible refine wp_psNil ?_ | with_reducible refine wp_psCons ?_ | with_reducible refine wp_dispN ?_ | with_reducible refine wp_noPart ?_ | with_reducible refine wp_part ?_ | with_reducible refine wp_cut ?_ | with_reducible refine wp_isi ?_ | with_reducible refine wp_fld ?_ | with_reducible refine wp_dget2 ?_ | with_reducible refine wp_meth ?_ | with_reducible refine wp_make ?_
  | ((with_reducible apply ex_refL); assumption) | ((with_reducible apply ex_tup); exact rfl) | ((with_reducible apply ex_putL); assumption; rfl) | ((with_reducible apply and_size); (first | decide | (simp only [List.length_cons, List.length_nil]; decide))) | with_reducible refine ex_str ?_ | ((with_reducible apply ex_fld); assumption; (decide); rfl) | fail)
local macro_rules | `(tactic| sizeOf_list_dec) => `(tactic| first | with_reducible refine ifT (by decide +kernel) ?_ | with_reducible refine ifF (by decide +kernel) ?_ | with_reducible refine wp_sif ?_ | array_get_dec | with_reducible refine wp_if ?_ | with_reducible refine ifT (by simp only [List.length_cons, List.length_nil]; decide +kernel) ?_ | with_reducible refine ifF (by simp only [List.length_cons, List.length_nil]; decide +kernel) ?_ | fail)
section
variable {Q : D → NH → Prop} {E : XP} {N : NH} {n k : Nat} {σ : NEnv}
abbrev kAt : Key := Sum.inr ("at" : Str)
abbrev kRow : Key := Sum.inr ("row" : Str)
abbrev drK (n : Int) (r : Nat) : List (Key × D) := [(kAt, .int n), (kRow, .ref r)]
theorem at_row : ¬ (kAt = kRow) := by decide +kernel
theorem row_at : ¬ (kRow = kAt) := by decide +kernel
theorem dr_row {n : Int} {r : Nat} : valD (drK n r) kRow = some (.ref r) := by
  unfold drK valD
  rw [if_neg at_row]
  unfold valD
  rw [if_pos rfl]
theorem dr_at {n : Int} {r : Nat} : valD (drK n r) kAt = some (.int n) := by
  unfold drK valD
  rw [if_pos rfl]
theorem dr_put {n m : Int} {r : Nat} : putD (drK n r) kAt (.int m) = drK m r := by
  unfold putD
  rw [dr_at, if_pos (by rfl)]
  unfold drK repD
  rw [if_pos rfl]
  unfold repD
  rw [if_neg row_at]
  rfl
theorem dr_merge {n : Int} {r : Nat} : mergeD [] [(kAt, D.int n), (kRow, D.ref r)] = drK n r := by
  have h : valD [(kAt, D.int n)] kRow = none := by
    unfold valD
    rw [if_neg at_row]
    rfl
  unfold mergeD
  simp only [List.foldl]
  have h0 : putD ([] : List (Key × D)) kAt (D.int n) = [(kAt, D.int n)] := rfl
  rw [h0]
  unfold putD
  rw [h]
  rfl
/-- the draws at d: the row r of numbers, the place reached -/
def Dr (N : NH) (d r : Nat) : Prop := d ≠ r ∧ (∃ n : Int, 0 ≤ n ∧ N[d]? = some (.dK (drK n r))) ∧ ∃ l : List Int, N[r]? = some (.lst (l.map .int)) ∧ l.length = 160 ∧ Small l
theorem draws_ok {d : D} {ns : List Int} (h : Scr N d (ns.map .int)) (hn : ns.length ≤ 63) (hQ : ∀ (d r : Nat) N', Dr N' d r → Q (.ref d) N') : wpR (m__law_draws [d, .int 160] N) Q E := by
  refine wp_fun2 ?_
  simp only [List.replicate]
  repeat' array_get_dec
  refine numbers_ok h hn fun r l N1 f1 e1 hl hs g1 => ?_
  repeat' array_get_dec
  refine ⟨_, rfl, _, rfl, by simp, ?_⟩
  intro q N2 f2 e2 g2
  rw [show mergeD [] [((Sum.inr ("at" : Str) : Key), D.int 0), ((Sum.inr ("row" : Str) : Key), D.ref r)] = drK 0 r from dr_merge] at e2
  exact hQ q r N2 ⟨(fun z => by rw [z, e1] at f2; cases f2), ⟨0, by omega, e2⟩, l, g2 _ _ e1, hl, hs⟩
/-- what a draw leaves -/
structure Td (d r : Nat) (N N' : NH) : Prop where
  dr : Dr N' d r
  fr : ∀ (m : Nat) (o : O), m ≠ d → N[m]? = some o → N'[m]? = some o
theorem Td.refl {d r : Nat} (h : Dr N d r) : Td d r N N := ⟨h, fun _ _ _ h => h⟩
theorem Td.trans {d r : Nat} {N N1 N2 : NH} (h : Td d r N N1) (h' : Td d r N1 N2) : Td d r N N2 := ⟨h'.dr, fun m o h1 e => h'.fr m o h1 (h.fr m o h1 e)⟩
theorem Td.new {d r : Nat} {N N1 N2 : NH} (h : Td d r N N1) (hf : ∀ (m : Nat) (o : O), N1[m]? = some o → N2[m]? = some o) : Td d r N N2 := by
  obtain ⟨⟨ne, ⟨n, h0, e1⟩, l, e2, h1, h2⟩, fr⟩ := h
  exact ⟨⟨ne, ⟨n, h0, hf _ _ e1⟩, l, hf _ _ e2, h1, h2⟩, fun m o h1 e => hf _ _ (fr m o h1 e)⟩
theorem Dr.ne {d r : Nat} (h : Dr N d r) {k : Nat} (hk : N[k]? = none) : k ≠ d ∧ k ≠ r := by
  obtain ⟨ne, ⟨n, h0, e1⟩, l, e2, h1, h2⟩ := h
  refine ⟨fun z => ?_, fun z => ?_⟩
  · rw [← z, hk] at e1; cases e1
  · rw [← z, hk] at e2; cases e2
theorem take_ok {d r : Nat} {b : Int} {N0 : NH} (h : Td d r N0 N) (hb : 0 < b) (hQ : ∀ w N', 0 ≤ w → w < b → Td d r N0 N' → Q (.int w) N') : wpR (m__law_take [.ref d, .int b] N) Q E := by
  obtain ⟨ne, ⟨n, h0, e1⟩, l, e2, hl, hs⟩ := h.dr
  refine wp_fun2 ?_
  simp only [List.replicate]
  repeat' array_get_dec
  refine wp_getKS e1 dr_row ?_
  repeat' array_get_dec
  refine wp_getKS e1 dr_at ?_
  refine wp_seq ?_
  refine wp_putK ?_
  repeat' array_get_dec
  refine ⟨d, _, kAt, rfl, rfl, e1, lt_size (by simp), ?_⟩
  intro N1 e3 g3 o3
  rw [dr_put] at e3
  have e4 := g3 _ _ ne.symm e2
  have hlen : ((l.map D.int).length : Int) = 160 := by rw [List.length_map, hl]; rfl
  repeat' array_get_dec
  rw [hlen]
  refine wp_modI (by decide) ?_
  have hm0 := Int.emod_nonneg n (show (160 : Int) ≠ 0 by decide)
  have hm1 := Int.emod_lt_of_pos n (show (0 : Int) < 160 by decide)
  refine wp_getL e4 (atD_int hm0 (by rw [hl]; exact hm1)) ?_
  repeat' array_get_dec
  rw [hlen]
  refine wp_divL (by decide) ?_
  repeat' array_get_dec
  refine hQ _ _ (Int.emod_nonneg _ (by omega)) (Int.emod_lt_of_pos _ hb) ⟨⟨ne, ⟨n + 1, by omega, e3⟩, l, e4, hl, hs⟩, fun m o h1 e => g3 _ _ h1 (h.fr m o h1 e)⟩
end
end K40

set_option Elab.async false
set_option linter.all false
set_option maxRecDepth 100000
set_option maxHeartbeats 4000000
namespace K40
open NY PySem PySem.Spec PyProof.Rows L2
local macro_rules | `(tactic| array_get_dec) => `(tactic| first
  | ((with_reducible apply wp_V); rfl) | with_reducible refine wp_C ?_ | with_reducible refine wp_op2 ?_
  | with_reducible refine wp_eqS ?_ | with_reducible refine wp_eqI ?_ | with_reducible refine wp_addI ?_ | ((with_reducible apply wp_getT); rfl) | ((with_reducible apply wp_getL); assumption; rfl)
  | with_reducible refine wp_bool ?_ | with_reducible refine ex_bl ?_ | with_reducible refine ex_tru ?_ | with_reducible refine ex_kdT ?_ | with_reducible refine ex_kdI ?_ | with_reducible refine ex_kdB ?_ | with_reducible refine ex_kdS ?_ | with_reducible refine ex_kd0 ?_ | ((with_reducible apply ex_kdL); assumption) | ((with_reducible apply ex_kdD); assumption) | with_reducible refine ex_int ?_ | with_reducible refine wp_seq ?_ | with_reducible refine wp_cons ?_ | with_reducible refine wp_nil ?_ | with_reducible refine wp_call ?_ | with_reducible refine wp_asg _ ?_ | with_reducible refine wp_ret ?_ | with_reducible refine wp_pass ?_
  | dsimp only [List.set_cons_zero, List.set_cons_succ, setAll]
  | with_reducible refine wp_expr ?_ | with_reducible refine wp_asgT ?_ | with_reducible refine wp_tup ?_ | with_reducible refine wp_fldput ?_ | with_reducible refine wp_putL ?_
  | with_reducible refine wp_subI ?_ | ((with_reducible apply wp_mulR); decide) | ((with_reducible apply wp_mulL); decide) | ((with_reducible apply wp_modI); (first | decide | assumption)) | ((with_reducible apply wp_divL); decide) | ((with_reducible apply wp_divI); (first | decide | assumption)) | with_reducible refine wp_negI ?_ | with_reducible refine wp_ltI ?_ | with_reducible refine wp_leI ?_ | with_reducible refine wp_gtI ?_ | with_reducible refine wp_geI ?_ | with_reducible refine wp_intI ?_ | with_reducible refine wp_abs ?_
  | with_reducible refine wp_neI ?_ | with_reducible refine wp_neS ?_ | with_reducible refine wp_isN0 ?_ | with_reducible refine wp_isNotN0 ?_ | with_reducible refine wp_isNI ?_ | with_reducible refine wp_isNotNI ?_ | with_reducible refine wp_isNS ?_ | with_reducible refine wp_isNotNS ?_ | with_reducible refine wp_isNT ?_ | with_reducible refine wp_isNotNT ?_ | with_reducible refine wp_isNR ?_ | with_reducible refine wp_isNotNR ?_ | with_reducible refine wp_cutT ?_ | with_reducible refine wp_lenT ?_ | ((with_reducible apply wp_getTI); (first | assumption | omega); (first | assumption | omega))
  | ((with_reducible apply wp_catT); exact le_size (by simp only [List.length_append, List.length_cons, List.length_nil, List.length_map]; omega)) | ((with_reducible apply wp_lenL); assumption) | ((with_reducible apply wp_pop0); assumption)
  | with_reducible refine wp_op1 ?_ | with_reducible refine wp_andT ?_ | with_reducible refine wp_orT ?_ | with_reducible refine wp_notT ?_ | with_reducible refine wp_and ?_ | with_reducible refine wp_or ?_ | with_reducible refine wp_not ?_ | with_reducible refine wp_tru ?_ | with_reducible refine wp_chain ?_ | with_reducible refine wp_lstN ?_ | with_reducible refine wp_bmL ?_
  | with_reducible refine wp_psNil ?_ | with_reducible refine wp_psCons ?_ | with_reducible refine wp_dispN ?_ | with_reducible refine wp_noPart ?_ | with_reducible refine wp_part ?_ | with_reducible refine wp_cut ?_ | with_reducible refine wp_isi ?_ | with_reducible refine wp_fld ?_ | with_reducible refine wp_dget2 ?_ | with_reducible refine wp_meth ?_ | with_reducible refine wp_make ?_
  | ((with_reducible apply ex_refL); assumption) | ((with_reducible apply ex_tup); exact rfl) | ((with_reducible apply ex_putL); assumption; rfl) | ((with_reducible apply and_size); (first | decide | (simp only [List.length_cons, List.length_nil]; decide))) | with_reducible refine ex_str ?_ | ((with_reducible apply ex_fld); assumption; (decide); rfl) | fail)
local macro_rules | `(tactic| sizeOf_list_dec) => `(tactic| first | with_reducible refine ifT (by decide +kernel) ?_ | with_reducible refine ifF (by decide +kernel) ?_ | with_reducible refine wp_sif ?_ | array_get_dec | with_reducible refine wp_if ?_ | with_reducible refine ifT (by simp only [List.length_cons, List.length_nil]; decide +kernel) ?_ | with_reducible refine ifF (by simp only [List.length_cons, List.length_nil]; decide +kernel) ?_ | fail)
section
variable {Q : D → NH → Prop} {E : XP} {N : NH} {n k : Nat} {σ : NEnv}
/-- a text of real signs, not too long -/
def Nm (z : Str) (m : Nat) : Prop := z.length ≤ m ∧ ∀ c ∈ z.cps.toList, c < 0x110000
theorem Nm.mono {z : Str} {i j : Nat} (h : Nm z i) (l : i ≤ j) : Nm z j := ⟨Nat.le_trans h.1 l, h.2⟩
theorem Nm.app {a b : Str} {i j : Nat} (h : Nm a i) (h' : Nm b j) : Nm (a ++ b) (i + j) := by
  have e : (a ++ b).cps.toList = a.cps.toList ++ b.cps.toList := by
    show (a.cps ++ b.cps).toList = _
    simp
  refine ⟨?_, fun c hc => ?_⟩
  · show (a.cps ++ b.cps).size ≤ i + j
    have h1 : a.cps.size ≤ i := h.1
    have h2 : b.cps.size ≤ j := h'.1
    simp; omega
  · rw [e] at hc
    rcases List.mem_append.mp hc with q | q
    · exact h.2 c q
    · exact h'.2 c q
theorem Nm.one {c : Nat} (h : c < 0x110000) : Nm ⟨#[c]⟩ 1 := ⟨Nat.le_refl _, fun d hd => by simp at hd; omega⟩
theorem Nm.cut {a : Str} {i : Nat} (h : Nm a i) (lo hi : Option Int) : Nm (L2.cutS a lo hi) i := by
  unfold L2.cutS
  refine ⟨?_, fun c hc => ?_⟩
  · show (Array.size _) ≤ i
    have : a.cps.size ≤ i := h.1
    simp
    omega
  · have hc : c ∈ (List.take (HT.sIx a.length a.length hi - HT.sIx a.length 0 lo) (List.drop (HT.sIx a.length 0 lo) a.cps.toList)) := by simpa using hc
    exact h.2 c (List.mem_of_mem_drop (List.mem_of_mem_take hc))
theorem Nm.ok {z : Str} {i : Nat} (h : Nm z i) : okD (.str z) = true := by
  unfold okD NY.plain dep
  simp only [Nat.zero_le, decide_true, Bool.and_true]
  rw [← Array.all_toList]
  exact List.all_eq_true.mpr fun c hc => decide_eq_true (h.2 c hc)
theorem oks {i : Nat} : ∀ {l : List Str}, (∀ z ∈ l, Nm z i) → okDs (l.map .str) = true
  | [], _ => rfl
  | z :: r, h => by
    have h1 := (h z List.mem_cons_self).ok
    have h2 := oks (l := r) fun y hy => h y (List.mem_cons_of_mem _ hy)
    unfold okD at h1
    unfold okDs at h2 ⊢
    obtain ⟨a, b⟩ := Bool.and_eq_true_iff.mp h1
    obtain ⟨c, d⟩ := Bool.and_eq_true_iff.mp h2
    rw [List.map_cons]
    unfold NY.plains NY.deps
    rw [a, c]
    have b := of_decide_eq_true b
    have d := of_decide_eq_true d
    simp; omega
theorem Nm.glue : ∀ (l : List Str) (a : Array Nat) (m : Nat), a.size ≤ m → (∀ c ∈ a.toList, c < 0x110000) → (∀ z ∈ l, Nm z 1) → Nm ⟨List.foldl (fun acc p => acc ++ (⟨#[]⟩ : Str).cps ++ p.cps) a l⟩ (m + l.length)
  | [], a, m, h1, h2, _ => ⟨h1, h2⟩
  | z :: r, a, m, h1, h2, h3 => by
    have hz := h3 z List.mem_cons_self
    have := Nm.glue r (a ++ (⟨#[]⟩ : Str).cps ++ z.cps) (m + 1) (by have h4 : z.cps.size ≤ 1 := hz.1; simp; omega) (fun c hc => by
      have hc : c ∈ a.toList ∨ c ∈ z.cps.toList := by simpa using hc
      rcases hc with q | q
      · exact h2 c q
      · exact hz.2 c q) (fun y hy => h3 y (List.mem_cons_of_mem _ hy))
    exact this.mono (by rw [List.length_cons]; omega)
theorem Nm.join {l : List Str} (h : ∀ z ∈ l, Nm z 1) : Nm (Txt.join "" l) (l.length) := by
  have e0 : ("" : Str) = ⟨#[]⟩ := by decide +kernel
  rw [e0]
  show Nm (Builtin.Str.glued ⟨#[]⟩ l) l.length
  unfold Builtin.Str.glued
  cases l with
  | nil => exact ⟨Nat.zero_le _, fun c hc => by simp [Str.empty] at hc⟩
  | cons z r =>
    have hz := h z List.mem_cons_self
    have := Nm.glue r z.cps 1 hz.1 hz.2 fun y hy => h y (List.mem_cons_of_mem _ hy)
    exact this.mono (by rw [List.length_cons]; omega)
theorem strsOf_map' (l : List Str) : strsOf (l.map D.str) = some l := strsOf_map l
theorem wp_join {s : Str} {ys : List Str} (h : N[n]? = some (.lst (ys.map .str))) (hl : (ys.map (·.length)).sum + ys.length * s.length ≤ 16777216) (hq : Q (.str (Txt.join s ys)) N) : wpR (fJoin (.str s) [.ref n] N) Q E := by
  have e : fJoin (.str s) [.ref n] N = .ok (.str (Txt.join s ys)) N := by
    show (match (seqN N (.ref n)).bind strsOf with | some ys => _ | none => _) = _
    have : seqN N (.ref n) = some (ys.map .str) := by simp [seqN, h]
    rw [this, Option.bind_some, strsOf_map]
    exact if_pos hl
  rw [e]
  with_unfolding_all exact hq
theorem wp_split {a b : Str} (h : (b.length == 0) = false ∧ a.length + 2 ≤ sizeLine) (hq : ∀ (k : Nat) (N' : NH), N[k]? = none → N'[k]? = some (.lst ((Txt.split a b).map .str)) → (∀ (m : Nat) (o : O), N[m]? = some o → N'[m]? = some o) → Q (.ref k) N') : wpR (fSplit (.str a) [.str b] N) Q E := by
  have e : fSplit (.str a) [.str b] N = N.new (.lst ((Txt.split a b).map .str)) := if_pos h
  rw [e]
  with_unfolding_all exact hq _ _ new_none new_at new_fr
theorem wp_inL {l : List D} {x : D} (h : N[n]? = some (.lst l)) (hx : okD x = true) (hl : okDs l = true) (hq : Q (.bl (l.any fun z => eqD z x)) N) : wpR (fIn x (.ref n) N) Q E := wp_in (by
  have e : inN N x (.ref n) = (if okD x && okDs l then some (l.any fun z => eqD z x) else none) := by simp [inN, h]
  rw [e, hx, hl]; rfl) hq
theorem pickS {z : Str} {w : Int} (h0 : 0 ≤ w) (h1 : w < z.length) (hz : z.length ≤ sizeLine) : ∃ c, c ∈ z.cps.toList ∧ getIx N (.str z) (.int w) = some (.str ⟨#[c]⟩) := by
  have hl : w.toNat < z.cps.toList.length := by
    have : w < z.cps.size := h1
    simp; omega
  refine ⟨z.cps.toList[w.toNat], List.getElem_mem hl, ?_⟩
  show (if z.length ≤ sizeLine then (L2.atI z.cps.toList w).map fun c => D.str ⟨#[c]⟩ else none) = _
  rw [if_pos hz]
  have : L2.atI z.cps.toList w = some z.cps.toList[w.toNat] := by
    unfold L2.atI ixN
    have h2 : w < z.cps.toList.length := by
      have : w < z.cps.size := h1
      simpa using this
    rw [if_pos h0, if_pos h2]
    simp
  rw [this]; rfl
end
end K40

set_option Elab.async false
set_option linter.all false
set_option maxRecDepth 100000
set_option maxHeartbeats 4000000
namespace K40
open NY PySem PySem.Spec PyProof.Rows L2
local macro_rules | `(tactic| array_get_dec) => `(tactic| first
  | ((with_reducible apply wp_V); rfl) | with_reducible refine wp_C ?_ | with_reducible refine wp_op2 ?_
  | with_reducible refine wp_eqS ?_ | with_reducible refine wp_eqI ?_ | with_reducible refine wp_addI ?_ | ((with_reducible apply wp_getT); rfl) | ((with_reducible apply wp_getL); assumption; rfl)
  | with_reducible refine wp_bool ?_ | with_reducible refine ex_bl ?_ | with_reducible refine ex_tru ?_ | with_reducible refine ex_kdT ?_ | with_reducible refine ex_kdI ?_ | with_reducible refine ex_kdB ?_ | with_reducible refine ex_kdS ?_ | with_reducible refine ex_kd0 ?_ | ((with_reducible apply ex_kdL); assumption) | ((with_reducible apply ex_kdD); assumption) | with_reducible refine ex_int ?_ | with_reducible refine wp_seq ?_ | with_reducible refine wp_cons ?_ | with_reducible refine wp_nil ?_ | with_reducible refine wp_call ?_ | with_reducible refine wp_asg _ ?_ | with_reducible refine wp_ret ?_ | with_reducible refine wp_pass ?_
  | dsimp only [List.set_cons_zero, List.set_cons_succ, setAll]
  | with_reducible refine wp_expr ?_ | with_reducible refine wp_asgT ?_ | with_reducible refine wp_tup ?_ | with_reducible refine wp_fldput ?_ | with_reducible refine wp_putL ?_
  | with_reducible refine wp_subI ?_ | ((with_reducible apply wp_mulR); decide) | ((with_reducible apply wp_mulL); decide) | ((with_reducible apply wp_modI); (first | decide | assumption)) | ((with_reducible apply wp_divL); decide) | ((with_reducible apply wp_divI); (first | decide | assumption)) | with_reducible refine wp_negI ?_ | with_reducible refine wp_ltI ?_ | with_reducible refine wp_leI ?_ | with_reducible refine wp_gtI ?_ | with_reducible refine wp_geI ?_ | with_reducible refine wp_intI ?_ | with_reducible refine wp_abs ?_
  | with_reducible refine wp_neI ?_ | with_reducible refine wp_neS ?_ | with_reducible refine wp_isN0 ?_ | with_reducible refine wp_isNotN0 ?_ | with_reducible refine wp_isNI ?_ | with_reducible refine wp_isNotNI ?_ | with_reducible refine wp_isNS ?_ | with_reducible refine wp_isNotNS ?_ | with_reducible refine wp_isNT ?_ | with_reducible refine wp_isNotNT ?_ | with_reducible refine wp_isNR ?_ | with_reducible refine wp_isNotNR ?_ | with_reducible refine wp_cutT ?_ | with_reducible refine wp_lenT ?_ | ((with_reducible apply wp_getTI); (first | assumption | omega); (first | assumption | omega))
  | ((with_reducible apply wp_catT); exact le_size (by simp only [List.length_append, List.length_cons, List.length_nil, List.length_map]; omega)) | ((with_reducible apply wp_lenL); assumption) | ((with_reducible apply wp_pop0); assumption)
  | with_reducible refine wp_op1 ?_ | with_reducible refine wp_andT ?_ | with_reducible refine wp_orT ?_ | with_reducible refine wp_notT ?_ | with_reducible refine wp_and ?_ | with_reducible refine wp_or ?_ | with_reducible refine wp_not ?_ | with_reducible refine wp_tru ?_ | with_reducible refine wp_chain ?_ | with_reducible refine wp_lstN ?_ | with_reducible refine wp_bmL ?_
  | with_reducible refine wp_psNil ?_ | with_reducible refine wp_psCons ?_ | with_reducible refine wp_dispN ?_ | with_reducible refine wp_noPart ?_ | with_reducible refine wp_part ?_ | with_reducible refine wp_cut ?_ | with_reducible refine wp_isi ?_ | with_reducible refine wp_fld ?_ | with_reducible refine wp_dget2 ?_ | with_reducible refine wp_meth ?_ | with_reducible refine wp_make ?_
  | ((with_reducible apply ex_refL); assumption) | ((with_reducible apply ex_tup); exact rfl) | ((with_reducible apply ex_putL); assumption; rfl) | ((with_reducible apply and_size); (first | decide | (simp only [List.length_cons, List.length_nil]; decide))) | with_reducible refine ex_str ?_ | ((with_reducible apply ex_fld); assumption; (decide); rfl) | fail)
local macro_rules | `(tactic| sizeOf_list_dec) => `(tactic| first | with_reducible refine ifT (by decide +kernel) ?_ | with_reducible refine ifF (by decide +kernel) ?_ | with_reducible refine wp_sif ?_ | array_get_dec | with_reducible refine wp_if ?_ | with_reducible refine ifT (by simp only [List.length_cons, List.length_nil]; decide +kernel) ?_ | with_reducible refine ifF (by simp only [List.length_cons, List.length_nil]; decide +kernel) ?_ | fail)
section
variable {Q : D → NH → Prop} {E : XP} {N : NH} {n k : Nat} {σ : NEnv}
theorem wp_yes {Q : Bool → NH → Prop} (h : Q true N) : wpR (nYes σ N) Q E := by with_unfolding_all exact h
abbrev letters : Str := "abcdefghijklmnopqrstuvwxyz"
abbrev signs : Str := letters ++ ("ABCDEFGHIJKLMNOPQRSTUVWXYZ0123456789_" : Str)
abbrev wordsS : Str := "as fn if in of all and div end let mod rec sig val case else open then"
theorem letters_ok : (∀ c ∈ letters.cps.toList, c < 0x110000) ∧ letters.length = 26 := by decide +kernel
theorem signs_ok : (∀ c ∈ signs.cps.toList, c < 0x110000) ∧ signs.length = 63 := by decide +kernel
theorem words_ok : okDs ((Txt.split wordsS " ").map .str) = true := by decide +kernel
theorem us_ok : Nm "_0" 2 := by unfold Nm; decide +kernel
theorem u_ok : Nm "_" 1 := by unfold Nm; decide +kernel
theorem name_ok {d r : Nat} {N0 : NH} (h : Td d r N0 N) (hQ : ∀ z N', Nm z 40 → Td d r N0 N' → Q (.str z) N') : wpR (m__law_name [.ref d, .bl false] N) Q E := by
  refine wp_fun2 ?_
  simp only [List.replicate]
  repeat' sizeOf_list_dec
  refine wp_addS (le_size (by decide +kernel)) ?_
  repeat' sizeOf_list_dec
  refine take_ok h (by decide) fun w N1 w0 w1 a1 => ?_
  obtain ⟨c, hc, hg⟩ := pickS (N := N1) (z := letters) w0 (by rw [letters_ok.2]; exact w1) (le_size (by rw [letters_ok.2]; decide))
  refine wp_get hg ?_
  have hfst : Nm ⟨#[c]⟩ 1 := Nm.one (letters_ok.1 c hc)
  generalize (⟨#[c]⟩ : Str) = fst at hfst
  repeat' sizeOf_list_dec
  refine take_ok a1 (by decide) fun sz N2 s0 s1 a2 => ?_
  repeat' array_get_dec
  refine wp_mid (fun σ N' => Td d r N0 N' ∧ ∃ sz : Int, 0 ≤ sz ∧ sz ≤ 15 ∧ σ = [some (.ref d), some (.bl false), some (.str letters), some (.str signs), some (.str fst), some (.int sz), none, none, none]) ?_ ?_
  · repeat' sizeOf_list_dec
    refine take_ok a2 (by decide) fun w N3 w0 w1 a3 => ?_
    repeat' sizeOf_list_dec
    split
    · repeat' sizeOf_list_dec
      exact ⟨a3, 15, by decide, by decide, rfl⟩
    · repeat' sizeOf_list_dec
      exact ⟨a3, sz, s0, by omega, rfl⟩
  · rintro σ N3 ⟨a3, sz, s0, s1, rfl⟩
    repeat' array_get_dec
    refine wp_bmS ?_
    repeat' array_get_dec
    refine wp_lcN (wp_rng1 ?_)
    repeat' array_get_dec
    refine ⟨_, rfl, by omega, by omega, ?_⟩
    refine wp_lcLoop (fun i acc N' => Td d r N0 N' ∧ ∃ ys : List Str, acc = ys.map .str ∧ ys.length ≤ i ∧ i ≤ 15 ∧ ∀ z ∈ ys, Nm z 1) ⟨a3, [], rfl, by simp, by omega, (fun _ h => nomatch h)⟩ ?_ ?_ ?_
    · rintro i acc N' ⟨ha, ys, rfl, h1, h2, h3⟩
      exact ⟨rfl, lt_size (by rw [List.length_map]; omega)⟩
    · rintro i z acc N' hz ⟨ha, ys, rfl, h1, h2, h3⟩
      obtain ⟨hi, rfl⟩ := rng_get hz
      refine ⟨_, rfl, wp_yes (ifT rfl ?_)⟩
      simp only [wipeN]
      repeat' array_get_dec
      refine take_ok ha (by decide) fun w N4 w0 w1 a4 => ?_
      obtain ⟨c, hc, hg⟩ := pickS (N := N4) (z := signs) w0 (by rw [signs_ok.2]; exact w1) (le_size (by rw [signs_ok.2]; decide))
      refine wp_get hg ?_
      refine ⟨a4, ys ++ [⟨#[c]⟩], by simp, by rw [List.length_append, List.length_singleton]; omega, by omega, fun z hz => ?_⟩
      rcases List.mem_append.mp hz with q | q
      · exact h3 z q
      · rw [List.mem_singleton.mp q]; exact Nm.one (signs_ok.1 c hc)
    · rintro acc N4 ⟨ha, ys, rfl, h1, h2, h3⟩ k5 N5 f5 e5 g5
      have a5 := Td.new ha g5
      have hjn := Nm.join h3
      repeat' array_get_dec
      have hl0 : ("" : Str).length = 0 := by decide +kernel
      have hsum : ∀ (l : List Str), (∀ z ∈ l, Nm z 1) → (l.map (·.length)).sum ≤ l.length := by
        intro l
        induction l with
        | nil => intro _; simp
        | cons z r ih =>
          intro hh
          have h4 := (hh z List.mem_cons_self).1
          have h5 := ih fun y hy => hh y (List.mem_cons_of_mem _ hy)
          simp only [List.map_cons, List.sum_cons, List.length_cons]
          omega
      have hs := hsum ys h3
      refine wp_join e5 (by rw [hl0]; omega) ?_
      have hjl : ys.length ≤ 15 := by simp at h1; omega
      generalize Txt.join "" ys = rest at hjn
      repeat' array_get_dec
      refine wp_bmS ?_
      repeat' array_get_dec
      refine wp_split (by decide +kernel) fun k6 N6 f6 e6 g6 => ?_
      have a6 := Td.new a5 g6
      repeat' array_get_dec
      refine wp_sif ?_
      have hcat : Nm (fst ++ rest) 20 := (hfst.app hjn).mono (by omega)
      have hz1 := hfst.1
      have hz2 := hjn.1
      repeat' array_get_dec
      refine wp_addS (le_size (by omega)) ?_
      repeat' array_get_dec
      refine wp_inL e6 hcat.ok words_ok ?_
      repeat' array_get_dec
      split
      · repeat' array_get_dec
        refine wp_addS (le_size (by have := us_ok.1; omega)) ?_
        exact hQ _ _ ((hfst.app us_ok).mono (by omega)) a6
      · repeat' array_get_dec
        refine wp_addS (le_size (by omega)) ?_
        exact hQ _ _ (hcat.mono (by omega)) a6
end
end K40

set_option Elab.async false
set_option linter.all false
set_option maxRecDepth 100000
set_option maxHeartbeats 4000000
namespace K40
open NY PySem PySem.Spec PyProof.Rows L2
local macro_rules | `(tactic| array_get_dec) => `(tactic| first
  | ((with_reducible apply wp_V); rfl) | with_reducible refine wp_C ?_ | with_reducible refine wp_op2 ?_
  | with_reducible refine wp_eqS ?_ | with_reducible refine wp_eqI ?_ | with_reducible refine wp_addI ?_ | ((with_reducible apply wp_getT); rfl) | ((with_reducible apply wp_getL); assumption; rfl)
  | with_reducible refine wp_bool ?_ | with_reducible refine ex_bl ?_ | with_reducible refine ex_tru ?_ | with_reducible refine ex_kdT ?_ | with_reducible refine ex_kdI ?_ | with_reducible refine ex_kdB ?_ | with_reducible refine ex_kdS ?_ | with_reducible refine ex_kd0 ?_ | ((with_reducible apply ex_kdL); assumption) | ((with_reducible apply ex_kdD); assumption) | with_reducible refine ex_int ?_ | with_reducible refine wp_seq ?_ | with_reducible refine wp_cons ?_ | with_reducible refine wp_nil ?_ | with_reducible refine wp_call ?_ | with_reducible refine wp_asg _ ?_ | with_reducible refine wp_ret ?_ | with_reducible refine wp_pass ?_
  | dsimp only [List.set_cons_zero, List.set_cons_succ, setAll]
  | with_reducible refine wp_expr ?_ | with_reducible refine wp_asgT ?_ | with_reducible refine wp_tup ?_ | with_reducible refine wp_fldput ?_ | with_reducible refine wp_putL ?_
  | with_reducible refine wp_subI ?_ | ((with_reducible apply wp_mulR); decide) | ((with_reducible apply wp_mulL); decide) | ((with_reducible apply wp_modI); (first | decide | assumption)) | ((with_reducible apply wp_divL); decide) | ((with_reducible apply wp_divI); (first | decide | assumption)) | with_reducible refine wp_negI ?_ | with_reducible refine wp_ltI ?_ | with_reducible refine wp_leI ?_ | with_reducible refine wp_gtI ?_ | with_reducible refine wp_geI ?_ | with_reducible refine wp_intI ?_ | with_reducible refine wp_abs ?_
  | with_reducible refine wp_neI ?_ | with_reducible refine wp_neS ?_ | with_reducible refine wp_isN0 ?_ | with_reducible refine wp_isNotN0 ?_ | with_reducible refine wp_isNI ?_ | with_reducible refine wp_isNotNI ?_ | with_reducible refine wp_isNS ?_ | with_reducible refine wp_isNotNS ?_ | with_reducible refine wp_isNT ?_ | with_reducible refine wp_isNotNT ?_ | with_reducible refine wp_isNR ?_ | with_reducible refine wp_isNotNR ?_ | with_reducible refine wp_cutT ?_ | with_reducible refine wp_lenT ?_ | ((with_reducible apply wp_getTI); (first | assumption | omega); (first | assumption | omega))
  | ((with_reducible apply wp_catT); exact le_size (by simp only [List.length_append, List.length_cons, List.length_nil, List.length_map]; omega)) | ((with_reducible apply wp_lenL); assumption) | ((with_reducible apply wp_pop0); assumption)
  | with_reducible refine wp_op1 ?_ | with_reducible refine wp_andT ?_ | with_reducible refine wp_orT ?_ | with_reducible refine wp_notT ?_ | with_reducible refine wp_and ?_ | with_reducible refine wp_or ?_ | with_reducible refine wp_not ?_ | with_reducible refine wp_tru ?_ | with_reducible refine wp_chain ?_ | with_reducible refine wp_lstN ?_ | with_reducible refine wp_bmL ?_
  | with_reducible refine wp_psNil ?_ | with_reducible refine wp_psCons ?_ | with_reducible refine wp_dispN ?_ | with_reducible refine wp_noPart ?_ | with_reducible refine wp_part ?_ | with_reducible refine wp_cut ?_ | with_reducible refine wp_isi ?_ | with_reducible refine wp_fld ?_ | with_reducible refine wp_dget2 ?_ | with_reducible refine wp_meth ?_ | with_reducible refine wp_make ?_
  | ((with_reducible apply ex_refL); assumption) | ((with_reducible apply ex_tup); exact rfl) | ((with_reducible apply ex_putL); assumption; rfl) | ((with_reducible apply and_size); (first | decide | (simp only [List.length_cons, List.length_nil]; decide))) | with_reducible refine ex_str ?_ | ((with_reducible apply ex_fld); assumption; (decide); rfl) | fail)
local macro_rules | `(tactic| sizeOf_list_dec) => `(tactic| first | with_reducible refine ifT (by decide +kernel) ?_ | with_reducible refine ifF (by decide +kernel) ?_ | with_reducible refine wp_sif ?_ | array_get_dec | with_reducible refine wp_if ?_ | with_reducible refine ifT (by simp only [List.length_cons, List.length_nil]; decide +kernel) ?_ | with_reducible refine ifF (by simp only [List.length_cons, List.length_nil]; decide +kernel) ?_ | fail)
section
variable {Q : D → NH → Prop} {E : XP} {N : NH} {n k : Nat} {σ : NEnv}
theorem wp_cutS {s : Str} {lo hi : Option Int} (hs : s.length ≤ sizeLine) (hq : Q (.str (L2.cutS s lo hi)) N) : wpR (fCut (.str s) lo hi N) Q E := by
  have e : fCut (.str s) lo hi N = .ok (.str (L2.cutS s lo hi)) N := if_pos hs
  rw [e]
  with_unfolding_all exact hq
theorem wp_strI {i : Int} (h : i.natAbs.log2 < 1920) (hq : Q (.str (toString i)) N) : wpR (fStr [.int i] N) Q E := by
  have e : fStr [.int i] N = .ok (.str (toString i)) N := if_pos h
  rw [e]
  with_unfolding_all exact hq
theorem dig_ok {i : Nat} (h : i < 7) : Nm (toString (i : Int)) 2 ∧ ((i : Int).natAbs).log2 < 1920 := by
  match i, h with
  | 0, _ | 1, _ | 2, _ | 3, _ | 4, _ | 5, _ | 6, _ => exact ⟨by unfold Nm; decide +kernel, by decide⟩
theorem pool_ok {d r : Nat} {N0 : NH} (h : Td d r N0 N) (hQ : ∀ (p : Nat) (zs : List Str) N', N[p]? = none → N'[p]? = some (.lst (zs.map .str)) → zs.length = 6 → (∀ z ∈ zs, Nm z 40) → Td d r N0 N' → Q (.ref p) N') : wpR (m__law_pool [.ref d, .bl false, .int 6] N) Q E := by
  refine wp_fun3 ?_
  simp only [List.replicate]
  repeat' array_get_dec
  intro p N1 f1 e1 g1
  have a1 := Td.new h g1
  obtain ⟨n1, n2⟩ := h.dr.ne f1
  repeat' array_get_dec
  refine wp_for (wp_rng1 ?_)
  repeat' array_get_dec
  refine ⟨_, rfl, by decide, by decide, ?_⟩
  refine wp_loop (fun i σ N' => Td d r N0 N' ∧ ∃ (zs : List Str) (s4 s5 s6 s7 : Option D), σ = [some (.ref d), some (.bl false), some (.int 6), some (.ref p), s4, s5, s6, s7] ∧ N'[p]? = some (.lst (zs.map .str)) ∧ zs.length = i ∧ i ≤ 6 ∧ ∀ z ∈ zs, Nm z 40)
    ⟨a1, [], _, _, _, _, rfl, e1, rfl, by omega, (fun _ h => nomatch h)⟩ (fun _ _ _ _ => rfl) ?_ ?_
  · rintro i z σ N2 hz ⟨a2, zs, s4, s5, s6, s7, rfl, e2, hl, hi, hzs⟩
    obtain ⟨hi2, rfl⟩ := rng_get (n := 6) hz
    refine ⟨_, rfl, ?_⟩
    repeat' array_get_dec
    refine name_ok (Td.refl a2.dr) fun nm N3 hnm a3 => ?_
    have e3 := a3.fr _ _ n1 e2
    have a3 := a2.trans a3
    repeat' array_get_dec
    have hnl := hnm.1
    refine wp_cutS (le_size (by omega)) ?_
    repeat' array_get_dec
    have hb : Nm (L2.cutS nm none (some 12)) 12 := by
      refine ⟨?_, (hnm.cut _ _).2⟩
      unfold L2.cutS
      show Array.size _ ≤ 12
      simp [HT.sIx]
      omega
    generalize L2.cutS nm none (some 12) = base at hb
    refine wp_mid (fun σ N' => N' = N3 ∧ ∃ nm s7, Nm nm 40 ∧ σ = [some (.ref d), some (.bl false), some (.int 6), some (.ref p), some (.int (i : Int)), some (.str nm), some (.str base), s7]) ?_ ?_
    · refine wp_for (wp_rng1 ?_)
      repeat' array_get_dec
      refine ⟨_, rfl, by decide, by decide, ?_⟩
      refine wp_loop (fun j σ N' => N' = N3 ∧ ∃ nm s7, Nm nm 40 ∧ σ = [some (.ref d), some (.bl false), some (.int 6), some (.ref p), some (.int (i : Int)), some (.str nm), some (.str base), s7]) ⟨rfl, nm, _, hnm, rfl⟩ (fun _ _ _ _ => rfl) ?_ (fun σ N h => h)
      rintro j z σ N4 hz ⟨rfl, nm, s7, hnm, rfl⟩
      obtain ⟨hj, rfl⟩ := rng_get (n := 7) hz
      refine ⟨_, rfl, ?_⟩
      refine wp_sif ?_
      repeat' array_get_dec
      refine wp_inL e3 hnm.ok (oks hzs) ?_
      repeat' array_get_dec
      obtain ⟨hd1, hd2⟩ := dig_ok hj
      have hb1 := hb.1
      have hd3 := hd1.1
      have hu := u_ok.1
      have hbu := (hb.app u_ok).1
      split
      · repeat' array_get_dec
        refine wp_addS (le_size (by omega)) ?_
        repeat' array_get_dec
        refine wp_strI hd2 ?_
        refine wp_addS (le_size (by omega)) ?_
        repeat' array_get_dec
        exact ⟨rfl, _, _, ((hb.app u_ok).app hd1).mono (by omega), rfl⟩
      · repeat' array_get_dec
        exact ⟨rfl, _, _, hnm, rfl⟩
    · rintro σ N4 ⟨rfl, nm, s7, hnm, rfl⟩
      repeat' array_get_dec
      refine wp_appN e3 (lt_size (by rw [List.length_map]; omega)) fun N5 e5 g5 o5 => ?_
      repeat' array_get_dec
      refine ⟨⟨?_, fun m o h1 e => ?_⟩, zs ++ [nm], _, _, _, _, rfl, by rw [e5]; simp, by rw [List.length_append, List.length_singleton, hl], by omega, fun z hz => ?_⟩
      · obtain ⟨ne, ⟨nn, h0, q1⟩, l, q2, h1, h2⟩ := a3.dr
        exact ⟨ne, ⟨nn, h0, g5 _ _ n1.symm q1⟩, l, g5 _ _ n2.symm q2, h1, h2⟩
      · refine g5 _ _ (fun z => ?_) (a3.fr m o h1 e)
        have := h.fr m o h1 e
        rw [z, f1] at this; cases this
      · rcases List.mem_append.mp hz with q | q
        · exact hzs z q
        · rw [List.mem_singleton.mp q]; exact hnm
  · rintro σ N2 ⟨a2, zs, s4, s5, s6, s7, rfl, e2, hl, hi, hzs⟩
    repeat' array_get_dec
    exact hQ p zs _ f1 e2 (by simpa using hl) hzs a2
end
end K40

set_option Elab.async false
set_option linter.all false
set_option maxRecDepth 100000
set_option maxHeartbeats 4000000
namespace K40
open NY PySem PySem.Spec PyProof.Rows L2
local macro_rules | `(tactic| array_get_dec) => `(tactic| first
  | ((with_reducible apply wp_V); rfl) | with_reducible refine wp_C ?_ | with_reducible refine wp_op2 ?_
  | with_reducible refine wp_eqS ?_ | with_reducible refine wp_eqI ?_ | with_reducible refine wp_addI ?_ | ((with_reducible apply wp_getT); rfl) | ((with_reducible apply wp_getL); assumption; rfl)
  | with_reducible refine wp_bool ?_ | with_reducible refine ex_bl ?_ | with_reducible refine ex_tru ?_ | with_reducible refine ex_kdT ?_ | with_reducible refine ex_kdI ?_ | with_reducible refine ex_kdB ?_ | with_reducible refine ex_kdS ?_ | with_reducible refine ex_kd0 ?_ | ((with_reducible apply ex_kdL); assumption) | ((with_reducible apply ex_kdD); assumption) | with_reducible refine ex_int ?_ | with_reducible refine wp_seq ?_ | with_reducible refine wp_cons ?_ | with_reducible refine wp_nil ?_ | with_reducible refine wp_call ?_ | with_reducible refine wp_asg _ ?_ | with_reducible refine wp_ret ?_ | with_reducible refine wp_pass ?_
  | dsimp only [List.set_cons_zero, List.set_cons_succ, setAll]
  | with_reducible refine wp_expr ?_ | with_reducible refine wp_asgT ?_ | with_reducible refine wp_tup ?_ | with_reducible refine wp_fldput ?_ | with_reducible refine wp_putL ?_
  | with_reducible refine wp_subI ?_ | ((with_reducible apply wp_mulR); decide) | ((with_reducible apply wp_mulL); decide) | ((with_reducible apply wp_modI); (first | decide | assumption)) | ((with_reducible apply wp_divL); decide) | ((with_reducible apply wp_divI); (first | decide | assumption)) | with_reducible refine wp_negI ?_ | with_reducible refine wp_ltI ?_ | with_reducible refine wp_leI ?_ | with_reducible refine wp_gtI ?_ | with_reducible refine wp_geI ?_ | with_reducible refine wp_intI ?_ | with_reducible refine wp_abs ?_
  | with_reducible refine wp_neI ?_ | with_reducible refine wp_neS ?_ | with_reducible refine wp_isN0 ?_ | with_reducible refine wp_isNotN0 ?_ | with_reducible refine wp_isNI ?_ | with_reducible refine wp_isNotNI ?_ | with_reducible refine wp_isNS ?_ | with_reducible refine wp_isNotNS ?_ | with_reducible refine wp_isNT ?_ | with_reducible refine wp_isNotNT ?_ | with_reducible refine wp_isNR ?_ | with_reducible refine wp_isNotNR ?_ | with_reducible refine wp_cutT ?_ | with_reducible refine wp_lenT ?_ | ((with_reducible apply wp_getTI); (first | assumption | omega); (first | assumption | omega))
  | ((with_reducible apply wp_catT); exact le_size (by simp only [List.length_append, List.length_cons, List.length_nil, List.length_map]; omega)) | ((with_reducible apply wp_lenL); assumption) | ((with_reducible apply wp_pop0); assumption)
  | with_reducible refine wp_op1 ?_ | with_reducible refine wp_andT ?_ | with_reducible refine wp_orT ?_ | with_reducible refine wp_notT ?_ | with_reducible refine wp_and ?_ | with_reducible refine wp_or ?_ | with_reducible refine wp_not ?_ | with_reducible refine wp_tru ?_ | with_reducible refine wp_chain ?_ | with_reducible refine wp_lstN ?_ | with_reducible refine wp_bmL ?_
  | with_reducible refine wp_psNil ?_ | with_reducible refine wp_psCons ?_ | with_reducible refine wp_dispN ?_ | with_reducible refine wp_noPart ?_ | with_reducible refine wp_part ?_ | with_reducible refine wp_cut ?_ | with_reducible refine wp_isi ?_ | with_reducible refine wp_fld ?_ | with_reducible refine wp_dget2 ?_ | with_reducible refine wp_meth ?_ | with_reducible refine wp_make ?_
  | ((with_reducible apply ex_refL); assumption) | ((with_reducible apply ex_tup); exact rfl) | ((with_reducible apply ex_putL); assumption; rfl) | ((with_reducible apply and_size); (first | decide | (simp only [List.length_cons, List.length_nil]; decide))) | with_reducible refine ex_str ?_ | ((with_reducible apply ex_fld); assumption; (decide); rfl) | fail)
local macro_rules | `(tactic| sizeOf_list_dec) => `(tactic| first | with_reducible refine ifT (by decide +kernel) ?_ | with_reducible refine ifF (by decide +kernel) ?_ | with_reducible refine wp_sif ?_ | array_get_dec | with_reducible refine wp_if ?_ | with_reducible refine ifT (by simp only [List.length_cons, List.length_nil]; decide +kernel) ?_ | with_reducible refine ifF (by simp only [List.length_cons, List.length_nil]; decide +kernel) ?_ | fail)
section
variable {Q : D → NH → Prop} {E : XP} {N : NH} {n k : Nat} {σ : NEnv}
abbrev Mp := List (Str × Int)
def encM (m : Mp) : List (Key × D) := m.map fun p => (Sum.inr p.1, .int p.2)
def valM (m : Mp) (k : Str) : Option Int := match m with
  | [] => none
  | (j, v) :: r => if j = k then some v else valM r k
def repM (m : Mp) (k : Str) (v : Int) : Mp := match m with
  | [] => []
  | (j, w) :: r => (if j = k then (j, v) else (j, w)) :: repM r k v
def putM (m : Mp) (k : Str) (v : Int) : Mp := if (valM m k).isSome then repM m k v else m ++ [(k, v)]
abbrev amt (m : Mp) (k : Str) : Int := (valM m k).getD 0
theorem val_enc (k : Str) : ∀ m : Mp, valD (encM m) (Sum.inr k : Key) = (valM m k).map .int
  | [] => rfl
  | (j, v) :: r => by
    unfold encM
    rw [List.map_cons]
    unfold valD valM
    by_cases h : j = k
    · subst h; simp
    · have : ¬ ((Sum.inr j : Key) = Sum.inr k) := fun z => h (Sum.inr.inj z)
      rw [if_neg this, if_neg h]
      exact val_enc k r
theorem rep_enc (k : Str) (v : Int) : ∀ m : Mp, repD (encM m) (Sum.inr k : Key) (.int v) = encM (repM m k v)
  | [] => rfl
  | (j, w) :: r => by
    have ih := rep_enc k v r
    unfold encM at ih ⊢
    rw [List.map_cons]
    unfold repD repM
    rw [List.map_cons]
    by_cases h : j = k
    · subst h
      rw [if_pos rfl, if_pos rfl, ih]
    · have : ¬ ((Sum.inr j : Key) = Sum.inr k) := fun z => h (Sum.inr.inj z)
      rw [if_neg this, if_neg h, ih]
theorem put_enc (k : Str) (v : Int) (m : Mp) : putD (encM m) (Sum.inr k : Key) (.int v) = encM (putM m k v) := by
  unfold putD putM
  rw [val_enc]
  cases h : valM m k with
  | none => simp [encM]
  | some w => simpa using rep_enc k v m
/-- amounts from 0 on, names of real signs -/
structure Ok (m : Mp) (c : Nat) : Prop where
  nm : ∀ p ∈ m, Nm p.1 40
  v : ∀ p ∈ m, 0 ≤ p.2
  l : m.length ≤ c
theorem Ok.amt {m : Mp} {c : Nat} (h : Ok m c) (k : Str) : 0 ≤ amt m k := by
  have : ∀ (m : Mp), (∀ p ∈ m, 0 ≤ p.2) → 0 ≤ (valM m k).getD 0 := by
    intro m
    induction m with
    | nil => intro _; exact Int.le_refl _
    | cons p r ih =>
      intro hv
      unfold valM
      split
      · exact hv p List.mem_cons_self
      · exact ih fun q hq => hv q (List.mem_cons_of_mem _ hq)
  exact this m h.v
theorem Ok.put {m : Mp} {c : Nat} (h : Ok m c) {k : Str} {v : Int} (hk : Nm k 40) (hv : 0 ≤ v) : Ok (putM m k v) (c + 1) := by
  have hrep : ∀ m : Mp, (∀ p ∈ repM m k v, p.1 = k ∧ p.2 = v ∨ p ∈ m) ∧ (repM m k v).length = m.length := by
    intro m
    induction m with
    | nil => exact ⟨(fun _ h => nomatch h), rfl⟩
    | cons q r ih =>
      obtain ⟨j, w⟩ := q
      refine ⟨fun p hp => ?_, by unfold repM; rw [List.length_cons, List.length_cons, ih.2]⟩
      unfold repM at hp
      rcases List.mem_cons.mp hp with e | e
      · by_cases hj : j = k
        · rw [if_pos hj] at e; left; rw [e]; exact ⟨hj, rfl⟩
        · rw [if_neg hj] at e; right; rw [e]; exact List.mem_cons_self
      · rcases ih.1 p e with q | q
        · exact .inl q
        · exact .inr (List.mem_cons_of_mem _ q)
  unfold putM
  split
  · obtain ⟨h1, h2⟩ := hrep m
    refine ⟨fun p hp => ?_, fun p hp => ?_, by rw [h2]; have := h.l; omega⟩
    · rcases h1 p hp with ⟨a, _⟩ | a
      · rw [a]; exact hk
      · exact h.nm p a
    · rcases h1 p hp with ⟨_, a⟩ | a
      · rw [a]; exact hv
      · exact h.v p a
  · refine ⟨fun p hp => ?_, fun p hp => ?_, by rw [List.length_append, List.length_singleton]; have := h.l; omega⟩
    · rcases List.mem_append.mp hp with q | q
      · exact h.nm p q
      · rw [List.mem_singleton.mp q]; exact hk
    · rcases List.mem_append.mp hp with q | q
      · exact h.v p q
      · rw [List.mem_singleton.mp q]; exact hv
/-- an Accounts object at a, its dict at h -/
structure Acc (N : NH) (a h : Nat) (m : Mp) : Prop where
  o : N[a]? = some (.ins 0 [(0, .ref h)])
  d : N[h]? = some (.dK (encM m))
theorem dget_ok {a b c : NE} {m : Mp} {h : Nat} {z : Str} (hd : N[h]? = some (.dK (encM m))) (ha : wpR (a σ N) (fun x N' => x = .ref h ∧ N' = N) E) (hb : wpR (b σ N) (fun x N' => x = .str z ∧ N' = N) E) (hc : wpR (c σ N) (fun x N' => x = .int 0 ∧ N' = N) E) (hQ : Q (.int (amt m z)) N) : wpR (nDGet2 a b c σ N) Q E := by
  refine wp_dget2 (ha.mono (fun x N' ⟨e1, e2⟩ => ?_) fun _ _ h => h)
  subst e1; rw [e2]
  refine ⟨h, rfl, by unfold isDic; rw [hd], hb.mono (fun y N' ⟨e1, e2⟩ => ?_) fun _ _ h => h⟩
  subst e1; rw [e2]
  refine hc.mono (fun y N' ⟨e1, e2⟩ => ?_) fun _ _ h => h
  subst e1; rw [e2]
  refine ⟨valD (encM m) (Sum.inr z : Key), by simp [getN, hd, keyD], ?_⟩
  rw [val_enc]
  unfold amt at hQ
  cases hv : valM m z with
  | none => rw [hv] at hQ; exact hQ
  | some w => rw [hv] at hQ; exact hQ
theorem amount_ok {a h : Nat} {m : Mp} {z : Str} (hA : Acc N a h m) (hQ : Q (.int (amt m z)) N) : wpR (m_Accounts_amount [.ref a, .str z] N) Q E := by
  have ho := hA.o
  refine wp_fun2 ?_
  simp only [List.replicate]
  refine wp_ret (dget_ok hA.d ?_ ?_ ?_ hQ)
  · repeat' array_get_dec
    exact ⟨rfl, rfl⟩
  · repeat' array_get_dec
    exact ⟨rfl, rfl⟩
  · repeat' array_get_dec
    exact ⟨rfl, rfl⟩
end
end K40

set_option Elab.async false
set_option linter.all false
set_option maxRecDepth 100000
set_option maxHeartbeats 4000000
namespace K40
open NY PySem PySem.Spec PyProof.Rows L2
local macro_rules | `(tactic| array_get_dec) => `(tactic| first
  | ((with_reducible apply wp_V); rfl) | with_reducible refine wp_C ?_ | with_reducible refine wp_op2 ?_
  | with_reducible refine wp_eqS ?_ | with_reducible refine wp_eqI ?_ | with_reducible refine wp_addI ?_ | ((with_reducible apply wp_getT); rfl) | ((with_reducible apply wp_getL); assumption; rfl)
  | with_reducible refine wp_bool ?_ | with_reducible refine ex_bl ?_ | with_reducible refine ex_tru ?_ | with_reducible refine ex_kdT ?_ | with_reducible refine ex_kdI ?_ | with_reducible refine ex_kdB ?_ | with_reducible refine ex_kdS ?_ | with_reducible refine ex_kd0 ?_ | ((with_reducible apply ex_kdL); assumption) | ((with_reducible apply ex_kdD); assumption) | with_reducible refine ex_int ?_ | with_reducible refine wp_seq ?_ | with_reducible refine wp_cons ?_ | with_reducible refine wp_nil ?_ | with_reducible refine wp_call ?_ | with_reducible refine wp_asg _ ?_ | with_reducible refine wp_ret ?_ | with_reducible refine wp_pass ?_
  | dsimp only [List.set_cons_zero, List.set_cons_succ, setAll]
  | with_reducible refine wp_expr ?_ | with_reducible refine wp_asgT ?_ | with_reducible refine wp_tup ?_ | with_reducible refine wp_fldput ?_
  | with_reducible refine wp_subI ?_ | ((with_reducible apply wp_mulR); decide) | ((with_reducible apply wp_mulL); decide) | ((with_reducible apply wp_modI); (first | decide | assumption)) | ((with_reducible apply wp_divL); decide) | ((with_reducible apply wp_divI); (first | decide | assumption)) | with_reducible refine wp_negI ?_ | with_reducible refine wp_ltI ?_ | with_reducible refine wp_leI ?_ | with_reducible refine wp_gtI ?_ | with_reducible refine wp_geI ?_ | with_reducible refine wp_intI ?_ | with_reducible refine wp_abs ?_
  | with_reducible refine wp_neI ?_ | with_reducible refine wp_neS ?_ | with_reducible refine wp_isN0 ?_ | with_reducible refine wp_isNotN0 ?_ | with_reducible refine wp_isNI ?_ | with_reducible refine wp_isNotNI ?_ | with_reducible refine wp_isNS ?_ | with_reducible refine wp_isNotNS ?_ | with_reducible refine wp_isNT ?_ | with_reducible refine wp_isNotNT ?_ | with_reducible refine wp_isNR ?_ | with_reducible refine wp_isNotNR ?_ | with_reducible refine wp_cutT ?_ | with_reducible refine wp_lenT ?_ | ((with_reducible apply wp_getTI); (first | assumption | omega); (first | assumption | omega))
  | ((with_reducible apply wp_catT); exact le_size (by simp only [List.length_append, List.length_cons, List.length_nil, List.length_map]; omega)) | ((with_reducible apply wp_lenL); assumption) | ((with_reducible apply wp_pop0); assumption)
  | with_reducible refine wp_op1 ?_ | with_reducible refine wp_andT ?_ | with_reducible refine wp_orT ?_ | with_reducible refine wp_notT ?_ | with_reducible refine wp_and ?_ | with_reducible refine wp_or ?_ | with_reducible refine wp_not ?_ | with_reducible refine wp_tru ?_ | with_reducible refine wp_lstN ?_ | with_reducible refine wp_bmL ?_
  | with_reducible refine wp_psNil ?_ | with_reducible refine wp_psCons ?_ | with_reducible refine wp_dispN ?_ | with_reducible refine wp_noPart ?_ | with_reducible refine wp_part ?_ | with_reducible refine wp_cut ?_ | with_reducible refine wp_isi ?_ | with_reducible refine wp_fld ?_ | with_reducible refine wp_meth ?_
  | ((with_reducible apply ex_refL); assumption) | ((with_reducible apply ex_tup); exact rfl) | ((with_reducible apply ex_putL); assumption; rfl) | ((with_reducible apply and_size); (first | decide | (simp only [List.length_cons, List.length_nil]; decide))) | with_reducible refine ex_str ?_ | ((with_reducible apply ex_fld); assumption; (decide); rfl) | fail)
local macro_rules | `(tactic| sizeOf_list_dec) => `(tactic| first | with_reducible refine ifT (by decide +kernel) ?_ | with_reducible refine ifF (by decide +kernel) ?_ | with_reducible refine wp_sif ?_ | array_get_dec | with_reducible refine wp_if ?_ | with_reducible refine ifT (by simp only [List.length_cons, List.length_nil]; decide +kernel) ?_ | with_reducible refine ifF (by simp only [List.length_cons, List.length_nil]; decide +kernel) ?_ | fail)
section
variable {Q : D → NH → Prop} {E : XP} {N : NH} {n k : Nat} {σ : NEnv}
theorem ex_acc {a h : Nat} {m : Mp} (hA : Acc N a h m) {fs : List (Nat × NF)} {F : NF} (hf : fs.find? (fun p => decide (p.1 = 0)) = some (0, F)) {K : Nat → NF → Prop} (hk : K a F) : ∃ n c fl F, D.ref a = .ref n ∧ N[n]? = some (.ins c fl) ∧ fs.find? (fun p => decide (p.1 = c)) = some (c, F) ∧ K n F := ⟨a, 0, _, F, rfl, hA.o, hf, hk⟩
/-- what a write at the held dict leaves -/
structure Wr (h : Nat) (N N' : NH) : Prop where
  fr : ∀ (m : Nat) (o : O), m ≠ h → N[m]? = some o → N'[m]? = some o
theorem move_ok {a h : Nat} {m : Mp} {c : Nat} {s t : Str} {x : Int} (hA : Acc N a h m) (hm : Ok m c) (hc : c ≤ 100) (hs : Nm s 40) (ht : Nm t 40)
    (hQ1 : ¬ (0 ≤ x ∧ x ≤ amt m s) → Q (.bl false) N) (hQ2 : 0 ≤ x → x ≤ amt m s → ∀ N', Acc N' a h (putM (putM m s (amt m s - x)) t (amt (putM m s (amt m s - x)) t + x)) → (∀ (k : Nat) (o : O), k ≠ h → N[k]? = some o → N'[k]? = some o) → Q (.bl true) N') : wpR (m_Accounts_move [.ref a, .str s, .str t, .int x] N) Q E := by
  have ho := hA.o
  have hah : a ≠ h := fun z => by have h1 := hA.o; rw [z, hA.d] at h1; cases h1
  refine wp_fun4 ?_
  simp only [List.replicate]
  refine wp_seq ?_
  refine wp_sif ?_
  refine wp_orT ?_
  repeat' array_get_dec
  by_cases h0 : x < 0
  · refine ifT (by simpa using h0) (ifT rfl ?_)
    repeat' array_get_dec
    exact hQ1 (fun z => by omega)
  · refine ifF (by simpa using h0) ?_
    repeat' array_get_dec
    refine ex_acc hA rfl ?_
    repeat' array_get_dec
    refine amount_ok hA ?_
    repeat' array_get_dec
    by_cases h1 : amt m s < x
    · refine ifT (by simpa using h1) ?_
      repeat' array_get_dec
      exact hQ1 (fun z => by omega)
    · refine ifF (by simpa using h1) ?_
      repeat' array_get_dec
      refine wp_putK ?_
      repeat' array_get_dec
      refine ex_acc hA rfl ?_
      repeat' array_get_dec
      refine amount_ok hA ?_
      repeat' array_get_dec
      refine ⟨h, _, (Sum.inr s : Key), rfl, rfl, hA.d, lt_size (by have := hm.l; unfold encM; rw [List.length_map]; omega), ?_⟩
      intro N1 e1 g1 o1
      rw [put_enc] at e1
      have hA1 : Acc N1 a h (putM m s (amt m s - x)) := ⟨g1 _ _ hah ho, e1⟩
      have hm1 := hm.put (v := amt m s - x) hs (by omega)
      have ho1 := hA1.o
      refine wp_seq (wp_putK ?_)
      repeat' array_get_dec
      refine ex_acc hA1 rfl ?_
      repeat' array_get_dec
      refine amount_ok hA1 ?_
      repeat' array_get_dec
      refine ⟨h, _, (Sum.inr t : Key), rfl, rfl, hA1.d, lt_size (by have := hm1.l; unfold encM; rw [List.length_map]; omega), ?_⟩
      intro N2 e2 g2 o2
      rw [put_enc] at e2
      repeat' array_get_dec
      exact hQ2 (by omega) (by omega) N2 ⟨g2 _ _ hah ho1, e2⟩ fun k o hk e => g2 _ _ hk (g1 _ _ hk e)
/-- the names with something, in the dict's order -/
def posM (m : Mp) : List Str := (m.map (·.1)).filter fun k => decide (0 < amt m k)
def sumM (m : Mp) : Int := ((m.map (·.1)).map fun k => amt m k).sum
theorem keys_enc (m : Mp) : (encM m).map (fun p => dKey p.1) = (m.map (·.1)).map D.str := by
  unfold encM
  rw [List.map_map, List.map_map]
  rfl
theorem val_mem {m : Mp} {p : Str × Int} (hp : p ∈ m) : ∃ w, valM m p.1 = some w ∧ amt m p.1 = w := by
  have : ∀ m : Mp, p ∈ m → ∃ w, valM m p.1 = some w := by
    intro m
    induction m with
    | nil => intro h; cases h
    | cons q r ih =>
      intro h
      unfold valM
      by_cases hq : q.1 = p.1
      · exact ⟨q.2, by rw [if_pos hq]⟩
      · rw [if_neg hq]
        rcases List.mem_cons.mp h with e | e
        · exact absurd (by rw [e]) hq
        · exact ih e
  obtain ⟨w, hw⟩ := this m hp
  exact ⟨w, hw, by unfold amt; rw [hw]; rfl⟩
abbrev fP (m : Mp) : D → Bool := fun d => match d with | .str k => decide (0 < amt m k) | _ => false
abbrev gA (m : Mp) : D → D := fun d => match d with | .str k => .int (amt m k) | _ => .non
theorem fpos (m : Mp) : (((encM m).map fun p => dKey p.1).filter (fP m)).map (fun d => d) = (posM m).map D.str := by
  rw [keys_enc, List.map_id']
  unfold posM
  rw [List.filter_map]
  rfl
theorem fsum (m : Mp) : (((encM m).map fun p => dKey p.1).filter (fun _ => true)).map (gA m) = ((m.map (·.1)).map fun k => amt m k).map D.int := by
  have e : ∀ l : List D, l.filter (fun _ => true) = l := fun l => List.filter_eq_self.mpr (fun _ _ => rfl)
  rw [keys_enc, e]
  generalize m.map (fun x => x.1) = l
  rw [List.map_map, List.map_map]
  rfl
theorem fK_get {N1 : NH} {m : Mp} {h : Nat} (h1 : N1[h]? = some (.fK (encM m))) {p : Key × D} (hp : p ∈ encM m) : ∃ k, dKey p.1 = .str k ∧ getIx N1 (.ref h) (.str k) = some (.int (amt m k)) := by
  unfold encM at hp
  obtain ⟨q, hq, rfl⟩ := List.mem_map.mp hp
  obtain ⟨w, hw, ha⟩ := val_mem hq
  refine ⟨q.1, rfl, ?_⟩
  have := val_enc q.1 m
  rw [hw] at this
  simp only [getIx, getN, h1, keyD]
  rw [ha]
  simp [this]
theorem total_ok {a h : Nat} {m : Mp} (hA : Acc N a h m) (hl : m.length ≤ 1000) (hQ : ∀ N', (∀ (m : Nat) (o : O), N[m]? = some o → N'[m]? = some o) → Q (.int (sumM m)) N') : wpR (m_Accounts_total [.ref a] N) Q E := by
  have ho := hA.o
  have hah : a ≠ h := fun z => by have h1 := hA.o; rw [z, hA.d] at h1; cases h1
  refine wp_fun1 ?_
  simp only [List.replicate]
  refine wp_ret (wp_call (wp_cons ?_))
  refine wp_lcD (f := fun _ => true) (g := gA m) hA.d ?_ ?_ (lt_size (by unfold encM; rw [List.length_map]; omega)) ?_ ?_
  · repeat' array_get_dec
    exact ⟨rfl, rfl⟩
  · have ho1 := fr_set (N := N) (n := h) (o := .fK (encM m)) a _ hah ho
    repeat' array_get_dec
    exact ⟨rfl, rfl⟩
  · rintro N1 hN1 h1 p hp
    obtain ⟨k, hk, hg⟩ := fK_get h1 hp
    have ho1 : N1[a]? = some (.ins 0 [(0, .ref h)]) := by rw [hN1]; exact fr_set a _ hah ho
    rw [hk]
    refine ⟨_, rfl, wp_yes ⟨rfl, rfl⟩, fun _ => ?_⟩
    simp only [wipeN]
    repeat' array_get_dec
    refine wp_get hg ?_
    exact ⟨rfl, rfl⟩
  · intro k N' f1 e1 g1
    rw [fsum] at e1
    refine wp_nil (wp_sumL e1 ?_)
    exact hQ N' g1
theorem names_ok {a h : Nat} {m : Mp} (hA : Acc N a h m) (hl : m.length < 64) (hQ : ∀ k N', N[k]? = none → N'[k]? = some (.lst ((srtS (posM m)).map .str)) → (∀ (m : Nat) (o : O), N[m]? = some o → N'[m]? = some o) → Q (.ref k) N') : wpR (m_Accounts_names [.ref a] N) Q E := by
  have ho := hA.o
  have hah : a ≠ h := fun z => by have h1 := hA.o; rw [z, hA.d] at h1; cases h1
  refine wp_fun1 ?_
  simp only [List.replicate]
  refine wp_ret (wp_call (wp_cons ?_))
  refine wp_lcD (f := fP m) (g := fun d => d) hA.d ?_ ?_ (lt_size (by unfold encM; rw [List.length_map]; omega)) ?_ ?_
  · repeat' array_get_dec
    exact ⟨rfl, rfl⟩
  · have ho1 := fr_set (N := N) (n := h) (o := .fK (encM m)) a _ hah ho
    repeat' array_get_dec
    exact ⟨rfl, rfl⟩
  · rintro N1 hN1 h1 p hp
    obtain ⟨k, hk, hg⟩ := fK_get h1 hp
    have ho1 : N1[a]? = some (.ins 0 [(0, .ref h)]) := by rw [hN1]; exact fr_set a _ hah ho
    rw [hk]
    refine ⟨_, rfl, ?_, fun _ => ?_⟩
    · simp only [wipeN]
      repeat' array_get_dec
      refine wp_get hg ?_
      repeat' array_get_dec
      exact ⟨rfl, rfl⟩
    · simp only [wipeN]
      repeat' array_get_dec
      exact ⟨rfl, rfl⟩
  · intro k N' f1 e1 g1
    rw [fpos] at e1
    refine wp_nil (wp_sortS e1 ?_ fun k2 N2 f2 e2 g2 => ?_)
    · unfold posM
      have := List.length_filter_le (fun k => decide (0 < amt m k)) (m.map (·.1))
      rw [List.length_map] at this
      omega
    · refine hQ k2 N2 ?_ e2 fun m o e => g2 _ _ (g1 _ _ e)
      cases q : N[k2]? with
      | none => rfl
      | some o => rw [g1 _ _ q] at f2; cases f2
end
end K40

set_option Elab.async false
set_option linter.all false
set_option maxRecDepth 100000
set_option maxHeartbeats 4000000
namespace K40
open NY PySem PySem.Spec PyProof.Rows L2
local macro_rules | `(tactic| array_get_dec) => `(tactic| first
  | ((with_reducible apply wp_V); rfl) | with_reducible refine wp_C ?_ | with_reducible refine wp_op2 ?_
  | with_reducible refine wp_eqS ?_ | with_reducible refine wp_eqI ?_ | with_reducible refine wp_addI ?_ | ((with_reducible apply wp_getT); rfl) | ((with_reducible apply wp_getL); assumption; rfl)
  | with_reducible refine wp_bool ?_ | with_reducible refine ex_bl ?_ | with_reducible refine ex_tru ?_ | with_reducible refine ex_kdT ?_ | with_reducible refine ex_kdI ?_ | with_reducible refine ex_kdB ?_ | with_reducible refine ex_kdS ?_ | with_reducible refine ex_kd0 ?_ | ((with_reducible apply ex_kdL); assumption) | ((with_reducible apply ex_kdD); assumption) | with_reducible refine ex_int ?_ | with_reducible refine wp_seq ?_ | with_reducible refine wp_cons ?_ | with_reducible refine wp_nil ?_ | with_reducible refine wp_call ?_ | with_reducible refine wp_asg _ ?_ | with_reducible refine wp_ret ?_ | with_reducible refine wp_pass ?_
  | dsimp only [List.set_cons_zero, List.set_cons_succ, setAll]
  | with_reducible refine wp_expr ?_ | with_reducible refine wp_asgT ?_ | with_reducible refine wp_tup ?_ | with_reducible refine wp_fldput ?_
  | with_reducible refine wp_subI ?_ | ((with_reducible apply wp_mulR); decide) | ((with_reducible apply wp_mulL); decide) | ((with_reducible apply wp_modI); (first | decide | assumption)) | ((with_reducible apply wp_divL); decide) | ((with_reducible apply wp_divI); (first | decide | assumption)) | with_reducible refine wp_negI ?_ | with_reducible refine wp_ltI ?_ | with_reducible refine wp_leI ?_ | with_reducible refine wp_gtI ?_ | with_reducible refine wp_geI ?_ | with_reducible refine wp_intI ?_ | with_reducible refine wp_abs ?_
  | with_reducible refine wp_neI ?_ | with_reducible refine wp_neS ?_ | with_reducible refine wp_isN0 ?_ | with_reducible refine wp_isNotN0 ?_ | with_reducible refine wp_isNI ?_ | with_reducible refine wp_isNotNI ?_ | with_reducible refine wp_isNS ?_ | with_reducible refine wp_isNotNS ?_ | with_reducible refine wp_isNT ?_ | with_reducible refine wp_isNotNT ?_ | with_reducible refine wp_isNR ?_ | with_reducible refine wp_isNotNR ?_ | with_reducible refine wp_cutT ?_ | with_reducible refine wp_lenT ?_ | ((with_reducible apply wp_getTI); (first | assumption | omega); (first | assumption | omega))
  | ((with_reducible apply wp_catT); exact le_size (by simp only [List.length_append, List.length_cons, List.length_nil, List.length_map]; omega)) | ((with_reducible apply wp_lenL); assumption) | ((with_reducible apply wp_pop0); assumption)
  | with_reducible refine wp_op1 ?_ | with_reducible refine wp_andT ?_ | with_reducible refine wp_orT ?_ | with_reducible refine wp_notT ?_ | with_reducible refine wp_and ?_ | with_reducible refine wp_or ?_ | with_reducible refine wp_not ?_ | with_reducible refine wp_tru ?_ | with_reducible refine wp_lstN ?_ | with_reducible refine wp_bmL ?_
  | with_reducible refine wp_psNil ?_ | with_reducible refine wp_psCons ?_ | with_reducible refine wp_dispN ?_ | with_reducible refine wp_noPart ?_ | with_reducible refine wp_part ?_ | with_reducible refine wp_cut ?_ | with_reducible refine wp_isi ?_ | with_reducible refine wp_fld ?_ | with_reducible refine wp_meth ?_
  | ((with_reducible apply ex_refL); assumption) | ((with_reducible apply ex_tup); exact rfl) | ((with_reducible apply ex_putL); assumption; rfl) | ((with_reducible apply and_size); (first | decide | (simp only [List.length_cons, List.length_nil]; decide))) | with_reducible refine ex_str ?_ | ((with_reducible apply ex_fld); assumption; (decide); rfl) | fail)
local macro_rules | `(tactic| sizeOf_list_dec) => `(tactic| first | with_reducible refine ifT (by decide +kernel) ?_ | with_reducible refine ifF (by decide +kernel) ?_ | with_reducible refine wp_sif ?_ | array_get_dec | with_reducible refine wp_if ?_ | with_reducible refine ifT (by simp only [List.length_cons, List.length_nil]; decide +kernel) ?_ | with_reducible refine ifF (by simp only [List.length_cons, List.length_nil]; decide +kernel) ?_ | fail)
section
variable {Q : D → NH → Prop} {E : XP} {N : NH} {n k : Nat} {σ : NEnv}
theorem make_ok {A : NA} {g : Nat} {m : Mp} (hA : ∀ {Q : List D → NH → Prop}, Q [.ref g] N → wpR (A σ N) Q E) (hg : N[g]? = some (.dK (encM m))) (hQ : ∀ a h N', N[a]? = none → N[h]? = none → Acc N' a h m → (∀ (k : Nat) (o : O), N[k]? = some o → N'[k]? = some o) → Q (.ref a) N') : wpR (nMake 0 m_Accounts_init A σ N) Q E := by
  refine wp_make (hA ?_)
  have hg1 : (N ++ [.ins 0 []])[g]? = some (.dK (encM m)) := new_fr _ _ hg
  have ho1 : (N ++ [.ins 0 []])[N.length]? = some (.ins 0 []) := new_at
  have hgn : g ≠ N.length := fun z => by rw [z, new_none] at hg; cases hg
  have fr1 : ∀ (k : Nat) (o : O), N[k]? = some o → (N ++ [.ins 0 []])[k]? = some o := new_fr
  have hnl : ∀ (k : Nat) (o : O), N[k]? = some o → k ≠ N.length := fun k o e z => by rw [z, new_none] at e; cases e
  generalize N ++ [.ins 0 []] = N1 at *
  have hq := hQ N.length
  have h0 : N[N.length]? = none := new_none
  generalize N.length = a at *
  refine wp_fun2 ?_
  simp only [List.replicate]
  refine wp_fldput ?_
  repeat' array_get_dec
  refine wp_dictN hg1 fun h N2 f2 e2 g2 => ?_
  have ho2 := g2 _ _ ho1
  repeat' array_get_dec
  refine ⟨a, 0, [], rfl, ho2, by simp, by simp, ?_⟩
  have hha : h ≠ a := fun z => by rw [z, ho1] at f2; cases f2
  refine ⟨trivial, hq h _ h0 ?_ ⟨set_at ho2, fr_set _ _ hha e2⟩ fun k o e => fr_set _ _ (hnl k o e) (g2 _ _ (fr1 k o e))⟩
  cases q : N[h]? with
  | none => rfl
  | some o => rw [fr1 _ _ q] at f2; cases f2
theorem copy_ok {a h : Nat} {m : Mp} (hA : Acc N a h m) (hQ : ∀ a' h' N', N[a']? = none → N[h']? = none → Acc N' a' h' m → (∀ (k : Nat) (o : O), N[k]? = some o → N'[k]? = some o) → Q (.ref a') N') : wpR (m_Accounts_copy [.ref a] N) Q E := by
  have ho := hA.o
  refine wp_fun1 ?_
  simp only [List.replicate]
  refine wp_ret (make_ok (fun hq => ?_) hA.d hQ)
  repeat' array_get_dec
  exact hq
theorem lamount_ok {d r : Nat} {x : Int} {N0 : NH} (h : Td d r N0 N) (hx : 0 ≤ x) (hQ : ∀ w N', Td d r N0 N' → Q (.int w) N') : wpR (m__law_amount [.ref d, .int x] N) Q E := by
  refine wp_fun2 ?_
  simp only [List.replicate]
  repeat' sizeOf_list_dec
  refine take_ok h (by decide) fun w N1 w0 w1 a1 => ?_
  repeat' sizeOf_list_dec
  split
  · repeat' sizeOf_list_dec
    exact hQ _ _ a1
  · repeat' sizeOf_list_dec
    split
    · repeat' sizeOf_list_dec
      exact hQ _ _ a1
    · repeat' sizeOf_list_dec
      split
      · repeat' sizeOf_list_dec
        refine take_ok a1 (by decide) fun w N2 w0 w1 a2 => ?_
        repeat' sizeOf_list_dec
        exact hQ _ _ a2
      · repeat' sizeOf_list_dec
        split
        · repeat' sizeOf_list_dec
          exact hQ _ _ a1
        · repeat' sizeOf_list_dec
          exact take_ok a1 (by omega) fun w N2 w0 w1 a2 => hQ _ _ a2
theorem eqDs_strs : ∀ l : List Str, eqDs (l.map .str) (l.map .str) = true
  | [] => rfl
  | z :: r => by
    rw [List.map_cons]
    unfold eqDs
    rw [eqDs_strs r]
    unfold eqD
    simp
theorem pos_ok {m : Mp} {c : Nat} (hm : Ok m c) : okDs ((srtS (posM m)).map .str) = true := by
  refine oks (i := 40) fun z hz => ?_
  have h1 : z ∈ posM m := (List.mergeSort_perm (posM m) leS).mem_iff.mp hz
  unfold posM at h1
  obtain ⟨p, hp, rfl⟩ := List.mem_map.mp (List.mem_filter.mp h1).1
  exact hm.nm p hp
theorem lsame_ok {a h b p : Nat} {m : Mp} {zs : List Str} (hA : Acc N a h m) (hb : N[b]? = some (.dK (encM m))) (hp : N[p]? = some (.lst (zs.map .str))) (hz : zs.length ≤ 10) (hm : Ok m 60) (hQ : ∀ N', (∀ (k : Nat) (o : O), N[k]? = some o → N'[k]? = some o) → Q (.bl true) N') : wpR (m__law_same [.ref a, .ref b, .ref p] N) Q E := by
  have ho := hA.o
  refine wp_fun3 ?_
  simp only [List.replicate]
  refine wp_seq (wp_itL ?_ ?_)
  · repeat' array_get_dec
    refine wp_loop (fun i σ N' => N' = N ∧ ∃ s3 s4, σ = [some (.ref a), some (.ref b), some (.ref p), s3, s4]) ⟨rfl, _, _, rfl⟩ (fun i σ N' ⟨e, _⟩ => by rw [e]; exact decide_eq_true hp) ?_ ?_
    · rintro i y σ N1 hy ⟨rfl, s3, s4, rfl⟩
      obtain ⟨z, hz2, rfl⟩ : ∃ z, zs[i]? = some z ∧ y = D.str z := by
        rw [List.getElem?_map] at hy
        obtain ⟨c, h1, h2⟩ := Option.map_eq_some_iff.mp hy
        exact ⟨c, h1, h2.symm⟩
      refine ⟨_, rfl, ?_⟩
      repeat' array_get_dec
      refine ex_acc hA rfl ?_
      repeat' array_get_dec
      refine amount_ok hA ?_
      refine wp_sif ?_
      repeat' sizeOf_list_dec
      refine dget_ok (z := z) hb ?_ ?_ ?_ ?_
      · repeat' array_get_dec
        exact ⟨rfl, rfl⟩
      · repeat' array_get_dec
        exact ⟨rfl, rfl⟩
      · repeat' array_get_dec
        exact ⟨rfl, rfl⟩
      repeat' array_get_dec
      refine ifF (by simp) ?_
      repeat' array_get_dec
      exact ⟨rfl, _, _, rfl⟩
    · rintro σ N1 ⟨rfl, s3, s4, rfl⟩
      refine wp_seq (wp_sif ?_)
      repeat' array_get_dec
      refine ex_acc hA rfl ?_
      repeat' array_get_dec
      refine names_ok hA (by have := hm.l; omega) fun k2 N2 f2 e2 g2 => ?_
      have hb2 := g2 _ _ hb
      repeat' array_get_dec
      refine wp_lcD (f := fP m) (g := fun d => d) hb2 ?_ ?_ (lt_size (by unfold encM; rw [List.length_map]; have := hm.l; omega)) ?_ ?_
      · repeat' array_get_dec
        exact ⟨rfl, rfl⟩
      · repeat' array_get_dec
        exact ⟨rfl, rfl⟩
      · rintro N3 hN3 h1 p hp
        obtain ⟨k, hk, hg⟩ := fK_get h1 hp
        rw [hk]
        refine ⟨_, rfl, ?_, fun _ => ?_⟩
        · simp only [wipeN]
          repeat' array_get_dec
          refine wp_get hg ?_
          repeat' array_get_dec
          exact ⟨rfl, rfl⟩
        · simp only [wipeN]
          repeat' array_get_dec
          exact ⟨rfl, rfl⟩
      intro k3 N3 f3 e3 g3
      rw [fpos] at e3
      have e2' := g3 _ _ e2
      repeat' array_get_dec
      refine wp_sortS e3 ?_ fun k4 N4 f4 e4 g4 => ?_
      · unfold posM
        have := List.length_filter_le (fun k => decide (0 < amt m k)) (m.map (·.1))
        rw [List.length_map] at this
        have := hm.l
        omega
      have e2' := g4 _ _ e2'
      refine wp_neL e2' e4 (pos_ok hm) (pos_ok hm) ?_
      rw [eqDs_strs]
      repeat' sizeOf_list_dec
      have fr4 : ∀ (k : Nat) (o : O), N1[k]? = some o → N4[k]? = some o := fun k o e => g4 _ _ (g3 _ _ (g2 _ _ e))
      have hA4 : Acc N4 a h m := ⟨fr4 _ _ hA.o, fr4 _ _ hA.d⟩
      have hb4 := fr4 _ _ hb
      have ho4 := hA4.o
      refine ex_acc hA4 rfl ?_
      repeat' array_get_dec
      refine total_ok hA4 (by have := hm.l; omega) fun N5 g5 => ?_
      have hb5 := g5 _ _ hb4
      repeat' array_get_dec
      refine wp_lcD (f := fun _ => true) (g := gA m) hb5 ?_ ?_ (lt_size (by unfold encM; rw [List.length_map]; have := hm.l; omega)) ?_ ?_
      · repeat' array_get_dec
        exact ⟨rfl, rfl⟩
      · repeat' array_get_dec
        exact ⟨rfl, rfl⟩
      · rintro N6 hN6 h1 p hp
        obtain ⟨k, hk, hg⟩ := fK_get h1 hp
        rw [hk]
        refine ⟨_, rfl, wp_yes ⟨rfl, rfl⟩, fun _ => ?_⟩
        simp only [wipeN]
        repeat' array_get_dec
        refine wp_get hg ?_
        exact ⟨rfl, rfl⟩
      intro k6 N6 f6 e6 g6
      rw [fsum] at e6
      repeat' array_get_dec
      refine wp_sumL e6 ?_
      repeat' array_get_dec
      rw [show decide (sumM m = ((m.map (·.1)).map fun k => amt m k).sum) = true from decide_eq_true rfl]
      exact hQ N6 fun k o e => g6 _ _ (g5 _ _ (fr4 _ _ e))
  · refine lock_none ?_
    repeat' array_get_dec
    intro n hn o ho2
    cases hn
    rw [hp] at ho2
    cases ho2
    rfl
end
end K40

set_option Elab.async false
set_option linter.all false
set_option maxRecDepth 100000
set_option maxHeartbeats 4000000
namespace K40
open NY PySem PySem.Spec PyProof.Rows L2
local macro_rules | `(tactic| array_get_dec) => `(tactic| first
  | ((with_reducible apply wp_V); rfl) | with_reducible refine wp_C ?_ | with_reducible refine wp_op2 ?_
  | with_reducible refine wp_eqS ?_ | with_reducible refine wp_eqI ?_ | with_reducible refine wp_addI ?_ | ((with_reducible apply wp_getT); rfl) | ((with_reducible apply wp_getL); assumption; rfl)
  | with_reducible refine wp_bool ?_ | with_reducible refine ex_bl ?_ | with_reducible refine ex_tru ?_ | with_reducible refine ex_kdT ?_ | with_reducible refine ex_kdI ?_ | with_reducible refine ex_kdB ?_ | with_reducible refine ex_kdS ?_ | with_reducible refine ex_kd0 ?_ | ((with_reducible apply ex_kdL); assumption) | ((with_reducible apply ex_kdD); assumption) | with_reducible refine ex_int ?_ | with_reducible refine wp_seq ?_ | with_reducible refine wp_cons ?_ | with_reducible refine wp_nil ?_ | with_reducible refine wp_call ?_ | with_reducible refine wp_asg _ ?_ | with_reducible refine wp_ret ?_ | with_reducible refine wp_pass ?_
  | dsimp only [List.set_cons_zero, List.set_cons_succ, setAll]
  | with_reducible refine wp_expr ?_ | with_reducible refine wp_asgT ?_ | with_reducible refine wp_tup ?_ | with_reducible refine wp_fldput ?_
  | with_reducible refine wp_subI ?_ | ((with_reducible apply wp_mulR); decide) | ((with_reducible apply wp_mulL); decide) | ((with_reducible apply wp_modI); (first | decide | assumption)) | ((with_reducible apply wp_divL); decide) | ((with_reducible apply wp_divI); (first | decide | assumption)) | with_reducible refine wp_negI ?_ | with_reducible refine wp_ltI ?_ | with_reducible refine wp_leI ?_ | with_reducible refine wp_gtI ?_ | with_reducible refine wp_geI ?_ | with_reducible refine wp_intI ?_ | with_reducible refine wp_abs ?_
  | with_reducible refine wp_neI ?_ | with_reducible refine wp_neS ?_ | with_reducible refine wp_isN0 ?_ | with_reducible refine wp_isNotN0 ?_ | with_reducible refine wp_isNI ?_ | with_reducible refine wp_isNotNI ?_ | with_reducible refine wp_isNS ?_ | with_reducible refine wp_isNotNS ?_ | with_reducible refine wp_isNT ?_ | with_reducible refine wp_isNotNT ?_ | with_reducible refine wp_isNR ?_ | with_reducible refine wp_isNotNR ?_ | with_reducible refine wp_cutT ?_ | with_reducible refine wp_lenT ?_ | ((with_reducible apply wp_getTI); (first | assumption | omega); (first | assumption | omega))
  | ((with_reducible apply wp_catT); exact le_size (by simp only [List.length_append, List.length_cons, List.length_nil, List.length_map]; omega)) | ((with_reducible apply wp_lenL); assumption) | ((with_reducible apply wp_pop0); assumption)
  | with_reducible refine wp_op1 ?_ | with_reducible refine wp_andT ?_ | with_reducible refine wp_orT ?_ | with_reducible refine wp_notT ?_ | with_reducible refine wp_and ?_ | with_reducible refine wp_or ?_ | with_reducible refine wp_not ?_ | with_reducible refine wp_tru ?_ | with_reducible refine wp_lstN ?_ | with_reducible refine wp_bmL ?_
  | with_reducible refine wp_psNil ?_ | with_reducible refine wp_psCons ?_ | with_reducible refine wp_dispN ?_ | with_reducible refine wp_noPart ?_ | with_reducible refine wp_part ?_ | with_reducible refine wp_cut ?_ | with_reducible refine wp_isi ?_ | with_reducible refine wp_fld ?_ | with_reducible refine wp_meth ?_
  | ((with_reducible apply ex_refL); assumption) | ((with_reducible apply ex_tup); exact rfl) | ((with_reducible apply ex_putL); assumption; rfl) | ((with_reducible apply and_size); (first | decide | (simp only [List.length_cons, List.length_nil]; decide))) | with_reducible refine ex_str ?_ | ((with_reducible apply ex_fld); assumption; (decide); rfl) | fail)
local macro_rules | `(tactic| sizeOf_list_dec) => `(tactic| first | with_reducible refine ifT (by decide +kernel) ?_ | with_reducible refine ifF (by decide +kernel) ?_ | with_reducible refine wp_sif ?_ | array_get_dec | with_reducible refine wp_if ?_ | with_reducible refine ifT (by simp only [List.length_cons, List.length_nil]; decide +kernel) ?_ | with_reducible refine ifF (by simp only [List.length_cons, List.length_nil]; decide +kernel) ?_ | fail)
section
variable {Q : D → NH → Prop} {E : XP} {N : NH} {n k : Nat} {σ : NEnv}
theorem cut_strs (l : List Str) (lo hi : Option Int) : ∃ r : List Str, NY.cutD (l.map D.str) lo hi = r.map D.str ∧ r.length ≤ l.length ∧ ∀ v ∈ r, v ∈ l := by
  unfold NY.cutD
  rw [← List.map_drop, ← List.map_take]
  refine ⟨_, rfl, by rw [List.length_take, List.length_drop]; omega, fun v hv => List.mem_of_mem_drop (List.mem_of_mem_take hv)⟩
theorem given_ok {d r gv q : Nat} {zs : List Str} {e : En} {s0 s2 : Option D} (hzs : ∀ z ∈ zs, Nm z 40) (hl : zs.length ≤ 10) (hq : N[q]? = some (.lst (zs.map .str))) (hg : N[gv]? = some (.dK (encM []))) (hd : Dr N d r) (n1 : gv ≠ d) (n2 : gv ≠ r) (n3 : q ≠ d) (n4 : q ≠ gv)
    (hQ : ∀ s N' g, Ok g 20 → N'[gv]? = some (.dK (encM g)) → Dr N' d r → (∀ (m : Nat) (o : O), m ≠ d → m ≠ gv → N[m]? = some o → N'[m]? = some o) → e.nx [s0, some (.ref d), s2, some (.ref gv), s, none, none, none, none, none, none, none, none, none, none] N') (s : Option D) :
    wpS (loopN (pName 4) b1_law (fun N => decide (N[q]? = some (.lst (zs.map .str)))) (zs.map .str) [s0, some (.ref d), s2, some (.ref gv), s, none, none, none, none, none, none, none, none, none, none] N) e := by
  refine wp_loop (fun i σ N' => (∃ s, σ = [s0, some (.ref d), s2, some (.ref gv), s, none, none, none, none, none, none, none, none, none, none]) ∧ i ≤ 10 ∧ ∃ g, Ok g i ∧ N'[gv]? = some (.dK (encM g)) ∧ Dr N' d r ∧ (∀ (m : Nat) (o : O), m ≠ d → m ≠ gv → N[m]? = some o → N'[m]? = some o)) ⟨⟨s, rfl⟩, by omega, [], ⟨(fun _ h => nomatch h), (fun _ h => nomatch h), Nat.le_refl _⟩, hg, hd, fun m o _ _ h => h⟩
    (fun i σ N' ⟨_, _, _, _, _, _, fr⟩ => decide_eq_true (fr q _ n3 n4 hq)) ?_ ?_
  · rintro i y σ N1 hy ⟨⟨s, rfl⟩, hi, g, hg1, e1, d1, fr1⟩
    obtain ⟨z, hz2, rfl⟩ : ∃ z, zs[i]? = some z ∧ y = D.str z := by
      rw [List.getElem?_map] at hy
      obtain ⟨c, h1, h2⟩ := Option.map_eq_some_iff.mp hy
      exact ⟨c, h1, h2.symm⟩
    have hil := (List.getElem?_eq_some_iff.mp hz2).1
    have hnm := hzs z (List.mem_of_getElem? hz2)
    refine ⟨_, rfl, ?_⟩
    refine wp_putK ?_
    repeat' array_get_dec
    refine take_ok (Td.refl d1) (by decide) fun w N2 w0 w1 a2 => ?_
    have e2 := a2.fr _ _ n1 e1
    repeat' array_get_dec
    intro k3 N3 f3 e3 g3
    have a3 := Td.new (Td.refl a2.dr) g3
    obtain ⟨m1, m2⟩ := a2.dr.ne f3
    repeat' array_get_dec
    refine take_ok (Td.refl a3.dr) (by decide) fun w2 N4 v0 v1 a4 => ?_
    have e4 := a4.fr _ _ m1 e3
    have e2 := a4.fr _ _ n1 (g3 _ _ e2)
    obtain ⟨c, hc, c0, c1⟩ : ∃ c : Int, atD [D.int 1, D.int 1000, D.int 1000000000] w2 = some (.int c) ∧ 0 ≤ c ∧ c < 2 ^ 60 := by
      have h2 : w2 = 0 ∨ w2 = 1 ∨ w2 = 2 := by omega
      rcases h2 with rfl | rfl | rfl
      · exact ⟨1, rfl, by omega, by omega⟩
      · exact ⟨1000, rfl, by omega, by omega⟩
      · exact ⟨1000000000, rfl, by omega, by omega⟩
    refine wp_getL e4 hc ?_
    refine wp_mulR (by omega) ?_
    repeat' array_get_dec
    refine ⟨gv, _, (Sum.inr z : Key), rfl, rfl, e2, lt_size (by unfold encM; rw [List.length_map]; have := hg1.l; omega), ?_⟩
    intro N5 e5 g5 o5
    rw [put_enc] at e5
    obtain ⟨ne, ⟨nn, h0, q1⟩, l, q2, h1, h2⟩ := a4.dr
    refine ⟨⟨_, rfl⟩, by omega, putM g z (w * c), hg1.put hnm (Int.mul_nonneg w0 c0), e5, ⟨ne, ⟨nn, h0, g5 _ _ n1.symm q1⟩, l, g5 _ _ n2.symm q2, h1, h2⟩, fun m o h3 h4 e => g5 _ _ h4 (a4.fr _ _ h3 (g3 _ _ (a2.fr _ _ h3 (fr1 m o h3 h4 e))))⟩
  · rintro σ N1 ⟨⟨s, rfl⟩, hi, g, hg1, e1, d1, fr1⟩
    exact hQ s N1 g ⟨hg1.nm, hg1.v, by have := hg1.l; simp at this; omega⟩ e1 d1 fr1
end
end K40

set_option Elab.async false
set_option linter.all false
set_option maxRecDepth 100000
set_option maxHeartbeats 4000000
namespace K40
open NY PySem PySem.Spec PyProof.Rows L2
local macro_rules | `(tactic| array_get_dec) => `(tactic| first
  | ((with_reducible apply wp_V); rfl) | with_reducible refine wp_C ?_ | with_reducible refine wp_op2 ?_
  | with_reducible refine wp_eqS ?_ | with_reducible refine wp_eqI ?_ | with_reducible refine wp_addI ?_ | ((with_reducible apply wp_getT); rfl) | ((with_reducible apply wp_getL); assumption; rfl)
  | with_reducible refine wp_bool ?_ | with_reducible refine ex_bl ?_ | with_reducible refine ex_tru ?_ | with_reducible refine ex_kdT ?_ | with_reducible refine ex_kdI ?_ | with_reducible refine ex_kdB ?_ | with_reducible refine ex_kdS ?_ | with_reducible refine ex_kd0 ?_ | ((with_reducible apply ex_kdL); assumption) | ((with_reducible apply ex_kdD); assumption) | with_reducible refine ex_int ?_ | with_reducible refine wp_seq ?_ | with_reducible refine wp_cons ?_ | with_reducible refine wp_nil ?_ | with_reducible refine wp_call ?_ | with_reducible refine wp_asg _ ?_ | with_reducible refine wp_ret ?_ | with_reducible refine wp_pass ?_
  | dsimp only [List.set_cons_zero, List.set_cons_succ, setAll]
  | with_reducible refine wp_expr ?_ | with_reducible refine wp_asgT ?_ | with_reducible refine wp_tup ?_ | with_reducible refine wp_fldput ?_
  | with_reducible refine wp_subI ?_ | ((with_reducible apply wp_mulR); decide) | ((with_reducible apply wp_mulL); decide) | ((with_reducible apply wp_modI); (first | decide | assumption)) | ((with_reducible apply wp_divL); decide) | ((with_reducible apply wp_divI); (first | decide | assumption)) | with_reducible refine wp_negI ?_ | with_reducible refine wp_ltI ?_ | with_reducible refine wp_leI ?_ | with_reducible refine wp_gtI ?_ | with_reducible refine wp_geI ?_ | with_reducible refine wp_intI ?_ | with_reducible refine wp_abs ?_
  | with_reducible refine wp_neI ?_ | with_reducible refine wp_neS ?_ | with_reducible refine wp_isN0 ?_ | with_reducible refine wp_isNotN0 ?_ | with_reducible refine wp_isNI ?_ | with_reducible refine wp_isNotNI ?_ | with_reducible refine wp_isNS ?_ | with_reducible refine wp_isNotNS ?_ | with_reducible refine wp_isNT ?_ | with_reducible refine wp_isNotNT ?_ | with_reducible refine wp_isNR ?_ | with_reducible refine wp_isNotNR ?_ | with_reducible refine wp_cutT ?_ | with_reducible refine wp_lenT ?_ | ((with_reducible apply wp_getTI); (first | assumption | omega); (first | assumption | omega))
  | ((with_reducible apply wp_catT); exact le_size (by simp only [List.length_append, List.length_cons, List.length_nil, List.length_map]; omega)) | ((with_reducible apply wp_lenL); assumption) | ((with_reducible apply wp_pop0); assumption)
  | with_reducible refine wp_op1 ?_ | with_reducible refine wp_andT ?_ | with_reducible refine wp_orT ?_ | with_reducible refine wp_notT ?_ | with_reducible refine wp_and ?_ | with_reducible refine wp_or ?_ | with_reducible refine wp_not ?_ | with_reducible refine wp_tru ?_ | with_reducible refine wp_lstN ?_ | with_reducible refine wp_bmL ?_
  | with_reducible refine wp_psNil ?_ | with_reducible refine wp_psCons ?_ | with_reducible refine wp_dispN ?_ | with_reducible refine wp_noPart ?_ | with_reducible refine wp_part ?_ | with_reducible refine wp_cut ?_ | with_reducible refine wp_isi ?_ | with_reducible refine wp_fld ?_ | with_reducible refine wp_meth ?_
  | ((with_reducible apply ex_refL); assumption) | ((with_reducible apply ex_tup); exact rfl) | ((with_reducible apply ex_putL); assumption; rfl) | ((with_reducible apply and_size); (first | decide | (simp only [List.length_cons, List.length_nil]; decide))) | with_reducible refine ex_str ?_ | ((with_reducible apply ex_fld); assumption; (decide); rfl) | fail)
local macro_rules | `(tactic| sizeOf_list_dec) => `(tactic| first | with_reducible refine ifT (by decide +kernel) ?_ | with_reducible refine ifF (by decide +kernel) ?_ | with_reducible refine wp_sif ?_ | array_get_dec | with_reducible refine wp_if ?_ | with_reducible refine ifT (by simp only [List.length_cons, List.length_nil]; decide +kernel) ?_ | with_reducible refine ifF (by simp only [List.length_cons, List.length_nil]; decide +kernel) ?_ | fail)
section
variable {Q : D → NH → Prop} {E : XP} {N : NH} {n k : Nat} {σ : NEnv}
structure Wd (N : NH) (d r p gv bk a h ka kh ob : Nat) (zs : List Str) (m mo : Mp) (c : Nat) : Prop where
  dr : Dr N d r
  p' : N[p]? = some (.lst (zs.map .str))
  gv' : ∃ g, N[gv]? = some (.dK (encM g)) ∧ Ok g 20
  bk' : N[bk]? = some (.dK (encM m))
  ac : Acc N a h m
  kp : Acc N ka kh mo
  ob' : N[ob]? = some (.dK (encM mo))
  m' : Ok m c
  mo' : Ok mo c
  hd : h ≠ d ∧ bk ≠ d ∧ gv ≠ d ∧ kh ≠ d ∧ ob ≠ d
  hh : bk ≠ h ∧ gv ≠ h ∧ kh ≠ h ∧ ob ≠ h
  hb : gv ≠ bk ∧ kh ≠ bk ∧ ob ≠ bk
  hg : kh ≠ gv ∧ ob ≠ gv
section
variable {d r p gv bk a h ka kh ob : Nat} {zs : List Str} {m mo : Mp} {c : Nat}
theorem Wd.new {N' : NH} (w : Wd N d r p gv bk a h ka kh ob zs m mo c) (hf : ∀ (k : Nat) (o : O), N[k]? = some o → N'[k]? = some o) : Wd N' d r p gv bk a h ka kh ob zs m mo c := by
  obtain ⟨dr, p, ⟨g, g1, g2⟩, bk, ac, kp, ob, m1, m2, hd, hh, hb, hg⟩ := w
  exact ⟨(Td.new (Td.refl dr) hf).dr, hf _ _ p, ⟨g, hf _ _ g1, g2⟩, hf _ _ bk, ⟨hf _ _ ac.o, hf _ _ ac.d⟩, ⟨hf _ _ kp.o, hf _ _ kp.d⟩, hf _ _ ob, m1, m2, hd, hh, hb, hg⟩
theorem Wd.td {N' : NH} (w : Wd N d r p gv bk a h ka kh ob zs m mo c) (t : Td d r N N') : Wd N' d r p gv bk a h ka kh ob zs m mo c := by
  obtain ⟨dr, p1, ⟨g, g1, g2⟩, bk1, ac, kp, ob1, m1, m2, ⟨hd1, hd2, hd3, hd4, hd5⟩, hh, hb, hg⟩ := w
  obtain ⟨ne, ⟨nn, h0, q1⟩, l, q2, h1, h2⟩ := dr
  have e1 : p ≠ d := fun z => by rw [z, q1] at p1; cases p1
  have e2 : a ≠ d := fun z => by have := ac.o; rw [z, q1] at this; cases this
  have e3 : ka ≠ d := fun z => by have := kp.o; rw [z, q1] at this; cases this
  exact ⟨t.dr, t.fr _ _ e1 p1, ⟨g, t.fr _ _ hd3 g1, g2⟩, t.fr _ _ hd2 bk1, ⟨t.fr _ _ e2 ac.o, t.fr _ _ hd1 ac.d⟩, ⟨t.fr _ _ e3 kp.o, t.fr _ _ hd4 kp.d⟩, t.fr _ _ hd5 ob1, m1, m2, ⟨hd1, hd2, hd3, hd4, hd5⟩, hh, hb, hg⟩
theorem Ok.mono {m : Mp} {c c' : Nat} (h : Ok m c) (l : c ≤ c') : Ok m c' := ⟨h.nm, h.v, Nat.le_trans h.l l⟩
/-- both books after a move that is done -/
theorem Wd.moved {N1 N2 N3 : NH} {m1 : Mp} (w : Wd N d r p gv bk a h ka kh ob zs m mo c) (hm1 : Ok m1 (c + 2)) (hA : Acc N1 a h m1) (f1 : ∀ (k : Nat) (o : O), k ≠ h → N[k]? = some o → N1[k]? = some o) (hb : N3[bk]? = some (.dK (encM m1))) (f3 : ∀ (k : Nat) (o : O), k ≠ bk → N1[k]? = some o → N3[k]? = some o) : Wd N3 d r p gv bk a h ka kh ob zs m1 mo (c + 2) := by
  obtain ⟨dr, p1, ⟨g, g1, g2⟩, bk1, ac, kp, ob1, _, m2, ⟨hd1, hd2, hd3, hd4, hd5⟩, ⟨hh1, hh2, hh3, hh4⟩, ⟨hb1, hb2, hb3⟩, hg⟩ := w
  obtain ⟨ne, ⟨nn, h0, q1⟩, l, q2, h1, h2⟩ := dr
  have e1 : p ≠ h := fun z => by have := ac.d; rw [← z, p1] at this; cases this
  have e1' : p ≠ bk := fun z => by rw [z, bk1] at p1; cases p1
  have e2 : ka ≠ h := fun z => by have h3 := kp.o; rw [z, ac.d] at h3; cases h3
  have e2' : ka ≠ bk := fun z => by have h3 := kp.o; rw [z, bk1] at h3; cases h3
  have e3 : r ≠ h := fun z => by have := ac.d; rw [← z, q2] at this; cases this
  have e3' : r ≠ bk := fun z => by rw [z, bk1] at q2; cases q2
  have e4 : a ≠ bk := fun z => by have h3 := ac.o; rw [z, bk1] at h3; cases h3
  have f : ∀ (k : Nat) (o : O), k ≠ h → k ≠ bk → N[k]? = some o → N3[k]? = some o := fun k o h1 h2 e => f3 k o h2 (f1 k o h1 e)
  exact ⟨⟨ne, ⟨nn, h0, f _ _ hd1.symm hd2.symm q1⟩, l, f _ _ e3 e3' q2, h1, h2⟩, f _ _ e1 e1' p1, ⟨g, f _ _ hh2 hb1 g1, g2⟩, hb, ⟨f3 _ _ e4 hA.o, f3 _ _ hh1.symm hA.d⟩, ⟨f _ _ e2 e2' kp.o, f _ _ hh3 hb2 kp.d⟩, f _ _ hh4 hb3 ob1, hm1, m2.mono (by omega), ⟨hd1, hd2, hd3, hd4, hd5⟩, ⟨hh1, hh2, hh3, hh4⟩, ⟨hb1, hb2, hb3⟩, hg⟩
end
theorem pick_name {l : List Str} {w : Int} (h0 : 0 ≤ w) (h1 : w < l.length) : ∃ z, atD (l.map D.str) w = some (.str z) ∧ z ∈ l := by
  have hl : w.toNat < l.length := by omega
  exact ⟨l[w.toNat], atD_map h0 (List.getElem?_eq_getElem hl), List.getElem_mem hl⟩
end
end K40

set_option Elab.async false
set_option linter.all false
set_option maxRecDepth 100000
set_option maxHeartbeats 4000000
namespace K40
open NY PySem PySem.Spec PyProof.Rows L2
local macro_rules | `(tactic| array_get_dec) => `(tactic| first
  | ((with_reducible apply wp_V); rfl) | with_reducible refine wp_C ?_ | with_reducible refine wp_op2 ?_
  | with_reducible refine wp_eqS ?_ | with_reducible refine wp_eqI ?_ | with_reducible refine wp_addI ?_ | ((with_reducible apply wp_getT); rfl) | ((with_reducible apply wp_getL); assumption; rfl)
  | with_reducible refine wp_bool ?_ | with_reducible refine ex_bl ?_ | with_reducible refine ex_tru ?_ | with_reducible refine ex_kdT ?_ | with_reducible refine ex_kdI ?_ | with_reducible refine ex_kdB ?_ | with_reducible refine ex_kdS ?_ | with_reducible refine ex_kd0 ?_ | ((with_reducible apply ex_kdL); assumption) | ((with_reducible apply ex_kdD); assumption) | with_reducible refine ex_int ?_ | with_reducible refine wp_seq ?_ | with_reducible refine wp_cons ?_ | with_reducible refine wp_nil ?_ | with_reducible refine wp_call ?_ | with_reducible refine wp_asg _ ?_ | with_reducible refine wp_ret ?_ | with_reducible refine wp_pass ?_
  | dsimp only [List.set_cons_zero, List.set_cons_succ, setAll]
  | with_reducible refine wp_expr ?_ | with_reducible refine wp_asgT ?_ | with_reducible refine wp_tup ?_ | with_reducible refine wp_fldput ?_
  | with_reducible refine wp_subI ?_ | ((with_reducible apply wp_mulR); decide) | ((with_reducible apply wp_mulL); decide) | ((with_reducible apply wp_modI); (first | decide | assumption)) | ((with_reducible apply wp_divL); decide) | ((with_reducible apply wp_divI); (first | decide | assumption)) | with_reducible refine wp_negI ?_ | with_reducible refine wp_ltI ?_ | with_reducible refine wp_leI ?_ | with_reducible refine wp_gtI ?_ | with_reducible refine wp_geI ?_ | with_reducible refine wp_intI ?_ | with_reducible refine wp_abs ?_
  | with_reducible refine wp_neI ?_ | with_reducible refine wp_neS ?_ | with_reducible refine wp_isN0 ?_ | with_reducible refine wp_isNotN0 ?_ | with_reducible refine wp_isNI ?_ | with_reducible refine wp_isNotNI ?_ | with_reducible refine wp_isNS ?_ | with_reducible refine wp_isNotNS ?_ | with_reducible refine wp_isNT ?_ | with_reducible refine wp_isNotNT ?_ | with_reducible refine wp_isNR ?_ | with_reducible refine wp_isNotNR ?_ | with_reducible refine wp_cutT ?_ | with_reducible refine wp_lenT ?_ | ((with_reducible apply wp_getTI); (first | assumption | omega); (first | assumption | omega))
  | ((with_reducible apply wp_catT); exact le_size (by simp only [List.length_append, List.length_cons, List.length_nil, List.length_map]; omega)) | ((with_reducible apply wp_lenL); assumption) | ((with_reducible apply wp_pop0); assumption)
  | with_reducible refine wp_op1 ?_ | with_reducible refine wp_andT ?_ | with_reducible refine wp_orT ?_ | with_reducible refine wp_notT ?_ | with_reducible refine wp_and ?_ | with_reducible refine wp_or ?_ | with_reducible refine wp_not ?_ | with_reducible refine wp_tru ?_ | with_reducible refine wp_lstN ?_ | with_reducible refine wp_bmL ?_
  | with_reducible refine wp_psNil ?_ | with_reducible refine wp_psCons ?_ | with_reducible refine wp_dispN ?_ | with_reducible refine wp_noPart ?_ | with_reducible refine wp_part ?_ | with_reducible refine wp_cut ?_ | with_reducible refine wp_isi ?_ | with_reducible refine wp_fld ?_ | with_reducible refine wp_meth ?_
  | ((with_reducible apply ex_refL); assumption) | ((with_reducible apply ex_tup); exact rfl) | ((with_reducible apply ex_putL); assumption; rfl) | ((with_reducible apply and_size); (first | decide | (simp only [List.length_cons, List.length_nil]; decide))) | with_reducible refine ex_str ?_ | ((with_reducible apply ex_fld); assumption; (decide); rfl) | fail)
local macro_rules | `(tactic| sizeOf_list_dec) => `(tactic| first | with_reducible refine ifT (by decide +kernel) ?_ | with_reducible refine ifF (by decide +kernel) ?_ | with_reducible refine wp_sif ?_ | array_get_dec | with_reducible refine wp_if ?_ | with_reducible refine ifT (by simp only [List.length_cons, List.length_nil]; decide +kernel) ?_ | with_reducible refine ifF (by simp only [List.length_cons, List.length_nil]; decide +kernel) ?_ | fail)
section
variable {Q : D → NH → Prop} {E : XP} {N : NH} {n k : Nat} {σ : NEnv}
theorem wp_catL {l l' : List D} {m : Nat} (h : N[n]? = some (.lst l)) (h' : N[m]? = some (.lst l')) (hl : l.length + l'.length ≤ sizeLine) (hq : ∀ (k : Nat) (N' : NH), N[k]? = none → N'[k]? = some (.lst (l ++ l')) → (∀ (m : Nat) (o : O), N[m]? = some o → N'[m]? = some o) → Q (.ref k) N') : wpR (fAdd (.ref n) (.ref m) N) Q E := by
  have e : fAdd (.ref n) (.ref m) N = N.new (.lst (l ++ l')) := by
    show (match N[n]?, N[m]? with | some (.lst x), some (.lst y) => if x.length + y.length ≤ sizeLine then N.new (.lst (x ++ y)) else .bad | _, _ => .bad) = _
    rw [h, h']
    exact if_pos hl
  rw [e]
  with_unfolding_all exact hq _ _ new_none new_at new_fr
theorem tail_ok {d r p gv bk a h ka kh ob : Nat} {zs : List Str} {m mo : Mp} {c : Nat} {e : En} {s0 s4 s9 s10 s11 s12 s13 s14 : Option D} (W : Wd N d r p gv bk a h ka kh ob zs m mo c) (hc : c ≤ 60) (hz : zs.length = 6)
    (hI : ∀ ka kh ob mo N', Wd N' d r p gv bk a h ka kh ob zs m mo c → e.nx [s0, some (.ref d), some (.ref p), some (.ref gv), s4, some (.ref bk), some (.ref a), some (.ref ka), some (.ref ob), s9, s10, s11, s12, s13, s14] N') :
    wpS (t7_law [s0, some (.ref d), some (.ref p), some (.ref gv), s4, some (.ref bk), some (.ref a), some (.ref ka), some (.ref ob), s9, s10, s11, s12, s13, s14] N) e := by
  refine wp_seq (wp_sif ?_)
  repeat' array_get_dec
  refine lsame_ok W.ac W.bk' W.p' (by omega) (W.m'.mono hc) fun N1 g1 => ?_
  have W := W.new g1
  repeat' sizeOf_list_dec
  refine lsame_ok W.kp W.ob' W.p' (by omega) (W.mo'.mono hc) fun N2 g2 => ?_
  have W := W.new g2
  repeat' sizeOf_list_dec
  refine take_ok (Td.refl W.dr) (by decide) fun w N3 w0 w1 a3 => ?_
  have W := W.td a3
  repeat' sizeOf_list_dec
  split
  · repeat' array_get_dec
    refine ex_acc W.ac rfl ?_
    repeat' array_get_dec
    refine copy_ok W.ac fun ka2 kh2 N4 f4 f4' ac4 g4 => ?_
    have bk4 := g4 _ _ W.bk'
    repeat' array_get_dec
    refine wp_dictN bk4 fun ob2 N5 f5 e5 g5 => ?_
    have W5 := (W.new g4).new g5
    have none_ne : ∀ {N : NH} {x y : Nat} {o : O}, N[x]? = none → N[y]? = some o → x ≠ y := fun h1 h2 z => by rw [z, h2] at h1; cases h1
    have W4 := W.new g4
    obtain ⟨_, ⟨_, _, q3⟩, _⟩ := _root_.id W.dr
    obtain ⟨_, ⟨_, _, q4⟩, _⟩ := _root_.id W4.dr
    obtain ⟨g', gg, _⟩ := W.gv'
    obtain ⟨g'', gg4, _⟩ := W4.gv'
    repeat' array_get_dec
    refine hI ka2 kh2 ob2 m N5 ⟨W5.dr, W5.p', W5.gv', W5.bk', W5.ac, ⟨g5 _ _ ac4.o, g5 _ _ ac4.d⟩, e5, W5.m', W5.m', ⟨W.hd.1, W.hd.2.1, W.hd.2.2.1, none_ne f4' q3, none_ne f5 q4⟩, ⟨W.hh.1, W.hh.2.1, none_ne f4' W.ac.d, none_ne f5 W4.ac.d⟩, ⟨W.hb.1, none_ne f4' W.bk', none_ne f5 W4.bk'⟩, ⟨none_ne f4' gg, none_ne f5 gg4⟩⟩
  · repeat' array_get_dec
    exact hI _ _ _ _ _ W
theorem law_ok {d0 : D} {ns : List Int} (hs : Scr N d0 (ns.map .int)) (hn : ns.length ≤ 63) : wpR (m_law [d0] N) (fun v _ => v = .bl true) := by
  refine wp_fun1 ?_
  simp only [List.replicate]
  repeat' array_get_dec
  refine draws_ok hs hn fun d r N1 dr1 => ?_
  repeat' array_get_dec
  refine pool_ok (Td.refl dr1) fun p zs N2 f2 e2 hz6 hzs a2 => ?_
  repeat' array_get_dec
  refine wp_dKN fun gv N3 f3 e3 g3 => ?_
  have a3 := Td.new (Td.refl a2.dr) g3
  have p3 := g3 _ _ e2
  obtain ⟨m1, m2⟩ := a2.dr.ne f3
  have hpd : p ≠ d := (dr1.ne f2).1
  have hpg : p ≠ gv := fun z => by rw [z, f3] at e2; cases e2
  repeat' array_get_dec
  have hcutF : ∀ (w : Int) (N4 : NH), Td d r N3 N4 → ∀ (Q : D → NH → Prop), (∀ (q : Nat) (N5 : NH) (ys : List Str), N4[q]? = none → N5[q]? = some (.lst (ys.map .str)) → ys.length ≤ 6 → (∀ z ∈ ys, Nm z 40) → (∀ (k : Nat) (o : O), N4[k]? = some o → N5[k]? = some o) → Q (.ref q) N5) → wpR (fCut (.ref p) none (some w) N4) Q := by
    intro w N4 a4 Q hq
    refine wp_cutL (a4.fr _ _ hpd p3) fun q N5 f5 e5 g5 => ?_
    obtain ⟨ys, hy1, hy2, hy3⟩ := cut_strs zs none (some w)
    rw [hy1] at e5
    exact hq q N5 ys f5 e5 (by omega) (fun z hz => hzs z (hy3 z hz)) g5
  refine wp_forL (lock_none ?_) (wp_for (wp_it ?_))
  · repeat' array_get_dec
    refine take_ok (Td.refl a3.dr) (by decide) fun w N4 w0 w1 a4 => ?_
    repeat' array_get_dec
    refine hcutF w N4 a4 _ fun q N5 ys f5 e5 _ _ g5 n hn o ho => ?_
    cases hn
    exfalso
    by_cases hqd : q = d
    · obtain ⟨_, ⟨_, _, q1⟩, _⟩ := a4.dr
      rw [hqd, q1] at f5; cases f5
    · rw [a4.fr _ _ hqd ho] at f5; cases f5
  repeat' array_get_dec
  refine take_ok (Td.refl a3.dr) (by decide) fun w N4 w0 w1 a4 => ?_
  repeat' array_get_dec
  refine hcutF w N4 a4 _ fun q N5 ys f5 e5 hyl hys g5 => ?_
  have a5 := a4.new g5
  have gv5 := a5.fr _ _ m1 e3
  have p5 := a5.fr _ _ hpd p3
  refine ⟨⟨ys.map .str, fun N => decide (N[q]? = some (.lst (ys.map .str)))⟩, by unfold itOf; simp [e5], ?_⟩
  have hqd : q ≠ d := (a4.dr.ne f5).1
  have hqg : q ≠ gv := fun z => by rw [z, a4.fr _ _ m1 e3] at f5; cases f5
  have hgr : gv ≠ r := m2
  refine given_ok hys (by omega) e5 gv5 a5.dr m1 hgr hqd hqg (fun s N6 g hg e6 dr6 fr6 => ?_) none
  have p6 := fr6 _ _ hpd hpg p5
  repeat' array_get_dec
  refine wp_dictN e6 fun bk N7 f7 e7 g7 => ?_
  have gv7 := g7 _ _ e6
  obtain ⟨b1, b2⟩ := dr6.ne f7
  repeat' array_get_dec
  refine make_ok (fun hq => ?_) gv7 fun a h N8 fa fh ac8 g8 => ?_
  · repeat' array_get_dec
    exact hq
  have ho8 := ac8.o
  repeat' array_get_dec
  refine ex_acc ac8 rfl ?_
  repeat' array_get_dec
  refine copy_ok ac8 fun ka kh N9 fka fkh ac9 g9 => ?_
  have bk9 := g9 _ _ (g8 _ _ e7)
  repeat' array_get_dec
  refine wp_dictN bk9 fun ob N10 f10 e10 g10 => ?_
  have dr9 : Dr N9 d r := (Td.new (Td.new (Td.new (Td.refl dr6) g7) g8) g9).dr
  have none_ne : ∀ {N : NH} {x y : Nat} {o : O}, N[x]? = none → N[y]? = some o → x ≠ y := fun h1 h2 z => by rw [z, h2] at h1; cases h1
  obtain ⟨_, ⟨_, _, d7⟩, _⟩ := (Td.new (Td.refl dr6) g7).dr
  obtain ⟨_, ⟨_, _, d8⟩, _⟩ := (Td.new (Td.new (Td.refl dr6) g7) g8).dr
  obtain ⟨_, ⟨_, _, d9⟩, _⟩ := _root_.id dr9
  have W : Wd N10 d r p gv bk a h ka kh ob zs g g 20 := ⟨(Td.new (Td.refl dr9) g10).dr, g10 _ _ (g9 _ _ (g8 _ _ (g7 _ _ p6))), ⟨g, g10 _ _ (g9 _ _ (g8 _ _ gv7)), hg⟩, g10 _ _ bk9, ⟨g10 _ _ (g9 _ _ ac8.o), g10 _ _ (g9 _ _ ac8.d)⟩, ⟨g10 _ _ ac9.o, g10 _ _ ac9.d⟩, e10, hg, hg,
    ⟨none_ne fh d7, b1, m1, none_ne fkh d8, none_ne f10 d9⟩, ⟨(none_ne fh e7).symm, (none_ne fh gv7).symm, none_ne fkh ac8.d, none_ne f10 (g9 _ _ ac8.d)⟩, ⟨(none_ne f7 e6).symm, none_ne fkh (g8 _ _ e7), none_ne f10 bk9⟩, ⟨none_ne fkh (g8 _ _ gv7), none_ne f10 (g9 _ _ (g8 _ _ gv7))⟩⟩
  repeat' array_get_dec
  refine wp_for (wp_rng1 ?_)
  repeat' array_get_dec
  refine take_ok (Td.refl W.dr) (by decide) fun turns N11 t0 t1 a11 => ?_
  have W := W.td a11
  repeat' array_get_dec
  refine ⟨_, rfl, by omega, by omega, ?_⟩
  refine wp_loop (fun i σ N' => ∃ ka kh ob m mo, Wd N' d r p gv bk a h ka kh ob zs m mo (20 + 2 * i) ∧ i ≤ 20 ∧ ∃ s9 s10 s11 s12 s13 s14, σ = [some d0, some (.ref d), some (.ref p), some (.ref gv), s, some (.ref bk), some (.ref a), some (.ref ka), some (.ref ob), s9, s10, s11, s12, s13, s14])
    ⟨ka, kh, ob, g, g, W, by omega, _, _, _, _, _, _, rfl⟩ (fun _ _ _ _ => rfl) ?_ ?_
  · rintro i y σ N12 hy ⟨ka, kh, ob, m, mo, W, hi, s9, s10, s11, s12, s13, s14, rfl⟩
    obtain ⟨hi2, rfl⟩ := rng_get hy
    refine ⟨_, rfl, ?_⟩
    repeat' array_get_dec
    refine take_ok (Td.refl W.dr) (by decide) fun w1 N13 u0 u1 a13 => ?_
    have W := W.td a13
    obtain ⟨src, hsrc, hsm⟩ := pick_name (l := zs) u0 (by rw [hz6]; exact u1)
    refine wp_getL W.p' hsrc ?_
    repeat' array_get_dec
    refine take_ok (Td.refl W.dr) (by decide) fun w2 N14 v0 v1 a14 => ?_
    have W := W.td a14
    obtain ⟨tgt, htgt, htm⟩ := pick_name (l := zs) v0 (by rw [hz6]; exact v1)
    refine wp_getL W.p' htgt ?_
    repeat' array_get_dec
    refine dget_ok (z := src) W.bk' ?_ ?_ ?_ ?_
    · repeat' array_get_dec
      exact ⟨rfl, rfl⟩
    · repeat' array_get_dec
      exact ⟨rfl, rfl⟩
    · repeat' array_get_dec
      exact ⟨rfl, rfl⟩
    repeat' array_get_dec
    refine lamount_ok (Td.refl W.dr) (W.m'.amt src) fun x N15 a15 => ?_
    have W := W.td a15
    repeat' array_get_dec
    refine wp_midR (fun v N' => v = .bl (decide (0 ≤ x ∧ x ≤ amt m src)) ∧ N' = N15) ?_ ?_
    · refine wp_chain ?_
      repeat' array_get_dec
      by_cases hx0 : 0 ≤ x
      · refine ifT (by simpa using hx0) ?_
        refine dget_ok (z := src) W.bk' ?_ ?_ ?_ ?_
        · repeat' array_get_dec
          exact ⟨rfl, rfl⟩
        · repeat' array_get_dec
          exact ⟨rfl, rfl⟩
        · repeat' array_get_dec
          exact ⟨rfl, rfl⟩
        repeat' array_get_dec
        exact ⟨by simp [hx0], rfl⟩
      · refine ifF (by simpa using hx0) ⟨?_, rfl⟩
        simp [hx0]
    rintro v N' ⟨rfl, rfl⟩
    repeat' array_get_dec
    refine ex_acc W.ac rfl ?_
    repeat' array_get_dec
    have hsn := hzs src hsm
    have htn := hzs tgt htm
    refine move_ok W.ac W.m' (by omega) hsn htn ?_ ?_
    · intro hno
      rw [decide_eq_false hno]
      refine wp_seq (wp_sif ?_)
      repeat' sizeOf_list_dec
      refine wp_ne (k := true) rfl ?_
      repeat' array_get_dec
      refine ifF rfl ?_
      refine wp_pass ?_
      refine wp_seq (wp_sif ?_)
      repeat' array_get_dec
      refine ifF rfl ?_
      refine wp_pass ?_
      refine tail_ok W (by omega) hz6 ?_
      intro ka2 kh2 ob2 mo2 N16 W2
      exact ⟨ka2, kh2, ob2, m, mo2, { W2 with m' := W2.m'.mono (by omega), mo' := W2.mo'.mono (by omega) }, by omega, _, _, _, _, _, _, rfl⟩
    · intro hx0 hx1 N16 A16 f16
      rw [decide_eq_true ⟨hx0, hx1⟩]
      refine wp_seq (wp_sif ?_)
      repeat' sizeOf_list_dec
      refine wp_ne (k := true) rfl ?_
      repeat' array_get_dec
      refine ifF rfl ?_
      refine wp_pass ?_
      refine wp_seq (wp_sif ?_)
      repeat' array_get_dec
      refine ifT rfl ?_
      have b16 := f16 _ _ W.hh.1 W.bk'
      refine wp_seq (wp_putK ?_)
      refine wp_op2 (dget_ok (z := src) b16 ?_ ?_ ?_ ?_)
      · repeat' array_get_dec
        exact ⟨rfl, rfl⟩
      · repeat' array_get_dec
        exact ⟨rfl, rfl⟩
      · repeat' array_get_dec
        exact ⟨rfl, rfl⟩
      repeat' array_get_dec
      refine ⟨bk, _, (Sum.inr src : Key), rfl, rfl, b16, lt_size (by unfold encM; rw [List.length_map]; have := W.m'.l; omega), ?_⟩
      intro N17 e17 g17 o17
      rw [put_enc] at e17
      have m1 := W.m'.put (v := amt m src - x) hsn (by omega)
      refine wp_putK ?_
      refine wp_op2 (dget_ok (z := tgt) e17 ?_ ?_ ?_ ?_)
      · repeat' array_get_dec
        exact ⟨rfl, rfl⟩
      · repeat' array_get_dec
        exact ⟨rfl, rfl⟩
      · repeat' array_get_dec
        exact ⟨rfl, rfl⟩
      repeat' array_get_dec
      refine ⟨bk, _, (Sum.inr tgt : Key), rfl, rfl, e17, lt_size (by unfold encM; rw [List.length_map]; have := m1.l; omega), ?_⟩
      intro N18 e18 g18 o18
      rw [put_enc] at e18
      have m2 := m1.put (v := amt (putM m src (amt m src - x)) tgt + x) htn (by have := m1.amt tgt; omega)
      have W18 := W.moved (N2 := N17) m2 A16 f16 e18 (fun k o hk e => g18 _ _ hk (g17 _ _ hk e))
      refine tail_ok W18 (by omega) hz6 ?_
      intro ka2 kh2 ob2 mo2 N19 W2
      exact ⟨ka2, kh2, ob2, _, mo2, W2, by omega, _, _, _, _, _, _, rfl⟩
  · rintro σ N12 ⟨ka, kh, ob, m, mo, W, hi, s9, s10, s11, s12, s13, s14, rfl⟩
    obtain ⟨g', g1, g2⟩ := W.gv'
    refine wp_seq (wp_putK ?_)
    repeat' array_get_dec
    refine ⟨gv, _, (Sum.inr "zz" : Key), rfl, rfl, g1, lt_size (by unfold encM; rw [List.length_map]; have := g2.l; omega), ?_⟩
    intro N13 e13 g13 o13
    have hac : a ≠ gv := fun z => by have := W.ac.o; rw [z, g1] at this; cases this
    have hpg2 : p ≠ gv := hpg
    have A13 : Acc N13 a h m := ⟨g13 _ _ hac W.ac.o, g13 _ _ W.hh.2.1.symm W.ac.d⟩
    have b13 := g13 _ _ W.hb.1.symm W.bk'
    have p13 := g13 _ _ hpg2 W.p'
    repeat' array_get_dec
    intro k14 N14 f14 e14 g14
    refine wp_catL (g14 _ _ p13) e14 (le_size (by simp; omega)) fun k15 N15 f15 e15 g15 => ?_
    repeat' array_get_dec
    have A15 : Acc N15 a h m := ⟨g15 _ _ (g14 _ _ A13.o), g15 _ _ (g14 _ _ A13.d)⟩
    have hi' : turns.toNat ≤ 20 := by omega
    simp only [List.length_map, List.length_range] at hi W
    refine lsame_ok (zs := zs ++ [("zz" : Str)]) A15 (g15 _ _ (g14 _ _ b13)) (by rw [e15]; simp) (by rw [List.length_append, hz6]; decide) (W.m'.mono (by omega)) fun N' _ => rfl
end
end K40

set_option Elab.async false
set_option linter.all false
set_option maxRecDepth 100000
set_option maxHeartbeats 4000000
namespace K40
open NY PySem PySem.Spec PyProof.Rows L2
def top (i : Nat) : Stmt := PySem.Challenge.pw_onewatcher_k40_accounts.main.body.getD i (.Pass ⟨0, 0, 0, 0⟩)
abbrev st__law_mix : Stmt := top 3
abbrev N__law_mix : List Str := ["_law_first", "_law_second", "_law_value"]
abbrev P__law_mix : List Str := ["_law_first", "_law_second"]
theorem sc__law_mix : FnScope N__law_mix P__law_mix (defScope st__law_mix) := ⟨rfl, rfl, rfl, by decide +kernel, rfl, by decide +kernel, by decide +kernel⟩
abbrev st__law_numbers : Stmt := top 4
abbrev N__law_numbers : List Str := ["_law_script", "_law_count", "_law_found", "_law_total", "_law_cell", "_law_k", "_law_number"]
abbrev P__law_numbers : List Str := ["_law_script", "_law_count"]
theorem sc__law_numbers : FnScope N__law_numbers P__law_numbers (defScope st__law_numbers) := ⟨rfl, rfl, rfl, by decide +kernel, rfl, by decide +kernel, by decide +kernel⟩
abbrev st__law_draws : Stmt := top 5
abbrev N__law_draws : List Str := ["_law_script", "_law_count"]
abbrev P__law_draws : List Str := ["_law_script", "_law_count"]
theorem sc__law_draws : FnScope N__law_draws P__law_draws (defScope st__law_draws) := ⟨rfl, rfl, rfl, by decide +kernel, rfl, by decide +kernel, by decide +kernel⟩
abbrev st__law_take : Stmt := top 6
abbrev N__law_take : List Str := ["_law_draws_here", "_law_bound", "_law_row", "_law_at", "_law_value"]
abbrev P__law_take : List Str := ["_law_draws_here", "_law_bound"]
theorem sc__law_take : FnScope N__law_take P__law_take (defScope st__law_take) := ⟨rfl, rfl, rfl, by decide +kernel, rfl, by decide +kernel, by decide +kernel⟩
abbrev st__law_name : Stmt := top 7
abbrev N__law_name : List Str := ["_law_draws_here", "_law_capital", "_law_letters", "_law_signs", "_law_first", "_law_size", "_law_rest", "_law_words", "_law_k"]
abbrev P__law_name : List Str := ["_law_draws_here", "_law_capital"]
theorem sc__law_name : FnScope N__law_name P__law_name (defScope st__law_name) := ⟨rfl, rfl, rfl, by decide +kernel, rfl, by decide +kernel, by decide +kernel⟩
abbrev st__law_pool : Stmt := top 8
abbrev N__law_pool : List Str := ["_law_draws_here", "_law_capital", "_law_many", "_law_pool_here", "_law_k", "_law_name_here", "_law_base", "_law_n"]
abbrev P__law_pool : List Str := ["_law_draws_here", "_law_capital", "_law_many"]
theorem sc__law_pool : FnScope N__law_pool P__law_pool (defScope st__law_pool) := ⟨rfl, rfl, rfl, by decide +kernel, rfl, by decide +kernel, by decide +kernel⟩
abbrev st_Accounts_init : Stmt := inClass (top 1) 0
abbrev N_Accounts_init : List Str := ["self", "amounts"]
abbrev P_Accounts_init : List Str := ["self", "amounts"]
theorem sc_Accounts_init : FnScope N_Accounts_init P_Accounts_init (defScope st_Accounts_init) := ⟨rfl, rfl, rfl, by decide +kernel, rfl, by decide +kernel, by decide +kernel⟩
abbrev st_Accounts_copy : Stmt := inClass (top 1) 5
abbrev N_Accounts_copy : List Str := ["self"]
abbrev P_Accounts_copy : List Str := ["self"]
theorem sc_Accounts_copy : FnScope N_Accounts_copy P_Accounts_copy (defScope st_Accounts_copy) := ⟨rfl, rfl, rfl, by decide +kernel, rfl, by decide +kernel, by decide +kernel⟩
abbrev st__law_amount : Stmt := top 9
abbrev N__law_amount : List Str := ["_law_draws_here", "_law_held", "_law_kind"]
abbrev P__law_amount : List Str := ["_law_draws_here", "_law_held"]
theorem sc__law_amount : FnScope N__law_amount P__law_amount (defScope st__law_amount) := ⟨rfl, rfl, rfl, by decide +kernel, rfl, by decide +kernel, by decide +kernel⟩
abbrev st_Accounts_amount : Stmt := inClass (top 1) 1
abbrev N_Accounts_amount : List Str := ["self", "name"]
abbrev P_Accounts_amount : List Str := ["self", "name"]
theorem sc_Accounts_amount : FnScope N_Accounts_amount P_Accounts_amount (defScope st_Accounts_amount) := ⟨rfl, rfl, rfl, by decide +kernel, rfl, by decide +kernel, by decide +kernel⟩
abbrev st_Accounts_move : Stmt := inClass (top 1) 2
abbrev N_Accounts_move : List Str := ["self", "source", "target", "amount"]
abbrev P_Accounts_move : List Str := ["self", "source", "target", "amount"]
theorem sc_Accounts_move : FnScope N_Accounts_move P_Accounts_move (defScope st_Accounts_move) := ⟨rfl, rfl, rfl, by decide +kernel, rfl, by decide +kernel, by decide +kernel⟩
abbrev st_Accounts_names : Stmt := inClass (top 1) 4
abbrev N_Accounts_names : List Str := ["self", "name"]
abbrev P_Accounts_names : List Str := ["self"]
theorem sc_Accounts_names : FnScope N_Accounts_names P_Accounts_names (defScope st_Accounts_names) := ⟨rfl, rfl, rfl, by decide +kernel, rfl, by decide +kernel, by decide +kernel⟩
abbrev st_Accounts_total : Stmt := inClass (top 1) 3
abbrev N_Accounts_total : List Str := ["self", "name"]
abbrev P_Accounts_total : List Str := ["self"]
theorem sc_Accounts_total : FnScope N_Accounts_total P_Accounts_total (defScope st_Accounts_total) := ⟨rfl, rfl, rfl, by decide +kernel, rfl, by decide +kernel, by decide +kernel⟩
abbrev st__law_same : Stmt := top 10
abbrev N__law_same : List Str := ["_law_accounts", "_law_book", "_law_names", "_law_name_here", "_law_answer"]
abbrev P__law_same : List Str := ["_law_accounts", "_law_book", "_law_names"]
theorem sc__law_same : FnScope N__law_same P__law_same (defScope st__law_same) := ⟨rfl, rfl, rfl, by decide +kernel, rfl, by decide +kernel, by decide +kernel⟩
abbrev st_law : Stmt := top 11
abbrev N_law : List Str := ["_law_script", "_law_draws_here", "_law_names", "_law_given", "_law_name_here", "_law_book", "_law_accounts", "_law_kept", "_law_old", "_law_k", "_law_source", "_law_target", "_law_amount_here", "_law_done", "_law_answer"]
abbrev P_law : List Str := ["_law_script"]
theorem sc_law : FnScope N_law P_law (defScope st_law) := ⟨rfl, rfl, rfl, by decide +kernel, rfl, by decide +kernel, by decide +kernel⟩
structure Txt (K : PySem.W.Frag) (mg : Str → Option Value) (C : NC) : Prop where
  nd : C.names.Nodup
  nm_held : C.names[0]? = some ("held" : Str)
  at_held : Attr K C "held" [0]
  c_Accounts : Cls K (C.cls 0)
  no_copy : ("copy" : Str) ∉ C.names
  no_amount : ("amount" : Str) ∉ C.names
  no_move : ("move" : Str) ∉ C.names
  no_names : ("names" : Str) ∉ C.names
  no_total : ("total" : Str) ∉ C.names
  b_abs : mg "abs" = none
  b_bool : mg "bool" = none
  b_dict : mg "dict" = none
  b_int : mg "int" = none
  b_isinstance : mg "isinstance" = none
  b_len : mg "len" = none
  b_range : mg "range" = none
  b_sorted : mg "sorted" = none
  b_str : mg "str" = none
  b_sum : mg "sum" = none
  d__law_mix : DefF K mg "_law_mix" st__law_mix P__law_mix
  d__law_numbers : DefF K mg "_law_numbers" st__law_numbers P__law_numbers
  d__law_draws : DefF K mg "_law_draws" st__law_draws P__law_draws
  d__law_take : DefF K mg "_law_take" st__law_take P__law_take
  d__law_name : DefF K mg "_law_name" st__law_name P__law_name
  d__law_pool : DefF K mg "_law_pool" st__law_pool P__law_pool
  d_Accounts_init : MakF K mg (C.cls 0) "Accounts" "Accounts.__init__" st_Accounts_init P_Accounts_init
  d_Accounts_copy : MthF K (C.cls 0) "copy" "Accounts.copy" st_Accounts_copy P_Accounts_copy
  d__law_amount : DefF K mg "_law_amount" st__law_amount P__law_amount
  d_Accounts_amount : MthF K (C.cls 0) "amount" "Accounts.amount" st_Accounts_amount P_Accounts_amount
  d_Accounts_move : MthF K (C.cls 0) "move" "Accounts.move" st_Accounts_move P_Accounts_move
  d_Accounts_names : MthF K (C.cls 0) "names" "Accounts.names" st_Accounts_names P_Accounts_names
  d_Accounts_total : MthF K (C.cls 0) "total" "Accounts.total" st_Accounts_total P_Accounts_total
  d__law_same : DefF K mg "_law_same" st__law_same P__law_same
  d_law : DefF K mg "law" st_law P_law
section
variable {P : Program} {w : World} {K : PySem.W.Frag} {mg : Str → Option Value} {base : Heap} {C : NC}
theorem ok__law_mix (T : Txt K mg C) : FunN P w K mg base C 1 "_law_mix" 2 m__law_mix := n_def T.d__law_mix sc__law_mix rfl fun fa cdv A outer s H E G =>
    (s_cons (s_asg (n_bin op_mod sndMod (n_callTy crInt sndInt T.b_int (by rfl) (n_cons (n_bin opAdd sndAdd (n_bin opAdd sndAdd (n_bin opMul sndMul (n_var 0) n_int) (n_bin opMul sndMul (n_var 1) n_int)) n_int) n_nil)) n_int) (g_name 2 sc__law_mix.nd))
    (s_one (s_ret (n_bin op_mod sndMod (n_callTy crInt sndInt T.b_int (by rfl) (n_cons (n_bin opAdd sndAdd (n_bin opAdd sndAdd (n_bin opMul sndMul (n_var 2) n_int) (n_bin opMul sndMul (n_var 1) n_int)) n_int) n_nil)) n_int))))
theorem ok__law_numbers (T : Txt K mg C) (h__law_mix : FunN P w K mg base C 1 "_law_mix" 2 m__law_mix) : FunN P w K mg base C 2 "_law_numbers" 2 m__law_numbers := n_def T.d__law_numbers sc__law_numbers rfl fun fa cdv A outer s H E G =>
    (s_cons (s_asg (n_lst n_nil) (g_name 2 sc__law_numbers.nd))
    (s_cons (s_asg (n_bin opAdd sndAdd (n_callB crLen sndLen T.b_len (by rfl) (n_cons (n_var 0) n_nil)) n_int) (g_name 3 sc__law_numbers.nd))
    (s_cons (s_forL G.po rfl (n_cut (n_var 0) n_noPart (n_part n_int)) (g_name 4 sc__law_numbers.nd) (s_cons (s_asg (n_callB call_abs sndAbs T.b_abs (by rfl) (n_cons (n_var 4) n_nil)) (g_name 6 sc__law_numbers.nd))
    (s_cons (s_asg (n_call h__law_mix G.room G.px rfl (n_cons (n_var 3) (n_cons (n_bin op_mod sndMod (n_callTy crInt sndInt T.b_int (by rfl) (n_cons (n_var 6) n_nil)) n_int) n_nil)) (hm := (nCons_len (nCons_len nNil_len)))) (g_name 3 sc__law_numbers.nd))
    (s_one (s_if (n_cmpT opGe sndOrd (n_var 6) (n_bin op_pow sndPow n_int n_int) (by rfl)) (s_one (s_for G.po rfl (n_range1 T.b_range (n_cons n_int n_nil) (hl := (nCons_len nNil_len))) (g_name 5 sc__law_numbers.nd) (s_one (s_if (n_cmpT opGt sndOrd (n_var 6) n_int (by rfl)) (s_cons (s_expr (n_bm PySem.F.plainAttrs_list PySem.F.slot_list_append PySem.F.type_list_append mt_append sndAppend (n_var 2) (n_cons (n_bin op_mod sndMod (n_callTy crInt sndInt T.b_int (by rfl) (n_cons (n_var 6) n_nil)) n_int) n_nil)))
    (s_one (s_asg (n_bin op_fdivW sndDiv (n_var 6) n_int) (g_name 6 sc__law_numbers.nd)))) s_nil)))) (s_one (s_for G.po rfl (n_range1 T.b_range (n_cons n_int n_nil) (hl := (nCons_len nNil_len))) (g_name 5 sc__law_numbers.nd) (s_one (s_expr (n_bm PySem.F.plainAttrs_list PySem.F.slot_list_append PySem.F.type_list_append mt_append sndAppend (n_var 2) (n_cons (n_bin op_mod sndMod (n_callTy crInt sndInt T.b_int (by rfl) (n_cons (n_call h__law_mix G.room G.px rfl (n_cons (n_var 6) (n_cons (n_bin opAdd sndAdd (n_var 5) n_int) n_nil)) (hm := (nCons_len (nCons_len nNil_len)))) n_nil)) n_int) n_nil)))))))))))
    (s_cons (s_for G.po rfl (n_range1 T.b_range (n_cons (n_var 1) n_nil) (hl := (nCons_len nNil_len))) (g_name 5 sc__law_numbers.nd) (s_one (s_if (n_cmpT opLt sndOrd (n_callB crLen sndLen T.b_len (by rfl) (n_cons (n_var 2) n_nil)) (n_var 1) (by rfl)) (s_cons (s_asg (n_call h__law_mix G.room G.px rfl (n_cons (n_var 3) (n_cons (n_bin opAdd sndAdd (n_var 5) n_int) n_nil)) (hm := (nCons_len (nCons_len nNil_len)))) (g_name 3 sc__law_numbers.nd))
    (s_one (s_expr (n_bm PySem.F.plainAttrs_list PySem.F.slot_list_append PySem.F.type_list_append mt_append sndAppend (n_var 2) (n_cons (n_bin op_mod sndMod (n_callTy crInt sndInt T.b_int (by rfl) (n_cons (n_var 3) n_nil)) n_int) n_nil))))) s_nil)))
    (s_one (s_ret (n_cut (n_var 2) n_noPart (n_part (n_var 1)))))))))
theorem ok__law_draws (T : Txt K mg C) (h__law_numbers : FunN P w K mg base C 2 "_law_numbers" 2 m__law_numbers) : FunN P w K mg base C 3 "_law_draws" 2 m__law_draws := n_def T.d__law_draws sc__law_draws rfl fun fa cdv A outer s H E G =>
    (s_one (s_ret (n_disp (d_cons n_str n_int (d_cons n_str (n_call h__law_numbers G.room G.px rfl (n_cons (n_var 0) (n_cons (n_var 1) n_nil)) (hm := (nCons_len (nCons_len nNil_len)))) d_nil)))))
theorem ok__law_take (T : Txt K mg C) : FunN P w K mg base C 1 "_law_take" 2 m__law_take := n_def T.d__law_take sc__law_take rfl fun fa cdv A outer s H E G =>
    (s_cons (s_asg (n_get G.u1 (n_var 0) n_str (fun _ _ => rfl)) (g_name 2 sc__law_take.nd))
    (s_cons (s_asg (n_get G.u1 (n_var 0) n_str (fun _ _ => rfl)) (g_name 3 sc__law_take.nd))
    (s_cons (s_put G.u1 (n_bin opAdd sndAdd (n_var 3) n_int) (n_var 0) n_str)
    (s_cons (s_asg (n_bin opAdd sndAdd (n_get G.u1 (n_var 2) (n_bin op_mod sndMod (n_callTy crInt sndInt T.b_int (by rfl) (n_cons (n_var 3) n_nil)) (n_callB crLen sndLen T.b_len (by rfl) (n_cons (n_var 2) n_nil))) (fun _ _ => rfl)) (n_bin op_fdivW sndDiv (n_var 3) (n_callB crLen sndLen T.b_len (by rfl) (n_cons (n_var 2) n_nil)))) (g_name 4 sc__law_take.nd))
    (s_one (s_ret (n_bin op_mod sndMod (n_callTy crInt sndInt T.b_int (by rfl) (n_cons (n_var 4) n_nil)) (n_var 1))))))))
theorem ok__law_name (T : Txt K mg C) (h__law_take : FunN P w K mg base C 1 "_law_take" 2 m__law_take) : FunN P w K mg base C 2 "_law_name" 2 m__law_name := n_def T.d__law_name sc__law_name rfl fun fa cdv A outer s H E G =>
    (s_cons (s_asg n_str (g_name 2 sc__law_name.nd))
    (s_cons (s_asg (n_bin opAdd sndAdd (n_var 2) n_str) (g_name 3 sc__law_name.nd))
    (s_cons (s_asg (n_get G.u1 (n_var 2) (n_call h__law_take G.room G.px rfl (n_cons (n_var 0) (n_cons n_int n_nil)) (hm := (nCons_len (nCons_len nNil_len)))) (fun _ _ => rfl)) (g_name 4 sc__law_name.nd))
    (s_cons (s_if (n_tru (n_var 1)) (s_one (s_asg (n_bm0 PySem.F.plainAttrs_str PySem.F.slot_str_upper PySem.F.type_str_upper mt_upper sndUpper (n_var 4)) (g_name 4 sc__law_name.nd))) s_nil)
    (s_cons (s_asg (n_call h__law_take G.room G.px rfl (n_cons (n_var 0) (n_cons n_int n_nil)) (hm := (nCons_len (nCons_len nNil_len)))) (g_name 5 sc__law_name.nd))
    (s_cons (s_if (n_cmpT (opEq G.u64) sndEq (n_call h__law_take G.room G.px rfl (n_cons (n_var 0) (n_cons n_int n_nil)) (hm := (nCons_len (nCons_len nNil_len)))) n_int (by rfl)) (s_one (s_asg n_int (g_name 5 sc__law_name.nd))) s_nil)
    (s_cons (s_asg (n_bm PySem.F.plainAttrs_str PySem.F.slot_str_join PySem.F.type_str_join mt_join sndJoin n_str (n_cons (n_lc (own := [("_law_k", 8)]) rfl sc__law_name.nd (blkOk_by (N := N__law_name) (sc := defScope st__law_name) (own := [("_law_k", 8)]) (by decide +kernel)) (by decide) (n_range1 T.b_range (n_cons (n_var 5) n_nil) (hl := (nCons_len nNil_len))) (fun _ _ _ _ _ => (g_name 8 sc__law_name.nd)) (fun _ _ _ _ _ => n_noif) (fun _ _ _ _ _ => (n_get G.u1 (n_var 3) (n_call h__law_take G.room px0 rfl (n_cons (n_var 0) (n_cons n_int n_nil)) (hm := (nCons_len (nCons_len nNil_len)))) (fun _ _ => rfl)))) n_nil)) (g_name 6 sc__law_name.nd))
    (s_cons (s_asg (n_bm PySem.F.plainAttrs_str PySem.F.slot_str_split PySem.F.type_str_split mt_split sndSplit n_str (n_cons n_str n_nil)) (g_name 7 sc__law_name.nd))
    (s_cons (s_if (n_cmpT (opIn G.u65) sndIn (n_bin opAdd sndAdd (n_var 4) (n_var 6)) (n_var 7) (by rfl)) (s_one (s_ret (n_bin opAdd sndAdd (n_var 4) n_str))) s_nil)
    (s_one (s_ret (n_bin opAdd sndAdd (n_var 4) (n_var 6)))))))))))))
theorem ok__law_pool (T : Txt K mg C) (h__law_name : FunN P w K mg base C 2 "_law_name" 2 m__law_name) : FunN P w K mg base C 3 "_law_pool" 3 m__law_pool := n_def T.d__law_pool sc__law_pool rfl fun fa cdv A outer s H E G =>
    (s_cons (s_asg (n_lst n_nil) (g_name 3 sc__law_pool.nd))
    (s_cons (s_for G.po rfl (n_range1 T.b_range (n_cons (n_var 2) n_nil) (hl := (nCons_len nNil_len))) (g_name 4 sc__law_pool.nd) (s_cons (s_asg (n_call h__law_name G.room G.px rfl (n_cons (n_var 0) (n_cons (n_var 1) n_nil)) (hm := (nCons_len (nCons_len nNil_len)))) (g_name 5 sc__law_pool.nd))
    (s_cons (s_asg (n_cut (n_var 5) n_noPart (n_part n_int)) (g_name 6 sc__law_pool.nd))
    (s_cons (s_for G.po rfl (n_range1 T.b_range (n_cons (n_bin opAdd sndAdd (n_var 2) n_int) n_nil) (hl := (nCons_len nNil_len))) (g_name 7 sc__law_pool.nd) (s_one (s_if (n_cmpT (opIn G.u65) sndIn (n_var 5) (n_var 3) (by rfl)) (s_one (s_asg (n_bin opAdd sndAdd (n_bin opAdd sndAdd (n_var 6) n_str) (n_callTy call_str_int sndStr T.b_str (by rfl) (n_cons (n_var 7) n_nil))) (g_name 5 sc__law_pool.nd))) s_nil)))
    (s_one (s_expr (n_bm PySem.F.plainAttrs_list PySem.F.slot_list_append PySem.F.type_list_append mt_append sndAppend (n_var 3) (n_cons (n_var 5) n_nil))))))))
    (s_one (s_ret (n_var 3)))))
theorem ok_Accounts_init (T : Txt K mg C) : MakN P w K mg base C 1 0 "Accounts" 2 m_Accounts_init := n_mak T.d_Accounts_init sc_Accounts_init rfl fun fa cdv A outer s H E G =>
    (s_one (s_fldput T.at_held T.nm_held (n_callTy call_dictD sndDict T.b_dict (by rfl) (n_cons (n_var 1) n_nil)) (n_var 0)))
theorem ok_Accounts_copy (T : Txt K mg C) (h_Accounts_init : MakN P w K mg base C 1 0 "Accounts" 2 m_Accounts_init) : MthN P w K mg base C 3 0 "copy" 1 m_Accounts_copy := n_mth T.d_Accounts_copy T.c_Accounts T.no_copy sc_Accounts_copy rfl fun fa cdv A outer s H E G =>
    (s_one (s_ret (n_make h_Accounts_init G.room G.px (n_cons (n_fld T.at_held T.nm_held (n_var 0)) n_nil) (nCons_len nNil_len))))
theorem ok__law_amount (T : Txt K mg C) (h__law_take : FunN P w K mg base C 1 "_law_take" 2 m__law_take) : FunN P w K mg base C 2 "_law_amount" 2 m__law_amount := n_def T.d__law_amount sc__law_amount rfl fun fa cdv A outer s H E G =>
    (s_cons (s_asg (n_call h__law_take G.room G.px rfl (n_cons (n_var 0) (n_cons n_int n_nil)) (hm := (nCons_len (nCons_len nNil_len)))) (g_name 2 sc__law_amount.nd))
    (s_cons (s_if (n_cmpT (opEq G.u64) sndEq (n_var 2) n_int (by rfl)) (s_one (s_ret (n_var 1))) s_nil)
    (s_cons (s_if (n_cmpT (opEq G.u64) sndEq (n_var 2) n_int (by rfl)) (s_one (s_ret (n_bin opAdd sndAdd (n_var 1) n_int))) s_nil)
    (s_cons (s_if (n_cmpT (opEq G.u64) sndEq (n_var 2) n_int (by rfl)) (s_one (s_ret (n_bin op_sub sndSub (n_un un_neg sndNeg n_int) (n_call h__law_take G.room G.px rfl (n_cons (n_var 0) (n_cons n_int n_nil)) (hm := (nCons_len (nCons_len nNil_len))))))) s_nil)
    (s_cons (s_if (n_cmpT (opEq G.u64) sndEq (n_var 2) n_int (by rfl)) (s_one (s_ret n_int)) s_nil)
    (s_one (s_ret (n_call h__law_take G.room G.px rfl (n_cons (n_var 0) (n_cons (n_bin opAdd sndAdd (n_var 1) n_int) n_nil)) (hm := (nCons_len (nCons_len nNil_len)))))))))))
theorem ok_Accounts_amount (T : Txt K mg C) : MthN P w K mg base C 1 0 "amount" 2 m_Accounts_amount := n_mth T.d_Accounts_amount T.c_Accounts T.no_amount sc_Accounts_amount rfl fun fa cdv A outer s H E G =>
    (s_one (s_ret (n_dget2 G.u1 (n_fld T.at_held T.nm_held (n_var 0)) (n_var 1) n_int ⟨rfl, rfl, rfl, rfl⟩)))
theorem ok_Accounts_move (T : Txt K mg C) (h_Accounts_amount : MthN P w K mg base C 1 0 "amount" 2 m_Accounts_amount) : MthN P w K mg base C 2 0 "move" 4 m_Accounts_move := n_mth T.d_Accounts_move T.c_Accounts T.no_move sc_Accounts_move rfl fun fa cdv A outer s H E G =>
    (s_cons (s_if (PW.pt (n_orT (n_cmpT opLt sndOrd (n_var 3) n_int (by rfl)) (n_orT1 (n_cmpT opGt sndOrd (n_var 3) (n_meth (MthsN.cons h_Accounts_amount MthsN.nil) G.room G.px (n_var 0) (n_cons (n_var 1) n_nil) (nCons_len nNil_len)) (by rfl))))) (s_one (s_ret n_bl)) s_nil)
    (s_cons (s_put G.u1 (n_bin op_sub sndSub (n_meth (MthsN.cons h_Accounts_amount MthsN.nil) G.room G.px (n_var 0) (n_cons (n_var 1) n_nil) (nCons_len nNil_len)) (n_var 3)) (n_fld T.at_held T.nm_held (n_var 0)) (n_var 1))
    (s_cons (s_put G.u1 (n_bin opAdd sndAdd (n_meth (MthsN.cons h_Accounts_amount MthsN.nil) G.room G.px (n_var 0) (n_cons (n_var 2) n_nil) (nCons_len nNil_len)) (n_var 3)) (n_fld T.at_held T.nm_held (n_var 0)) (n_var 2))
    (s_one (s_ret n_bl)))))
theorem ok_Accounts_names (T : Txt K mg C) : MthN P w K mg base C 1 0 "names" 1 m_Accounts_names := n_mth T.d_Accounts_names T.c_Accounts T.no_names sc_Accounts_names rfl fun fa cdv A outer s H E G =>
    (s_one (s_ret (n_callB (crSorted rfl) sndSorted T.b_sorted (by rfl) (n_cons (n_lcL (own := [("name", 1)]) rfl sc_Accounts_names.nd (blkOk_by (N := N_Accounts_names) (sc := defScope st_Accounts_names) (own := [("name", 1)]) (by decide +kernel)) (by decide) (n_fld T.at_held T.nm_held (n_var 0)) (fun _ _ _ _ _ => (g_name 1 sc_Accounts_names.nd)) (fun _ _ _ _ _ => (n_oneif (n_cmpT opGt sndOrd (n_get G.u1 (n_fld T.at_held T.nm_held (n_var 0)) (n_var 1) (fun _ _ => rfl)) n_int (by rfl)))) (fun _ _ _ _ _ => (n_var 1))) n_nil))))
theorem ok_Accounts_total (T : Txt K mg C) : MthN P w K mg base C 1 0 "total" 1 m_Accounts_total := n_mth T.d_Accounts_total T.c_Accounts T.no_total sc_Accounts_total rfl fun fa cdv A outer s H E G =>
    (s_one (s_ret (n_callB (cr_sum rfl) sndSum T.b_sum (by rfl) (n_cons (n_lcL (own := [("name", 1)]) rfl sc_Accounts_total.nd (blkOk_by (N := N_Accounts_total) (sc := defScope st_Accounts_total) (own := [("name", 1)]) (by decide +kernel)) (by decide) (n_fld T.at_held T.nm_held (n_var 0)) (fun _ _ _ _ _ => (g_name 1 sc_Accounts_total.nd)) (fun _ _ _ _ _ => n_noif) (fun _ _ _ _ _ => (n_get G.u1 (n_fld T.at_held T.nm_held (n_var 0)) (n_var 1) (fun _ _ => rfl)))) n_nil))))
theorem ok__law_same (T : Txt K mg C) (h_Accounts_amount : MthN P w K mg base C 1 0 "amount" 2 m_Accounts_amount) (h_Accounts_names : MthN P w K mg base C 1 0 "names" 1 m_Accounts_names) (h_Accounts_total : MthN P w K mg base C 1 0 "total" 1 m_Accounts_total) : FunN P w K mg base C 2 "_law_same" 3 m__law_same := n_def T.d__law_same sc__law_same rfl fun fa cdv A outer s H E G =>
    (s_cons (s_forL G.po rfl (n_var 2) (g_name 3 sc__law_same.nd) (s_cons (s_asg (n_meth (MthsN.cons h_Accounts_amount MthsN.nil) G.room G.px (n_var 0) (n_cons (n_var 3) n_nil) (nCons_len nNil_len)) (g_name 4 sc__law_same.nd))
    (s_one (s_if (PW.pt (n_orT (n_notT (n_tru (n_isi .int T.b_isinstance T.b_int (by rfl) (n_var 4)))) (n_orT (n_tru (n_isi .bl T.b_isinstance T.b_bool (by rfl) (n_var 4))) (n_orT1 (n_cmpT (opNe G.u64) sndNe (n_var 4) (n_dget2 G.u1 (n_var 1) (n_var 3) n_int ⟨rfl, rfl, rfl, rfl⟩) (by rfl)))))) (s_one (s_ret n_bl)) s_nil))))
    (s_cons (s_if (n_cmpT (opNe G.u64) sndNe (n_meth0 (MthsN.cons h_Accounts_names MthsN.nil) G.room G.px (n_var 0)) (n_callB (crSorted rfl) sndSorted T.b_sorted (by rfl) (n_cons (n_lcL (own := [("_law_name_here", 3)]) rfl sc__law_same.nd (blkOk_by (N := N__law_same) (sc := defScope st__law_same) (own := [("_law_name_here", 3)]) (by decide +kernel)) (by decide) (n_var 1) (fun _ _ _ _ _ => (g_name 3 sc__law_same.nd)) (fun _ _ _ _ _ => (n_oneif (n_cmpT opGt sndOrd (n_get G.u1 (n_var 1) (n_var 3) (fun _ _ => rfl)) n_int (by rfl)))) (fun _ _ _ _ _ => (n_var 3))) n_nil)) (by rfl)) (s_one (s_ret n_bl)) s_nil)
    (s_one (s_ret (n_cmp (opEq G.u64) sndEq (n_meth0 (MthsN.cons h_Accounts_total MthsN.nil) G.room G.px (n_var 0)) (n_callB (cr_sum rfl) sndSum T.b_sum (by rfl) (n_cons (n_lcL (own := [("_law_name_here", 3)]) rfl sc__law_same.nd (blkOk_by (N := N__law_same) (sc := defScope st__law_same) (own := [("_law_name_here", 3)]) (by decide +kernel)) (by decide) (n_var 1) (fun _ _ _ _ _ => (g_name 3 sc__law_same.nd)) (fun _ _ _ _ _ => n_noif) (fun _ _ _ _ _ => (n_get G.u1 (n_var 1) (n_var 3) (fun _ _ => rfl)))) n_nil)) (by rfl))))))
theorem ok_law (T : Txt K mg C) (h__law_draws : FunN P w K mg base C 3 "_law_draws" 2 m__law_draws) (h__law_pool : FunN P w K mg base C 3 "_law_pool" 3 m__law_pool) (h__law_take : FunN P w K mg base C 1 "_law_take" 2 m__law_take) (h_Accounts_init : MakN P w K mg base C 1 0 "Accounts" 2 m_Accounts_init) (h_Accounts_copy : MthN P w K mg base C 3 0 "copy" 1 m_Accounts_copy) (h__law_amount : FunN P w K mg base C 2 "_law_amount" 2 m__law_amount) (h_Accounts_move : MthN P w K mg base C 2 0 "move" 4 m_Accounts_move) (h__law_same : FunN P w K mg base C 2 "_law_same" 3 m__law_same) {f : Addr} {fd : FuncData} (F : L2.Fun K "law" "law" st_law f fd) : FnOk P w K mg base (L2.CX P w) 4 f fd P_law (spN K C 1 m_law) := n_fun F sc_law rfl fun cdv A outer s H E G =>
    (s_cons (s_asg (n_call h__law_draws G.room G.px rfl (n_cons (n_var 0) (n_cons n_int n_nil)) (hm := (nCons_len (nCons_len nNil_len)))) (g_name 1 sc_law.nd))
    (s_cons (s_asg (n_call h__law_pool G.room G.px rfl (n_cons (n_var 1) (n_cons n_bl (n_cons n_int n_nil))) (hm := (nCons_len (nCons_len (nCons_len nNil_len))))) (g_name 2 sc_law.nd))
    (s_cons (s_asg n_dK (g_name 3 sc_law.nd))
    (s_cons (s_forL G.po rfl (n_cut (n_var 2) n_noPart (n_part (n_call h__law_take G.room G.px rfl (n_cons (n_var 1) (n_cons n_int n_nil)) (hm := (nCons_len (nCons_len nNil_len)))))) (g_name 4 sc_law.nd) (s_one (s_put G.u1 (n_bin opMul sndMul (n_call h__law_take G.room G.px rfl (n_cons (n_var 1) (n_cons n_int n_nil)) (hm := (nCons_len (nCons_len nNil_len)))) (n_get G.u1 (n_lst (n_cons n_int (n_cons n_int (n_cons n_int n_nil)))) (n_call h__law_take G.room G.px rfl (n_cons (n_var 1) (n_cons n_int n_nil)) (hm := (nCons_len (nCons_len nNil_len)))) (fun _ _ => rfl))) (n_var 3) (n_var 4))))
    (s_cons (s_asg (n_callTy call_dictD sndDict T.b_dict (by rfl) (n_cons (n_var 3) n_nil)) (g_name 5 sc_law.nd))
    (s_cons (s_asg (n_make h_Accounts_init G.room G.px (n_cons (n_var 3) n_nil) (nCons_len nNil_len)) (g_name 6 sc_law.nd))
    (s_cons (s_asg (n_meth0 (MthsN.cons h_Accounts_copy MthsN.nil) G.room G.px (n_var 6)) (g_name 7 sc_law.nd))
    (s_cons (s_asg (n_callTy call_dictD sndDict T.b_dict (by rfl) (n_cons (n_var 5) n_nil)) (g_name 8 sc_law.nd))
    (s_cons (s_for G.po rfl (n_range1 T.b_range (n_cons (n_call h__law_take G.room G.px rfl (n_cons (n_var 1) (n_cons n_int n_nil)) (hm := (nCons_len (nCons_len nNil_len)))) n_nil) (hl := (nCons_len nNil_len))) (g_name 9 sc_law.nd) (s_cons (s_asg (n_get G.u1 (n_var 2) (n_call h__law_take G.room G.px rfl (n_cons (n_var 1) (n_cons n_int n_nil)) (hm := (nCons_len (nCons_len nNil_len)))) (fun _ _ => rfl)) (g_name 10 sc_law.nd))
    (s_cons (s_asg (n_get G.u1 (n_var 2) (n_call h__law_take G.room G.px rfl (n_cons (n_var 1) (n_cons n_int n_nil)) (hm := (nCons_len (nCons_len nNil_len)))) (fun _ _ => rfl)) (g_name 11 sc_law.nd))
    (s_cons (s_asg (n_call h__law_amount G.room G.px rfl (n_cons (n_var 1) (n_cons (n_dget2 G.u1 (n_var 5) (n_var 10) n_int ⟨rfl, rfl, rfl, rfl⟩) n_nil)) (hm := (nCons_len (nCons_len nNil_len)))) (g_name 12 sc_law.nd))
    (s_cons (s_asg (n_chain opLe sndOrd opLe sndOrd n_int (n_var 12) (n_dget2 G.u1 (n_var 5) (n_var 10) n_int ⟨rfl, rfl, rfl, rfl⟩)) (g_name 13 sc_law.nd))
    (s_cons (s_asg (n_meth (MthsN.cons h_Accounts_move MthsN.nil) G.room G.px (n_var 6) (n_cons (n_var 10) (n_cons (n_var 11) (n_cons (n_var 12) n_nil))) (nCons_len (nCons_len (nCons_len nNil_len)))) (g_name 14 sc_law.nd))
    (s_cons (s_if (PW.pt (n_orT (n_notT (n_tru (n_isi .bl T.b_isinstance T.b_bool (by rfl) (n_var 14)))) (n_orT1 (n_cmpT (opNe G.u64) sndNe (n_var 14) (n_var 13) (by rfl))))) (s_one (s_ret n_bl)) s_nil)
    (s_cons (s_if (n_tru (n_var 13)) (s_cons (s_put G.u1 (n_bin op_sub sndSub (n_dget2 G.u1 (n_var 5) (n_var 10) n_int ⟨rfl, rfl, rfl, rfl⟩) (n_var 12)) (n_var 5) (n_var 10))
    (s_one (s_put G.u1 (n_bin opAdd sndAdd (n_dget2 G.u1 (n_var 5) (n_var 11) n_int ⟨rfl, rfl, rfl, rfl⟩) (n_var 12)) (n_var 5) (n_var 11)))) s_nil)
    (s_cons (s_if (PW.pt (n_orT (n_notT (n_tru (n_call h__law_same G.room G.px rfl (n_cons (n_var 6) (n_cons (n_var 5) (n_cons (n_var 2) n_nil))) (hm := (nCons_len (nCons_len (nCons_len nNil_len))))))) (n_orT1 (n_notT (n_tru (n_call h__law_same G.room G.px rfl (n_cons (n_var 7) (n_cons (n_var 8) (n_cons (n_var 2) n_nil))) (hm := (nCons_len (nCons_len (nCons_len nNil_len)))))))))) (s_one (s_ret n_bl)) s_nil)
    (s_one (s_if (n_cmpT (opEq G.u64) sndEq (n_call h__law_take G.room G.px rfl (n_cons (n_var 1) (n_cons n_int n_nil)) (hm := (nCons_len (nCons_len nNil_len)))) n_int (by rfl)) (s_cons (s_asg (n_meth0 (MthsN.cons h_Accounts_copy MthsN.nil) G.room G.px (n_var 6)) (g_name 7 sc_law.nd))
    (s_one (s_asg (n_callTy call_dictD sndDict T.b_dict (by rfl) (n_cons (n_var 5) n_nil)) (g_name 8 sc_law.nd)))) s_nil)))))))))))
    (s_cons (s_put G.u1 n_int (n_var 3) n_str)
    (s_one (s_ret (n_call h__law_same G.room G.px rfl (n_cons (n_var 6) (n_cons (n_var 5) (n_cons (n_bin opAdd sndAdd (n_var 2) (n_lst (n_cons n_str n_nil))) n_nil))) (hm := (nCons_len (nCons_len (nCons_len nNil_len)))))))))))))))))
theorem ok_all (T : Txt K mg C) {f : Addr} {fd : FuncData} (F : L2.Fun K "law" "law" st_law f fd) : FnOk P w K mg base (L2.CX P w) 4 f fd P_law (spN K C 1 m_law) := by
  have h__law_mix := ok__law_mix (P := P) (w := w) (base := base) T
  have h__law_numbers := ok__law_numbers (P := P) (w := w) (base := base) T h__law_mix
  have h__law_draws := ok__law_draws (P := P) (w := w) (base := base) T h__law_numbers
  have h__law_take := ok__law_take (P := P) (w := w) (base := base) T
  have h__law_name := ok__law_name (P := P) (w := w) (base := base) T h__law_take
  have h__law_pool := ok__law_pool (P := P) (w := w) (base := base) T h__law_name
  have h_Accounts_init := ok_Accounts_init (P := P) (w := w) (base := base) T
  have h_Accounts_copy := ok_Accounts_copy (P := P) (w := w) (base := base) T h_Accounts_init
  have h__law_amount := ok__law_amount (P := P) (w := w) (base := base) T h__law_take
  have h_Accounts_amount := ok_Accounts_amount (P := P) (w := w) (base := base) T
  have h_Accounts_move := ok_Accounts_move (P := P) (w := w) (base := base) T h_Accounts_amount
  have h_Accounts_names := ok_Accounts_names (P := P) (w := w) (base := base) T
  have h_Accounts_total := ok_Accounts_total (P := P) (w := w) (base := base) T
  have h__law_same := ok__law_same (P := P) (w := w) (base := base) T h_Accounts_amount h_Accounts_names h_Accounts_total
  exact ok_law (P := P) (w := w) (base := base) T h__law_draws h__law_pool h__law_take h_Accounts_init h_Accounts_copy h__law_amount h_Accounts_move h__law_same F
end
end K40

set_option Elab.async false
set_option linter.all false
set_option maxRecDepth 100000
set_option maxHeartbeats 4000000
namespace K40
open NY PySem PySem.Spec PyProof.Rows L2
theorem all_mk {l : PySem.W.OpenLaw} {w : World} {K : PySem.W.Frag} {h : Heap} {mg : Str → Option Value} {fa : Addr} (X : K.In h) (G : h.Ns mainGlobals mg) (hfa : mg "law" = some (.ref fa))
    {C_Accounts : Addr}
    {f__law_mix : Addr} {od__law_mix an__law_mix : Option Addr} {sl__law_mix : Array (Option Value)} {oc__law_mix kV__law_mix dc__law_mix pm__law_mix cd__law_mix ct__law_mix : Value}
    {f__law_numbers : Addr} {od__law_numbers an__law_numbers : Option Addr} {sl__law_numbers : Array (Option Value)} {oc__law_numbers kV__law_numbers dc__law_numbers pm__law_numbers cd__law_numbers ct__law_numbers : Value}
    {f__law_draws : Addr} {od__law_draws an__law_draws : Option Addr} {sl__law_draws : Array (Option Value)} {oc__law_draws kV__law_draws dc__law_draws pm__law_draws cd__law_draws ct__law_draws : Value}
    {f__law_take : Addr} {od__law_take an__law_take : Option Addr} {sl__law_take : Array (Option Value)} {oc__law_take kV__law_take dc__law_take pm__law_take cd__law_take ct__law_take : Value}
    {f__law_name : Addr} {od__law_name an__law_name : Option Addr} {sl__law_name : Array (Option Value)} {oc__law_name kV__law_name dc__law_name pm__law_name cd__law_name ct__law_name : Value}
    {f__law_pool : Addr} {od__law_pool an__law_pool : Option Addr} {sl__law_pool : Array (Option Value)} {oc__law_pool kV__law_pool dc__law_pool pm__law_pool cd__law_pool ct__law_pool : Value}
    {f_Accounts_init : Addr} {od_Accounts_init an_Accounts_init : Option Addr} {sl_Accounts_init : Array (Option Value)} {oc_Accounts_init kV_Accounts_init dc_Accounts_init pm_Accounts_init cd_Accounts_init ct_Accounts_init : Value}
    {f_Accounts_copy : Addr} {od_Accounts_copy an_Accounts_copy : Option Addr} {sl_Accounts_copy : Array (Option Value)} {oc_Accounts_copy kV_Accounts_copy dc_Accounts_copy pm_Accounts_copy cd_Accounts_copy ct_Accounts_copy : Value}
    {f__law_amount : Addr} {od__law_amount an__law_amount : Option Addr} {sl__law_amount : Array (Option Value)} {oc__law_amount kV__law_amount dc__law_amount pm__law_amount cd__law_amount ct__law_amount : Value}
    {f_Accounts_amount : Addr} {od_Accounts_amount an_Accounts_amount : Option Addr} {sl_Accounts_amount : Array (Option Value)} {oc_Accounts_amount kV_Accounts_amount dc_Accounts_amount pm_Accounts_amount cd_Accounts_amount ct_Accounts_amount : Value}
    {f_Accounts_move : Addr} {od_Accounts_move an_Accounts_move : Option Addr} {sl_Accounts_move : Array (Option Value)} {oc_Accounts_move kV_Accounts_move dc_Accounts_move pm_Accounts_move cd_Accounts_move ct_Accounts_move : Value}
    {f_Accounts_names : Addr} {od_Accounts_names an_Accounts_names : Option Addr} {sl_Accounts_names : Array (Option Value)} {oc_Accounts_names kV_Accounts_names dc_Accounts_names pm_Accounts_names cd_Accounts_names ct_Accounts_names : Value}
    {f_Accounts_total : Addr} {od_Accounts_total an_Accounts_total : Option Addr} {sl_Accounts_total : Array (Option Value)} {oc_Accounts_total kV_Accounts_total dc_Accounts_total pm_Accounts_total cd_Accounts_total ct_Accounts_total : Value}
    {f__law_same : Addr} {od__law_same an__law_same : Option Addr} {sl__law_same : Array (Option Value)} {oc__law_same kV__law_same dc__law_same pm__law_same cd__law_same ct__law_same : Value}
    {f_law : Addr} {od_law an_law : Option Addr} {sl_law : Array (Option Value)} {oc_law kV_law dc_law pm_law cd_law ct_law : Value}
    (gC_Accounts : PySem.W.nsIn K mainGlobals "Accounts" = some (some (.ref C_Accounts)))
    (pg_Accounts : PySem.W.plainGet K C_Accounts Str.empty = true)
    (hd_Accounts : PySem.W.hasDictIn K C_Accounts = true)
    (po_Accounts : PySem.W.plainOver K C_Accounts = true)
    (sa_Accounts : PySem.W.findIn K (.ref C_Accounts) "__setattr__" = some (some (.builtin "object.__setattr__")))
    (nA_Accounts_held : PySem.W.findIn K (.ref C_Accounts) "held" = some none)
    (a__law_mix : PySem.W.nsIn K mainGlobals "_law_mix" = some (some (.ref f__law_mix)))
    (l__law_mix : K.lookup f__law_mix = some ⟨oc__law_mix, od__law_mix, .func (PySem.W.fnOf "_law_mix" "_law_mix" (defArgs st__law_mix) (defBody st__law_mix) (defScope st__law_mix) .none kV__law_mix dc__law_mix pm__law_mix an__law_mix cd__law_mix ct__law_mix), sl__law_mix⟩)
    (c__law_mix : PySem.W.codeIn K cd__law_mix "_law_mix" = true)
    (k__law_mix : PySem.W.keepIn K (.ref f__law_mix) = true)
    (a__law_numbers : PySem.W.nsIn K mainGlobals "_law_numbers" = some (some (.ref f__law_numbers)))
    (l__law_numbers : K.lookup f__law_numbers = some ⟨oc__law_numbers, od__law_numbers, .func (PySem.W.fnOf "_law_numbers" "_law_numbers" (defArgs st__law_numbers) (defBody st__law_numbers) (defScope st__law_numbers) .none kV__law_numbers dc__law_numbers pm__law_numbers an__law_numbers cd__law_numbers ct__law_numbers), sl__law_numbers⟩)
    (c__law_numbers : PySem.W.codeIn K cd__law_numbers "_law_numbers" = true)
    (k__law_numbers : PySem.W.keepIn K (.ref f__law_numbers) = true)
    (a__law_draws : PySem.W.nsIn K mainGlobals "_law_draws" = some (some (.ref f__law_draws)))
    (l__law_draws : K.lookup f__law_draws = some ⟨oc__law_draws, od__law_draws, .func (PySem.W.fnOf "_law_draws" "_law_draws" (defArgs st__law_draws) (defBody st__law_draws) (defScope st__law_draws) .none kV__law_draws dc__law_draws pm__law_draws an__law_draws cd__law_draws ct__law_draws), sl__law_draws⟩)
    (c__law_draws : PySem.W.codeIn K cd__law_draws "_law_draws" = true)
    (k__law_draws : PySem.W.keepIn K (.ref f__law_draws) = true)
    (a__law_take : PySem.W.nsIn K mainGlobals "_law_take" = some (some (.ref f__law_take)))
    (l__law_take : K.lookup f__law_take = some ⟨oc__law_take, od__law_take, .func (PySem.W.fnOf "_law_take" "_law_take" (defArgs st__law_take) (defBody st__law_take) (defScope st__law_take) .none kV__law_take dc__law_take pm__law_take an__law_take cd__law_take ct__law_take), sl__law_take⟩)
    (c__law_take : PySem.W.codeIn K cd__law_take "_law_take" = true)
    (k__law_take : PySem.W.keepIn K (.ref f__law_take) = true)
    (a__law_name : PySem.W.nsIn K mainGlobals "_law_name" = some (some (.ref f__law_name)))
    (l__law_name : K.lookup f__law_name = some ⟨oc__law_name, od__law_name, .func (PySem.W.fnOf "_law_name" "_law_name" (defArgs st__law_name) (defBody st__law_name) (defScope st__law_name) .none kV__law_name dc__law_name pm__law_name an__law_name cd__law_name ct__law_name), sl__law_name⟩)
    (c__law_name : PySem.W.codeIn K cd__law_name "_law_name" = true)
    (k__law_name : PySem.W.keepIn K (.ref f__law_name) = true)
    (a__law_pool : PySem.W.nsIn K mainGlobals "_law_pool" = some (some (.ref f__law_pool)))
    (l__law_pool : K.lookup f__law_pool = some ⟨oc__law_pool, od__law_pool, .func (PySem.W.fnOf "_law_pool" "_law_pool" (defArgs st__law_pool) (defBody st__law_pool) (defScope st__law_pool) .none kV__law_pool dc__law_pool pm__law_pool an__law_pool cd__law_pool ct__law_pool), sl__law_pool⟩)
    (c__law_pool : PySem.W.codeIn K cd__law_pool "_law_pool" = true)
    (k__law_pool : PySem.W.keepIn K (.ref f__law_pool) = true)
    (a_Accounts_init : PySem.W.findIn K (.ref C_Accounts) "__init__" = some (some (.ref f_Accounts_init)))
    (i_Accounts_init : PySem.W.isFn K (.ref f_Accounts_init) = true)
    (mk_Accounts_init : PySem.W.makesIn K C_Accounts = true)
    (kc_Accounts_init : PySem.W.keepIn K (.ref C_Accounts) = true)
    (l_Accounts_init : K.lookup f_Accounts_init = some ⟨oc_Accounts_init, od_Accounts_init, .func (PySem.W.fnOf "__init__" "Accounts.__init__" (defArgs st_Accounts_init) (defBody st_Accounts_init) (defScope st_Accounts_init) .none kV_Accounts_init dc_Accounts_init pm_Accounts_init an_Accounts_init cd_Accounts_init ct_Accounts_init), sl_Accounts_init⟩)
    (c_Accounts_init : PySem.W.codeIn K cd_Accounts_init "Accounts.__init__" = true)
    (k_Accounts_init : PySem.W.keepIn K (.ref f_Accounts_init) = true)
    (a_Accounts_copy : PySem.W.findIn K (.ref C_Accounts) "copy" = some (some (.ref f_Accounts_copy)))
    (i_Accounts_copy : PySem.W.isFn K (.ref f_Accounts_copy) = true)
    (l_Accounts_copy : K.lookup f_Accounts_copy = some ⟨oc_Accounts_copy, od_Accounts_copy, .func (PySem.W.fnOf "copy" "Accounts.copy" (defArgs st_Accounts_copy) (defBody st_Accounts_copy) (defScope st_Accounts_copy) .none kV_Accounts_copy dc_Accounts_copy pm_Accounts_copy an_Accounts_copy cd_Accounts_copy ct_Accounts_copy), sl_Accounts_copy⟩)
    (c_Accounts_copy : PySem.W.codeIn K cd_Accounts_copy "Accounts.copy" = true)
    (k_Accounts_copy : PySem.W.keepIn K (.ref f_Accounts_copy) = true)
    (a__law_amount : PySem.W.nsIn K mainGlobals "_law_amount" = some (some (.ref f__law_amount)))
    (l__law_amount : K.lookup f__law_amount = some ⟨oc__law_amount, od__law_amount, .func (PySem.W.fnOf "_law_amount" "_law_amount" (defArgs st__law_amount) (defBody st__law_amount) (defScope st__law_amount) .none kV__law_amount dc__law_amount pm__law_amount an__law_amount cd__law_amount ct__law_amount), sl__law_amount⟩)
    (c__law_amount : PySem.W.codeIn K cd__law_amount "_law_amount" = true)
    (k__law_amount : PySem.W.keepIn K (.ref f__law_amount) = true)
    (a_Accounts_amount : PySem.W.findIn K (.ref C_Accounts) "amount" = some (some (.ref f_Accounts_amount)))
    (i_Accounts_amount : PySem.W.isFn K (.ref f_Accounts_amount) = true)
    (l_Accounts_amount : K.lookup f_Accounts_amount = some ⟨oc_Accounts_amount, od_Accounts_amount, .func (PySem.W.fnOf "amount" "Accounts.amount" (defArgs st_Accounts_amount) (defBody st_Accounts_amount) (defScope st_Accounts_amount) .none kV_Accounts_amount dc_Accounts_amount pm_Accounts_amount an_Accounts_amount cd_Accounts_amount ct_Accounts_amount), sl_Accounts_amount⟩)
    (c_Accounts_amount : PySem.W.codeIn K cd_Accounts_amount "Accounts.amount" = true)
    (k_Accounts_amount : PySem.W.keepIn K (.ref f_Accounts_amount) = true)
    (a_Accounts_move : PySem.W.findIn K (.ref C_Accounts) "move" = some (some (.ref f_Accounts_move)))
    (i_Accounts_move : PySem.W.isFn K (.ref f_Accounts_move) = true)
    (l_Accounts_move : K.lookup f_Accounts_move = some ⟨oc_Accounts_move, od_Accounts_move, .func (PySem.W.fnOf "move" "Accounts.move" (defArgs st_Accounts_move) (defBody st_Accounts_move) (defScope st_Accounts_move) .none kV_Accounts_move dc_Accounts_move pm_Accounts_move an_Accounts_move cd_Accounts_move ct_Accounts_move), sl_Accounts_move⟩)
    (c_Accounts_move : PySem.W.codeIn K cd_Accounts_move "Accounts.move" = true)
    (k_Accounts_move : PySem.W.keepIn K (.ref f_Accounts_move) = true)
    (a_Accounts_names : PySem.W.findIn K (.ref C_Accounts) "names" = some (some (.ref f_Accounts_names)))
    (i_Accounts_names : PySem.W.isFn K (.ref f_Accounts_names) = true)
    (l_Accounts_names : K.lookup f_Accounts_names = some ⟨oc_Accounts_names, od_Accounts_names, .func (PySem.W.fnOf "names" "Accounts.names" (defArgs st_Accounts_names) (defBody st_Accounts_names) (defScope st_Accounts_names) .none kV_Accounts_names dc_Accounts_names pm_Accounts_names an_Accounts_names cd_Accounts_names ct_Accounts_names), sl_Accounts_names⟩)
    (c_Accounts_names : PySem.W.codeIn K cd_Accounts_names "Accounts.names" = true)
    (k_Accounts_names : PySem.W.keepIn K (.ref f_Accounts_names) = true)
    (a_Accounts_total : PySem.W.findIn K (.ref C_Accounts) "total" = some (some (.ref f_Accounts_total)))
    (i_Accounts_total : PySem.W.isFn K (.ref f_Accounts_total) = true)
    (l_Accounts_total : K.lookup f_Accounts_total = some ⟨oc_Accounts_total, od_Accounts_total, .func (PySem.W.fnOf "total" "Accounts.total" (defArgs st_Accounts_total) (defBody st_Accounts_total) (defScope st_Accounts_total) .none kV_Accounts_total dc_Accounts_total pm_Accounts_total an_Accounts_total cd_Accounts_total ct_Accounts_total), sl_Accounts_total⟩)
    (c_Accounts_total : PySem.W.codeIn K cd_Accounts_total "Accounts.total" = true)
    (k_Accounts_total : PySem.W.keepIn K (.ref f_Accounts_total) = true)
    (a__law_same : PySem.W.nsIn K mainGlobals "_law_same" = some (some (.ref f__law_same)))
    (l__law_same : K.lookup f__law_same = some ⟨oc__law_same, od__law_same, .func (PySem.W.fnOf "_law_same" "_law_same" (defArgs st__law_same) (defBody st__law_same) (defScope st__law_same) .none kV__law_same dc__law_same pm__law_same an__law_same cd__law_same ct__law_same), sl__law_same⟩)
    (c__law_same : PySem.W.codeIn K cd__law_same "_law_same" = true)
    (k__law_same : PySem.W.keepIn K (.ref f__law_same) = true)
    (a_law : PySem.W.nsIn K mainGlobals "law" = some (some (.ref f_law)))
    (l_law : K.lookup f_law = some ⟨oc_law, od_law, .func (PySem.W.fnOf "law" "law" (defArgs st_law) (defBody st_law) (defScope st_law) .none kV_law dc_law pm_law an_law cd_law ct_law), sl_law⟩)
    (c_law : PySem.W.codeIn K cd_law "law" = true)
    (k_law : PySem.W.keepIn K (.ref f_law) = true)
    (z_abs : PySem.W.nsIn K mainGlobals "abs" = some none)
    (z_bool : PySem.W.nsIn K mainGlobals "bool" = some none)
    (z_dict : PySem.W.nsIn K mainGlobals "dict" = some none)
    (z_int : PySem.W.nsIn K mainGlobals "int" = some none)
    (z_isinstance : PySem.W.nsIn K mainGlobals "isinstance" = some none)
    (z_len : PySem.W.nsIn K mainGlobals "len" = some none)
    (z_range : PySem.W.nsIn K mainGlobals "range" = some none)
    (z_sorted : PySem.W.nsIn K mainGlobals "sorted" = some none)
    (z_str : PySem.W.nsIn K mainGlobals "str" = some none)
    (z_sum : PySem.W.nsIn K mainGlobals "sum" = some none)
    : ∃ (C : NC) (cs : List (Addr × Addr)) (fd : FuncData), C.names.Nodup ∧ C.tabs = cs.map (fun p => p.2) ∧ (∀ p ∈ cs, h.get? p.2 = some { cls := Value.none, data := Data.fields #[] }) ∧ (∀ p ∈ cs, K.lookup p.2 = none) ∧ (∀ p ∈ cs, PySem.W.CodeHd h p.1 p.2) ∧
      (∀ (s : Shared) (u : Value), BindsTo s fd { pos := [u] } [("_law_script", u)]) ∧ ∀ (base : Heap), K.In base → base.Ns mainGlobals mg → (∀ p ∈ cs, LamX.TabB base mg p.1 p.2) → FnOk l.prog w K mg base (L2.CX l.prog w) 4 fa fd ["_law_script"] (spN K C 1 m_law) := by
  have e := hfa.symm.trans (PySem.W.mg_of X G a_law)
  cases e
  let C : NC := ⟨fun i => ([C_Accounts] : List Addr).getD i 0, ["held"], []⟩
  have T : Txt K mg C := ⟨(by decide +kernel : (["held"] : List Str).Nodup),
    rfl,
    (Attr.one ⟨pg_Accounts, hd_Accounts, po_Accounts, sa_Accounts⟩ nA_Accounts_held),
    ⟨pg_Accounts, hd_Accounts, po_Accounts, sa_Accounts⟩,
    (by decide +kernel : ("copy" : Str) ∉ (["held"] : List Str)),
    (by decide +kernel : ("amount" : Str) ∉ (["held"] : List Str)),
    (by decide +kernel : ("move" : Str) ∉ (["held"] : List Str)),
    (by decide +kernel : ("names" : Str) ∉ (["held"] : List Str)),
    (by decide +kernel : ("total" : Str) ∉ (["held"] : List Str)),
    PySem.W.mg_none_of X G z_abs,
    PySem.W.mg_none_of X G z_bool,
    PySem.W.mg_none_of X G z_dict,
    PySem.W.mg_none_of X G z_int,
    PySem.W.mg_none_of X G z_isinstance,
    PySem.W.mg_none_of X G z_len,
    PySem.W.mg_none_of X G z_range,
    PySem.W.mg_none_of X G z_sorted,
    PySem.W.mg_none_of X G z_str,
    PySem.W.mg_none_of X G z_sum,
    ⟨_, _, PySem.W.mg_of X G a__law_mix, (fun_mk (st := st__law_mix) l__law_mix c__law_mix k__law_mix), ((fun_mk (st := st__law_mix) l__law_mix c__law_mix k__law_mix).binds (ps := P__law_mix) fun _ _ _ _ _ _ us hl => match us, hl with | [_, _], _ => rfl)⟩,
    ⟨_, _, PySem.W.mg_of X G a__law_numbers, (fun_mk (st := st__law_numbers) l__law_numbers c__law_numbers k__law_numbers), ((fun_mk (st := st__law_numbers) l__law_numbers c__law_numbers k__law_numbers).binds (ps := P__law_numbers) fun _ _ _ _ _ _ us hl => match us, hl with | [_, _], _ => rfl)⟩,
    ⟨_, _, PySem.W.mg_of X G a__law_draws, (fun_mk (st := st__law_draws) l__law_draws c__law_draws k__law_draws), ((fun_mk (st := st__law_draws) l__law_draws c__law_draws k__law_draws).binds (ps := P__law_draws) fun _ _ _ _ _ _ us hl => match us, hl with | [_, _], _ => rfl)⟩,
    ⟨_, _, PySem.W.mg_of X G a__law_take, (fun_mk (st := st__law_take) l__law_take c__law_take k__law_take), ((fun_mk (st := st__law_take) l__law_take c__law_take k__law_take).binds (ps := P__law_take) fun _ _ _ _ _ _ us hl => match us, hl with | [_, _], _ => rfl)⟩,
    ⟨_, _, PySem.W.mg_of X G a__law_name, (fun_mk (st := st__law_name) l__law_name c__law_name k__law_name), ((fun_mk (st := st__law_name) l__law_name c__law_name k__law_name).binds (ps := P__law_name) fun _ _ _ _ _ _ us hl => match us, hl with | [_, _], _ => rfl)⟩,
    ⟨_, _, PySem.W.mg_of X G a__law_pool, (fun_mk (st := st__law_pool) l__law_pool c__law_pool k__law_pool), ((fun_mk (st := st__law_pool) l__law_pool c__law_pool k__law_pool).binds (ps := P__law_pool) fun _ _ _ _ _ _ us hl => match us, hl with | [_, _, _], _ => rfl)⟩,
    ⟨_, _, PySem.W.mg_of X G gC_Accounts, ⟨mk_Accounts_init, a_Accounts_init, i_Accounts_init, kc_Accounts_init⟩, (fun_mk (st := st_Accounts_init) l_Accounts_init c_Accounts_init k_Accounts_init), ((fun_mk (st := st_Accounts_init) l_Accounts_init c_Accounts_init k_Accounts_init).binds (ps := P_Accounts_init) fun _ _ _ _ _ _ us hl => match us, hl with | [_, _], _ => rfl)⟩,
    ⟨_, _, ⟨a_Accounts_copy, i_Accounts_copy, k_Accounts_copy⟩, (fun_mk (st := st_Accounts_copy) l_Accounts_copy c_Accounts_copy k_Accounts_copy), ((fun_mk (st := st_Accounts_copy) l_Accounts_copy c_Accounts_copy k_Accounts_copy).binds (ps := P_Accounts_copy) fun _ _ _ _ _ _ us hl => match us, hl with | [_], _ => rfl)⟩,
    ⟨_, _, PySem.W.mg_of X G a__law_amount, (fun_mk (st := st__law_amount) l__law_amount c__law_amount k__law_amount), ((fun_mk (st := st__law_amount) l__law_amount c__law_amount k__law_amount).binds (ps := P__law_amount) fun _ _ _ _ _ _ us hl => match us, hl with | [_, _], _ => rfl)⟩,
    ⟨_, _, ⟨a_Accounts_amount, i_Accounts_amount, k_Accounts_amount⟩, (fun_mk (st := st_Accounts_amount) l_Accounts_amount c_Accounts_amount k_Accounts_amount), ((fun_mk (st := st_Accounts_amount) l_Accounts_amount c_Accounts_amount k_Accounts_amount).binds (ps := P_Accounts_amount) fun _ _ _ _ _ _ us hl => match us, hl with | [_, _], _ => rfl)⟩,
    ⟨_, _, ⟨a_Accounts_move, i_Accounts_move, k_Accounts_move⟩, (fun_mk (st := st_Accounts_move) l_Accounts_move c_Accounts_move k_Accounts_move), ((fun_mk (st := st_Accounts_move) l_Accounts_move c_Accounts_move k_Accounts_move).binds (ps := P_Accounts_move) fun _ _ _ _ _ _ us hl => match us, hl with | [_, _, _, _], _ => rfl)⟩,
    ⟨_, _, ⟨a_Accounts_names, i_Accounts_names, k_Accounts_names⟩, (fun_mk (st := st_Accounts_names) l_Accounts_names c_Accounts_names k_Accounts_names), ((fun_mk (st := st_Accounts_names) l_Accounts_names c_Accounts_names k_Accounts_names).binds (ps := P_Accounts_names) fun _ _ _ _ _ _ us hl => match us, hl with | [_], _ => rfl)⟩,
    ⟨_, _, ⟨a_Accounts_total, i_Accounts_total, k_Accounts_total⟩, (fun_mk (st := st_Accounts_total) l_Accounts_total c_Accounts_total k_Accounts_total), ((fun_mk (st := st_Accounts_total) l_Accounts_total c_Accounts_total k_Accounts_total).binds (ps := P_Accounts_total) fun _ _ _ _ _ _ us hl => match us, hl with | [_], _ => rfl)⟩,
    ⟨_, _, PySem.W.mg_of X G a__law_same, (fun_mk (st := st__law_same) l__law_same c__law_same k__law_same), ((fun_mk (st := st__law_same) l__law_same c__law_same k__law_same).binds (ps := P__law_same) fun _ _ _ _ _ _ us hl => match us, hl with | [_, _, _], _ => rfl)⟩,
    ⟨_, _, PySem.W.mg_of X G a_law, (fun_mk (st := st_law) l_law c_law k_law), ((fun_mk (st := st_law) l_law c_law k_law).binds (ps := P_law) fun _ _ _ _ _ _ us hl => match us, hl with | [_], _ => rfl)⟩⟩
  refine ⟨C, [], PySem.W.fnOf "law" "law" (defArgs st_law) (defBody st_law) (defScope st_law) .none kV_law dc_law pm_law an_law cd_law ct_law, T.nd, rfl, (fun _ z => nomatch z), (fun _ z => nomatch z), (fun _ z => nomatch z), fun s v => .of_eq rfl, fun base _ _ _ => ?_⟩
  exact ok_all T (fun_mk (st := st_law) l_law c_law k_law)
end K40

set_option Elab.async false
set_option linter.all false
set_option maxRecDepth 100000
set_option maxHeartbeats 4000000
open K40 NY PySem PySem.Spec PyProof.Rows L2
open PySem PySem.W PyProof.Rows in
set_option maxRecDepth 100000 in
set_option maxHeartbeats 0 in
theorem PySem.Challenge.cw_onewatcher_k40_accounts_holds : PySem.Challenge.rw_onewatcher_k40_accounts.Holds := by
  w_on; o_law; k_head; (case hw => w_witness2)
  k_fill
  refine NY.n_walk (l := PySem.Challenge.rw_onewatcher_k40_accounts) (x := "_law_script") 4 m_law rfl rfl ⟨rfl, by decide, by decide⟩ (fun w h Y => PySem.W.kIn_of Y) ?nyF ?nyM
  case nyM => exact fun ns hn _ N d h => wp_law (K40.law_ok h hn)
  case nyF =>
    intro w mg fa h Y KX G hmg
    refine' all_mk KX G hmg ?gC_Accounts ?pg_Accounts ?hd_Accounts ?po_Accounts ?sa_Accounts ?nA_Accounts_held ?a__law_mix ?l__law_mix ?c__law_mix ?k__law_mix ?a__law_numbers ?l__law_numbers ?c__law_numbers ?k__law_numbers ?a__law_draws ?l__law_draws ?c__law_draws ?k__law_draws ?a__law_take ?l__law_take ?c__law_take ?k__law_take ?a__law_name ?l__law_name ?c__law_name ?k__law_name ?a__law_pool ?l__law_pool ?c__law_pool ?k__law_pool ?a_Accounts_init ?i_Accounts_init ?mk_Accounts_init ?kc_Accounts_init ?l_Accounts_init ?c_Accounts_init ?k_Accounts_init ?a_Accounts_copy ?i_Accounts_copy ?l_Accounts_copy ?c_Accounts_copy ?k_Accounts_copy ?a__law_amount ?l__law_amount ?c__law_amount ?k__law_amount ?a_Accounts_amount ?i_Accounts_amount ?l_Accounts_amount ?c_Accounts_amount ?k_Accounts_amount ?a_Accounts_move ?i_Accounts_move ?l_Accounts_move ?c_Accounts_move ?k_Accounts_move ?a_Accounts_names ?i_Accounts_names ?l_Accounts_names ?c_Accounts_names ?k_Accounts_names ?a_Accounts_total ?i_Accounts_total ?l_Accounts_total ?c_Accounts_total ?k_Accounts_total ?a__law_same ?l__law_same ?c__law_same ?k__law_same ?a_law ?l_law ?c_law ?k_law ?z_abs ?z_bool ?z_dict ?z_int ?z_isinstance ?z_len ?z_range ?z_sorted ?z_str ?z_sum
    (case gC_Accounts => k_is)
    (case pg_Accounts => k_is)
    (case hd_Accounts => k_is)
    (case po_Accounts => k_is)
    (case sa_Accounts => k_is)
    (case nA_Accounts_held => k_is)
    (case a__law_mix => k_is)
    (case l__law_mix => k_is)
    (case c__law_mix => k_is)
    (case k__law_mix => k_is)
    (case a__law_numbers => k_is)
    (case l__law_numbers => k_is)
    (case c__law_numbers => k_is)
    (case k__law_numbers => k_is)
    (case a__law_draws => k_is)
    (case l__law_draws => k_is)
    (case c__law_draws => k_is)
    (case k__law_draws => k_is)
    (case a__law_take => k_is)
    (case l__law_take => k_is)
    (case c__law_take => k_is)
    (case k__law_take => k_is)
    (case a__law_name => k_is)
    (case l__law_name => k_is)
    (case c__law_name => k_is)
    (case k__law_name => k_is)
    (case a__law_pool => k_is)
    (case l__law_pool => k_is)
    (case c__law_pool => k_is)
    (case k__law_pool => k_is)
    (case a_Accounts_init => k_is)
    (case i_Accounts_init => k_is)
    (case mk_Accounts_init => k_is)
    (case kc_Accounts_init => k_is)
    (case l_Accounts_init => k_is)
    (case c_Accounts_init => k_is)
    (case k_Accounts_init => k_is)
    (case a_Accounts_copy => k_is)
    (case i_Accounts_copy => k_is)
    (case l_Accounts_copy => k_is)
    (case c_Accounts_copy => k_is)
    (case k_Accounts_copy => k_is)
    (case a__law_amount => k_is)
    (case l__law_amount => k_is)
    (case c__law_amount => k_is)
    (case k__law_amount => k_is)
    (case a_Accounts_amount => k_is)
    (case i_Accounts_amount => k_is)
    (case l_Accounts_amount => k_is)
    (case c_Accounts_amount => k_is)
    (case k_Accounts_amount => k_is)
    (case a_Accounts_move => k_is)
    (case i_Accounts_move => k_is)
    (case l_Accounts_move => k_is)
    (case c_Accounts_move => k_is)
    (case k_Accounts_move => k_is)
    (case a_Accounts_names => k_is)
    (case i_Accounts_names => k_is)
    (case l_Accounts_names => k_is)
    (case c_Accounts_names => k_is)
    (case k_Accounts_names => k_is)
    (case a_Accounts_total => k_is)
    (case i_Accounts_total => k_is)
    (case l_Accounts_total => k_is)
    (case c_Accounts_total => k_is)
    (case k_Accounts_total => k_is)
    (case a__law_same => k_is)
    (case l__law_same => k_is)
    (case c__law_same => k_is)
    (case k__law_same => k_is)
    (case a_law => k_is)
    (case l_law => k_is)
    (case c_law => k_is)
    (case k_law => k_is)
    (case z_abs => k_is)
    (case z_bool => k_is)
    (case z_dict => k_is)
    (case z_int => k_is)
    (case z_isinstance => k_is)
    (case z_len => k_is)
    (case z_range => k_is)
    (case z_sorted => k_is)
    (case z_str => k_is)
    (case z_sum => k_is)

