import PyProof.Rows.All
import Wide.All
import OpenK.AllK
import Wide.FinOn
import HandS.ForExc
import HandS.ForMost
import HandS.AnyAll
import HandS.IsInst
import HandS.Wide
import HandS.Deep
import HandS.TupAny
import HandS.TupMul
import HandS.CallSlots
import HandS.TryOnly
import HandS.More
import HandS.Style
import HandS.StrMore
import PyProof.StrBlock2
import PyProof.Rows.IntBool
import KE.KxIndex
import HandS.Conv
import HandS.SortInts
import HandS.SetKeys
import HandS.TupLen
import HandS.Small
import HandS.Zip
import HandS.Iter
import HandS.ExcOwn
import HandS.ExcSuper
import HandS.RaiseMore
import HandS.EndTab
import HandS.GenList
import HandS.ExcIs
import HandS.SetFor
import HandS.Strs
import KE.KExcSuper
import HandS.ExcInit
import HandS.ExcField
import KE.GoesComp
import HandS.ReplaceLit
import HandS.Text
import HandS.Codes
import HandS.Head0
import HandS.Head1
import HandS.Head2
import PySem.Challenge.RW_onewatcher_k80_texts_of_scripts
set_option Elab.async false
set_option linter.all false
set_option maxRecDepth 100000
set_option maxHeartbeats 0
namespace HDX
open PySem PySem.W PySem.Calls PyProof.Rows
abbrev R : OpenRow := OpenLaw.row PySem.Challenge.rw_onewatcher_k80_texts_of_scripts
abbrev qv : Program := view R.prog [25]
def LS0 : List PySem.Str := ["BadText", "DIGITS", "MAX_PART", "PLAIN", "SMALL", "WatchError", "__name__", "_law_act", "_law_draws", "_law_mix", "_law_name", "_law_number", "_law_numbers", "_law_take", "_law_wrong", "act_of", "is_name", "line_of", "number_of", "numbers_of", "player_act", "print_script", "read_script"]
abbrev LS : List PySem.Str := LS0
theorem obs_eq (as : List Addr) (s : SharedT) : as.map (HandSHeadRun.getT s) = as.map s.abs.heap.get? := List.map_congr_left fun a _ => HandSHeadRun.getT_eq s a
abbrev Tag (K : Params → Frag) (as : List Addr) (r : OpenRow) : Prop := r.Holds
section
local macro_rules | `(tactic| o_head ($f $k $a $e)) => `(tactic| (have hh : ∀ K as, Tag K as R := (by assumption); exact hh $k $a))
local macro_rules | `(tactic| o_head ($f $k $a $e $t)) => `(tactic| (have hh : ∀ K as, Tag K as R := (by assumption); exact hh $k $a))
noncomputable def KA (h : ∀ K as, Tag K as R) : (Params → Frag) × List Addr := by
  have mk : ∀ (K : Params → Frag) (as : List Addr), Tag K as R → (Params → Frag) × List Addr := fun K as _ => (K, as)
  apply mk
  case a => k_head
end
def AS : List Addr := [2, 3, 15, 22, 23, 24, 25, 28, 31, 36, 37, 39, 40, 42, 43, 44, 45, 46, 49, 50, 53, 54, 55, 58, 59, 60, 63, 64, 65, 67, 68, 70, 71, 72, 74, 75, 77, 78, 79, 81, 82, 84, 85, 86, 89, 90, 91, 94, 95, 96, 98, 99, 101, 102, 103, 105, 106, 108, 109, 110, 112, 113, 115, 116, 117, 119, 120, 122, 123, 124, 127, 128, 129, 131, 132, 134, 135, 136, 139, 140, 141, 143, 144, 146, 147, 148, 151, 152]
theorem as_ok : ∀ P, AS = (KA.heap_1 P).map (·.1) := fun _ => by kernel_rfl
noncomputable abbrev HK : Hook := kHook KA.heap_1 AS as_ok
noncomputable abbrev ob (s : SharedT) : HK.α := AS.map (HandSHeadRun.getT s)
theorem ho : ∀ s : SharedT, ob s = HK.obs s.abs := fun s => obs_eq _ s
theorem e1 : opening R.prog = plainProg R.prog.main.scope.names := by kernel_rfl
theorem f1 : ∀ s, fenceModules? R.prog s = some s := by intro s; kernel_rfl
theorem run (w : World) : HandSHeadRun.RunEq R qv HK ob 1420 LS w := by intro os; kernel_rfl
abbrev DD : DefRec := HandSHeadRun.topDef R.prog 25
theorem h1 : defOf qv R.name = some (DD, []) := by kernel_rfl
theorem h2 : R.prog.theDef R.name = some (DD.params, DD.body, DD.scope) := by kernel_rfl
theorem h3 : kwWritten? DD.params.kwonlyargs DD.params.kw_defaults = some [] := by kernel_rfl
theorem h4 : (!R.writes || R.records.isEmpty) = true := by kernel_rfl
theorem l1 : (sreFenced R.prog.main && ((moduleNames R.prog.main.body).isEmpty || lookedIntoSs (moduleNames R.prog.main.body) R.prog.main.body)) = true := by kernel_rfl
theorem l2 : namesResolve R.prog = true := by kernel_rfl
theorem l3 : R.prog.boundNames.all (fun n => !worldNames.contains n) = true := by kernel_rfl
theorem l4 : noRoadLSs { strict := !(importedModules R.prog.main.body).all cThrough.contains, foot := none, bare := (["vars", "dir", "locals"] : List PySem.Str).filter (readsOut R.prog R.prog.main.body) } R.prog.main.body = true := by kernel_rfl
theorem l5 : (namesMeet R.prog R.prog.main.body fun _ n => attrL n) = true := by kernel_rfl
theorem lo : looksOpen R.prog = true := by unfold looksOpen; rw [l1, l2, l3, l4, l5]; rfl
theorem h5 : R.wellSaid = true := by unfold OpenRow.wellSaid OpenRow.partSaid; rw [lo]; kernel_rfl
theorem h6 : (chainsOk qv && opensWell R.prog && (frees R.toRowW && R.within.isEmpty)) = true := by kernel_rfl
theorem h7 : R.prog.bare := ⟨rfl, rfl, rfl, rfl, rfl, by decide +kernel⟩
theorem hd (call : WalkO qv LS (XL qv []) HK.says R.toRowW DD [] fun f vs => PySem.call f vs) : PySem.Challenge.rw_onewatcher_k80_texts_of_scripts.Holds := by
  w_on; o_law
  refine HandSHeadRun.head_any ho e1 f1 run h1 h2 h3 h4 h5 h6 h7 ?hw call
  case hw => w_witness2
end HDX
set_option Elab.async false
set_option linter.all false
set_option maxRecDepth 100000
set_option maxHeartbeats 4000000
/-! NY1: nice values, nice heaps, results, and how they stand to the abstract heap of HandS -/
namespace NY
open PySem PySem.Spec PyProof.Rows L2

/-- a nice value: tuples are plain data; `ctup` is a tuple of the module's top, `lsc` a list that is read alone (the script) -/
inductive D where
  | non | bl (b : Bool) | int (i : Int) | str (s : Str) | tup (l : List D) | ctup (l : List D) | lsc (l : List D) | ref (n : Nat)
  deriving Inhabited
mutual
def D.dec : (a b : D) → Decidable (a = b)
  | .non, .non => .isTrue rfl
  | .bl x, .bl y => if h : x = y then .isTrue (by rw [h]) else .isFalse fun e => h (D.bl.inj e)
  | .int x, .int y => if h : x = y then .isTrue (by rw [h]) else .isFalse fun e => h (D.int.inj e)
  | .str x, .str y => if h : x = y then .isTrue (by rw [h]) else .isFalse fun e => h (D.str.inj e)
  | .ref x, .ref y => if h : x = y then .isTrue (by rw [h]) else .isFalse fun e => h (D.ref.inj e)
  | .tup x, .tup y => match D.decs x y with
    | .isTrue h => .isTrue (by rw [h])
    | .isFalse h => .isFalse fun e => h (D.tup.inj e)
  | .ctup x, .ctup y => match D.decs x y with
    | .isTrue h => .isTrue (by rw [h])
    | .isFalse h => .isFalse fun e => h (D.ctup.inj e)
  | .lsc x, .lsc y => match D.decs x y with
    | .isTrue h => .isTrue (by rw [h])
    | .isFalse h => .isFalse fun e => h (D.lsc.inj e)
  | .non, .bl _ | .non, .int _ | .non, .str _ | .non, .tup _ | .non, .ctup _ | .non, .lsc _ | .non, .ref _
  | .bl _, .non | .bl _, .int _ | .bl _, .str _ | .bl _, .tup _ | .bl _, .ctup _ | .bl _, .lsc _ | .bl _, .ref _
  | .int _, .non | .int _, .bl _ | .int _, .str _ | .int _, .tup _ | .int _, .ctup _ | .int _, .lsc _ | .int _, .ref _
  | .str _, .non | .str _, .bl _ | .str _, .int _ | .str _, .tup _ | .str _, .ctup _ | .str _, .lsc _ | .str _, .ref _
  | .tup _, .non | .tup _, .bl _ | .tup _, .int _ | .tup _, .str _ | .tup _, .ctup _ | .tup _, .lsc _ | .tup _, .ref _
  | .ctup _, .non | .ctup _, .bl _ | .ctup _, .int _ | .ctup _, .str _ | .ctup _, .tup _ | .ctup _, .lsc _ | .ctup _, .ref _
  | .lsc _, .non | .lsc _, .bl _ | .lsc _, .int _ | .lsc _, .str _ | .lsc _, .tup _ | .lsc _, .ctup _ | .lsc _, .ref _
  | .ref _, .non | .ref _, .bl _ | .ref _, .int _ | .ref _, .str _ | .ref _, .tup _ | .ref _, .ctup _ | .ref _, .lsc _ => .isFalse nofun
def D.decs : (a b : List D) → Decidable (a = b)
  | [], [] => .isTrue rfl
  | [], _ :: _ => .isFalse nofun
  | _ :: _, [] => .isFalse nofun
  | x :: xs, y :: ys => match D.dec x y, D.decs xs ys with
    | .isTrue h, .isTrue h1 => .isTrue (by rw [h, h1])
    | .isFalse h, _ => .isFalse fun e => h (List.cons.inj e).1
    | _, .isFalse h => .isFalse fun e => h (List.cons.inj e).2
end
instance : DecidableEq D := D.dec

abbrev NEnv := List (Option D)
/-- what stands at a reference: a list, a dict (keys ints and texts, or tuples of them), a dict that a loop walks, an instance -/
inductive O where
  | lst (l : List D)
  | dK (l : List (Key × D)) | dT (l : List (List Key × D))
  | fK (l : List (Key × D)) | fT (l : List (List Key × D))
  | ins (c : Nat) (fs : List (Nat × D))
  deriving Inhabited, DecidableEq
abbrev NH := List O
/-- an exception: its class, the fields of its own dict -/
structure Exn where
  cls : Nat
  fs : List (Nat × D)
inductive R (α : Type) where
  | ok (a : α) (N : NH) | exc (x : Exn) (N : NH) | bad
def R.bind {α β : Type} (r : R α) (k : α → NH → R β) : R β := match r with
  | .ok a N => k a N
  | .exc x N => .exc x N
  | .bad => .bad
inductive RS where
  | nx (σ : NEnv) (N : NH) | rt (d : D) (N : NH) | bk (σ : NEnv) (N : NH) | exc (x : Exn) (σ : NEnv) (N : NH) | bad
abbrev NE := NEnv → NH → R D
abbrev NT := NEnv → NH → R Bool
abbrev NA := NEnv → NH → R (List D)
abbrev NS := NEnv → NH → RS
abbrev NF := List D → NH → R D

/-- what is fixed beside the written part: the classes by number, the names of attributes by number, the tables of code objects -/
structure NC where
  cls : Nat → Addr
  names : List Str
  tabs : List Addr

/-! ### values -/
def TupAt (ρ : List Addr) (H : Hp) (a : Addr) (xs : List V) : Prop := a ∉ ρ ∧ H a = some (.tup xs)
def CtupAt (K : PySem.W.Frag) (ρ : List Addr) (H : Hp) (a : Addr) (xs : List V) : Prop :=
  (a ∉ ρ ∧ ∃ o, o.cls = .type "tuple" ∧ o.dict = none ∧ H a = some (.frz o (.tup xs))) ∨ ∃ (o : Obj) (its : Array Value) (n : Nat), K.lookup a = some o ∧ o.cls = .type "tuple" ∧ o.dict = none ∧ o.data = .seq its n ∧ its.size ≤ sizeLine ∧ Vals xs its.toList
def LscAt (K : PySem.W.Frag) (ρ : List Addr) (H : Hp) (a : Addr) (xs : List V) : Prop :=
  (a ∉ ρ ∧ ∃ o, H a = some (.frz o (.lst xs))) ∨ ∃ (o : Obj) (its : Array Value) (n : Nat), K.lookup a = some o ∧ o.cls = .type "list" ∧ o.dict = none ∧ o.data = .seq its n ∧ its.size ≤ sizeLine ∧ Vals xs its.toList
theorem TupAt.sq {K : PySem.W.Frag} {ρ : List Addr} {H : Hp} {a : Addr} {xs : List V} (h : TupAt ρ H a xs) : SqT K H a xs := .inl (.inl h.2)
theorem CtupAt.sq {K : PySem.W.Frag} {ρ : List Addr} {H : Hp} {a : Addr} {xs : List V} (h : CtupAt K ρ H a xs) : SqT K H a xs := by
  rcases h with ⟨_, o, _, _, h⟩ | ⟨o, its, n, h1, h2, _, h3⟩
  · exact .inl (.inr ⟨o, h⟩)
  · exact .inr ⟨o, its, n, h1, h2, h3⟩
theorem LscAt.sq {K : PySem.W.Frag} {ρ : List Addr} {H : Hp} {a : Addr} {xs : List V} (h : LscAt K ρ H a xs) : SqL K H a xs := by
  rcases h with ⟨_, o, h⟩ | h
  · exact .inl (.inr ⟨o, h⟩)
  · exact .inr h
section
variable (K : PySem.W.Frag) (ρ : List Addr) (H : Hp)
mutual
def RD : D → V → Prop
  | .non, v => v = .non
  | .bl b, v => v = .bl b
  | .int i, v => v = .int i
  | .str s, v => v = .str s
  | .tup ds, v => ∃ a xs, v = .ref a ∧ TupAt ρ H a xs ∧ RDs ds xs
  | .ctup ds, v => ∃ a xs, v = .ref a ∧ CtupAt K ρ H a xs ∧ RDs ds xs
  | .lsc ds, v => ∃ a xs, v = .ref a ∧ LscAt K ρ H a xs ∧ RDs ds xs
  | .ref n, v => ∃ a, v = .ref a ∧ ρ[n]? = some a
def RDs : List D → List V → Prop
  | [], xs => xs = []
  | d :: ds, xs => ∃ x r, xs = x :: r ∧ RD d x ∧ RDs ds r
end
def RF (names : List Str) : List (Nat × D) → List (Str × V) → Prop
  | [], fs => fs = []
  | (n, d) :: r, fs => ∃ x v s, fs = (x, v) :: s ∧ names[n]? = some x ∧ RD K ρ H d v ∧ RF names r s
def RK {κ : Type} : List (κ × D) → List (κ × V) → Prop
  | [], fs => fs = []
  | (k, d) :: r, fs => ∃ v s, fs = (k, v) :: s ∧ RD K ρ H d v ∧ RK r s
end
def RO (K : PySem.W.Frag) (C : NC) (ρ : List Addr) (H : Hp) (a : Addr) : O → Prop
  | .lst ds => ∃ xs, H a = some (.lst xs) ∧ RDs K ρ H ds xs
  | .dK kvs => ∃ l, H a = some (.dK l) ∧ RK K ρ H kvs l
  | .dT kvs => ∃ l, H a = some (.dT l) ∧ RK K ρ H kvs l
  | .fK kvs => ∃ ob l, H a = some (.frz ob (.dK l)) ∧ RK K ρ H kvs l
  | .fT kvs => ∃ ob l, H a = some (.frz ob (.dT l)) ∧ RK K ρ H kvs l
  | .ins c fs => ∃ dx l, H a = some (.ins (C.cls c) dx l) ∧ RF K ρ H C.names fs l

/-- how the tracked heap may go on: all that is tracked beside the nice objects and the tables stays -/
structure Ext (ρ : List Addr) (H : Hp) (ρ' : List Addr) (H' : Hp) : Prop where
  pre : ∃ t, ρ' = ρ ++ t
  new : ∀ a ∈ ρ', a ∉ ρ → H a = none
  keep : ∀ a o, H a = some o → a ∉ ρ → (∀ ps, o ≠ .tbl ps) → H' a = some o
  tbl : ∀ a ps, H a = some (.tbl ps) → ∃ qs, H' a = some (.tbl qs)
  frz : ∀ a o u, H a = some (.frz o u) → H' a = some (.frz o u)
structure NRel (K : PySem.W.Frag) (C : NC) (ρ : List Addr) (N : NH) (H : Hp) : Prop where
  len : ρ.length = N.length
  nd : ρ.Nodup
  names : C.names.Nodup
  obj : ∀ (n : Nat) (a : Addr) (o : O), ρ[n]? = some a → N[n]? = some o → RO K C ρ H a o
  tab : ∀ P ∈ C.tabs, GxR.TabG H P

theorem Ext.refl {ρ : List Addr} {H : Hp} : Ext ρ H ρ H := ⟨⟨[], by simp⟩, fun a h n => absurd h n, fun _ _ h _ _ => h, fun _ ps h => ⟨ps, h⟩, fun _ _ _ h => h⟩
theorem Ext.trans {ρ ρ1 ρ2 : List Addr} {H H1 H2 : Hp} (a : Ext ρ H ρ1 H1) (b : Ext ρ1 H1 ρ2 H2) : Ext ρ H ρ2 H2 where
  pre := by obtain ⟨t, e⟩ := a.pre; obtain ⟨u, e'⟩ := b.pre; exact ⟨t ++ u, by rw [e', e, List.append_assoc]⟩
  new := fun c h n => by
    by_cases hc : c ∈ ρ1
    · exact a.new c hc n
    · have h1 := b.new c h hc
      cases q : H c with
      | none => rfl
      | some o =>
        by_cases ht : ∃ ps, o = .tbl ps
        · obtain ⟨ps, rfl⟩ := ht
          obtain ⟨qs, e⟩ := a.tbl c ps q
          rw [h1] at e; cases e
        · rw [a.keep c o q n (fun ps e => ht ⟨ps, e⟩)] at h1; cases h1
  keep := fun c o h n nt => by
    refine b.keep c o (a.keep c o h n nt) (fun hc => ?_) nt
    rw [a.new c hc n] at h; cases h
  tbl := fun c ps h => by obtain ⟨qs, e⟩ := a.tbl c ps h; exact b.tbl c qs e
  frz := fun c o u h => b.frz c o u (a.frz c o u h)

section
variable {K : PySem.W.Frag} {ρ ρ' : List Addr} {H H' : Hp}
theorem TupAt.ext {a : Addr} {xs : List V} (e : Ext ρ H ρ' H') (h : TupAt ρ H a xs) : TupAt ρ' H' a xs := by
  obtain ⟨n, h⟩ := h
  refine ⟨fun hm => ?_, e.keep a _ h n (fun _ z => nomatch z)⟩
  rw [e.new a hm n] at h; cases h
theorem LscAt.ext {a : Addr} {xs : List V} (e : Ext ρ H ρ' H') (h : LscAt K ρ H a xs) : LscAt K ρ' H' a xs := by
  rcases h with ⟨n, o, h⟩ | h
  · refine .inl ⟨fun hm => ?_, o, e.keep a _ h n (fun _ z => nomatch z)⟩
    rw [e.new a hm n] at h; cases h
  · exact .inr h
theorem CtupAt.ext {a : Addr} {xs : List V} (e : Ext ρ H ρ' H') (h : CtupAt K ρ H a xs) : CtupAt K ρ' H' a xs := by
  rcases h with ⟨n, o, h1, h2, h⟩ | h
  · refine .inl ⟨fun hm => ?_, o, h1, h2, e.frz a _ _ h⟩
    rw [e.new a hm n] at h; cases h
  · exact .inr h
theorem Ext.get {n : Nat} {a : Addr} (e : Ext ρ H ρ' H') (h : ρ[n]? = some a) : ρ'[n]? = some a := by
  obtain ⟨t, rfl⟩ := e.pre
  have hl := (List.getElem?_eq_some_iff.mp h).1
  rw [List.getElem?_append_left hl]; exact h
mutual
theorem RD.ext (e : Ext ρ H ρ' H') : ∀ (d : D) {v : V}, RD K ρ H d v → RD K ρ' H' d v
  | .non, _, h => h
  | .bl _, _, h => h
  | .int _, _, h => h
  | .str _, _, h => h
  | .tup ds, _, h => by
    obtain ⟨a, xs, rfl, h1, h2⟩ := h
    exact ⟨a, xs, rfl, h1.ext e, RDs.ext e ds h2⟩
  | .ctup ds, _, h => by
    obtain ⟨a, xs, rfl, h1, h2⟩ := h
    exact ⟨a, xs, rfl, h1.ext e, RDs.ext e ds h2⟩
  | .lsc ds, _, h => by
    obtain ⟨a, xs, rfl, h1, h2⟩ := h
    exact ⟨a, xs, rfl, h1.ext e, RDs.ext e ds h2⟩
  | .ref n, _, h => by
    obtain ⟨a, rfl, h1⟩ := h
    exact ⟨a, rfl, e.get h1⟩
theorem RDs.ext (e : Ext ρ H ρ' H') : ∀ (ds : List D) {xs : List V}, RDs K ρ H ds xs → RDs K ρ' H' ds xs
  | [], _, h => h
  | d :: ds, _, h => by
    obtain ⟨x, r, rfl, h1, h2⟩ := h
    exact ⟨x, r, rfl, RD.ext e d h1, RDs.ext e ds h2⟩
end
theorem RF.ext (e : Ext ρ H ρ' H') {names : List Str} : ∀ (fs : List (Nat × D)) {l : List (Str × V)}, RF K ρ H names fs l → RF K ρ' H' names fs l
  | [], _, h => h
  | (n, d) :: r, _, h => by
    obtain ⟨x, v, s, rfl, h1, h2, h3⟩ := h
    exact ⟨x, v, s, rfl, h1, h2.ext e, RF.ext e r h3⟩
theorem RK.ext {κ : Type} (e : Ext ρ H ρ' H') : ∀ (fs : List (κ × D)) {l : List (κ × V)}, RK K ρ H fs l → RK K ρ' H' fs l
  | [], _, h => h
  | (k, d) :: r, _, h => by
    obtain ⟨v, s, rfl, h2, h3⟩ := h
    exact ⟨v, s, rfl, h2.ext e, RK.ext e r h3⟩
theorem RDs.length : ∀ {ds : List D} {xs : List V}, RDs K ρ H ds xs → xs.length = ds.length
  | [], _, h => by cases h; rfl
  | _ :: _, _, h => by
    obtain ⟨x, r, rfl, _, h2⟩ := h
    rw [List.length_cons, List.length_cons, RDs.length h2]
theorem RDs.get : ∀ {ds : List D} {xs : List V} {i : Nat} {x : V}, RDs K ρ H ds xs → xs[i]? = some x → ∃ d, ds[i]? = some d ∧ RD K ρ H d x
  | [], _, _, _, h, e => by cases h; simp at e
  | d :: ds, _, 0, _, h, e => by
    obtain ⟨x, r, rfl, h1, _⟩ := h
    simp at e; subst e; exact ⟨d, rfl, h1⟩
  | d :: ds, _, i + 1, _, h, e => by
    obtain ⟨x, r, rfl, _, h2⟩ := h
    obtain ⟨d', e1, e2⟩ := RDs.get h2 (by simpa using e)
    exact ⟨d', by simpa using e1, e2⟩
theorem RDs.get' {ds : List D} {xs : List V} {i : Nat} {d : D} (h : RDs K ρ H ds xs) (e : ds[i]? = some d) : ∃ x, xs[i]? = some x ∧ RD K ρ H d x := by
  have hl := h.length
  have hi := (List.getElem?_eq_some_iff.mp e).1
  have e2 : xs[i]? = some (xs[i]'(by omega)) := List.getElem?_eq_getElem _
  obtain ⟨d', e1, r⟩ := h.get e2
  rw [e] at e1; cases e1
  exact ⟨_, e2, r⟩
theorem RDs.append : ∀ {ds es : List D} {xs ys : List V}, RDs K ρ H ds xs → RDs K ρ H es ys → RDs K ρ H (ds ++ es) (xs ++ ys)
  | [], _, _, _, h, h' => by cases h; exact h'
  | _ :: _, _, _, _, h, h' => by
    obtain ⟨x, r, rfl, h1, h2⟩ := h
    exact ⟨x, r ++ _, rfl, h1, RDs.append h2 h'⟩
theorem RDs.one {d : D} {x : V} (h : RD K ρ H d x) : RDs K ρ H [d] [x] := ⟨x, [], rfl, h, rfl⟩
theorem RDs.take : ∀ {ds : List D} {xs : List V} (n : Nat), RDs K ρ H ds xs → RDs K ρ H (ds.take n) (xs.take n)
  | [], _, n, h => by cases h; simp; rfl
  | _ :: _, _, 0, _ => rfl
  | _ :: _, _, n + 1, h => by
    obtain ⟨x, r, rfl, h1, h2⟩ := h
    exact ⟨x, r.take n, rfl, h1, RDs.take n h2⟩
theorem RDs.drop : ∀ {ds : List D} {xs : List V} (n : Nat), RDs K ρ H ds xs → RDs K ρ H (ds.drop n) (xs.drop n)
  | [], _, n, h => by cases h; simp; rfl
  | _ :: _, _, 0, h => h
  | _ :: _, _, n + 1, h => by
    obtain ⟨x, r, rfl, h1, h2⟩ := h
    exact RDs.drop n h2
theorem RDs.set {d : D} {x : V} (hd : RD K ρ H d x) : ∀ {ds : List D} {xs : List V} (n : Nat), RDs K ρ H ds xs → RDs K ρ H (ds.set n d) (xs.set n x)
  | [], _, n, h => by cases h; rfl
  | _ :: _, _, 0, h => by
    obtain ⟨y, r, rfl, h1, h2⟩ := h
    exact ⟨x, r, rfl, hd, h2⟩
  | _ :: _, _, n + 1, h => by
    obtain ⟨y, r, rfl, h1, h2⟩ := h
    exact ⟨y, _, rfl, h1, RDs.set hd n h2⟩
theorem RDs.empty_iff {ds : List D} {xs : List V} (h : RDs K ρ H ds xs) : xs.isEmpty = ds.isEmpty := by
  have := h.length
  cases ds <;> cases xs <;> simp_all
theorem RDs.of_ints : ∀ (is : List Int), RDs K ρ H (is.map D.int) (is.map V.int)
  | [] => rfl
  | i :: is => ⟨_, _, rfl, rfl, RDs.of_ints is⟩
theorem RDs.strs : ∀ {is : List Str} {xs : List V}, RDs K ρ H (is.map D.str) xs → xs = is.map V.str
  | [], _, h => h
  | i :: is, _, h => by
    obtain ⟨x, r, rfl, h1, h2⟩ := h
    rw [RDs.strs h2, show x = V.str i from h1]; rfl
theorem RDs.of_strs : ∀ (is : List Str), RDs K ρ H (is.map D.str) (is.map V.str)
  | [] => rfl
  | i :: is => ⟨_, _, rfl, rfl, RDs.of_strs is⟩
theorem RDs.bls : ∀ {is : List Bool} {xs : List V}, RDs K ρ H (is.map D.bl) xs → xs = is.map V.bl
  | [], _, h => h
  | i :: is, _, h => by
    obtain ⟨x, r, rfl, h1, h2⟩ := h
    rw [RDs.bls h2, show x = V.bl i from h1]; rfl
end

/-! ### the nice heap: one object written, one object more -/
section
variable {K : PySem.W.Frag} {C : NC} {ρ ρ' : List Addr} {N : NH} {H H' : Hp} {a : Addr} {n : Nat} {o o' : O}
theorem RO.some (h : RO K C ρ H a o) : ∃ u, H a = some u ∧ (∀ xs, u ≠ .tup xs) ∧ (∀ ps, u ≠ .tbl ps) := by
  cases o with
  | lst ds => obtain ⟨_, e, _⟩ := h; exact ⟨_, e, (fun _ z => nomatch z), (fun _ z => nomatch z)⟩
  | dK _ => obtain ⟨_, e, _⟩ := h; exact ⟨_, e, (fun _ z => nomatch z), (fun _ z => nomatch z)⟩
  | dT _ => obtain ⟨_, e, _⟩ := h; exact ⟨_, e, (fun _ z => nomatch z), (fun _ z => nomatch z)⟩
  | fK _ => obtain ⟨_, _, e, _⟩ := h; exact ⟨_, e, (fun _ z => nomatch z), (fun _ z => nomatch z)⟩
  | fT _ => obtain ⟨_, _, e, _⟩ := h; exact ⟨_, e, (fun _ z => nomatch z), (fun _ z => nomatch z)⟩
  | ins _ _ => obtain ⟨_, _, e, _⟩ := h; exact ⟨_, e, (fun _ z => nomatch z), (fun _ z => nomatch z)⟩
/-- an object's description goes over to a later heap that has the same at its address -/
theorem RO.ext (e : Ext ρ H ρ' H') (hs : H' a = H a) (h : RO K C ρ H a o) : RO K C ρ' H' a o := by
  cases o with
  | lst ds => obtain ⟨xs, e1, r⟩ := h; exact ⟨xs, hs.trans e1, r.ext e⟩
  | dK _ => obtain ⟨xs, e1, r⟩ := h; exact ⟨xs, hs.trans e1, r.ext e⟩
  | dT _ => obtain ⟨xs, e1, r⟩ := h; exact ⟨xs, hs.trans e1, r.ext e⟩
  | fK _ => obtain ⟨ob, xs, e1, r⟩ := h; exact ⟨ob, xs, hs.trans e1, r.ext e⟩
  | fT _ => obtain ⟨ob, xs, e1, r⟩ := h; exact ⟨ob, xs, hs.trans e1, r.ext e⟩
  | ins _ _ => obtain ⟨dx, xs, e1, r⟩ := h; exact ⟨dx, xs, hs.trans e1, r.ext e⟩
theorem NRel.at (R : NRel K C ρ N H) (h : ρ[n]? = some a) : ∃ o, N[n]? = some o ∧ RO K C ρ H a o := by
  have hl := (List.getElem?_eq_some_iff.mp h).1
  have e : N[n]? = some (N[n]'(by have := R.len; omega)) := List.getElem?_eq_getElem _
  exact ⟨_, e, R.obj n a _ h e⟩
theorem NRel.mem (R : NRel K C ρ N H) (h : a ∈ ρ) : ∃ (n : Nat) (o : O), ρ[n]? = some a ∧ N[n]? = some o ∧ RO K C ρ H a o := by
  obtain ⟨n, hn⟩ := List.getElem?_of_mem h
  obtain ⟨o, h1, h2⟩ := R.at hn
  exact ⟨n, o, hn, h1, h2⟩
theorem NRel.tracked (R : NRel K C ρ N H) (h : a ∈ ρ) : ∃ u, H a = some u ∧ (∀ xs, u ≠ .tup xs) ∧ (∀ ps, u ≠ .tbl ps) := by
  obtain ⟨_, _, _, _, h2⟩ := R.mem h
  exact h2.some
theorem NRel.fresh (R : NRel K C ρ N H) (h : H a = none) : a ∉ ρ := fun m => by
  obtain ⟨u, e, _⟩ := R.tracked m
  rw [h] at e; cases e
theorem NRel.notab (R : NRel K C ρ N H) {P : Addr} (hP : P ∈ C.tabs) : P ∉ ρ := fun m => by
  obtain ⟨u, e, _, t⟩ := R.tracked m
  obtain ⟨ps, e2, _⟩ := R.tab P hP
  rw [e] at e2
  exact t ps (Option.some.inj e2)
theorem memOf {ρ : List Addr} (h : ρ[n]? = some a) : a ∈ ρ := List.mem_of_getElem? h
/-- a write at a nice object -/
theorem Ext.write (m : a ∈ ρ) {u : HO} (hn : ∀ ps, H a ≠ some (.tbl ps)) (hz : ∀ o w, H a ≠ some (.frz o w)) : Ext ρ H ρ (upd H a u) :=
  ⟨⟨[], by simp⟩, fun b h n => absurd h n, fun b o h n _ => by rw [upd_ne (show b ≠ a from fun z => n (z ▸ m))]; exact h, fun b ps h => ⟨ps, by rw [upd_ne (show b ≠ a from fun z => hn ps (z ▸ h))]; exact h⟩, fun b o w h => by rw [upd_ne (show b ≠ a from fun z => hz o w (z ▸ h))]; exact h⟩
theorem NRel.write (R : NRel K C ρ N H) (h : ρ[n]? = some a) (hz : ∀ o w, H a ≠ some (.frz o w)) {u : HO} (new : RO K C ρ (upd H a u) a o') : Ext ρ H ρ (upd H a u) ∧ NRel K C ρ (N.set n o') (upd H a u) := by
  have m := memOf h
  obtain ⟨w, hw, _, ht⟩ := R.tracked m
  have E : Ext ρ H ρ (upd H a u) := Ext.write m (fun ps z => by rw [hw] at z; exact ht ps (Option.some.inj z)) hz
  refine ⟨E, by rw [List.length_set]; exact R.len, R.nd, R.names, fun k b o hk ho => ?_, fun P hP => ?_⟩
  · by_cases e : k = n
    · subst e
      rw [h] at hk; cases hk
      rw [List.getElem?_set_self (by have := (List.getElem?_eq_some_iff.mp h).1; have := R.len; omega)] at ho
      cases ho
      exact new
    · rw [List.getElem?_set_ne (fun z => e z.symm)] at ho
      have ne : b ≠ a := fun z => e (nd_ix R.nd (z ▸ hk) h)
      exact (R.obj k b o hk ho).ext E (upd_ne ne)
  · obtain ⟨ps, e, t⟩ := R.tab P hP
    exact ⟨ps, by rw [upd_ne (show P ≠ a from fun z => R.notab hP (z ▸ m))]; exact e, t⟩
/-- a new thing that is no nice object (a tuple, an instance's own dict) -/
theorem NRel.side (R : NRel K C ρ N H) (h : H a = none) {u : HO} : Ext ρ H ρ (upd H a u) ∧ NRel K C ρ N (upd H a u) := by
  have E : Ext ρ H ρ (upd H a u) := ⟨⟨[], by simp⟩, fun b h n => absurd h n, fun b o q n _ => by rw [upd_ne (ne_of_none q h)]; exact q, fun b ps q => ⟨ps, by rw [upd_ne (ne_of_none q h)]; exact q⟩, fun b o w q => by rw [upd_ne (ne_of_none q h)]; exact q⟩
  refine ⟨E, R.len, R.nd, R.names, fun k b o hk ho => ?_, fun P hP => ?_⟩
  · have ne : b ≠ a := fun z => R.fresh h (z ▸ memOf hk)
    exact (R.obj k b o hk ho).ext E (upd_ne ne)
  · obtain ⟨ps, e, t⟩ := R.tab P hP
    exact ⟨ps, by rw [upd_ne (ne_of_none e h)]; exact e, t⟩
/-- a new nice object -/
theorem NRel.more (R : NRel K C ρ N H) (h : H a = none) {u : HO} (new : Ext ρ H (ρ ++ [a]) (upd H a u) → RO K C (ρ ++ [a]) (upd H a u) a o') :
    Ext ρ H (ρ ++ [a]) (upd H a u) ∧ NRel K C (ρ ++ [a]) (N ++ [o']) (upd H a u) := by
  have E : Ext ρ H (ρ ++ [a]) (upd H a u) := ⟨⟨[a], rfl⟩, fun b hb n => by
      rcases List.mem_append.mp hb with q | q
      · exact absurd q n
      · rw [List.mem_singleton.mp q]; exact h, fun b o q n _ => by rw [upd_ne (ne_of_none q h)]; exact q, fun b ps q => ⟨ps, by rw [upd_ne (ne_of_none q h)]; exact q⟩, fun b o w q => by rw [upd_ne (ne_of_none q h)]; exact q⟩
  have hf := R.fresh h
  refine ⟨E, by simp [R.len], List.nodup_append.mpr ⟨R.nd, by simp, fun x hx y hy z => hf (by rw [List.mem_singleton.mp hy] at z; exact z ▸ hx)⟩, R.names, fun k b o hk ho => ?_, fun P hP => ?_⟩
  · by_cases e : k < ρ.length
    · rw [List.getElem?_append_left e] at hk
      rw [List.getElem?_append_left (by have := R.len; omega)] at ho
      have ne : b ≠ a := fun z => hf (z ▸ memOf hk)
      exact (R.obj k b o hk ho).ext E (upd_ne ne)
    · have hk1 := (List.getElem?_eq_some_iff.mp hk).1
      rw [List.length_append, List.length_singleton] at hk1
      have e2 : k = ρ.length := by omega
      subst e2
      rw [List.getElem?_concat_length] at hk
      rw [R.len, List.getElem?_concat_length] at ho
      cases hk; cases ho
      exact new E
  · obtain ⟨ps, e, t⟩ := R.tab P hP
    exact ⟨ps, by rw [upd_ne (ne_of_none e h)]; exact e, t⟩
theorem get_last {ρ : List Addr} {a : Addr} : (ρ ++ [a])[ρ.length]? = some a := List.getElem?_concat_length ..
/-- a new tuple -/
theorem RD.tupNew {ds : List D} {xs : List V} (hf : a ∉ ρ) (e : Ext ρ H ρ (upd H a (.tup xs))) (r : RDs K ρ H ds xs) : RD K ρ (upd H a (.tup xs)) (.tup ds) (.ref a) :=
  ⟨a, xs, rfl, ⟨hf, upd_same⟩, r.ext e⟩
end
end NY

set_option Elab.async false
set_option linter.all false
set_option maxRecDepth 100000
set_option maxHeartbeats 4000000
/-! NY2: readings made of nice programs; names, constants, operators, comparisons -/
namespace NY
open PySem PySem.Spec PyProof.Rows L2

def RX (K : PySem.W.Frag) (C : NC) (ρ : List Addr) (H : Hp) (x : Exn) (c : Value) : Option Addr → Prop
  | none => c = .ref (C.cls x.cls) ∧ x.fs = []
  | some d => c = .ref (C.cls x.cls) ∧ d ∉ ρ ∧ x.fs ≠ [] ∧ ∃ l, H d = some (.xd l) ∧ RF K ρ H C.names x.fs l
/-- what is to hold behind a nice result -/
def PostR {α β : Type} (rel : List Addr → Hp → α → β → Prop) (K : PySem.W.Frag) (C : NC) (W : WX) (ρ : List Addr) (H : Hp) (σ : L2.St) (Q : β → Hp → Prop) : R α → Prop
  | .ok d N => ∀ v H' ρ', Ext ρ H ρ' H' → NRel K C ρ' N H' → rel ρ' H' d v → Q v H'
  | .exc x N => ∀ c dx H' ρ', Ext ρ H ρ' H' → NRel K C ρ' N H' → RX K C ρ' H' x c dx → W c dx σ H'
  | .bad => False
def RSt (K : PySem.W.Frag) (ρ : List Addr) (H : Hp) (σn : NEnv) (σ : L2.St) : Prop :=
  σn.length = σ.length ∧ ∀ (i : Nat) (d : D), σn[i]? = some (some d) → ∃ v, σ[i]? = some (some v) ∧ RD K ρ H d v
def tR {α β : Type} (rel : List Addr → Hp → α → β → Prop) (K : PySem.W.Frag) (C : NC) (W : WX) (m : NEnv → NH → R α) (σ : L2.St) (H : Hp) (Q : β → Hp → Prop) : Prop :=
  ∃ (ρ : List Addr) (σn : NEnv) (N : NH), NRel K C ρ N H ∧ RSt K ρ H σn σ ∧ PostR rel K C W ρ H σ Q (m σn N)
abbrev rB : List Addr → Hp → Bool → Bool → Prop := fun _ _ a b => b = a
def tE (K : PySem.W.Frag) (C : NC) (W : WX) (m : NE) : TE := tR (RD K) K C W m
def tT (K : PySem.W.Frag) (C : NC) (W : WX) (m : NT) : TT := tR rB K C W m
def tA (K : PySem.W.Frag) (C : NC) (W : WX) (m : NA) : TA := tR (RDs K) K C W m

section
variable {α β γ δ : Type} {rel : List Addr → Hp → α → β → Prop} {rel' : List Addr → Hp → γ → δ → Prop} {K : PySem.W.Frag} {C : NC} {W : WX} {ρ ρ' : List Addr} {H H' : Hp} {σ : L2.St} {N : NH}
theorem RSt.ext {σn : NEnv} (e : Ext ρ H ρ' H') (h : RSt K ρ H σn σ) : RSt K ρ' H' σn σ :=
  ⟨h.1, fun i d q => let ⟨v, a, b⟩ := h.2 i d q; ⟨v, a, b.ext e⟩⟩
theorem PostR.imp {Q Q' : β → Hp → Prop} {r : R α} (h : PostR rel K C W ρ H σ Q r) (hq : ∀ b H', Q b H' → Q' b H') : PostR rel K C W ρ H σ Q' r := by
  cases r with
  | ok d N => exact fun v H' ρ' e n q => hq _ _ (h v H' ρ' e n q)
  | exc x N => exact h
  | bad => exact h
theorem PostR.ext {Q : β → Hp → Prop} {r : R α} (e : Ext ρ H ρ' H') (h : PostR rel K C W ρ H σ Q r) : PostR rel K C W ρ' H' σ Q r := by
  cases r with
  | ok d N => exact fun v H' ρ' e' n q => h v H' ρ' (e.trans e') n q
  | exc x N => exact fun c dx H' ρ' e' n q => h c dx H' ρ' (e.trans e') n q
  | bad => exact h
theorem PostR.bind {Q : δ → Hp → Prop} {r : R α} {k : α → NH → R γ} (h : PostR rel' K C W ρ H σ Q (r.bind k)) :
    PostR rel K C W ρ H σ (fun b H1 => ∃ ρ1 N1 a, Ext ρ H ρ1 H1 ∧ NRel K C ρ1 N1 H1 ∧ rel ρ1 H1 a b ∧ PostR rel' K C W ρ1 H1 σ Q (k a N1)) r := by
  cases r with
  | ok d N => exact fun v H' ρ' e n q => ⟨ρ', N, d, e, n, q, PostR.ext e h⟩
  | exc x N => exact h
  | bad => exact h
theorem PostR.ok {Q : β → Hp → Prop} {a : α} {b : β} (R : NRel K C ρ N H) (h : PostR rel K C W ρ H σ Q (.ok a N)) (r : rel ρ H a b) : Q b H := h b H ρ .refl R r
/-- two parts in a row -/
theorem PostR.then {m : NEnv → NH → R α} {k : α → NH → R γ} {Q : δ → Hp → Prop} {Q' : β → Hp → Prop} {σn : NEnv} (R : NRel K C ρ N H) (S : RSt K ρ H σn σ) (h : PostR rel' K C W ρ H σ Q ((m σn N).bind k))
    (hk : ∀ b H1 ρ1 N1 a, Ext ρ H ρ1 H1 → NRel K C ρ1 N1 H1 → RSt K ρ1 H1 σn σ → rel ρ1 H1 a b → PostR rel' K C W ρ1 H1 σ Q (k a N1) → Q' b H1) : tR rel K C W m σ H Q' :=
  ⟨ρ, σn, N, R, S, h.bind.imp fun b H1 ⟨ρ1, N1, a, e, n, q, p⟩ => hk b H1 ρ1 N1 a e n (S.ext e) q p⟩
end

theorem pe_weak {X : Cx} {e : Expr} {t t' : TE} (h : PE X e t) (w : ∀ σ H Q, t' σ H Q → t σ H Q) : PE X e t' := ⟨fun pins s σ H Q I q => h.run pins s σ H Q I (w σ H Q q)⟩
theorem pt_weak {X : Cx} {e : Expr} {t t' : TT} (h : PT X e t) (w : ∀ σ H Q, t' σ H Q → t σ H Q) : PT X e t' := ⟨fun pins s σ H Q I q => h.run pins s σ H Q I (w σ H Q q)⟩
theorem pw_weak {X : Cx} {e : Expr} {t t' : TT} (h : PW X e t) (w : ∀ σ H Q, t' σ H Q → t σ H Q) : PW X e t' := ⟨fun wh pins s σ H Q I q => h.run wh pins s σ H Q I (w σ H Q q)⟩
theorem pa_weak {X : Cx} {e : List Expr} {t t' : TA} (h : PA X e t) (w : ∀ σ H Q, t' σ H Q → t σ H Q) : PA X e t' := ⟨fun pos pins s σ H Q I q => h.run pos pins s σ H Q I (w σ H Q q)⟩

/-! ### the nice programs -/
def nC (d : D) : NE := fun _ N => .ok d N
def nV (i : Nat) : NE := fun σ N => match σ[i]? with | some (some d) => .ok d N | _ => .bad
def nOp2 (f : D → D → NH → R D) (a b : NE) : NE := fun σ N => (a σ N).bind fun x N => (b σ N).bind fun y N => f x y N
def nOp1 (f : D → NH → R D) (a : NE) : NE := fun σ N => (a σ N).bind fun x N => f x N
def NH.new (N : NH) (o : O) : R D := .ok (.ref N.length) (N ++ [o])
def nBool (a : NE) : NT := fun σ N => (a σ N).bind fun x N => match x with | .bl b => .ok b N | _ => .bad
def nIf (t : NT) (a b : NE) : NE := fun σ N => (t σ N).bind fun c N => if c = true then a σ N else b σ N
def nAndT (a b : NT) : NT := fun σ N => (a σ N).bind fun c N => if c = true then b σ N else .ok false N
def nOrT (a b : NT) : NT := fun σ N => (a σ N).bind fun c N => if c = true then .ok true N else b σ N
def nNotT (a : NT) : NT := fun σ N => (a σ N).bind fun c N => .ok (!c) N
def nAnd (a b : NE) : NE := fun σ N => (a σ N).bind fun x N => match x with | .bl true => b σ N | .bl false => .ok (.bl false) N | _ => .bad
def nOr (a b : NE) : NE := fun σ N => (a σ N).bind fun x N => match x with | .bl true => .ok (.bl true) N | .bl false => b σ N | _ => .bad
def nNot (a : NE) : NE := fun σ N => (a σ N).bind fun x N => match x with | .bl b => .ok (.bl (!b)) N | _ => .bad
def nNil : NA := fun _ N => .ok [] N
def nCons (a : NE) (r : NA) : NA := fun σ N => (a σ N).bind fun x N => (r σ N).bind fun xs N => .ok (x :: xs) N

section
variable {X : Cx} {C : NC} {W : WX} {a b c : Expr} {pos : Pos}
theorem n_int {i : Int} {j : Nat} : PE X (.Constant (.int i) j pos) (tE X.K C W (nC (.int i))) := pe_weak pe_int fun σ H Q ⟨ρ, σn, N, R, S, h⟩ => h.ok R rfl
theorem n_bl {i : Bool} {j : Nat} : PE X (.Constant (.bool i) j pos) (tE X.K C W (nC (.bl i))) := pe_weak pe_bl fun σ H Q ⟨ρ, σn, N, R, S, h⟩ => h.ok R rfl
theorem n_non {j : Nat} : PE X (.Constant .none j pos) (tE X.K C W (nC .non)) := pe_weak pe_non fun σ H Q ⟨ρ, σn, N, R, S, h⟩ => h.ok R rfl
theorem n_str {x : Str} {j : Nat} : PE X (.Constant (.str x) j pos) (tE X.K C W (nC (.str x))) := pe_weak pe_str fun σ H Q ⟨ρ, σn, N, R, S, h⟩ => h.ok R rfl
theorem n_var (i : Nat) {x : Str} (hN : X.N[i]? = some x := by rfl) (hv : Vis X.env.scope x := by first | exact Or.inl rfl | exact Or.inr (Or.inl rfl) | exact Or.inr (Or.inr rfl)) (hd : (x == ("__debug__" : Str)) = false := by decide)
    (hcd : (x == ("__classdict__" : Str)) = false := by decide) : PE X (.Name x pos) (tE X.K C W (nV i)) := pe_weak (pe_var hN hv hd hcd) fun σ H Q ⟨ρ, σn, N, R, S, h⟩ => by
  unfold nV at h
  cases e : σn[i]? with
  | none => rw [e] at h; exact h.elim
  | some o =>
    cases o with
    | none => rw [e] at h; exact h.elim
    | some d =>
      rw [e] at h
      obtain ⟨v, e1, r⟩ := S.2 i d e
      exact ⟨v, e1, h.ok R r⟩
/-- a module's constant: a number, a text .. -/
theorem n_glob {x : Str} {d : D} {v : V} {u : Value} (hg : Gl X x) (hm : X.mg x = some u) (r : RelV v u) (hr : ∀ ρ H, RD X.K ρ H d v) (hd : (x == ("__debug__" : Str)) = false := by decide) : PE X (.Name x pos) (tE X.K C W (nC d)) :=
  pe_weak (pe_glob hg hm r hd) fun σ H Q ⟨ρ, σn, N, R, S, h⟩ => h.ok R (hr ρ H)

/-- a rule of values: what the nice operation gives is what the rule asks -/
def Snd2 (K : PySem.W.Frag) (C : NC) (f : D → D → NH → R D) (r : R2) : Prop :=
  ∀ (W : WX) (ρ : List Addr) (N : NH) (H : Hp) (σ : L2.St) (d e : D) (x y : V) (Q : VK), NRel K C ρ N H → RD K ρ H d x → RD K ρ H e y → PostR (RD K) K C W ρ H σ Q (f d e N) → r x y H Q
def Snd1 (K : PySem.W.Frag) (C : NC) (f : D → NH → R D) (r : V → Hp → VK → Prop) : Prop :=
  ∀ (W : WX) (ρ : List Addr) (N : NH) (H : Hp) (σ : L2.St) (d : D) (x : V) (Q : VK), NRel K C ρ N H → RD K ρ H d x → PostR (RD K) K C W ρ H σ Q (f d N) → r x H Q
theorem snd_op {f : D → D → NH → R D} {r : R2} {ma mb : NE} (h : Snd2 X.K C f r) {σ : L2.St} {H : Hp} {Q : VK} (q : tE X.K C W (nOp2 f ma mb) σ H Q) : tOp r (tE X.K C W ma) (tE X.K C W mb) σ H Q := by
  obtain ⟨ρ, σn, N, R, S, q⟩ := q
  exact PostR.then R S q fun x H1 ρ1 N1 d E1 R1 S1 rd q1 => PostR.then R1 S1 q1 fun y H2 ρ2 N2 e E2 R2 S2 re q2 => h W ρ2 N2 H2 σ d e x y Q R2 (rd.ext E2) re q2
theorem n_bin {op : Operator} {f : D → D → NH → R D} {r : R2} {ma mb : NE} (ho : OpR X (binaryOp op) r) (h : Snd2 X.K C f r) (ha : PE X a (tE X.K C W ma)) (hb : PE X b (tE X.K C W mb)) : PE X (.BinOp a op b pos) (tE X.K C W (nOp2 f ma mb)) :=
  pe_weak (pe_op ho ha hb) fun σ H Q q => snd_op h q
theorem n_cmp {op : CmpOp} {f : D → D → NH → R D} {r : R2} {ma mb : NE} (ho : OpR X (compareOp op) r) (h : Snd2 X.K C f r) (ha : PE X a (tE X.K C W ma)) (hb : PE X b (tE X.K C W mb)) (hm : behindInMarks op b = false) : PE X (.Compare a [op] [b] pos) (tE X.K C W (nOp2 f ma mb)) :=
  pe_weak (pe_cmpR ho ha hb hm) fun σ H Q q => snd_op h q
theorem n_un {op : UnaryOp} {f : D → NH → R D} {r : V → Hp → VK → Prop} {ma : NE} (ho : UnR X (unaryOp op) r) (h : Snd1 X.K C f r) (ha : PE X a (tE X.K C W ma)) : PE X (.UnaryOp op a pos) (tE X.K C W (nOp1 f ma)) :=
  pe_weak (pe_un ho ha) fun σ H Q ⟨ρ, σn, N, R, S, q⟩ => PostR.then R S q fun x H1 ρ1 N1 d E1 R1 S1 rd q1 => h W ρ1 N1 H1 σ d x Q R1 rd q1
theorem to_bl {ma : NE} {σ : L2.St} {H : Hp} {Q : Bool → Hp → Prop} (q : tT X.K C W (nBool ma) σ H Q) : tE X.K C W ma σ H fun x H' => ∃ k, x = .bl k ∧ Q k H' := by
  obtain ⟨ρ, σn, N, R, S, q⟩ := q
  refine PostR.then R S q fun x H1 ρ1 N1 d E1 R1 S1 rd q1 => ?_
  cases d with
  | bl k => exact ⟨k, rd, q1.ok R1 rfl⟩
  | _ => exact q1.elim
theorem n_cmpT {op : CmpOp} {f : D → D → NH → R D} {r : R2} {ma mb : NE} (ho : OpR X (compareOp op) r) (h : Snd2 X.K C f r) (ha : PE X a (tE X.K C W ma)) (hb : PE X b (tE X.K C W mb)) (hm : behindInMarks op b = false) : PT X (.Compare a [op] [b] pos) (tT X.K C W (nBool (nOp2 f ma mb))) :=
  pt_weak (pt_cmpR ho ha hb hm) fun σ H Q q => snd_op h (to_bl q)
/-- a chain a op b op' c -/
def nChain (f f' : D → D → NH → R D) (a b c : NE) : NE := fun σ N => (a σ N).bind fun x N => (b σ N).bind fun y N => (f x y N).bind fun z N => match z with
  | .bl true => (c σ N).bind fun z N => f' y z N
  | .bl false => .ok (.bl false) N
  | _ => .bad
theorem snd_chain {f f' : D → D → NH → R D} {r r' : R2} {ma mb mc : NE} (h : Snd2 X.K C f r) (h' : Snd2 X.K C f' r') {σ : L2.St} {H : Hp} {Q : VK} (q : tE X.K C W (nChain f f' ma mb mc) σ H Q) : tChain r r' (tE X.K C W ma) (tE X.K C W mb) (tE X.K C W mc) σ H Q := by
  obtain ⟨ρ, σn, N, R, S, q⟩ := q
  refine PostR.then R S q fun x H1 ρ1 N1 d E1 R1 S1 rd q1 => PostR.then R1 S1 q1 fun y H2 ρ2 N2 e E2 R2 S2 re q2 => h W ρ2 N2 H2 σ d e x y _ R2 (rd.ext E2) re ?_
  refine (PostR.bind (rel := RD X.K) q2).imp fun z H3 ⟨ρ3, N3, z', E3, R3, rz, q3⟩ => ?_
  cases z' with
  | bl k =>
    refine ⟨k, rz, ?_⟩
    cases k with
    | true => exact iteT (PostR.then R3 (S2.ext E3) q3 fun y3 H4 ρ4 N4 e4 E4 R4 S4 re4 q4 => h' W ρ4 N4 H4 σ e e4 y y3 _ R4 ((re.ext E3).ext E4) re4 q4)
    | false => exact iteF (q3.ok R3 rfl)
  | _ => exact q3.elim
theorem n_chainT {op op' : CmpOp} {f f' : D → D → NH → R D} {r r' : R2} {ma mb mc : NE} (ho : OpR X (compareOp op) r) (h : Snd2 X.K C f r) (ho' : OpR X (compareOp op') r') (h' : Snd2 X.K C f' r') (ha : PE X a (tE X.K C W ma)) (hb : PE X b (tE X.K C W mb)) (hc : PE X c (tE X.K C W mc)) (hm : lastMarks [op, op'] [b, c] = false := by with_unfolding_all rfl) : PT X (.Compare a [op, op'] [b, c] pos) (tT X.K C W (nBool (nChain f f' ma mb mc))) :=
  pt_weak (pt_chain ho ho' ha hb hc hm) fun σ H Q q => snd_chain h h' (to_bl q)
end
end NY

set_option Elab.async false
set_option linter.all false
set_option maxRecDepth 100000
set_option maxHeartbeats 4000000
/-! NYM: a tuple by any number -/
namespace NY
open PySem PySem.Spec PyProof.Rows L2
section
variable (l : Addr) (items : Array Value) (n : Nat) (dd : Option Addr) (sl : Array (Option Value)) (x : Int) (u : Tok)
theorem tmul_same (c0 : (decide (x < -(2 ^ 63)) || decide (x ≥ 2 ^ 63)) = false) (c1 : (items.isEmpty || x == 1) = true) :
    Meets (Builtin.«tuple.__mul__» ⟨[.ref l, .int x u], []⟩) (fun _ R s => s.heap.get? l = some { cls := .type "tuple", dict := dd, data := .seq items n, slots := sl } ∧ R (.ok (.ret (.ref l))) s) :=
  .of_wp fun prog w A R s h => by
    obtain ⟨hp, g, d, tk, os⟩ := s
    obtain ⟨hl, h⟩ := h
    have idx := AutoSeq1.idx_int
    wp_walk using wpAny_loadPart' hl
    repeat (first
      | (refine wpAny_ite_false (decide_eq_false (by rw [c0]; simp)) ?_; wp_walk using wpAny_loadPart' hl)
      | (refine wpAny_ite_true (decide_eq_true (by rw [c1])) ?_; wp_walk using wpAny_loadPart' hl))
    exact ⟨_, rfl, h⟩
theorem tmul_none (c0 : (decide (x < -(2 ^ 63)) || decide (x ≥ 2 ^ 63)) = false) (c1 : (items.isEmpty || x == 1) = false) (c2 : (decide (x ≤ 0) || items.isEmpty) = true) :
    Meets (Builtin.«tuple.__mul__» ⟨[.ref l, .int x u], []⟩) (fun _ R s => s.heap.get? l = some { cls := .type "tuple", dict := dd, data := .seq items n, slots := sl } ∧
      R (.ok (.ret (Value.ref s.heap.objs.size))) { s with heap := s.heap.push { cls := Value.type "tuple", data := Data.seq #[] }, toks := s.toks }) :=
  .of_wp fun prog w A R s h => by
    obtain ⟨hp, g, d, tk, os⟩ := s
    obtain ⟨hl, h⟩ := h
    have idx := AutoSeq1.idx_int
    wp_walk using wpAny_loadPart' hl
    repeat (first
      | (refine wpAny_ite_false (decide_eq_false (by rw [c0]; simp)) ?_; wp_walk using wpAny_loadPart' hl)
      | (refine wpAny_ite_false (decide_eq_false (by rw [c1]; simp)) ?_; wp_walk using wpAny_loadPart' hl)
      | (refine wpAny_ite_true (decide_eq_true (by rw [c2])) ?_; wp_walk using wpAny_loadPart' hl))
    exact ⟨_, rfl, h⟩
end
def rRepA (K : PySem.W.Frag) : R2 := fun x y H Q => ∃ l k xs, x = .ref l ∧ y = .int k ∧ SqT K H l xs ∧ -1000000 ≤ k ∧ k ≤ 1000000 ∧ xs.length * k.toNat ≤ 1000000 ∧
  ((xs = [] ∨ k = 1) → Q (.ref l) H) ∧ (¬ (xs = [] ∨ k = 1) → ∀ p, H p = none → Q (.ref p) (upd H p (.tup (List.replicate k.toNat xs).flatten)))
section
variable {X : Cx}
theorem op_repA : OpR X (binaryOp .Mult) (rRepA X.K) := by
  intro pins s σ H x y v u Q I rx ry h
  obtain ⟨l, k, xs, rfl, rfl, hT, k0, k1, hz, q1, q2⟩ := h
  cases rx
  obtain ⟨t, rfl⟩ := ry
  obtain ⟨its, r, ⟨⟨cls, dd, data, sl⟩, ho, hc, n, hd⟩, hs⟩ := I.tuple hT
  simp only at hc hd
  subst hc hd
  have hle : its.length = xs.length := r.length.symm
  have emp : its.toArray.isEmpty = decide (xs = []) := by
    cases its with
    | nil => cases xs with
      | nil => rfl
      | cons a b => simp at hle
    | cons a b => cases xs with
      | nil => simp at hle
      | cons a b => rfl
  have c0 : (decide (k < -(2 ^ 63)) || decide (k ≥ 2 ^ 63)) = false := by
    simp only [Bool.or_eq_false_iff, decide_eq_false_iff_not]
    constructor <;> omega
  by_cases h1 : xs = [] ∨ k = 1
  · have c1 : (its.toArray.isEmpty || k == 1) = true := by
      rw [emp]
      rcases h1 with e | e
      · simp [e]
      · simp [e]
    refine wpAny_binaryOp_repeat_ref (T := "tuple") (U := "int") (by decide) ⟨_, ho, rfl⟩ (fun s' => typeIs_int s' k t) noFill_tuple_mul F.fills_int_mul F.slot_int_rmul repeat_tuple F.slot_int_index.lookup
      (call_meets F.slot_int_rmul (typeIs_int s k t) F.entry_int_rmul (F.args_int_rmul_2 _ _) (int_rmul_tuple k t l its.toArray n dd sl) ⟨ho, rfl, ⟨_, ho, rfl⟩, ?_⟩)
    refine call_meets F.slot_tuple_mul ⟨_, ho, rfl⟩ F.entry_tuple_mul (F.args_tuple_mul_2 _ _) (tmul_same l its.toArray n dd sl k t c0 c1) ⟨ho, ?_⟩
    exact ⟨.ref l, H, I, rfl, q1 h1⟩
  · have hx : xs ≠ [] := fun e => h1 (.inl e)
    have hk : k ≠ 1 := fun e => h1 (.inr e)
    have c1 : (its.toArray.isEmpty || k == 1) = false := by
      rw [emp]
      simp [hx, hk]
    have q2 := q2 h1
    by_cases h2 : k ≤ 0
    · have c2 : (decide (k ≤ 0) || its.toArray.isEmpty) = true := by rw [decide_eq_true h2]; rfl
      have k2 : k.toNat = 0 := by omega
      rw [k2] at q2
      refine wpAny_binaryOp_repeat_ref (T := "tuple") (U := "int") (by decide) ⟨_, ho, rfl⟩ (fun s' => typeIs_int s' k t) noFill_tuple_mul F.fills_int_mul F.slot_int_rmul repeat_tuple F.slot_int_index.lookup
        (call_meets F.slot_int_rmul (typeIs_int s k t) F.entry_int_rmul (F.args_int_rmul_2 _ _) (int_rmul_tuple k t l its.toArray n dd sl) ⟨ho, rfl, ⟨_, ho, rfl⟩, ?_⟩)
      refine call_meets F.slot_tuple_mul ⟨_, ho, rfl⟩ F.entry_tuple_mul (F.args_tuple_mul_2 _ _) (tmul_none l its.toArray n dd sl k t c0 c1 c2) ⟨ho, ?_⟩
      refine ⟨.ref s.heap.objs.size, _, I.laid (t' := s.toks) (o := .tup []) (fun b ob q => Heap.get?_push_of_some _ q) (Nat.le_refl _) ?_, rfl, q2 _ (I.hok.fresh (Nat.le_refl _))⟩
      exact ⟨Nat.zero_le _, _, .nil, IsTup.new _ _⟩
    · have c2 : (decide (k ≤ 0) || its.toArray.isEmpty) = false := by rw [emp]; simp [hx, h2]
      have sz : its.toArray.size = xs.length := by rw [List.size_toArray, hle]
      have hzi : ((xs.length : Nat) : Int) * k ≤ 1000000 := by
        have e : ((k.toNat : Nat) : Int) = k := by omega
        rw [← e]
        have := Int.ofNat_le.mpr hz
        rw [Int.natCast_mul] at this
        exact this
      have hz2 : k.toNat * xs.length ≤ 1000000 := by rw [Nat.mul_comm]; exact hz
      have fl : (List.replicate k.toNat its).flatten.length ≤ sizeLine := by
        rw [PyProof.Rows.lm_len_rep_flat, hle, sizeLine_eq]; omega
      have c4 : Builtin.Tuple.tupleTooMany (((its.toArray.size : Nat) : Int) * k) = false := by
        unfold Builtin.Tuple.tupleTooMany
        rw [sizeLine_eq, sz]
        exact decide_eq_false (by omega)
      refine wpAny_binaryOp_repeat_ref (T := "tuple") (U := "int") (by decide) ⟨_, ho, rfl⟩ (fun s' => typeIs_int s' k t) noFill_tuple_mul F.fills_int_mul F.slot_int_rmul repeat_tuple F.slot_int_index.lookup
        (call_meets F.slot_int_rmul (typeIs_int s k t) F.entry_int_rmul (F.args_int_rmul_2 _ _) (int_rmul_tuple k t l its.toArray n dd sl) ⟨ho, rfl, ⟨_, ho, rfl⟩, ?_⟩)
      refine call_meets F.slot_tuple_mul ⟨_, ho, rfl⟩ F.entry_tuple_mul (F.args_tuple_mul_2 _ _) (tuple_mulW l its.toArray n dd sl k t c0 c1 c2 (by rw [sz]; omega) c4 (by rw [size_rep, List.size_toArray]; exact fl)) ⟨ho, ?_⟩
      rw [size_rep]
      refine ⟨.ref s.heap.objs.size, _, I.laid (t' := s.toks) (o := .tup (List.replicate k.toNat xs).flatten) (fun b ob q => Heap.get?_push_of_some _ q) (Nat.le_refl _) ?_, rfl, q2 _ (I.hok.fresh (Nat.le_refl _))⟩
      exact ⟨by rw [PyProof.Rows.lm_len_rep_flat, sizeLine_eq]; omega, _, r.rep k.toNat, IsTup.new _ _⟩
end
end NY

set_option Elab.async false
set_option linter.all false
set_option maxRecDepth 100000
set_option maxHeartbeats 4000000
/-! NYQ: a text by a number -/
namespace NY
open PySem PySem.Spec PyProof.Rows L2
def rMulS : R2 := fun x y H Q => ∃ (s : Str) (n : Int), x = .str s ∧ y = .int n ∧ MulOk s n ∧ Q (.str (Txt.mul s n)) H
theorem op_mulS {X : Cx} : OpR X (binaryOp .Mult) rMulS := by
  intro pins s σ H x y v u Q I rx ry h
  obtain ⟨a, n, rfl, rfl, hok, q⟩ := h
  obtain ⟨t, rfl⟩ := rx
  obtain ⟨t', rfl⟩ := ry
  exact SB.mul hok fun tk k => ⟨.str (Txt.mul a n), H, I.kept (t' := k) fun _ _ z => z, ⟨_, rfl⟩, q⟩
theorem mulS_ok {s : Str} {n : Int} (h0 : 0 ≤ n) (h1 : n ≤ 1000) (h2 : s.length ≤ 1000) : MulOk s n := by
  have hb : s.length * n.toNat ≤ 1000 * 1000 := Nat.mul_le_mul h2 (by omega)
  refine ⟨by simp; omega, fun hn _ => ?_, fun hn _ => ?_⟩
  · have h3 : (s.length : Int) ≤ (2 ^ 63 - 1) / n := (Int.le_ediv_iff_mul_le (by omega)).mpr (by
      have e : (s.length : Int) * n = ((s.length * n.toNat : Nat) : Int) := by rw [Int.natCast_mul]; congr 1; omega
      rw [e]
      omega)
    omega
  · unfold Builtin.Str.tooLong
    exact decide_eq_false (by rw [sizeLine_eq]; omega)
end NY

set_option Elab.async false
set_option linter.all false
set_option maxRecDepth 100000
set_option maxHeartbeats 4000000
/-! NYB: True + 1, True - 1 -/
namespace NY
open PySem PySem.Spec PyProof.Rows L2
def rAddB : R2 := fun x y H Q => ∃ (k : Bool) (i : Int), x = .bl k ∧ y = .int i ∧ Q (.int ((if k = true then (1 : Int) else 0) + i)) H
theorem op_addB {X : Cx} : OpR X (binaryOp .Add) rAddB := by
  intro pins s σ H x y v u Q I rx ry h
  obtain ⟨k, i, rfl, rfl, q⟩ := h
  cases rx
  obtain ⟨t, rfl⟩ := ry
  exact IntBool.add_bool_int ⟨.int ((if k = true then (1 : Int) else 0) + i), H, I.tok _, ⟨_, rfl⟩, q⟩
end NY

set_option Elab.async false
set_option linter.all false
set_option maxRecDepth 100000
set_option maxHeartbeats 4000000
/-! NY3: operators by values -/
namespace NY
open PySem PySem.Spec PyProof.Rows L2

section
variable {K : PySem.W.Frag} {C : NC} {W : WX} {ρ : List Addr} {N : NH} {H : Hp} {σ : L2.St} {Q : VK}
/-- a new list, a new tuple, handed to the goal -/
theorem PostR.newL {ds : List D} {xs : List V} {p : Addr} (R : NRel K C ρ N H) (r : RDs K ρ H ds xs) (hp : H p = none) (h : PostR (RD K) K C W ρ H σ Q (N.new (.lst ds))) : Q (.ref p) (upd H p (.lst xs)) := by
  obtain ⟨E, R'⟩ := R.more (o' := .lst ds) (u := .lst xs) hp fun E => ⟨xs, upd_same, r.ext E⟩
  refine h _ _ _ E R' ⟨p, rfl, ?_⟩
  rw [← R.len]; exact get_last
theorem PostR.newT {ds : List D} {xs : List V} {p : Addr} (R : NRel K C ρ N H) (r : RDs K ρ H ds xs) (hp : H p = none) (h : PostR (RD K) K C W ρ H σ Q (.ok (.tup ds) N)) : Q (.ref p) (upd H p (.tup xs)) := by
  obtain ⟨E, R'⟩ := R.side (u := .tup xs) hp
  exact h _ _ _ E R' (RD.tupNew (R.fresh hp) E r)
/-- a list in the nice heap -/
theorem NRel.lst {n : Nat} {ds : List D} {v : V} (R : NRel K C ρ N H) (hv : RD K ρ H (.ref n) v) (e : N[n]? = some (.lst ds)) : ∃ a xs, v = .ref a ∧ ρ[n]? = some a ∧ H a = some (.lst xs) ∧ RDs K ρ H ds xs := by
  obtain ⟨a, rfl, ha⟩ := hv
  obtain ⟨xs, h1, h2⟩ := R.obj n a _ ha e
  exact ⟨a, xs, rfl, ha, h1, h2⟩
end

/-! ### arithmetic -/
def fAdd : D → D → NH → R D
  | .int i, .int j, N => .ok (.int (i + j)) N
  | .bl k, .int j, N => .ok (.int ((if k = true then (1 : Int) else 0) + j)) N
  | .str a, .str b, N => if a.length + b.length ≤ sizeLine then .ok (.str (a ++ b)) N else .bad
  | .tup a, .tup b, N => if a.length + b.length ≤ sizeLine then .ok (.tup (a ++ b)) N else .bad
  | .ctup a, .tup b, N => if a ≠ [] ∧ b ≠ [] ∧ a.length + b.length ≤ sizeLine then .ok (.tup (a ++ b)) N else .bad
  | .ref a, .ref b, N => match N[a]?, N[b]? with
    | some (.lst x), some (.lst y) => if x.length + y.length ≤ sizeLine then N.new (.lst (x ++ y)) else .bad
    | _, _ => .bad
  | _, _, _ => .bad
def rAdd (K : PySem.W.Frag) : R2 := fun x y H Q => (∃ i j, x = .int i ∧ y = .int j ∧ Q (.int (i + j)) H) ∨ rAddB x y H Q ∨ (∃ i j, x = .str i ∧ y = .str j ∧ i.length + j.length ≤ sizeLine ∧ Q (.str (i ++ j)) H) ∨ rCatA K x y H Q ∨ rCat x y H Q
theorem opAdd {X : Cx} : OpR X (binaryOp .Add) (rAdd X.K) := op_add.or (op_addB.or (op_add_str.or (op_catA.or op_cat)))
theorem sndAdd {K : PySem.W.Frag} {C : NC} : Snd2 K C fAdd (rAdd K) := by
  intro W ρ N H σ d e x y Q R rd re q
  unfold fAdd at q
  split at q
  · exact .inl ⟨_, _, rd, re, q.ok R rfl⟩
  · exact .inr (.inl ⟨_, _, rd, re, q.ok R rfl⟩)
  · split at q
    · rename_i h
      exact .inr (.inr (.inl ⟨_, _, rd, re, h, q.ok R rfl⟩))
    · exact q.elim
  · rename_i as bs
    split at q
    · rename_i h
      obtain ⟨a, xs, rfl, ta, ra⟩ := rd
      obtain ⟨b, ys, rfl, tb, rb⟩ := re
      have l1 := ra.length
      have l2 := rb.length
      refine .inr (.inr (.inr (.inl ⟨a, b, xs, ys, rfl, rfl, ta.sq, tb.sq, by omega, fun e => ?_, fun _ e => ?_, fun _ _ p hp => ?_⟩)))
      · subst e
        cases as with
        | nil => exact q.ok R ⟨b, ys, rfl, tb, rb⟩
        | cons _ _ => simp at l1
      · subst e
        cases bs with
        | nil => exact q.ok R ⟨a, xs, rfl, ta, by rw [List.append_nil]; exact ra⟩
        | cons _ _ => simp at l2
      · exact q.newT R (ra.append rb) hp
    · exact q.elim
  · rename_i as bs
    split at q
    · rename_i h
      obtain ⟨h0, h1, h⟩ := h
      obtain ⟨a, xs, rfl, ta, ra⟩ := rd
      obtain ⟨b, ys, rfl, tb, rb⟩ := re
      have l1 := ra.length
      have l2 := rb.length
      refine .inr (.inr (.inr (.inl ⟨a, b, xs, ys, rfl, rfl, ta.sq, tb.sq, by omega, fun e => ?_, fun _ e => ?_, fun _ _ p hp => q.newT R (ra.append rb) hp⟩)))
      · subst e
        cases as with
        | nil => exact absurd rfl h0
        | cons _ _ => simp at l1
      · subst e
        cases bs with
        | nil => exact absurd rfl h1
        | cons _ _ => simp at l2
    · exact q.elim
  · split at q
    · rename_i n m _ _ x y e1 e2
      split at q
      · rename_i h
        obtain ⟨a, xs, rfl, _, ha, ra⟩ := R.lst rd e1
        obtain ⟨b, ys, rfl, _, hb, rb⟩ := R.lst re e2
        have l1 := ra.length
        have l2 := rb.length
        exact .inr (.inr (.inr (.inr ⟨a, b, xs, ys, rfl, rfl, ha, hb, by omega, fun p hp => q.newL R (ra.append rb) hp⟩)))
      · exact q.elim
    · exact q.elim
  · exact q.elim

def fSub : D → D → NH → R D
  | .int i, .int j, N => .ok (.int (i - j)) N
  | .bl k, .int j, N => .ok (.int ((if k = true then (1 : Int) else 0) - j)) N
  | _, _, _ => .bad
instance {i j : Int} : Decidable (CMul i j) := inferInstanceAs (Decidable (_ ∨ _))
def fMul : D → D → NH → R D
  | .int i, .int j, N => if CMul i j then .ok (.int (i * j)) N else .bad
  | .tup a, .int k, N => if -1000000 ≤ k ∧ k ≤ 1000000 ∧ a.length * k.toNat ≤ 1000000 then .ok (.tup (List.replicate k.toNat a).flatten) N else .bad
  | .ref a, .int k, N => match N[a]? with
    | some (.lst x) => if 0 ≤ k ∧ k < 1000000 ∧ x.length * k.toNat ≤ sizeLine then N.new (.lst (List.replicate k.toNat x).flatten) else .bad
    | _ => .bad
  | .str s, .int k, N => if 0 ≤ k ∧ k ≤ 1000 ∧ s.length ≤ 1000 then .ok (.str (Txt.mul s k)) N else .bad
  | _, _, _ => .bad
theorem RDs.rep {K : PySem.W.Frag} {ρ : List Addr} {H : Hp} {ds : List D} {xs : List V} (h : RDs K ρ H ds xs) : ∀ k : Nat, RDs K ρ H (List.replicate k ds).flatten (List.replicate k xs).flatten
  | 0 => by simp; rfl
  | k + 1 => by rw [List.replicate_succ, List.replicate_succ, List.flatten_cons, List.flatten_cons]; exact h.append (RDs.rep h k)
def rMul (K : PySem.W.Frag) : R2 := fun x y H Q => rI CMul (fun i j => .int (i * j)) x y H Q ∨ rRepA K x y H Q ∨ rRep x y H Q ∨ rMulS x y H Q
theorem opMul {X : Cx} : OpR X (binaryOp .Mult) (rMul X.K) := op_mul.or (op_repA.or (op_rep.or op_mulS))
theorem sndMul {K : PySem.W.Frag} {C : NC} : Snd2 K C fMul (rMul K) := by
  intro W ρ N H σ d e x y Q R rd re q
  unfold fMul at q
  split at q
  · split at q
    · rename_i h
      exact .inl ⟨_, _, rd, re, h, q.ok R rfl⟩
    · exact q.elim
  · rename_i as k
    split at q
    · rename_i h
      obtain ⟨a, xs, rfl, ta, ra⟩ := rd
      have l1 := ra.length
      refine .inr (.inl ⟨a, _, xs, rfl, re, ta.sq, h.1, h.2.1, by rw [l1]; exact h.2.2, fun e => ?_, fun _ p hp => q.newT R (ra.rep _) hp⟩)
      refine q.ok R ⟨a, xs, rfl, ta, ?_⟩
      rcases e with e | e
      · have e2 : as = [] := by cases as with | nil => rfl | cons _ _ => rw [e] at l1; simp at l1
        subst e2
        rw [show (List.replicate k.toNat ([] : List D)).flatten = [] by simp]
        exact ra
      · subst e
        rw [show (List.replicate (Int.toNat 1) as).flatten = as by simp]
        exact ra
    · exact q.elim
  · split at q
    · rename_i n k _ x e1
      split at q
      · rename_i h
        obtain ⟨a, xs, rfl, _, ha, ra⟩ := R.lst rd e1
        have l1 := ra.length
        exact .inr (.inr (.inl ⟨a, _, xs, rfl, re, ha, by omega, by omega, by rw [l1]; exact h.2.2, fun p hp => q.newL R (ra.rep _) hp⟩))
      · exact q.elim
    · exact q.elim
  · split at q
    · rename_i h
      exact .inr (.inr (.inr ⟨_, _, rd, re, mulS_ok h.1 h.2.1 h.2.2, q.ok R rfl⟩))
    · exact q.elim
  · exact q.elim
instance {i j : Int} : Decidable (CDivW i j) := inferInstanceAs (Decidable (_ ∧ _))
def fDiv : D → D → NH → R D
  | .int i, .int j, N => if CDivW i j then .ok (.int (i / j)) N else .bad
  | _, _, _ => .bad
theorem sndDiv {K : PySem.W.Frag} {C : NC} : Snd2 K C fDiv (rI CDivW fun i j => .int (i / j)) := by
  intro W ρ N H σ d e x y Q R rd re q
  unfold fDiv at q
  split at q
  · split at q
    · rename_i h
      exact ⟨_, _, rd, re, h, q.ok R rfl⟩
    · exact q.elim
  · exact q.elim
def fMod : D → D → NH → R D
  | .int i, .int j, N => if 0 < j then .ok (.int (i % j)) N else .bad
  | _, _, _ => .bad
theorem sndMod {K : PySem.W.Frag} {C : NC} : Snd2 K C fMod (rI (fun _ j => 0 < j) fun i j => .int (i % j)) := by
  intro W ρ N H σ d e x y Q R rd re q
  unfold fMod at q
  split at q
  · split at q
    · rename_i h
      exact ⟨_, _, rd, re, h, q.ok R rfl⟩
    · exact q.elim
  · exact q.elim
instance {i j : Int} : Decidable (CPow i j) := inferInstanceAs (Decidable (_ ∧ _))
def fPow : D → D → NH → R D
  | .int i, .int j, N => if CPow i j then .ok (.int (i ^ j.toNat)) N else .bad
  | _, _, _ => .bad
theorem sndPow {K : PySem.W.Frag} {C : NC} : Snd2 K C fPow (rI CPow fun i j => .int (i ^ j.toNat)) := by
  intro W ρ N H σ d e x y Q R rd re q
  unfold fPow at q
  split at q
  · split at q
    · rename_i h
      exact ⟨_, _, rd, re, h, q.ok R rfl⟩
    · exact q.elim
  · exact q.elim
def fNeg : D → NH → R D
  | .int i, N => .ok (.int (-i)) N
  | _, _ => .bad
theorem sndNeg {K : PySem.W.Frag} {C : NC} : Snd1 K C fNeg (rU fun i => .int (-i)) := by
  intro W ρ N H σ d x Q R rd q
  unfold fNeg at q
  split at q
  · exact ⟨_, rd, q.ok R rfl⟩
  · exact q.elim

/-! ### order -/
def fOrd (p : Int → Int → Bool) (s : List Nat → List Nat → Bool) : D → D → NH → R D
  | .int i, .int j, N => .ok (.bl (p i j)) N
  | .str a, .str b, N => .ok (.bl (s a.cps.toList b.cps.toList)) N
  | _, _, _ => .bad
def fLt := fOrd (fun i j => decide (i < j)) (fun a b => decide (a < b))
def fLe := fOrd (fun i j => decide (i ≤ j)) (fun a b => !decide (b < a))
def fGt := fOrd (fun i j => decide (j < i)) (fun a b => decide (b < a))
def fGe := fOrd (fun i j => decide (j ≤ i)) (fun a b => !decide (a < b))
def rOrd (p : Int → Int → Bool) (s : List Nat → List Nat → Bool) : R2 := fun x y H Q => rI0 (fun i j => .bl (p i j)) x y H Q ∨ (∃ i j, x = .str i ∧ y = .str j ∧ Q (.bl (s i.cps.toList j.cps.toList)) H)
theorem sndOrd {K : PySem.W.Frag} {C : NC} {p : Int → Int → Bool} {s : List Nat → List Nat → Bool} : Snd2 K C (fOrd p s) (rOrd p s) := by
  intro W ρ N H σ d e x y Q R rd re q
  unfold fOrd at q
  split at q
  · exact .inl ⟨_, _, rd, re, q.ok R rfl⟩
  · exact .inr ⟨_, _, rd, re, q.ok R rfl⟩
  · exact q.elim
theorem opLt {X : Cx} : OpR X (compareOp .Lt) (rOrd (fun i j => decide (i < j)) (fun a b => decide (a < b))) := op_lt.or op_lt_str
theorem opLe {X : Cx} : OpR X (compareOp .LtE) (rOrd (fun i j => decide (i ≤ j)) (fun a b => !decide (b < a))) := op_le.or op_le_str
theorem opGt {X : Cx} : OpR X (compareOp .Gt) (rOrd (fun i j => decide (j < i)) (fun a b => decide (b < a))) := op_gt.or op_gt_str
theorem opGe {X : Cx} : OpR X (compareOp .GtE) (rOrd (fun i j => decide (j ≤ i)) (fun a b => !decide (a < b))) := op_ge.or op_ge_str

/-! ### is None, is True -/
def fIs : D → D → NH → R D
  | d, .non, N => .ok (.bl (decide (d = .non))) N
  | .bl a, .bl b, N => .ok (.bl (decide (a = b))) N
  | _, _, _ => .bad
def fIsNot : D → D → NH → R D
  | d, .non, N => .ok (.bl (!decide (d = .non))) N
  | .bl a, .bl b, N => .ok (.bl (!decide (a = b))) N
  | _, _, _ => .bad
theorem RD.non_iff {K : PySem.W.Frag} {ρ : List Addr} {H : Hp} {d : D} {x : V} (h : RD K ρ H d x) : decide (x = .non) = decide (d = .non) := by
  cases d with
  | non => rw [show x = .non from h]; rfl
  | bl b => rw [show x = .bl b from h]; rfl
  | int b => rw [show x = .int b from h]; rfl
  | str b => rw [show x = .str b from h]; rfl
  | tup b => obtain ⟨a, xs, rfl, _⟩ := h; rfl
  | ctup b => obtain ⟨a, xs, rfl, _⟩ := h; rfl
  | lsc b => obtain ⟨a, xs, rfl, _⟩ := h; rfl
  | ref b => obtain ⟨a, rfl, _⟩ := h; rfl
def rIs : R2 := fun x y H Q => (y = .non ∧ Q (.bl (decide (x = .non))) H) ∨ rIsB x y H Q
def rIsNot : R2 := fun x y H Q => (y = .non ∧ Q (.bl (!decide (x = .non))) H) ∨ rNotB x y H Q
theorem opIs {X : Cx} : OpR X (compareOp .Is) rIs := op_isN.or op_isBl
theorem opIsNot {X : Cx} : OpR X (compareOp .IsNot) rIsNot := op_notN.or op_notBl
theorem sndIs {K : PySem.W.Frag} {C : NC} : Snd2 K C fIs rIs := by
  intro W ρ N H σ d e x y Q R rd re q
  unfold fIs at q
  split at q
  · exact .inl ⟨re, q.ok R (by show V.bl _ = V.bl _; rw [rd.non_iff])⟩
  · exact .inr ⟨_, _, rd, re, q.ok R rfl⟩
  · exact q.elim
theorem sndIsNot {K : PySem.W.Frag} {C : NC} : Snd2 K C fIsNot rIsNot := by
  intro W ρ N H σ d e x y Q R rd re q
  unfold fIsNot at q
  split at q
  · exact .inl ⟨re, q.ok R (by show V.bl _ = V.bl _; rw [rd.non_iff])⟩
  · exact .inr ⟨_, _, rd, re, q.ok R rfl⟩
  · exact q.elim

/-! ### equality: of data at any depth -/
mutual
/-- Python's == of plain data -/
def eqD : D → D → Bool
  | .non, .non => true
  | .bl a, .bl b => a == b
  | .bl a, .int j => (if a then 1 else 0) == j
  | .int i, .bl b => i == (if b then 1 else 0)
  | .int i, .int j => i == j
  | .str x, .str y => x == y
  | .tup xs, .tup ys => eqDs xs ys
  | _, _ => false
def eqDs : List D → List D → Bool
  | [], [] => true
  | x :: xs, y :: ys => eqD x y && eqDs xs ys
  | _, _ => false
end
mutual
/-- plain data, its texts of real signs -/
def plain : D → Bool
  | .non | .bl _ | .int _ => true
  | .str x => x.cps.all (· < 0x110000)
  | .tup xs => plains xs
  | .ctup _ | .lsc _ | .ref _ => false
def plains : List D → Bool
  | [] => true
  | x :: xs => plain x && plains xs
end
mutual
def dep : D → Nat
  | .tup xs => deps xs + 1
  | _ => 0
def deps : List D → Nat
  | [] => 0
  | x :: xs => max (dep x) (deps xs)
end
mutual
def toPy : D → PyData
  | .non => .none
  | .bl b => .bool b
  | .int i => .int i
  | .str x => .str x
  | .tup xs => .tuple (toPys xs)
  | .ctup _ | .lsc _ | .ref _ => .none
def toPys : List D → List PyData
  | [] => []
  | x :: xs => toPy x :: toPys xs
end
mutual
theorem eqv_toPy : ∀ (d e : D), plain d = true → plain e = true → PyData.eqv (toPy d) (toPy e) = eqD d e
  | .tup xs, .tup ys, h, h' => by
    simp only [toPy, PyData.eqv, eqD]
    exact eqv_toPys xs ys h h'
  | .ctup _, _, h, _ => nomatch h
  | .lsc _, _, h, _ => nomatch h
  | .ref _, _, h, _ => nomatch h
  | .non, .ctup _, _, h | .bl _, .ctup _, _, h | .int _, .ctup _, _, h | .str _, .ctup _, _, h | .tup _, .ctup _, _, h => nomatch h
  | .non, .lsc _, _, h | .bl _, .lsc _, _, h | .int _, .lsc _, _, h | .str _, .lsc _, _, h | .tup _, .lsc _, _, h => nomatch h
  | .non, .ref _, _, h | .bl _, .ref _, _, h | .int _, .ref _, _, h | .str _, .ref _, _, h | .tup _, .ref _, _, h => nomatch h
  | .non, .non, _, _ | .non, .bl _, _, _ | .non, .int _, _, _ | .non, .str _, _, _ | .non, .tup _, _, _ => by simp only [toPy, PyData.eqv, eqD]
  | .bl _, .non, _, _ | .bl _, .bl _, _, _ | .bl _, .int _, _, _ | .bl _, .str _, _, _ | .bl _, .tup _, _, _ => by simp only [toPy, PyData.eqv, eqD]
  | .int _, .non, _, _ | .int _, .bl _, _, _ | .int _, .int _, _, _ | .int _, .str _, _, _ | .int _, .tup _, _, _ => by simp only [toPy, PyData.eqv, eqD]
  | .str _, .non, _, _ | .str _, .bl _, _, _ | .str _, .int _, _, _ | .str _, .str _, _, _ | .str _, .tup _, _, _ => by simp only [toPy, PyData.eqv, eqD]
  | .tup _, .non, _, _ | .tup _, .bl _, _, _ | .tup _, .int _, _, _ | .tup _, .str _, _, _ => by simp only [toPy, PyData.eqv, eqD]
theorem eqv_toPys : ∀ (d e : List D), plains d = true → plains e = true → PyData.eqvAll (toPys d) (toPys e) = eqDs d e
  | [], [], _, _ => by simp only [toPys, PyData.eqvAll, eqDs]
  | [], _ :: _, _, _ => by simp only [toPys, PyData.eqvAll, eqDs]
  | _ :: _, [], _, _ => by simp only [toPys, PyData.eqvAll, eqDs]
  | x :: xs, y :: ys, h, h' => by
    have h1 := Bool.and_eq_true_iff.mp (show (plain x && plains xs) = true from h)
    have h2 := Bool.and_eq_true_iff.mp (show (plain y && plains ys) = true from h')
    simp only [toPys, PyData.eqvAll, eqDs]
    rw [eqv_toPy x y h1.1 h2.1, eqv_toPys xs ys h1.2 h2.2]
end
mutual
theorem lay_toPy : ∀ (d : D), plain d = true → (toPy d).canLay0 = true
  | .non, _ | .bl _, _ | .int _, _ => by simp only [toPy, PyData.canLay0]
  | .str x, h => by simp only [toPy, PyData.canLay0]; exact h
  | .tup xs, h => by simp only [toPy, PyData.canLay0]; exact lay_toPys xs h
  | .ctup _, h => nomatch h
  | .lsc _, h => nomatch h
  | .ref _, h => nomatch h
theorem lay_toPys : ∀ (d : List D), plains d = true → PyData.canLayAll0 (toPys d) = true
  | [], _ => by simp only [toPys, PyData.canLayAll0]
  | x :: xs, h => by
    have h1 := Bool.and_eq_true_iff.mp (show (plain x && plains xs) = true from h)
    simp only [toPys, PyData.canLayAll0, lay_toPy x h1.1, lay_toPys xs h1.2, Bool.and_self]
end
mutual
theorem dep_toPy : ∀ (d : D), (toPy d).depth ≤ dep d
  | .non | .bl _ | .int _ | .str _ | .ctup _ | .lsc _ | .ref _ => by simp only [toPy, PyData.depth, dep]; exact Nat.le_refl _
  | .tup xs => by
    have := dep_toPys xs
    simp only [toPy, PyData.depth, dep]; omega
theorem dep_toPys : ∀ (d : List D), PyData.depthAll (toPys d) ≤ deps d
  | [] => by simp only [toPys, PyData.depthAll, deps]; exact Nat.le_refl _
  | x :: xs => by
    have h1 := dep_toPy x
    have h2 := dep_toPys xs
    simp only [toPys, PyData.depthAll, deps]; omega
end
mutual
theorem RD.dp {K : PySem.W.Frag} {ρ : List Addr} {H : Hp} : ∀ (d : D) {v : V}, plain d = true → RD K ρ H d v → Dp K H v (toPy d)
  | .non, _, _, h => by rw [show _ = V.non from h]; exact .non
  | .bl b, _, _, h => by rw [show _ = V.bl b from h]; exact .bl b
  | .int b, _, _, h => by rw [show _ = V.int b from h]; exact .int b
  | .str b, _, _, h => by rw [show _ = V.str b from h]; exact .str b
  | .tup ds, _, hp, h => by
    obtain ⟨a, xs, rfl, ta, ra⟩ := h
    exact .tup ta.sq (RDs.dp ds hp ra)
  | .ctup _, _, hp, _ => nomatch hp
  | .lsc _, _, hp, _ => nomatch hp
  | .ref _, _, hp, _ => nomatch hp
theorem RDs.dp {K : PySem.W.Frag} {ρ : List Addr} {H : Hp} : ∀ (d : List D) {v : List V}, plains d = true → RDs K ρ H d v → DpAll K H v (toPys d)
  | [], _, _, h => by cases h; exact .nil
  | d :: ds, _, hp, h => by
    have h1 := Bool.and_eq_true_iff.mp (show (plain d && plains ds) = true from hp)
    obtain ⟨x, r, rfl, r1, r2⟩ := h
    exact .cons (RD.dp d h1.1 r1) (RDs.dp ds h1.2 r2)
end
def okD (d : D) : Bool := plain d && decide (dep d ≤ 60)
def okDs (d : List D) : Bool := plains d && decide (deps d ≤ 60)
theorem okD_shaped {d : D} (h : okD d = true) : SeqAt.shaped (toPy d) = true := by
  obtain ⟨h1, h2⟩ := Bool.and_eq_true_iff.mp h
  have h3 := of_decide_eq_true h2
  have h4 := dep_toPy d
  exact Bool.and_eq_true_iff.mpr ⟨lay_toPy d h1, decide_eq_true (by omega)⟩
theorem okDs_shaped {d : List D} (h : okDs d = true) : SeqAt.shaped (.list (toPys d)) = true := by
  obtain ⟨h1, h2⟩ := Bool.and_eq_true_iff.mp h
  have h3 := of_decide_eq_true h2
  have h4 := dep_toPys d
  refine Bool.and_eq_true_iff.mpr ⟨by simp only [PyData.canLay0]; exact lay_toPys d h1, decide_eq_true ?_⟩
  simp only [PyData.depth]; omega
/-- what == gives: of scalars at once, of plain data, of two lists of plain data -/
def eqN (N : NH) : D → D → Option Bool
  | .int i, .int j => some (decide (i = j))
  | .str a, .str b => some (decide (a = b))
  | .ref a, .ref b => match N[a]?, N[b]? with
    | some (.lst x), some (.lst y) => if okDs x && okDs y then some (eqDs x y) else none
    | _, _ => none
  | d, e => if okD d && okD e then some (eqD d e) else none
def fEq : D → D → NH → R D := fun d e N => match eqN N d e with | some b => .ok (.bl b) N | none => .bad
def fNe : D → D → NH → R D := fun d e N => match eqN N d e with | some b => .ok (.bl (!b)) N | none => .bad
theorem snd_eqN {K : PySem.W.Frag} {C : NC} {ρ : List Addr} {N : NH} {H : Hp} {d e : D} {x y : V} {b : Bool} (R : NRel K C ρ N H) (rd : RD K ρ H d x) (re : RD K ρ H e y) (q : eqN N d e = some b) :
    (scal x y = true ∧ b = decide (x = y)) ∨ ∃ p q, Dp K H x p ∧ Dp K H y q ∧ SeqAt.shaped p = true ∧ SeqAt.shaped q = true ∧ b = PyData.eqv p q := by
  unfold eqN at q
  split at q
  · cases q
    rw [show x = V.int _ from rd, show y = V.int _ from re]
    refine .inl ⟨rfl, ?_⟩
    rw [dec_int]; exact (Bool.beq_eq_decide_eq _ _).symm
  · cases q
    rw [show x = V.str _ from rd, show y = V.str _ from re]
    refine .inl ⟨rfl, ?_⟩
    rw [dec_str]; exact (Bool.beq_eq_decide_eq _ _).symm
  · split at q
    · rename_i n m _ _ xs ys e1 e2
      split at q
      · rename_i h
        obtain ⟨h1, h2⟩ := Bool.and_eq_true_iff.mp h
        cases q
        obtain ⟨a, us, rfl, _, ha, ra⟩ := R.lst rd e1
        obtain ⟨c, ws, rfl, _, hb, rb⟩ := R.lst re e2
        have p1 := (Bool.and_eq_true_iff.mp h1).1
        have p2 := (Bool.and_eq_true_iff.mp h2).1
        refine .inr ⟨_, _, .lst (SqL.of ha) (RDs.dp _ p1 ra), .lst (SqL.of hb) (RDs.dp _ p2 rb), okDs_shaped h1, okDs_shaped h2, ?_⟩
        simp only [PyData.eqv]
        exact (eqv_toPys _ _ p1 p2).symm
      · cases q
    · cases q
  · split at q
    · rename_i h
      obtain ⟨h1, h2⟩ := Bool.and_eq_true_iff.mp h
      cases q
      have p1 := (Bool.and_eq_true_iff.mp h1).1
      have p2 := (Bool.and_eq_true_iff.mp h2).1
      exact .inr ⟨_, _, RD.dp _ p1 rd, RD.dp _ p2 re, okD_shaped h1, okD_shaped h2, (eqv_toPy _ _ p1 p2).symm⟩
    · cases q
def rEqA (K : PySem.W.Frag) : R2 := fun x y H Q => rEq x y H Q ∨ rEqD K x y H Q
def rNeA (K : PySem.W.Frag) : R2 := fun x y H Q => rNe x y H Q ∨ rNeD K x y H Q
theorem opEq {X : Cx} (hu : X.A.units + 64 < cLine) : OpR X (compareOp .Eq) (rEqA X.K) := op_eq.or (op_eqD hu)
theorem opNe {X : Cx} (hu : X.A.units + 64 < cLine) : OpR X (compareOp .NotEq) (rNeA X.K) := op_ne.or (op_neD hu)
theorem sndEq {K : PySem.W.Frag} {C : NC} : Snd2 K C fEq (rEqA K) := by
  intro W ρ N H σ d e x y Q R rd re q
  unfold fEq at q
  split at q
  · rename_i b hb
    have q' := q.ok (b := V.bl b) R rfl
    rcases snd_eqN R rd re hb with ⟨h1, rfl⟩ | ⟨p, p', h1, h2, h3, h4, rfl⟩
    · exact .inl ⟨h1, q'⟩
    · exact .inr ⟨p, p', h1, h2, h3, h4, q'⟩
  · exact q.elim
theorem sndNe {K : PySem.W.Frag} {C : NC} : Snd2 K C fNe (rNeA K) := by
  intro W ρ N H σ d e x y Q R rd re q
  unfold fNe at q
  split at q
  · rename_i b hb
    have q' := q.ok (b := V.bl (!b)) R rfl
    rcases snd_eqN R rd re hb with ⟨h1, rfl⟩ | ⟨p, p', h1, h2, h3, h4, rfl⟩
    · exact .inl ⟨h1, q'⟩
    · exact .inr ⟨p, p', h1, h2, h3, h4, q'⟩
  · exact q.elim
end NY

set_option Elab.async false
set_option linter.all false
set_option maxRecDepth 100000
set_option maxHeartbeats 4000000
/-! NYI: a list's element by True or False -/
namespace NY
open PySem PySem.Spec PyProof.Rows L2
def b2n (k : Bool) : Nat := if k = true then 1 else 0
section
variable {prog : Program} {w : World} {A : Around} {E : Value → Shared → Prop} {s : Shared}
theorem listSub_bool {M : World} {k : Bool} {Q : Option Int → Shared → Prop} (h : Q (some (b2n k : Int)) s) :
    wpAny (model prog w) A (Builtin.List.listSubscript? (.bool k)) Q E s := by
  unfold Builtin.List.listSubscript?
  refine wpAny_bind (wpAny_specialOf (T := "bool") rfl F.slot_bool_index.lookup ?_)
  show wpAny (model prog w) A (asIndex (.bool k) >>= _) Q E s
  refine wpAny_bind (wpAny_of_eq (a := (b2n k : Int)) (by cases k <;> rfl) ?_)
  show wpAny (model prog w) A (if (!Builtin.List.listFitsIndex (b2n k : Int)) = true then _ else _) Q E s
  rw [if_neg (by cases k <;> decide)]
  exact wpAny_pure h
theorem getItem_list_bool {l : Addr} {items : Array Value} {k : Bool} {x : Value} {Q : Value → Shared → Prop} (hl : s.heap.IsList l items)
    (hx : items[b2n k]? = some x) (h : Q x s) : wpAny (model prog w) A (getItem (.ref l) (.bool k)) Q E s := by
  obtain ⟨o, ho, hc, ne, hd⟩ := id hl
  unfold getItem
  try with_reducible refine wpAny_holding ?_
  first | refine wpAny_bind (wpAny_pure ?_) | skip
  refine wpAny_bind (wpAny_sequenceKey hl.typeIs (by decide) ?_)
  refine wpAny_bind (wpAny_callSpecial?_slot (name := Str.ofString "__getitem__") hl.typeIs slot_list_getitem
    (wpAny_call_entry slot_list_getitem hl.typeIs entry_list_getitem ?_ (args_list_getitem _ _)))
  show wpAny _ _ (Builtin.List.listSubscript? (.bool k) >>= _) _ _ s
  refine wpAny_bind (listSub_bool (M := w) ?_)
  show wpAny _ _ ((seqItemAt l (b2n k) >>= fun r => pure (r.map (b2n k, ·))) >>= _) _ _ s
  refine wpAny_bind (wpAny_bind (wpAny_seqItemAt ho hd (wpAny_pure ?_)))
  rw [hx]
  first
    | exact wpAny_bind (wpAny_pure (wpAny_pure ⟨x, rfl, wpAny_pure h⟩))
    | exact wpAny_pure ⟨x, rfl, wpAny_pure h⟩
end
def rIxB (K : PySem.W.Frag) : R2 := fun x y H Q => ∃ p xs k v, x = .ref p ∧ y = .bl k ∧ SqL K H p xs ∧ atI xs (b2n k : Int) = some v ∧ Q v H
theorem ix_listB {X : Cx} : IxR X (rIxB X.K) := by
  intro value slice pins s σ H x y v u Q I rx ry h hs
  obtain ⟨p, xs, k, z, rfl, rfl, hq, he, q⟩ := h
  cases rx
  cases ry
  obtain ⟨its, r, pl, hz⟩ := I.list hq
  obtain ⟨j, h1, h2, h3, h4, h5⟩ := atI_get he
  obtain ⟨w, ew, rw'⟩ := r.get h2
  have hl := r.length
  have fin : EP X pins σ Q w s := ⟨z, H, I, rw', q⟩
  have hj : b2n k = j := by
    rw [seqIndex_of (by omega) h5] at h1
    have := Option.some.inj h1
    rw [Int.toNat_natCast] at this
    exact this
  exact subscriptTail_builtinR (x := w) pl.isList.typeIs slot_list_getitem.lookup
    (getItem_list_bool (Q := fun r s' => r = w ∧ EP X pins σ Q r s') pl.isList (by rw [hj]; simpa using ew) ⟨rfl, fin⟩) hs
end NY

set_option Elab.async false
set_option linter.all false
set_option maxRecDepth 100000
set_option maxHeartbeats 4000000
/-! NY4: dicts, in, subscripts, slices, truth -/
namespace NY
open PySem PySem.Spec PyProof.Rows L2

/-! ### dicts of nice values -/
section
variable {κ : Type} [DecidableEq κ] {K : PySem.W.Frag} {ρ : List Addr} {H : Hp}
def valD (kvs : List (κ × D)) (k : κ) : Option D := match kvs with
  | [] => none
  | (j, d) :: r => if j = k then some d else valD r k
def repD (kvs : List (κ × D)) (k : κ) (d : D) : List (κ × D) := match kvs with
  | [] => []
  | (j, e) :: r => (j, if j = k then d else e) :: repD r k d
def putD (kvs : List (κ × D)) (k : κ) (d : D) : List (κ × D) := if (valD kvs k).isSome then repD kvs k d else kvs ++ [(k, d)]
def dropD (kvs : List (κ × D)) (k : κ) : List (κ × D) := match kvs with
  | [] => []
  | (j, d) :: r => if j = k then dropD r k else (j, d) :: dropD r k
theorem RK.length : ∀ {kvs : List (κ × D)} {l : List (κ × V)}, RK K ρ H kvs l → l.length = kvs.length
  | [], _, h => by cases h; rfl
  | (k, d) :: r, _, h => by
    obtain ⟨v, s, rfl, _, h2⟩ := h
    rw [List.length_cons, List.length_cons, RK.length h2]
theorem RK.valNone : ∀ {kvs : List (κ × D)} {l : List (κ × V)} {k : κ}, RK K ρ H kvs l → valD kvs k = none → valV l k = none
  | [], _, _, h, _ => by cases h; rfl
  | (j, d) :: r, _, k, h, e => by
    obtain ⟨v, s, rfl, _, h2⟩ := h
    unfold valD at e
    by_cases q : j = k
    · rw [if_pos q] at e; cases e
    · rw [if_neg q] at e
      rw [valV_neg (p := (j, v)) q]; exact RK.valNone h2 e
theorem RK.valSome : ∀ {kvs : List (κ × D)} {l : List (κ × V)} {k : κ} {d : D}, RK K ρ H kvs l → valD kvs k = some d → ∃ v, valV l k = some v ∧ RD K ρ H d v
  | [], _, _, _, _, e => nomatch e
  | (j, d) :: r, _, k, d', h, e => by
    obtain ⟨v, s, rfl, h1, h2⟩ := h
    unfold valD at e
    by_cases q : j = k
    · rw [if_pos q] at e; cases e
      exact ⟨v, valV_pos (p := (j, v)) q, h1⟩
    · rw [if_neg q] at e
      obtain ⟨w, e1, e2⟩ := RK.valSome h2 e
      exact ⟨w, by rw [valV_neg (p := (j, v)) q]; exact e1, e2⟩
theorem RK.rep {k : κ} {d : D} {v : V} (hd : RD K ρ H d v) : ∀ {kvs : List (κ × D)} {l : List (κ × V)}, RK K ρ H kvs l → RK K ρ H (repD kvs k d) (l.map fun kv => if kv.1 = k then (kv.1, v) else kv)
  | [], _, h => by cases h; rfl
  | (j, e) :: r, _, h => by
    obtain ⟨w, s, rfl, h1, h2⟩ := h
    refine ⟨if j = k then v else w, _, ?_, ?_, RK.rep hd h2⟩
    · rw [List.map_cons]; by_cases q : j = k
      · rw [if_pos q, if_pos q]
      · rw [if_neg q, if_neg q]
    · by_cases q : j = k
      · rw [if_pos q, if_pos q]; exact hd
      · rw [if_neg q, if_neg q]; exact h1
theorem RK.app : ∀ {kvs es : List (κ × D)} {l m : List (κ × V)}, RK K ρ H kvs l → RK K ρ H es m → RK K ρ H (kvs ++ es) (l ++ m)
  | [], _, _, _, h, h' => by cases h; exact h'
  | (j, e) :: r, _, _, _, h, h' => by
    obtain ⟨w, s, rfl, h1, h2⟩ := h
    exact ⟨w, s ++ _, rfl, h1, RK.app h2 h'⟩
theorem RK.put {kvs : List (κ × D)} {l : List (κ × V)} {k : κ} {d : D} {v : V} (h : RK K ρ H kvs l) (hd : RD K ρ H d v) : RK K ρ H (putD kvs k d) (putK l k v) := by
  unfold putD putK
  rw [valV_any]
  cases e : valD kvs k with
  | none => rw [h.valNone e]; exact h.app ⟨v, [], rfl, hd, rfl⟩
  | some d' =>
    obtain ⟨w, e1, _⟩ := h.valSome e
    rw [e1]; exact h.rep hd
theorem RK.drop {k : κ} : ∀ {kvs : List (κ × D)} {l : List (κ × V)}, RK K ρ H kvs l → RK K ρ H (dropD kvs k) (dropK l k)
  | [], _, h => by cases h; rfl
  | (j, e) :: r, _, h => by
    obtain ⟨w, s, rfl, h1, h2⟩ := h
    unfold dropD
    by_cases q : j = k
    · rw [if_pos q, dropK_pos (p := (j, w)) q]; exact RK.drop h2
    · rw [if_neg q, dropK_neg (p := (j, w)) q]; exact ⟨w, _, rfl, h1, RK.drop h2⟩
theorem RK.get : ∀ {kvs : List (κ × D)} {l : List (κ × V)} {i : Nat} {p : κ × V}, RK K ρ H kvs l → l[i]? = some p → ∃ d, kvs[i]? = some (p.1, d) ∧ RD K ρ H d p.2
  | [], _, _, _, h, e => by cases h; simp at e
  | (j, d) :: r, _, 0, _, h, e => by
    obtain ⟨w, s, rfl, h1, h2⟩ := h
    simp at e; subst e; exact ⟨d, rfl, h1⟩
  | (j, d) :: r, _, i + 1, _, h, e => by
    obtain ⟨w, s, rfl, h1, h2⟩ := h
    obtain ⟨d', e1, e2⟩ := RK.get h2 (by simpa using e)
    exact ⟨d', by simpa using e1, e2⟩
end
/-- a value as a key: an int, a text; a tuple of them -/
def keyD : D → Option Key
  | .int i => some (.inl i)
  | .str x => some (.inr x)
  | _ => none
def keysD : List D → Option (List Key)
  | [] => some []
  | d :: ds => match keyD d, keysD ds with
    | some k, some ks => some (k :: ks)
    | _, _ => none
def dKey : Key → D
  | .inl i => .int i
  | .inr x => .str x
theorem keyD_ok {K : PySem.W.Frag} {ρ : List Addr} {H : Hp} {d : D} {v : V} {k : Key} (h : RD K ρ H d v) (e : keyD d = some k) : v = kV k := by
  cases d with
  | int i => cases e; exact h
  | str i => cases e; exact h
  | _ => cases e
theorem keysD_ok {K : PySem.W.Frag} {ρ : List Addr} {H : Hp} : ∀ {ds : List D} {vs : List V} {ks : List Key}, RDs K ρ H ds vs → keysD ds = some ks → vs = ks.map kV
  | [], _, _, h, e => by cases e; exact h
  | d :: ds, _, _, h, e => by
    obtain ⟨x, r, rfl, h1, h2⟩ := h
    unfold keysD at e
    split at e
    · rename_i k ks e1 e2
      cases e
      rw [keyD_ok h1 e1, keysD_ok h2 e2]; rfl
    · cases e
theorem dKey_ok {K : PySem.W.Frag} {ρ : List Addr} {H : Hp} (k : Key) : RD K ρ H (dKey k) (kV k) := by
  cases k <;> rfl
theorem dKeys_ok {K : PySem.W.Frag} {ρ : List Addr} {H : Hp} : ∀ ks : List Key, RDs K ρ H (ks.map dKey) (ks.map kV)
  | [] => rfl
  | k :: ks => ⟨_, _, rfl, dKey_ok k, dKeys_ok ks⟩

/-- what d[k] gives: none: no such dict or key kind; some none: not there -/
def getN (N : NH) (n : Nat) (k : D) : Option (Option D) := match N[n]? with
  | some (.dK kvs) | some (.fK kvs) => match keyD k with
    | some k => some (valD kvs k)
    | none => none
  | some (.dT kvs) | some (.fT kvs) => match k with
    | .tup ks => match keysD ks with
      | some ks => some (valD kvs ks)
      | none => none
    | _ => none
  | _ => none
section
variable {K : PySem.W.Frag} {C : NC} {ρ : List Addr} {N : NH} {H : Hp}
theorem getN_ok {n : Nat} {k : D} {x y : V} {o : Option D} (R : NRel K C ρ N H) (rx : RD K ρ H (.ref n) x) (ry : RD K ρ H k y) (e : getN N n k = some o) :
    ∃ a r, x = .ref a ∧ DGet H a y r ∧ (o = none → r = none) ∧ ∀ d, o = some d → ∃ v, r = some v ∧ RD K ρ H d v := by
  obtain ⟨a, rfl, ha⟩ := rx
  have fin : ∀ {κ : Type} [DecidableEq κ] {kvs : List (κ × D)} {l : List (κ × V)} {kk : κ}, RK K ρ H kvs l → valD kvs kk = o → (o = none → valV l kk = none) ∧ ∀ d, o = some d → ∃ v, valV l kk = some v ∧ RD K ρ H d v :=
    fun {κ _ kvs l kk} r q => ⟨fun z => r.valNone (q.trans z), fun d z => r.valSome (q.trans z)⟩
  unfold getN at e
  split at e
  · rename_i kvs hN
    obtain ⟨l, h1, h2⟩ := R.obj n a _ ha hN
    split at e
    · rename_i kk hk
      cases e
      obtain ⟨f1, f2⟩ := fin h2 rfl
      exact ⟨a, _, rfl, .inl ⟨l, kk, .inl h1, keyD_ok ry hk, rfl⟩, f1, f2⟩
    · cases e
  · rename_i kvs hN
    obtain ⟨ob, l, h1, h2⟩ := R.obj n a _ ha hN
    split at e
    · rename_i kk hk
      cases e
      obtain ⟨f1, f2⟩ := fin h2 rfl
      exact ⟨a, _, rfl, .inl ⟨l, kk, .inr ⟨ob, h1⟩, keyD_ok ry hk, rfl⟩, f1, f2⟩
    · cases e
  · rename_i kvs hN
    obtain ⟨l, h1, h2⟩ := R.obj n a _ ha hN
    split at e
    · split at e
      · rename_i ks' kk hk
        cases e
        obtain ⟨b, xs, rfl, tb, rb⟩ := ry
        obtain ⟨f1, f2⟩ := fin h2 rfl
        exact ⟨a, _, rfl, .inr ⟨l, kk, b, .inl h1, rfl, by rw [← keysD_ok rb hk]; exact tb.2, rfl⟩, f1, f2⟩
      · cases e
    · cases e
  · rename_i kvs hN
    obtain ⟨ob, l, h1, h2⟩ := R.obj n a _ ha hN
    split at e
    · split at e
      · rename_i ks' kk hk
        cases e
        obtain ⟨b, xs, rfl, tb, rb⟩ := ry
        obtain ⟨f1, f2⟩ := fin h2 rfl
        exact ⟨a, _, rfl, .inr ⟨l, kk, b, .inr ⟨ob, h1⟩, rfl, by rw [← keysD_ok rb hk]; exact tb.2, rfl⟩, f1, f2⟩
      · cases e
    · cases e
  · cases e
end

/-! ### in -/
def flatD : D → Bool
  | .non | .bl _ | .int _ | .str _ => true
  | _ => false
def inN (N : NH) (x : D) : D → Option Bool
  | .ref n => match N[n]? with
    | some (.lst l) => if okD x && okDs l then some (l.any fun z => eqD z x) else none
    | _ => (getN N n x).map (·.isSome)
  | .tup l | .ctup l => if flatD x && l.all flatD then some (l.any fun z => eqD z x) else none
  | .str s => match x with
    | .str z => match z.cps.toList with
      | [c] => some (decide (c ∈ s.cps.toList))
      | _ => none
    | _ => none
  | _ => none
def fIn : D → D → NH → R D := fun x y N => match inN N x y with | some b => .ok (.bl b) N | none => .bad
def fNotIn : D → D → NH → R D := fun x y N => match inN N x y with | some b => .ok (.bl (!b)) N | none => .bad
theorem flatD_ok {K : PySem.W.Frag} {ρ : List Addr} {H : Hp} {d : D} {v : V} (h : RD K ρ H d v) (f : flatD d = true) : flatV v = true := by
  cases d with
  | non => rw [show v = _ from h]; rfl
  | bl _ => rw [show v = _ from h]; rfl
  | int _ => rw [show v = _ from h]; rfl
  | str _ => rw [show v = _ from h]; rfl
  | _ => cases f
theorem eqV_ok {K : PySem.W.Frag} {ρ : List Addr} {H : Hp} {d e : D} {v w : V} (h : RD K ρ H d v) (h' : RD K ρ H e w) (f : flatD d = true) (f' : flatD e = true) : eqV v w = eqD d e := by
  cases d with
  | non => cases e with
    | non => rw [show v = _ from h, show w = _ from h']; simp only [eqV, eqD]
    | bl _ => rw [show v = _ from h, show w = _ from h']; simp only [eqV, eqD]
    | int _ => rw [show v = _ from h, show w = _ from h']; simp only [eqV, eqD]
    | str _ => rw [show v = _ from h, show w = _ from h']; simp only [eqV, eqD]
    | _ => cases f'
  | bl _ => cases e with
    | non => rw [show v = _ from h, show w = _ from h']; simp only [eqV, eqD]
    | bl _ => rw [show v = _ from h, show w = _ from h']; simp only [eqV, eqD]
    | int _ => rw [show v = _ from h, show w = _ from h']; simp only [eqV, eqD]
    | str _ => rw [show v = _ from h, show w = _ from h']; simp only [eqV, eqD]
    | _ => cases f'
  | int _ => cases e with
    | non => rw [show v = _ from h, show w = _ from h']; simp only [eqV, eqD]
    | bl _ => rw [show v = _ from h, show w = _ from h']; simp only [eqV, eqD]
    | int _ => rw [show v = _ from h, show w = _ from h']; simp only [eqV, eqD]
    | str _ => rw [show v = _ from h, show w = _ from h']; simp only [eqV, eqD]
    | _ => cases f'
  | str _ => cases e with
    | non => rw [show v = _ from h, show w = _ from h']; simp only [eqV, eqD]
    | bl _ => rw [show v = _ from h, show w = _ from h']; simp only [eqV, eqD]
    | int _ => rw [show v = _ from h, show w = _ from h']; simp only [eqV, eqD]
    | str _ => rw [show v = _ from h, show w = _ from h']; simp only [eqV, eqD]
    | _ => cases f'
  | _ => cases f
theorem inV_ok {K : PySem.W.Frag} {ρ : List Addr} {H : Hp} {d : D} {v : V} (h : RD K ρ H d v) (f : flatD d = true) : ∀ {l : List D} {xs : List V}, RDs K ρ H l xs → l.all flatD = true → xs.all flatV = true ∧ inV v xs = l.any fun z => eqD z d
  | [], _, r, _ => by cases r; exact ⟨rfl, rfl⟩
  | e :: l, _, r, q => by
    obtain ⟨x, s, rfl, h1, h2⟩ := r
    obtain ⟨q1, q2⟩ := Bool.and_eq_true_iff.mp (show (flatD e && l.all flatD) = true from by simpa using q)
    obtain ⟨i1, i2⟩ := inV_ok h f h2 q2
    refine ⟨by rw [List.all_cons, flatD_ok h1 q1, i1]; rfl, ?_⟩
    show (eqV x v || inV v s) = (eqD e d || l.any fun z => eqD z d)
    rw [eqV_ok h1 h q1 f, i2]
theorem any_toPys : ∀ {l : List D} {x : D}, plain x = true → plains l = true → ((toPys l).any fun z => PyData.eqv z (toPy x)) = l.any fun z => eqD z x
  | [], _, _, _ => by simp [toPys]
  | e :: l, x, p, q => by
    obtain ⟨q1, q2⟩ := Bool.and_eq_true_iff.mp (show (plain e && plains l) = true from q)
    simp only [toPys, List.any_cons, eqv_toPy e x q1 p, any_toPys p q2]
def rInA (K : PySem.W.Frag) : R2 := fun x y H Q => rInD K x y H Q ∨ rIn K false x y H Q ∨ (∃ (c : Nat) (z : Str), x = .str ⟨#[c]⟩ ∧ y = .str z ∧ Q (.bl (decide (c ∈ z.cps.toList))) H) ∨ ∃ a o, y = .ref a ∧ DGet H a x o ∧ Q (.bl o.isSome) H
def rNotInA (K : PySem.W.Frag) : R2 := fun x y H Q => rNotInD K x y H Q ∨ rIn K true x y H Q ∨ (∃ (c : Nat) (z : Str), x = .str ⟨#[c]⟩ ∧ y = .str z ∧ Q (.bl (!decide (c ∈ z.cps.toList))) H) ∨ ∃ a o, y = .ref a ∧ DGet H a x o ∧ Q (.bl (!o.isSome)) H
theorem op_in_dict {X : Cx} (hu : X.A.units + 1 < cLine) : OpR X (compareOp .In) (fun x y H Q => ∃ a o, y = .ref a ∧ DGet H a x o ∧ Q (.bl o.isSome) H) := by
  intro pins s σ H x y v u Q I rx ry h
  obtain ⟨a, o, rfl, g, q⟩ := h
  obtain rfl : u = Value.ref a := ry
  exact d_in hu I g rx fun s3 I3 => ⟨.bl o.isSome, H, I3, rfl, q⟩
theorem op_notIn_dict {X : Cx} (hu : X.A.units + 1 < cLine) : OpR X (compareOp .NotIn) (fun x y H Q => ∃ a o, y = .ref a ∧ DGet H a x o ∧ Q (.bl (!o.isSome)) H) := by
  intro pins s σ H x y v u Q I rx ry h
  obtain ⟨a, o, rfl, g, q⟩ := h
  obtain rfl : u = Value.ref a := ry
  exact d_notIn hu I g rx fun s3 I3 => ⟨.bl (!o.isSome), H, I3, rfl, q⟩
theorem opIn {X : Cx} (hu : X.A.units + 65 < cLine) : OpR X (compareOp .In) (rInA X.K) := (op_inD hu).or (op_in_seq.or (op_in_sign.or (op_in_dict (by omega))))
theorem opNotIn {X : Cx} (hu : X.A.units + 65 < cLine) : OpR X (compareOp .NotIn) (rNotInA X.K) := (op_notInD hu).or (op_notIn_seq.or (op_notIn_sign.or (op_notIn_dict (by omega))))
/-- the four roads of in -/
theorem snd_inN {K : PySem.W.Frag} {C : NC} {ρ : List Addr} {N : NH} {H : Hp} {d e : D} {x y : V} {b : Bool} (R : NRel K C ρ N H) (rd : RD K ρ H d x) (re : RD K ρ H e y) (q : inN N d e = some b) :
    (∃ p ds, Dp K H x p ∧ Dp K H y (.list ds) ∧ SeqAt.shaped p = true ∧ SeqAt.shaped (.list ds) = true ∧ b = (ds.any fun z => PyData.eqv z p)) ∨
    (∃ p xs, y = .ref p ∧ (SqL K H p xs ∨ SqT K H p xs) ∧ flatV x = true ∧ xs.all flatV = true ∧ b = inV x xs) ∨
    (∃ (c : Nat) (z : Str), x = .str ⟨#[c]⟩ ∧ y = .str z ∧ b = decide (c ∈ z.cps.toList)) ∨ ∃ a o, y = .ref a ∧ DGet H a x o ∧ b = o.isSome := by
  unfold inN at q
  split at q
  · rename_i n
    split at q
    · rename_i l hN
      split at q
      · rename_i h
        cases q
        obtain ⟨h1, h2⟩ := Bool.and_eq_true_iff.mp h
        obtain ⟨a, xs, rfl, _, ha, ra⟩ := R.lst re hN
        have p1 := (Bool.and_eq_true_iff.mp h1).1
        have p2 := (Bool.and_eq_true_iff.mp h2).1
        exact .inl ⟨toPy d, toPys l, RD.dp d p1 rd, .lst (SqL.of ha) (RDs.dp l p2 ra), okD_shaped h1, okDs_shaped h2, (any_toPys p1 p2).symm⟩
      · cases q
    · cases g : getN N n d with
      | none => rw [g] at q; cases q
      | some o =>
        rw [g] at q; cases q
        obtain ⟨a, r, e1, e2, e3, e4⟩ := getN_ok R re rd g
        refine .inr (.inr (.inr ⟨a, r, e1, e2, ?_⟩))
        cases o with
        | none => rw [e3 rfl]; rfl
        | some d' => obtain ⟨v, ev, _⟩ := e4 d' rfl; rw [ev]; rfl
  · split at q
    · rename_i h
      cases q
      obtain ⟨h1, h2⟩ := Bool.and_eq_true_iff.mp h
      obtain ⟨a, xs, rfl, ta, ra⟩ := re
      obtain ⟨i1, i2⟩ := inV_ok rd h1 ra h2
      exact .inr (.inl ⟨a, xs, rfl, .inr ta.sq, flatD_ok rd h1, i1, i2.symm⟩)
    · cases q
  · split at q
    · rename_i h
      cases q
      obtain ⟨h1, h2⟩ := Bool.and_eq_true_iff.mp h
      obtain ⟨a, xs, rfl, ta, ra⟩ := re
      obtain ⟨i1, i2⟩ := inV_ok rd h1 ra h2
      exact .inr (.inl ⟨a, xs, rfl, .inr ta.sq, flatD_ok rd h1, i1, i2.symm⟩)
    · cases q
  · split at q
    · split at q
      · rename_i _ z _ c hz
        cases q
        refine .inr (.inr (.inl ⟨c, _, ?_, re, rfl⟩))
        rw [show x = _ from rd]
        have : z = ⟨#[c]⟩ := by cases z with | mk a => cases a with | mk l => simp at hz; subst hz; rfl
        rw [this]
      · cases q
    · cases q
  · cases q
theorem sndIn {K : PySem.W.Frag} {C : NC} : Snd2 K C fIn (rInA K) := by
  intro W ρ N H σ d e x y Q R rd re q
  unfold fIn at q
  split at q
  · rename_i b hb
    have q' := q.ok (b := V.bl b) R rfl
    rcases snd_inN R rd re hb with ⟨p, ds, h1, h2, h3, h4, rfl⟩ | ⟨p, xs, h1, h2, h3, h4, rfl⟩ | ⟨c, z, h1, h2, rfl⟩ | ⟨a, o, h1, h2, rfl⟩
    · exact .inl ⟨p, ds, h1, h2, h3, h4, q'⟩
    · exact .inr (.inl ⟨p, xs, h1, h2, h3, h4, q'⟩)
    · exact .inr (.inr (.inl ⟨c, z, h1, h2, q'⟩))
    · exact .inr (.inr (.inr ⟨a, o, h1, h2, q'⟩))
  · exact q.elim
theorem sndNotIn {K : PySem.W.Frag} {C : NC} : Snd2 K C fNotIn (rNotInA K) := by
  intro W ρ N H σ d e x y Q R rd re q
  unfold fNotIn at q
  split at q
  · rename_i b hb
    have q' := q.ok (b := V.bl (!b)) R rfl
    rcases snd_inN R rd re hb with ⟨p, ds, h1, h2, h3, h4, rfl⟩ | ⟨p, xs, h1, h2, h3, h4, rfl⟩ | ⟨c, z, h1, h2, rfl⟩ | ⟨a, o, h1, h2, rfl⟩
    · exact .inl ⟨p, ds, h1, h2, h3, h4, q'⟩
    · exact .inr (.inl ⟨p, xs, h1, h2, h3, h4, q'⟩)
    · exact .inr (.inr (.inl ⟨c, z, h1, h2, q'⟩))
    · exact .inr (.inr (.inr ⟨a, o, h1, h2, q'⟩))
  · exact q.elim

/-! ### subscripts -/
def atD (l : List D) (i : Int) : Option D := (ixN l.length i).bind fun j => l[j]?
def getIx (N : NH) : D → D → Option D
  | .ref n, k => match N[n]?, k with
    | some (.lst l), .int i => atD l i
    | some (.lst l), .bl k => atD l (b2n k : Int)
    | some (.lst _), _ => none
    | _, _ => (getN N n k).join
  | .tup l, .int i | .ctup l, .int i | .lsc l, .int i => atD l i
  | .str z, .int i => if z.length ≤ sizeLine then (atI z.cps.toList i).map fun c => .str ⟨#[c]⟩ else none
  | _, _ => none
def fGet : D → D → NH → R D := fun x y N => match getIx N x y with | some d => .ok d N | none => .bad
theorem atD_ok {K : PySem.W.Frag} {ρ : List Addr} {H : Hp} {l : List D} {xs : List V} {i : Int} {d : D} (r : RDs K ρ H l xs) (e : atD l i = some d) : ∃ v, atI xs i = some v ∧ RD K ρ H d v := by
  unfold atD at e
  obtain ⟨j, h1, h2⟩ := Option.bind_eq_some_iff.mp e
  obtain ⟨v, h3, h4⟩ := r.get' h2
  refine ⟨v, ?_, h4⟩
  unfold atI
  rw [r.length, h1]; exact h3
theorem ix_dict {X : Cx} (hu : X.A.units + 1 < cLine) : IxR X (fun x y H Q => ∃ a v, x = .ref a ∧ DGet H a y (some v) ∧ Q v H) := by
  intro value slice pins s σ H x y v u Q I rx ry h hs
  obtain ⟨a, w, rfl, g, q⟩ := h
  obtain rfl : v = Value.ref a := rx
  have hT := dict_typeIs I g
  unfold subscriptTail
  refine wpAny_bind ?_
  rw [getitemInPython_of_ne hT.not_modules]
  refine wpAny_bind (wpAny_specialOf hT PySem.F.slot_dict_getitem.lookup ?_)
  have fin : wpAny (model X.prog X.w) X.A (subscripted slice false (.ref a) u) (fun r s₃ => wpAny (model X.prog X.w) X.A (letTemporaryGo value (.ref a) r >>= fun _ => pure r) (EP X pins σ Q) X.xe s₃) X.xe s := by
    rw [hs]
    exact wpAny_operating (wpAny_mono (d_getItem (Q := EP X pins σ Q) hu I g ry fun w' s3 I3 rw' => ⟨w, H, I3, rw', q⟩) (fun r s₃ h₃ => wpAny_bind (wpAny_letTemporaryGo (wpAny_pure h₃))) fun _ _ x => x)
  first
    | exact wpAny_pure (wpAny_bind fin)
    | exact wpAny_bind (wpAny_pure (wpAny_bind fin))
    | exact wpAny_bind fin
def rGet (K : PySem.W.Frag) : R2 := fun x y H Q => rIx K x y H Q ∨ rIxB K x y H Q ∨ ∃ a v, x = .ref a ∧ DGet H a y (some v) ∧ Q v H
theorem ixGet {X : Cx} (hu : X.A.units + 1 < cLine) : IxR X (rGet X.K) := ix_seq.or (ix_listB.or (ix_dict hu))
theorem sndGet {K : PySem.W.Frag} {C : NC} : Snd2 K C fGet (rGet K) := by
  intro W ρ N H σ d e x y Q R rd re q
  unfold fGet at q
  split at q
  · rename_i b hb
    unfold getIx at hb
    split at hb
    · split at hb
      · rename_i n _ _ l i hN
        obtain ⟨a, xs, rfl, _, ha, ra⟩ := R.lst rd hN
        obtain ⟨v, h1, h2⟩ := atD_ok ra hb
        exact .inl (.inl ⟨a, xs, _, v, rfl, re, SqL.of ha, h1, q.ok R h2⟩)
      · rename_i n _ _ l k hN
        obtain ⟨a, xs, rfl, _, ha, ra⟩ := R.lst rd hN
        obtain ⟨v, h1, h2⟩ := atD_ok ra hb
        exact .inr (.inl ⟨a, xs, _, v, rfl, re, SqL.of ha, h1, q.ok R h2⟩)
      · cases hb
      · have h1 := Option.join_eq_some_iff.mp hb
        obtain ⟨a, r, e1, e2, _, e4⟩ := getN_ok R rd re h1
        obtain ⟨v, ev, rv⟩ := e4 b rfl
        subst ev
        exact .inr (.inr ⟨a, v, e1, e2, q.ok R rv⟩)
    · obtain ⟨a, xs, rfl, ta, ra⟩ := rd
      obtain ⟨v, h1, h2⟩ := atD_ok ra hb
      exact .inl (.inr (.inl ⟨a, xs, _, v, rfl, re, ta.sq, h1, q.ok R h2⟩))
    · obtain ⟨a, xs, rfl, ta, ra⟩ := rd
      obtain ⟨v, h1, h2⟩ := atD_ok ra hb
      exact .inl (.inr (.inl ⟨a, xs, _, v, rfl, re, ta.sq, h1, q.ok R h2⟩))
    · obtain ⟨a, xs, rfl, ta, ra⟩ := rd
      obtain ⟨v, h1, h2⟩ := atD_ok ra hb
      exact .inl (.inl ⟨a, xs, _, v, rfl, re, ta.sq, h1, q.ok R h2⟩)
    · split at hb
      · rename_i hz
        obtain ⟨c, h1, h2⟩ := Option.map_eq_some_iff.mp hb
        subst h2
        exact .inl (.inr (.inr ⟨_, _, c, rd, re, hz, h1, q.ok R rfl⟩))
      · cases hb
    · cases hb
  · exact q.elim
theorem n_get {X : Cx} {C : NC} {W : WX} {a b : Expr} {pos : Pos} {ma mb : NE} (hu : X.A.units + 1 < cLine) (ha : PE X a (tE X.K C W ma)) (hb : PE X b (tE X.K C W mb)) (hs : PlainIx b) : PE X (.Subscript a b pos) (tE X.K C W (nOp2 fGet ma mb)) :=
  pe_weak (pe_ix (ixGet hu) ha hb hs) fun σ H Q q => snd_op sndGet q

/-! ### slices -/
def cutD (l : List D) (lo hi : Option Int) : List D := (l.drop (HT.sIx l.length 0 lo)).take (HT.sIx l.length l.length hi - HT.sIx l.length 0 lo)
def fCut (x : D) (lo hi : Option Int) (N : NH) : R D := match x with
  | .tup l => .ok (.tup (cutD l lo hi)) N
  | .str z => if z.length ≤ sizeLine then .ok (.str (cutS z lo hi)) N else .bad
  | .lsc l => N.new (.lst (cutD l lo hi))
  | .ref n => match N[n]? with
    | some (.lst l) => N.new (.lst (cutD l lo hi))
    | _ => .bad
  | _ => .bad
abbrev NO := NEnv → NH → R (Option Int)
def nNoPart : NO := fun _ N => .ok none N
def nPart (a : NE) : NO := fun σ N => (a σ N).bind fun x N => match x with | .int i => .ok (some i) N | _ => .bad
def nCut (e : NE) (lo hi : NO) : NE := fun σ N => (e σ N).bind fun x N => (lo σ N).bind fun l N => (hi σ N).bind fun u N => fCut x l u N
abbrev rOpt : List Addr → Hp → Option Int → Option Int → Prop := fun _ _ a b => b = a
def tO (K : PySem.W.Frag) (C : NC) (W : WX) (m : NO) : TO := tR rOpt K C W m
section
variable {X : Cx} {C : NC} {W : WX} {a b e : Expr} {pos p2 : Pos} {lo hi : Option Expr}
theorem po_weak {t t' : TO} {e : Option Expr} (h : PO X e t) (w : ∀ σ H Q, t' σ H Q → t σ H Q) : PO X e t' := ⟨fun pins s σ H Q I q => h.run pins s σ H Q I (w σ H Q q)⟩
theorem n_noPart : PO X none (tO X.K C W nNoPart) := po_weak po_none fun σ H Q ⟨ρ, σn, N, R, S, q⟩ => q.ok R rfl
theorem n_part {ma : NE} (ha : PE X a (tE X.K C W ma)) : PO X (some a) (tO X.K C W (nPart ma)) := po_weak (po_some ha) fun σ H Q ⟨ρ, σn, N, R, S, q⟩ => PostR.then R S q fun x H1 ρ1 N1 d E1 R1 S1 rd q1 => by
  cases d with
  | int i => exact ⟨i, rd, q1.ok R1 rfl⟩
  | _ => exact q1.elim
theorem cutD_ok {K : PySem.W.Frag} {ρ : List Addr} {H : Hp} {l : List D} {xs : List V} (r : RDs K ρ H l xs) (lo hi : Option Int) : RDs K ρ H (cutD l lo hi) (cutV xs lo hi) := by
  unfold cutD cutV
  rw [r.length]
  exact (r.drop _).take _
def rCut (K : PySem.W.Frag) : V → Option Int → Option Int → Hp → VK → Prop := fun x lo hi H Q => rSlA K x lo hi H Q ∨ rSlL K x lo hi H Q ∨ rSlS x lo hi H Q
theorem cutD_whole {l : List D} {lo hi : Option Int} (h : HT.sIx l.length 0 lo = 0 ∧ HT.sIx l.length l.length hi = l.length) : cutD l lo hi = l := by
  unfold cutD
  rw [h.1, h.2, List.drop_zero, Nat.sub_zero, List.take_length]
theorem snd_cut {K : PySem.W.Frag} {ρ : List Addr} {N : NH} {H : Hp} {σ : L2.St} {d : D} {x : V} {lo hi : Option Int} {Q : VK} (R : NRel K C ρ N H) (rd : RD K ρ H d x) (q : PostR (RD K) K C W ρ H σ Q (fCut d lo hi N)) : rCut K x lo hi H Q := by
  unfold fCut at q
  split at q
  · rename_i l
    obtain ⟨a, xs, rfl, ta, ra⟩ := rd
    refine .inl ⟨a, xs, rfl, ta.sq, fun h => ?_, fun _ p hp => q.newT R (cutD_ok ra lo hi) hp⟩
    rw [ra.length] at h
    exact q.ok R ⟨a, xs, rfl, ta, by rw [cutD_whole h]; exact ra⟩
  · split at q
    · rename_i hz
      exact .inr (.inr ⟨_, rd, hz, q.ok R rfl⟩)
    · exact q.elim
  · obtain ⟨a, xs, rfl, ta, ra⟩ := rd
    exact .inr (.inl ⟨a, xs, rfl, ta.sq, fun p hp => q.newL R (cutD_ok ra lo hi) hp⟩)
  · split at q
    · rename_i n _ l hN
      obtain ⟨a, xs, rfl, _, ha, ra⟩ := R.lst rd hN
      exact .inr (.inl ⟨a, xs, rfl, SqL.of ha, fun p hp => q.newL R (cutD_ok ra lo hi) hp⟩)
    · exact q.elim
  · exact q.elim
theorem n_cut {me : NE} {ml mh : NO} (he : PE X e (tE X.K C W me)) (hl : PO X lo (tO X.K C W ml)) (hh : PO X hi (tO X.K C W mh)) : PE X (.Subscript e (.Slice lo hi none p2) pos) (tE X.K C W (nCut me ml mh)) :=
  pe_weak (pe_slice (sl_tupA.or (sl_list.or sl_str)) he hl hh) fun σ H Q ⟨ρ, σn, N, R, S, q⟩ => PostR.then R S q fun x H1 ρ1 N1 d E1 R1 S1 rd q1 =>
    PostR.then R1 S1 q1 fun l H2 ρ2 N2 l' E2 R2 S2 rl q2 => PostR.then R2 S2 q2 fun u H3 ρ3 N3 u' E3 R3 S3 ru q3 => by
      have rl : l = l' := rl
      have ru : u = u' := ru
      subst rl ru
      exact snd_cut R3 ((rd.ext E2).ext E3) q3

/-! ### truth -/
def truN (N : NH) : D → Option Bool
  | .non => some false
  | .bl b => some b
  | .int i => some (i != 0)
  | .str z => if z.length ≤ sizeLine then some ((z.length : Int) != 0) else none
  | .tup l | .ctup l | .lsc l => some (!l.isEmpty)
  | .ref n => match N[n]? with
    | some (.lst l) => some (!l.isEmpty)
    | some (.dK l) => some (!l.isEmpty)
    | _ => none
def nTru (a : NE) : NT := fun σ N => (a σ N).bind fun x N => match truN N x with | some b => .ok b N | none => .bad
theorem truN_ok {K : PySem.W.Frag} {ρ : List Addr} {N : NH} {H : Hp} {d : D} {x : V} {b : Bool} (R : NRel K C ρ N H) (rd : RD K ρ H d x) (e : truN N d = some b) : TruV K x H b := by
  unfold truN at e
  split at e
  · cases e; rw [show x = _ from rd]; rfl
  · cases e; rw [show x = _ from rd]; rfl
  · cases e; rw [show x = _ from rd]; rfl
  · split at e
    · rename_i hz
      cases e; rw [show x = _ from rd]; exact ⟨hz, rfl⟩
    · cases e
  · cases e
    obtain ⟨a, xs, rfl, ta, ra⟩ := rd
    exact .inr (.inl ⟨xs, ta.sq, by rw [ra.empty_iff]⟩)
  · cases e
    obtain ⟨a, xs, rfl, ta, ra⟩ := rd
    exact .inr (.inl ⟨xs, ta.sq, by rw [ra.empty_iff]⟩)
  · cases e
    obtain ⟨a, xs, rfl, ta, ra⟩ := rd
    exact .inl ⟨xs, ta.sq, by rw [ra.empty_iff]⟩
  · split at e
    · rename_i n _ l hN
      cases e
      obtain ⟨a, xs, rfl, _, ha, ra⟩ := R.lst rd hN
      exact .inl ⟨xs, SqL.of ha, by rw [ra.empty_iff]⟩
    · rename_i n _ l hN
      cases e
      obtain ⟨a, rfl, ha⟩ := rd
      obtain ⟨m, h1, h2⟩ := R.obj n a _ ha hN
      have hl := h2.length
      exact .inr (.inr ⟨m, h1, by cases l <;> cases m <;> simp_all⟩)
    · cases e
theorem n_tru {ma : NE} (ha : PE X a (tE X.K C W ma)) (he : ∀ whole, isTrue a X.env whole = (do let v ← whole; standAt a.pos; holding [v] (truthy v)) := by intro _; rfl) : PT X a (tT X.K C W (nTru ma)) :=
  pt_weak (pt_truth ha he) fun σ H Q ⟨ρ, σn, N, R, S, q⟩ => PostR.then R S q fun x H1 ρ1 N1 d E1 R1 S1 rd q1 => by
    cases e : truN N1 d with
    | none => rw [e] at q1; exact q1.elim
    | some b =>
      rw [e] at q1
      exact ⟨b, truN_ok R1 rd e, q1.ok R1 rfl⟩

/-! ### and, or, not, if -/
variable {rest : List Expr}
theorem n_andT {ma mb : NT} (ha : PT X a (tT X.K C W ma)) (hb : PW X (.BoolOp .And (b :: rest) pos) (tT X.K C W mb)) : PW X (.BoolOp .And (a :: b :: rest) pos) (tT X.K C W (nAndT ma mb)) :=
  pw_weak (pw_and ha hb) fun σ H Q ⟨ρ, σn, N, R, S, q⟩ => PostR.then R S q fun x H1 ρ1 N1 d E1 R1 S1 rd q1 => by
    have rd : x = d := rd
    subst rd
    cases x with
    | true => exact iteT ⟨ρ1, σn, N1, R1, S1, q1⟩
    | false => exact iteF (q1.ok R1 rfl)
theorem n_andT1 {ma : NT} (ha : PT X a (tT X.K C W ma)) : PW X (.BoolOp .And [a] pos) (tT X.K C W ma) := pw_and1 ha
theorem n_orT {ma mb : NT} (ha : PT X a (tT X.K C W ma)) (hb : PW X (.BoolOp .Or (b :: rest) pos) (tT X.K C W mb)) : PW X (.BoolOp .Or (a :: b :: rest) pos) (tT X.K C W (nOrT ma mb)) :=
  pw_weak (pw_or ha hb) fun σ H Q ⟨ρ, σn, N, R, S, q⟩ => PostR.then R S q fun x H1 ρ1 N1 d E1 R1 S1 rd q1 => by
    have rd : x = d := rd
    subst rd
    cases x with
    | true => exact iteT (q1.ok R1 rfl)
    | false => exact iteF ⟨ρ1, σn, N1, R1, S1, q1⟩
theorem n_orT1 {ma : NT} (ha : PT X a (tT X.K C W ma)) : PW X (.BoolOp .Or [a] pos) (tT X.K C W ma) := pw_or1 ha
theorem n_notT {ma : NT} (ha : PT X a (tT X.K C W ma)) : PT X (.UnaryOp .Not a pos) (tT X.K C W (nNotT ma)) :=
  pt_weak (pt_not ha) fun σ H Q ⟨ρ, σn, N, R, S, q⟩ => PostR.then R S q fun x H1 ρ1 N1 d E1 R1 S1 rd q1 => by
    have rd : x = d := rd
    subst rd
    exact q1.ok R1 rfl
theorem n_or {ma mb : NE} (ha : PE X a (tE X.K C W ma)) (hb : PE X (.BoolOp .Or (b :: rest) pos) (tE X.K C W mb)) : PE X (.BoolOp .Or (a :: b :: rest) pos) (tE X.K C W (nOr ma mb)) :=
  pe_weak (pe_or ha hb) fun σ H Q ⟨ρ, σn, N, R, S, q⟩ => PostR.then R S q fun x H1 ρ1 N1 d E1 R1 S1 rd q1 => by
    cases d with
    | bl k =>
      refine ⟨k, rd, ?_⟩
      cases k with
      | true => exact iteT (q1.ok R1 rfl)
      | false => exact iteF ⟨ρ1, σn, N1, R1, S1, q1⟩
    | _ => exact q1.elim
theorem n_one {op} {ma : NE} (ha : PE X a (tE X.K C W ma)) : PE X (.BoolOp op [a] pos) (tE X.K C W ma) := pe_one ha
theorem n_if {c : Expr} {mc : NT} {ma mb : NE} (hc : PT X c (tT X.K C W mc)) (ha : PE X a (tE X.K C W ma)) (hb : PE X b (tE X.K C W mb)) : PE X (.IfExp c a b pos) (tE X.K C W (nIf mc ma mb)) :=
  pe_weak (pe_ifExp hc ha hb) fun σ H Q ⟨ρ, σn, N, R, S, q⟩ => PostR.then R S q fun x H1 ρ1 N1 d E1 R1 S1 rd q1 => by
    have rd : x = d := rd
    subst rd
    cases x with
    | true => exact iteT ⟨ρ1, σn, N1, R1, S1, q1⟩
    | false => exact iteF ⟨ρ1, σn, N1, R1, S1, q1⟩
end
end NY

set_option Elab.async false
set_option linter.all false
set_option maxRecDepth 100000
set_option maxHeartbeats 4000000
/-! NY5: attributes, displays, calls of defs, methods, classes -/
namespace NY
open PySem PySem.Spec PyProof.Rows L2

section
variable {X : Cx} {C : NC} {W : WX} {a b e o : Expr} {es : List Expr} {pos p apos : Pos}
theorem n_nil : PA X [] (tA X.K C W nNil) := pa_weak pa_nil fun σ H Q ⟨ρ, σn, N, R, S, q⟩ => q.ok R rfl
theorem n_cons {ma : NE} {mr : NA} (ha : PE X e (tE X.K C W ma)) (hr : PA X es (tA X.K C W mr)) (hs : starEach (e :: es) X.env = (false, eval e X.env) :: starEach es X.env := by rfl) : PA X (e :: es) (tA X.K C W (nCons ma mr)) :=
  pa_weak (pa_cons ha hr hs) fun σ H Q ⟨ρ, σn, N, R, S, q⟩ => PostR.then R S q fun x H1 ρ1 N1 d E1 R1 S1 rd q1 => PostR.then R1 S1 q1 fun xs H2 ρ2 N2 ds E2 R2 S2 rs q2 => q2.ok R2 ⟨x, xs, rfl, rd.ext E2, rs⟩

/-! ### displays -/
def nTup (m : NA) : NE := fun σ N => (m σ N).bind fun ds N => if ds.length ≤ sizeLine then .ok (.tup ds) N else .bad
def nLst (m : NA) : NE := fun σ N => (m σ N).bind fun ds N => if ds.length ≤ sizeLine then N.new (.lst ds) else .bad
theorem n_tup {k : Nat} {m : NA} (h : PA X es (tA X.K C W m)) : PE X (.Tuple es k pos) (tE X.K C W (nTup m)) :=
  pe_weak (pe_tup h) fun σ H Q ⟨ρ, σn, N, R, S, q⟩ => PostR.then R S q fun xs H1 ρ1 N1 ds E1 R1 S1 rs q1 => by
    have hl := rs.length
    split at q1
    · rename_i h
      exact ⟨by omega, fun p hp => q1.newT R1 rs hp⟩
    · exact q1.elim
theorem n_lst {m : NA} (h : PA X es (tA X.K C W m)) : PE X (.List es pos) (tE X.K C W (nLst m)) :=
  pe_weak (pe_lst h) fun σ H Q ⟨ρ, σn, N, R, S, q⟩ => PostR.then R S q fun xs H1 ρ1 N1 ds E1 R1 S1 rs q1 => by
    have hl := rs.length
    split at q1
    · rename_i h
      exact ⟨by omega, fun p hp => q1.newL R1 rs hp⟩
    · exact q1.elim
def nDK : NE := fun _ N => N.new (.dK [])
def nDT : NE := fun _ N => N.new (.dT [])
/-! ### attributes -/
def lookF (f : Nat) : List (Nat × D) → Option D
  | [] => none
  | (g, d) :: r => if g = f then some d else lookF f r
def putFD (f : Nat) (d : D) : List (Nat × D) → List (Nat × D)
  | [] => [(f, d)]
  | (g, e) :: r => if g = f then (g, d) :: r else (g, e) :: putFD f d r
theorem RF.no {K : PySem.W.Frag} {ρ : List Addr} {H : Hp} {names : List Str} {x : Str} (hx : x ∉ names) : ∀ {fs : List (Nat × D)} {l : List (Str × V)}, RF K ρ H names fs l → l.lookup x = none
  | [], _, h => by cases h; rfl
  | (g, d') :: r, _, h => by
    obtain ⟨y, v, s, rfl, h1, h2, h3⟩ := h
    have ne : (x == y) = false := beq_eq_false_iff_ne.mpr fun z => hx (z ▸ List.mem_of_getElem? h1)
    rw [List.lookup_cons, ne]; exact RF.no hx h3
theorem RF.length {K : PySem.W.Frag} {ρ : List Addr} {H : Hp} {names : List Str} : ∀ {fs : List (Nat × D)} {l : List (Str × V)}, RF K ρ H names fs l → l.length = fs.length
  | [], _, h => by cases h; rfl
  | (g, d') :: r, _, h => by
    obtain ⟨y, v, s, rfl, h1, h2, h3⟩ := h
    rw [List.length_cons, List.length_cons, RF.length h3]
theorem RF.put {K : PySem.W.Frag} {ρ : List Addr} {H : Hp} {names : List Str} (nd : names.Nodup) {f : Nat} {x : Str} (hx : names[f]? = some x) {d : D} {v : V} (hd : RD K ρ H d v) : ∀ {fs : List (Nat × D)} {l : List (Str × V)}, RF K ρ H names fs l → RF K ρ H names (putFD f d fs) (putF x v l)
  | [], _, h => by cases h; exact ⟨x, v, [], rfl, hx, hd, rfl⟩
  | (g, d') :: r, _, h => by
    obtain ⟨y, w, s, rfl, h1, h2, h3⟩ := h
    unfold putFD putF
    by_cases q : g = f
    · subst q
      rw [hx] at h1; cases h1
      rw [if_pos rfl, if_pos rfl]
      exact ⟨x, v, s, rfl, hx, hd, h3⟩
    · have ne : ¬ y = x := fun z => q (nd_ix nd h1 (z ▸ hx))
      rw [if_neg q, if_neg ne]
      exact ⟨y, w, _, rfl, h1, h2, RF.put nd hx hd h3⟩
/-- a.f of instances of the classes cs -/
def nFld (cs : List Nat) (f : Nat) (a : NE) : NE := fun σ N => (a σ N).bind fun x N => match x with
  | .ref n => match N[n]? with
    | some (.ins c fs) => if c ∈ cs then (match lookF f fs with | some d => .ok d N | none => .bad) else .bad
    | _ => .bad
  | _ => .bad
def Attr (K : PySem.W.Frag) (C : NC) (x : Str) (cs : List Nat) : Prop := ∀ c ∈ cs, Cls K (C.cls c) ∧ NoAttr K (C.cls c) x
theorem Attr.one {K : PySem.W.Frag} {C : NC} {x : Str} {c : Nat} (h : Cls K (C.cls c)) (h' : NoAttr K (C.cls c) x) : Attr K C x [c] := fun c' hc => by rw [List.mem_singleton.mp hc]; exact ⟨h, h'⟩
theorem Attr.cons {K : PySem.W.Frag} {C : NC} {x : Str} {c : Nat} {cs : List Nat} (h : Cls K (C.cls c)) (h' : NoAttr K (C.cls c) x) (r : Attr K C x cs) : Attr K C x (c :: cs) := fun c' hc => by
  rcases List.mem_cons.mp hc with e | e
  · rw [e]; exact ⟨h, h'⟩
  · exact r c' e
end

/-- a part and what follows it, its equation told -/
theorem PostR.bindE {α β γ δ : Type} {rel : List Addr → Hp → α → β → Prop} {rel' : List Addr → Hp → γ → δ → Prop} {K : PySem.W.Frag} {C : NC} {W : WX} {ρ : List Addr} {H : Hp} {σ : L2.St} {Q : δ → Hp → Prop} {r : R α} {k : α → NH → R γ} (h : PostR rel' K C W ρ H σ Q (r.bind k)) :
    PostR rel K C W ρ H σ (fun b H1 => ∃ a ρ1 N1, Ext ρ H ρ1 H1 ∧ NRel K C ρ1 N1 H1 ∧ rel ρ1 H1 a b ∧ PostR rel' K C W ρ1 H1 σ Q (k a N1) ∧ r = .ok a N1) r := by
  cases r with
  | ok d N => exact fun v H' ρ' e n q => ⟨d, ρ', N, e, n, q, PostR.ext e h, rfl⟩
  | exc x N => exact h
  | bad => exact h
/-! ### promises of defs -/
/-- what a def promises: what the nice function says -/
def spN (K : PySem.W.Frag) (C : NC) (n : Nat) (m : NF) : Sp := fun vs H Q E => vs.length = n ∧ ∃ (ρ : List Addr) (N : NH) (ds : List D), NRel K C ρ N H ∧ RDs K ρ H ds vs ∧ PostR (RD K) K C (fun c d _ H => E c d H) ρ H [] Q (m ds N)
theorem PostR.at {α β : Type} {rel : List Addr → Hp → α → β → Prop} {K : PySem.W.Frag} {C : NC} {W : WX} {ρ : List Addr} {H : Hp} {σ : L2.St} {Q : β → Hp → Prop} {r : R α} (h : PostR rel K C W ρ H σ Q r) : PostR rel K C (fun c d _ H => W c d σ H) ρ H [] Q r := by
  cases r with
  | ok d N => exact h
  | exc x N => exact h
  | bad => exact h
section
variable (P : Program) (w : World) (K : PySem.W.Frag) (mg : Str → Option Value) (base : Heap) (C : NC)
structure FunN (k : Nat) (x : Str) (n : Nat) (m : NF) : Prop where
  ex : ∃ (f : Addr) (fd : FuncData) (ps : List Str), mg x = some (.ref f) ∧ PySem.W.keepIn K (.ref f) = true ∧ Binds K fd ps [] ∧ FnOk P w K mg base (L2.CX P w) k f fd ps (spN K C n m)
structure MthN (k : Nat) (c : Nat) (x : Str) (n : Nat) (m : NF) : Prop where
  cls : Cls K (C.cls c)
  no : x ∉ C.names
  ex : ∃ (f : Addr) (fd : FuncData) (ps : List Str), Meth K (C.cls c) x f ∧ Binds K fd ps [] ∧ FnOk P w K mg base (L2.CX P w) k f fd ps (spN K C n m)
structure MakN (k : Nat) (c : Nat) (x : Str) (n : Nat) (m : NF) : Prop where
  at_ : mg x = some (.ref (C.cls c))
  ex : ∃ (f : Addr) (fd : FuncData) (ps : List Str), Mk K (C.cls c) f ∧ Binds K fd ps [] ∧ FnOk P w K mg base (L2.CX P w) k f fd ps (spN K C n m)
end
/-- what a call lets out reaches the wish -/
abbrev PX (X : Cx) (W : WX) : Prop := ∀ σ, PassesAt (L2.CX X.prog X.w) X σ (WE W σ)
theorem px {X : Cx} {W : WX} (tk : Takes X W) : PX X W := fun σ => passAt tk σ
abbrev W0 : WX := fun _ _ _ _ => False
theorem px0 {X : Cx} : PX X W0 := fun _ _ _ _ _ _ _ h => by
  obtain ⟨_, _, _, _, _, _, _, _, _, _, _, _, z⟩ := h
  exact z.elim

def nCall (f : NF) (m : NA) : NE := fun σ N => (m σ N).bind fun ds N => f ds N
section
variable {X : Cx} {C : NC} {W : WX} {k n c : Nat} {x : Str} {f : NF} {p pos apos : Pos} {e o : Expr} {es : List Expr} {m : NA}
theorem n_call (F : FunN X.prog X.w X.K X.mg X.base C k x n f) (hr : Room k X.A) (hx : PX X W) (hn : (e :: es).length = n) (ha : PA X (e :: es) (tA X.K C W m)) (hg : Gl X x := by rfl)
    (hdb : (x == ("__debug__" : Str)) = false := by decide) (he : starEach (e :: es) X.env = (false, eval e X.env) :: starEach es X.env := by rfl) (hpl : (backTo pos (starEach es X.env)).any (·.1) = false := by rfl) (hm : ∀ σ N ds N', m σ N = .ok ds N' → ds.length = n) :
    PE X (.Call (.Name x p) (e :: es) [] pos) (tE X.K C W (nCall f m)) := by
  obtain ⟨fa, fd, ps, h1, h2, h3, h4⟩ := F.ex
  refine pe_weak (pe_callS h4 hr hg h1 h2 h3 hx ha hdb he hpl) fun σ H Q ⟨ρ, σn, N, R, S, q⟩ => ?_
  have hl : ∀ ds N', m σn N = .ok ds N' → ds.length = n := hm σn N
  refine ⟨ρ, σn, N, R, S, ?_⟩
  revert q
  show PostR (RD X.K) X.K C W ρ H σ Q ((m σn N).bind fun ds N => f ds N) → PostR (RDs X.K) X.K C W ρ H σ _ (m σn N)
  intro q
  cases e : m σn N with
  | ok ds N' =>
    rw [e] at q
    exact fun vs H' ρ' E' R' rs => ⟨by rw [rs.length]; exact hl ds N' e, ρ', N', ds, R', rs, (PostR.ext E' q).at⟩
  | exc x N' => rw [e] at q; exact q
  | bad => rw [e] at q; exact q
theorem nNil_len (σ : NEnv) (N : NH) (ds : List D) (N' : NH) (h : nNil σ N = .ok ds N') : ds.length = 0 := by cases h; rfl
theorem nCons_len {a : NE} {r : NA} {j : Nat} (hr : ∀ σ N ds N', r σ N = .ok ds N' → ds.length = j) (σ : NEnv) (N : NH) (ds : List D) (N' : NH) (h : nCons a r σ N = .ok ds N') : ds.length = j + 1 := by
  unfold nCons at h
  cases e : a σ N with
  | ok x N1 =>
    rw [e] at h
    replace h : ((r σ N1).bind fun xs N => NY.R.ok (x :: xs) N) = .ok ds N' := h
    cases e2 : r σ N1 with
    | ok xs N2 =>
      rw [e2] at h
      cases h
      rw [List.length_cons, hr _ _ _ _ e2]
    | exc y N2 => rw [e2] at h; cases h
    | bad => rw [e2] at h; cases h
  | exc y N2 => rw [e] at h; cases h
  | bad => rw [e] at h; cases h
/-! ### methods -/
/-- o.m(..): the receiver's class chooses the def -/
def nMeth (fs : List (Nat × NF)) (o : NE) (m : NA) : NE := fun σ N => (o σ N).bind fun x N => match x with
  | .ref n => match N[n]? with
    | some (.ins c _) => match fs.find? (fun p => decide (p.1 = c)) with
      | some (_, f) => (m σ N).bind fun ds N => f (x :: ds) N
      | none => .bad
    | _ => .bad
  | _ => .bad
/-- the receiver is of one of the classes, each with its def -/
def MthsN (X : Cx) (C : NC) (k : Nat) (x : Str) (n : Nat) (fs : List (Nat × NF)) : Prop := ∀ p ∈ fs, MthN X.prog X.w X.K X.mg X.base C k p.1 x n p.2
theorem MthsN.nil {X : Cx} : MthsN X C k x n [] := fun p h => nomatch h
theorem MthsN.cons {X : Cx} {fs : List (Nat × NF)} (h : MthN X.prog X.w X.K X.mg X.base C k c x n f) (r : MthsN X C k x n fs) : MthsN X C k x n ((c, f) :: fs) := fun p hp => by
  rcases List.mem_cons.mp hp with e | e
  · rw [e]; exact h
  · exact r p e
theorem MthN.mono {P : Program} {w : World} {K : PySem.W.Frag} {mg : Str → Option Value} {base : Heap} {j : Nat} (h : MthN P w K mg base C j c x n f) (l : j ≤ k) : MthN P w K mg base C k c x n f :=
  ⟨h.cls, h.no, let ⟨fa, fd, ps, a, b, d⟩ := h.ex; ⟨fa, fd, ps, a, b, d.mono l⟩⟩
theorem FunN.mono {P : Program} {w : World} {K : PySem.W.Frag} {mg : Str → Option Value} {base : Heap} {j : Nat} (h : FunN P w K mg base C j x n f) (l : j ≤ k) : FunN P w K mg base C k x n f :=
  ⟨let ⟨fa, fd, ps, a, b, d, g⟩ := h.ex; ⟨fa, fd, ps, a, b, d, g.mono l⟩⟩
theorem MakN.mono {P : Program} {w : World} {K : PySem.W.Frag} {mg : Str → Option Value} {base : Heap} {j : Nat} (h : MakN P w K mg base C j c x n f) (l : j ≤ k) : MakN P w K mg base C k c x n f :=
  ⟨h.at_, let ⟨fa, fd, ps, a, b, d⟩ := h.ex; ⟨fa, fd, ps, a, b, d.mono l⟩⟩
/-! ### objects made -/
def nMake (c : Nat) (f : NF) (m : NA) : NE := fun σ N => (m σ N).bind fun ds N => (f (.ref N.length :: ds) (N ++ [.ins c []])).bind fun d N' => if d = .non then .ok (.ref N.length) N' else .bad
end
end NY

set_option Elab.async false
set_option linter.all false
set_option maxRecDepth 100000
set_option maxHeartbeats 4000000
/-! NY6: calls of built-ins, methods of built-in types, isinstance -/
namespace NY
open PySem PySem.Spec PyProof.Rows L2

def SndN (K : PySem.W.Frag) (C : NC) (f : NF) (r : List V → Hp → VK → Prop) : Prop :=
  ∀ (W : WX) (ρ : List Addr) (N : NH) (H : Hp) (σ : L2.St) (ds : List D) (xs : List V) (Q : VK), NRel K C ρ N H → RDs K ρ H ds xs → PostR (RD K) K C W ρ H σ Q (f ds N) → r xs H Q
def SndM (K : PySem.W.Frag) (C : NC) (f : D → List D → NH → R D) (T : String) (r : V → List V → Hp → VK → Prop) : Prop :=
  ∀ (W : WX) (ρ : List Addr) (N : NH) (H : Hp) (σ : L2.St) (d : D) (ds : List D) (x : V) (xs : List V) (Q : VK), NRel K C ρ N H → RD K ρ H d x → RDs K ρ H ds xs → PostR (RD K) K C W ρ H σ Q (f d ds N) → r x xs H Q
section
variable {X : Cx} {C : NC} {W : WX} {e o : Expr} {es : List Expr} {pos p apos cpos : Pos} {x name : Str} {id T : String} {m : NA} {f : NF}
theorem n_callB {r : List V → Hp → VK → Prop} (hc : CallR X (.builtin id) r) (h : SndN X.K C f r) (hm : X.mg x = none) (hv : bootBuiltins x = some (.builtin id)) (ha : PA X (e :: es) (tA X.K C W m)) (hg : Gl X x := by rfl)
    (hn : x ≠ "__name__" := by decide) (hdb : (x == ("__debug__" : Str)) = false := by decide) (he : starEach (e :: es) X.env = (false, eval e X.env) :: starEach es X.env := by rfl) (hpl : (backTo pos (starEach es X.env)).any (·.1) = false := by rfl) :
    PE X (.Call (.Name x p) (e :: es) [] pos) (tE X.K C W (nCall f m)) :=
  pe_weak (pe_callB hc hg hm hv ha hn hdb he hpl) fun σ H Q ⟨ρ, σn, N, R, S, q⟩ => PostR.then R S q fun xs H1 ρ1 N1 ds E1 R1 S1 rs q1 => h W ρ1 N1 H1 σ ds xs Q R1 rs q1
theorem n_callTy {r : List V → Hp → VK → Prop} (hc : CallR X (.type T) r) (h : SndN X.K C f r) (hm : X.mg x = none) (hv : bootBuiltins x = some (.type T)) (ha : PA X (e :: es) (tA X.K C W m)) (hg : Gl X x := by rfl)
    (hn : x ≠ "__name__" := by decide) (hdb : (x == ("__debug__" : Str)) = false := by decide) (he : starEach (e :: es) X.env = (false, eval e X.env) :: starEach es X.env := by rfl) (hpl : (backTo pos (starEach es X.env)).any (·.1) = false := by rfl) :
    PE X (.Call (.Name x p) (e :: es) [] pos) (tE X.K C W (nCall f m)) :=
  pe_weak (pe_callTy hc hg hm hv ha hn hdb he hpl) fun σ H Q ⟨ρ, σn, N, R, S, q⟩ => PostR.then R S q fun xs H1 ρ1 N1 ds E1 R1 S1 rs q1 => h W ρ1 N1 H1 σ ds xs Q R1 rs q1
/-- of what type the receiver is seen to be -/
def tyN (N : NH) (T : String) : D → Bool
  | .str _ => T == "str"
  | .ref n => match N[n]? with
    | some (.lst _) => T == "list"
    | some (.dK _) | some (.dT _) => T == "dict"
    | _ => false
  | .ctup _ => false
  | _ => false
def nBM (T : String) (f : D → List D → NH → R D) (o : NE) (m : NA) : NE := fun σ N => (o σ N).bind fun x N => if tyN N T x = true then (m σ N).bind fun ds N => f x ds N else .bad
theorem tyN_ok {K : PySem.W.Frag} {ρ : List Addr} {N : NH} {H : Hp} {d : D} {v : V} (R : NRel K C ρ N H) (h : RD K ρ H d v) (e : tyN N T d = true) : tyV K T v H := by
  unfold tyN at e
  split at e
  · rw [show v = _ from h]; exact beq_iff_eq.mp e
  · split at e
    · rename_i n _ l hN
      obtain ⟨a, xs, rfl, _, ha, _⟩ := R.lst h hN
      exact .inl ⟨beq_iff_eq.mp e, xs, SqL.of ha⟩
    · rename_i n _ l hN
      obtain ⟨a, rfl, ha⟩ := h
      obtain ⟨l', h1, _⟩ := R.obj n a _ ha hN
      exact .inr (.inr (.inl ⟨beq_iff_eq.mp e, .inl ⟨l', h1⟩⟩))
    · rename_i n _ l hN
      obtain ⟨a, rfl, ha⟩ := h
      obtain ⟨l', h1, _⟩ := R.obj n a _ ha hN
      exact .inr (.inr (.inl ⟨beq_iff_eq.mp e, .inr ⟨l', h1⟩⟩))
    · cases e
  · cases e
  · cases e
theorem n_bm {r : V → List V → Hp → VK → Prop} {f : D → List D → NH → R D} {mo : NE} (pa : PlainAttrs T) (slot : Slot T name id) (hty : typeOf (.builtin id) = pure (.type "method_descriptor")) (hm : MtR X id r) (h : SndM X.K C f T r) (ho : PE X o (tE X.K C W mo)) (ha : PA X (e :: es) (tA X.K C W m))
    (hbase : attributeBase o name X.env (eval o X.env) = eval o X.env := by rfl)
    (hfew : ((backTo cpos (starEach (e :: es) X.env)).all (fun x => !x.1) && (backToKw cpos (keywordEach [] X.env)).all (fun x => x.1.isSome)
      && decide ((e :: es).length + ([] : List Keyword).length + (if ([] : List Keyword).isEmpty then 0 else 1) < 30)) = true := by rfl)
    (hline : (apos.endLine == cpos.line) = true := by rfl) (hs : starEach (e :: es) X.env = (false, eval e X.env) :: starEach es X.env := by rfl) (hplain : (backTo cpos (starEach es X.env)).any (·.1) = false := by rfl) :
    PE X (.Call (.Attribute o name apos) (e :: es) [] cpos) (tE X.K C W (nBM T f mo m)) :=
  pe_weak (pe_bm pa slot hty hm ho ha hbase hfew hline hs hplain) fun σ H Q ⟨ρ, σn, N, R, S, q⟩ => PostR.then R S q fun v H1 ρ1 N1 d E1 R1 S1 rd q1 => by
    split at q1
    · rename_i ht
      exact ⟨tyN_ok R1 rd ht, PostR.then R1 S1 q1 fun xs H2 ρ2 N2 ds E2 R2 S2 rs q2 => h W ρ2 N2 H2 σ d ds v xs Q R2 (rd.ext E2) rs q2⟩
    · exact q1.elim
end

/-! ### what the built-ins give -/
def intsOf : List D → Option (List Int)
  | [] => some []
  | .int i :: r => (intsOf r).map (i :: ·)
  | _ :: _ => none
def strsOf : List D → Option (List Str)
  | [] => some []
  | .str i :: r => (strsOf r).map (i :: ·)
  | _ :: _ => none
def blsOf : List D → Option (List Bool)
  | [] => some []
  | .bl i :: r => (blsOf r).map (i :: ·)
  | _ :: _ => none
theorem strsOf_eq : ∀ {l : List D} {ns : List Str}, strsOf l = some ns → l = ns.map D.str
  | [], _, h => by cases h; rfl
  | .str i :: r, ns, h => by
    obtain ⟨m, h1, rfl⟩ := Option.map_eq_some_iff.mp (show (strsOf r).map (i :: ·) = some ns from h)
    rw [strsOf_eq h1]; rfl
  | .non :: _, _, h | .bl _ :: _, _, h | .int _ :: _, _, h | .tup _ :: _, _, h | .ctup _ :: _, _, h | .lsc _ :: _, _, h | .ref _ :: _, _, h => nomatch h
theorem blsOf_eq : ∀ {l : List D} {ns : List Bool}, blsOf l = some ns → l = ns.map D.bl
  | [], _, h => by cases h; rfl
  | .bl i :: r, ns, h => by
    obtain ⟨m, h1, rfl⟩ := Option.map_eq_some_iff.mp (show (blsOf r).map (i :: ·) = some ns from h)
    rw [blsOf_eq h1]; rfl
  | .non :: _, _, h | .str _ :: _, _, h | .int _ :: _, _, h | .tup _ :: _, _, h | .ctup _ :: _, _, h | .lsc _ :: _, _, h | .ref _ :: _, _, h => nomatch h
theorem strsOf_map : ∀ ns : List Str, strsOf (ns.map D.str) = some ns
  | [] => rfl
  | n :: ns => by rw [List.map_cons]; unfold strsOf; rw [strsOf_map ns]; rfl
/-- a list or tuple that can be walked -/
def seqN (N : NH) : D → Option (List D)
  | .ref n => match N[n]? with
    | some (.lst l) => some l
    | _ => none
  | .tup l | .ctup l | .lsc l => some l
  | _ => none
/-- a list -/
def lstN (N : NH) : D → Option (List D)
  | .ref n => match N[n]? with
    | some (.lst l) => some l
    | _ => none
  | .lsc l => some l
  | _ => none
section
variable {K : PySem.W.Frag} {C : NC} {ρ : List Addr} {N : NH} {H : Hp}
theorem seqN_ok {d : D} {v : V} {l : List D} (R : NRel K C ρ N H) (h : RD K ρ H d v) (e : seqN N d = some l) : ∃ a xs, v = .ref a ∧ (SqL K H a xs ∨ SqT K H a xs) ∧ RDs K ρ H l xs := by
  unfold seqN at e
  split at e
  · split at e
    · rename_i n _ l' hN
      cases e
      obtain ⟨a, xs, rfl, _, ha, ra⟩ := R.lst h hN
      exact ⟨a, xs, rfl, .inl (SqL.of ha), ra⟩
    · cases e
  · cases e
    obtain ⟨a, xs, rfl, ta, ra⟩ := h
    exact ⟨a, xs, rfl, .inr ta.sq, ra⟩
  · cases e
    obtain ⟨a, xs, rfl, ta, ra⟩ := h
    exact ⟨a, xs, rfl, .inr ta.sq, ra⟩
  · cases e
    obtain ⟨a, xs, rfl, ta, ra⟩ := h
    exact ⟨a, xs, rfl, .inl ta.sq, ra⟩
  · cases e
theorem lstN_ok {d : D} {v : V} {l : List D} (R : NRel K C ρ N H) (h : RD K ρ H d v) (e : lstN N d = some l) : ∃ a xs, v = .ref a ∧ SqL K H a xs ∧ RDs K ρ H l xs := by
  unfold lstN at e
  split at e
  · split at e
    · rename_i n _ l' hN
      cases e
      obtain ⟨a, xs, rfl, _, ha, ra⟩ := R.lst h hN
      exact ⟨a, xs, rfl, SqL.of ha, ra⟩
    · cases e
  · cases e
    obtain ⟨a, xs, rfl, ta, ra⟩ := h
    exact ⟨a, xs, rfl, ta.sq, ra⟩
  · cases e
theorem RDs.one_of {d : D} {xs : List V} (h : RDs K ρ H [d] xs) : ∃ x, xs = [x] ∧ RD K ρ H d x := by
  obtain ⟨x, r, rfl, h1, h2⟩ := h
  rw [show r = [] from h2]
  exact ⟨x, rfl, h1⟩
end

/-- len -/
def lenN (N : NH) : D → Option Int
  | .str z => if z.length ≤ sizeLine then some z.length else none
  | .ref n => match N[n]? with
    | some (.lst l) => some l.length
    | some (.dK l) => some l.length
    | some (.dT l) => some l.length
    | _ => none
  | .tup l | .ctup l | .lsc l => some l.length
  | _ => none
def fLen : NF
  | [d], N => match lenN N d with | some i => .ok (.int i) N | none => .bad
  | _, _ => .bad
def rLen (K : PySem.W.Frag) : List V → Hp → VK → Prop := fun xs H Q => (∃ x n, xs = [x] ∧ LenV K x H n ∧ Q (.int n) H) ∨ (∃ a kvs, xs = [V.ref a] ∧ H a = some (.dK kvs) ∧ Q (.int kvs.length) H) ∨ rLenT xs H Q
theorem crLen {X : Cx} : CallR X (.builtin "len") (rLen X.K) := call_len.or (call_lenD.or call_len_dT)
theorem sndLen {K : PySem.W.Frag} {C : NC} : SndN K C fLen (rLen K) := by
  intro W ρ N H σ ds xs Q R rs q
  unfold fLen at q
  split at q
  · rename_i d _
    obtain ⟨x, rfl, rd⟩ := rs.one_of
    split at q
    · rename_i i hi
      have q' := q.ok (b := V.int i) R rfl
      unfold lenN at hi
      split at hi
      · split at hi
        · rename_i hz
          cases hi
          exact .inl ⟨_, _, rfl, by rw [show x = _ from rd]; exact ⟨hz, rfl⟩, q'⟩
        · cases hi
      · split at hi
        · rename_i n _ l hN
          cases hi
          obtain ⟨a, us, rfl, _, ha, ra⟩ := R.lst rd hN
          exact .inl ⟨_, _, rfl, .inl ⟨us, SqL.of ha, rfl⟩, by rw [ra.length]; exact q'⟩
        · rename_i n _ l hN
          cases hi
          obtain ⟨a, rfl, ha⟩ := rd
          obtain ⟨l', h1, h2⟩ := R.obj n a _ ha hN
          exact .inr (.inl ⟨a, l', rfl, h1, by rw [h2.length]; exact q'⟩)
        · rename_i n _ l hN
          cases hi
          obtain ⟨a, rfl, ha⟩ := rd
          obtain ⟨l', h1, h2⟩ := R.obj n a _ ha hN
          exact .inr (.inr ⟨a, l', rfl, h1, by rw [h2.length]; exact q'⟩)
        · cases hi
      · cases hi
        obtain ⟨a, us, rfl, ta, ra⟩ := rd
        exact .inl ⟨_, _, rfl, .inr ⟨us, ta.sq, rfl⟩, by rw [ra.length]; exact q'⟩
      · cases hi
        obtain ⟨a, us, rfl, ta, ra⟩ := rd
        exact .inl ⟨_, _, rfl, .inr ⟨us, ta.sq, rfl⟩, by rw [ra.length]; exact q'⟩
      · cases hi
        obtain ⟨a, us, rfl, ta, ra⟩ := rd
        exact .inl ⟨_, _, rfl, .inl ⟨us, ta.sq, rfl⟩, by rw [ra.length]; exact q'⟩
      · cases hi
    · exact q.elim
  · exact q.elim
/-- abs, min, max of two -/
def fAbs : NF
  | [.int i], N => .ok (.int (if i < 0 then -i else i)) N
  | _, _ => .bad
theorem sndAbs {K : PySem.W.Frag} {C : NC} : SndN K C fAbs (fun xs H Q => ∃ i, xs = [.int i] ∧ Q (.int (if i < 0 then -i else i)) H) := by
  intro W ρ N H σ ds xs Q R rs q
  unfold fAbs at q
  split at q
  · obtain ⟨x, rfl, rd⟩ := rs.one_of
    exact ⟨_, by rw [show x = _ from rd], q.ok R rfl⟩
  · exact q.elim
/-- int -/
def fInt : NF
  | [.int i], N => .ok (.int i) N
  | [.bl k], N => .ok (.int (if k then 1 else 0)) N
  | [.str a], N => match PySem.intText? a with
    | some n => if a.length ≤ 640 then .ok (.int n) N else .bad
    | none => .bad
  | _, _ => .bad
def rInt : List V → Hp → VK → Prop := fun xs H Q => ((∃ i, xs = [.int i] ∧ Q (.int i) H) ∨ ∃ k, xs = [.bl k] ∧ Q (.int (if k then 1 else 0)) H) ∨ (∃ a n, xs = [.str a] ∧ PySem.intText? a = some n ∧ a.length ≤ 640 ∧ Q (.int n) H)
theorem crInt {X : Cx} : CallR X (.type "int") rInt := call_int1.or call_int_str
theorem sndInt {K : PySem.W.Frag} {C : NC} : SndN K C fInt rInt := by
  intro W ρ N H σ ds xs Q R rs q
  unfold fInt at q
  split at q
  · obtain ⟨x, rfl, rd⟩ := rs.one_of
    exact .inl (.inl ⟨_, by rw [show x = _ from rd], q.ok R rfl⟩)
  · obtain ⟨x, rfl, rd⟩ := rs.one_of
    exact .inl (.inr ⟨_, by rw [show x = _ from rd], q.ok R rfl⟩)
  · obtain ⟨x, rfl, rd⟩ := rs.one_of
    split at q
    · rename_i n hn
      split at q
      · rename_i hz
        exact .inr ⟨_, n, by rw [show x = _ from rd], hn, hz, q.ok R rfl⟩
      · exact q.elim
    · exact q.elim
  · exact q.elim
def fStr : NF
  | [.int i], N => if i.natAbs.log2 < 1920 then .ok (.str (toString i)) N else .bad
  | _, _ => .bad
theorem sndStr {K : PySem.W.Frag} {C : NC} : SndN K C fStr (fun xs H Q => ∃ i, xs = [.int i] ∧ i.natAbs.log2 < 1920 ∧ Q (.str (toString i)) H) := by
  intro W ρ N H σ ds xs Q R rs q
  unfold fStr at q
  split at q
  · obtain ⟨x, rfl, rd⟩ := rs.one_of
    split at q
    · rename_i h
      exact ⟨_, by rw [show x = _ from rd], h, q.ok R rfl⟩
    · exact q.elim
  · exact q.elim
/-- list -/
def fList : NF
  | [d], N => match seqN N d with
    | some l => N.new (.lst l)
    | none => match d with
      | .ref n => match N[n]? with
        | some (.dK kvs) | some (.fK kvs) => N.new (.lst (kvs.map fun p => dKey p.1))
        | some (.dT kvs) | some (.fT kvs) => N.new (.lst (kvs.map fun p => .tup (p.1.map dKey)))
        | _ => .bad
      | _ => .bad
  | _, _ => .bad
/-- tuple -/
def fTuple : NF
  | [.tup l], N => .ok (.tup l) N
  | [d], N => match lstN N d with
    | some l => .ok (.tup l) N
    | none => .bad
  | _, _ => .bad
theorem sndTuple {K : PySem.W.Frag} {C : NC} : SndN K C fTuple (fun xs H Q => ∃ p ys, xs = [.ref p] ∧ ((SqL K H p ys ∧ ∀ l, H l = none → Q (.ref l) (upd H l (.tup ys))) ∨ (SqT K H p ys ∧ Q (.ref p) H))) := by
  intro W ρ N H σ ds xs Q R rs q
  unfold fTuple at q
  split at q
  · obtain ⟨x, rfl, rd⟩ := rs.one_of
    obtain ⟨a, us, rfl, ta, ra⟩ := _root_.id rd
    exact ⟨a, us, rfl, .inr ⟨ta.sq, q.ok R rd⟩⟩
  · obtain ⟨x, rfl, rd⟩ := rs.one_of
    split at q
    · rename_i l hl
      obtain ⟨a, us, rfl, hs, ra⟩ := lstN_ok R rd hl
      exact ⟨a, us, rfl, .inl ⟨hs, fun p hp => q.newT R ra hp⟩⟩
    · exact q.elim
  · exact q.elim
theorem lst_bls {K : PySem.W.Frag} {C : NC} {ρ : List Addr} {N : NH} {H : Hp} {d : D} {v : V} {ns : List Bool} (R : NRel K C ρ N H) (h : RD K ρ H d v) (e : (lstN N d).bind blsOf = some ns) : ∃ a, v = .ref a ∧ SqL K H a (ns.map V.bl) := by
  obtain ⟨l, h1, h2⟩ := Option.bind_eq_some_iff.mp e
  obtain ⟨a, us, rfl, hs, ra⟩ := lstN_ok R h h1
  rw [blsOf_eq h2] at ra
  rw [ra.bls] at hs
  exact ⟨a, rfl, hs⟩
def fAll : NF
  | [d], N => match (lstN N d).bind blsOf with
    | some ns => .ok (.bl (ns.all _root_.id)) N
    | none => .bad
  | _, _ => .bad
theorem sndAll {K : PySem.W.Frag} {C : NC} : SndN K C fAll (rAll K) := by
  intro W ρ N H σ ds xs Q R rs q
  unfold fAll at q
  split at q
  · obtain ⟨x, rfl, rd⟩ := rs.one_of
    split at q
    · rename_i ns hn
      obtain ⟨a, rfl, hs⟩ := lst_bls R rd hn
      exact ⟨a, ns, rfl, hs, q.ok R rfl⟩
    · exact q.elim
  · exact q.elim
def fAny : NF
  | [d], N => match (lstN N d).bind blsOf with
    | some ns => .ok (.bl (ns.any _root_.id)) N
    | none => .bad
  | _, _ => .bad
theorem sndAny {K : PySem.W.Frag} {C : NC} : SndN K C fAny (rAny K) := by
  intro W ρ N H σ ds xs Q R rs q
  unfold fAny at q
  split at q
  · obtain ⟨x, rfl, rd⟩ := rs.one_of
    split at q
    · rename_i ns hn
      obtain ⟨a, rfl, hs⟩ := lst_bls R rd hn
      exact ⟨a, ns, rfl, hs, q.ok R rfl⟩
    · exact q.elim
  · exact q.elim
end NY

set_option Elab.async false
set_option linter.all false
set_option maxRecDepth 100000
set_option maxHeartbeats 4000000
/-! NY7: statements -/
namespace NY
open PySem PySem.Spec PyProof.Rows L2

def PostS (K : PySem.W.Frag) (C : NC) (W : WX) (D : Ends) (ρ : List Addr) (H : Hp) : RS → Prop
  | .nx σn N => ∀ σ H' ρ', Ext ρ H ρ' H' → NRel K C ρ' N H' → RSt K ρ' H' σn σ → D.nx σ H'
  | .rt d N => ∀ v H' ρ', Ext ρ H ρ' H' → NRel K C ρ' N H' → RD K ρ' H' d v → D.rt v H'
  | .bk σn N => ∀ σ H' ρ', Ext ρ H ρ' H' → NRel K C ρ' N H' → RSt K ρ' H' σn σ → D.bk σ H'
  | .exc x σn N => ∀ c dx σ H' ρ', Ext ρ H ρ' H' → NRel K C ρ' N H' → RSt K ρ' H' σn σ → RX K C ρ' H' x c dx → W c dx σ H'
  | .bad => False
def tS (K : PySem.W.Frag) (C : NC) (W : WX) (m : NS) : TS := fun D σ H => ∃ (ρ : List Addr) (σn : NEnv) (N : NH), NRel K C ρ N H ∧ RSt K ρ H σn σ ∧ PostS K C W D ρ H (m σn N)
theorem ps_weak {X : Cx} {st : Stmt} {t t' : TS} (h : PS X st t) (w : ∀ D σ H, t' D σ H → t D σ H) : PS X st t' := ⟨fun pins s σ H D I q => h.run pins s σ H D I (w D σ H q)⟩
theorem pss_weak {X : Cx} {st : List Stmt} {t t' : TS} (h : PSs X st t) (w : ∀ D σ H, t' D σ H → t D σ H) : PSs X st t' := ⟨fun pins s σ H D I q => h.run pins s σ H D I (w D σ H q)⟩
theorem pi_or {X : Cx} {tg e : Expr} {t t' : TI} (h : PI X tg e t) (h' : PI X tg e t') : PI X tg e (fun σ H R => t σ H R ∨ t' σ H R) := ⟨fun pins s σ H R I q => q.elim (h.run pins s σ H R I) (h'.run pins s σ H R I)⟩
theorem pe_or {X : Cx} {e : Expr} {t t' : TE} (h : PE X e t) (h' : PE X e t') : PE X e (fun σ H Q => t σ H Q ∨ t' σ H Q) := ⟨fun pins s σ H Q I q => q.elim (h.run pins s σ H Q I) (h'.run pins s σ H Q I)⟩
theorem pi_weak {X : Cx} {tg e : Expr} {t t' : TI} (h : PI X tg e t) (w : ∀ σ H R, t' σ H R → t σ H R) : PI X tg e t' := ⟨fun pins s σ H R I q => h.run pins s σ H R I (w σ H R q)⟩
theorem pg_weak {X : Cx} {e : Expr} {t t' : TG} (h : PG X e t) (w : ∀ v σ H Q, t' v σ H Q → t v σ H Q) : PG X e t' := ⟨fun pins s σ H v u Q I r q => h.run pins s σ H v u Q I r (w v σ H Q q)⟩

section
variable {K : PySem.W.Frag} {C : NC} {W : WX} {D : Ends} {ρ ρ' : List Addr} {H H' : Hp} {σ : L2.St} {σn : NEnv} {N : NH}
theorem PostS.ext {r : RS} (e : Ext ρ H ρ' H') (h : PostS K C W D ρ H r) : PostS K C W D ρ' H' r := by
  cases r with
  | nx s N => exact fun σ H1 ρ1 e' n q => h σ H1 ρ1 (e.trans e') n q
  | rt d N => exact fun σ H1 ρ1 e' n q => h σ H1 ρ1 (e.trans e') n q
  | bk s N => exact fun σ H1 ρ1 e' n q => h σ H1 ρ1 (e.trans e') n q
  | exc x s N => exact fun c dx σ H1 ρ1 e' n q => h c dx σ H1 ρ1 (e.trans e') n q
  | bad => exact h
/-- the value part of a statement -/
def R.stm {α : Type} (r : R α) (σ : NEnv) (k : α → NH → RS) : RS := match r with
  | .ok a N => k a N
  | .exc x N => .exc x σ N
  | .bad => .bad
theorem PostS.stm {α β : Type} {rel : List Addr → Hp → α → β → Prop} {r : R α} {k : α → NH → RS} (S : RSt K ρ H σn σ) (h : PostS K C W D ρ H (r.stm σn k)) :
    PostR rel K C W ρ H σ (fun b H1 => ∃ ρ1 N1 a, Ext ρ H ρ1 H1 ∧ NRel K C ρ1 N1 H1 ∧ rel ρ1 H1 a b ∧ PostS K C W D ρ1 H1 (k a N1)) r := by
  cases r with
  | ok d N => exact fun v H' ρ' e n q => ⟨ρ', N, d, e, n, q, PostS.ext e h⟩
  | exc x N => exact fun c dx H' ρ' e n q => h c dx σ H' ρ' e n (S.ext e) q
  | bad => exact h
theorem PostS.part {α β : Type} {rel : List Addr → Hp → α → β → Prop} {m : NEnv → NH → R α} {k : α → NH → RS} {Q' : β → Hp → Prop} (R : NRel K C ρ N H) (S : RSt K ρ H σn σ) (h : PostS K C W D ρ H ((m σn N).stm σn k))
    (hk : ∀ b H1 ρ1 N1 a, Ext ρ H ρ1 H1 → NRel K C ρ1 N1 H1 → RSt K ρ1 H1 σn σ → rel ρ1 H1 a b → PostS K C W D ρ1 H1 (k a N1) → Q' b H1) : tR rel K C W m σ H Q' :=
  ⟨ρ, σn, N, R, S, (PostS.stm (rel := rel) S h).imp fun b H1 ⟨ρ1, N1, a, e, n, q, p⟩ => hk b H1 ρ1 N1 a e n (S.ext e) q p⟩
theorem PostS.nx (R : NRel K C ρ N H) (S : RSt K ρ H σn σ) (h : PostS K C W D ρ H (.nx σn N)) : D.nx σ H := h σ H ρ .refl R S
theorem PostS.rt {d : NY.D} {v : V} (R : NRel K C ρ N H) (r : RD K ρ H d v) (h : PostS K C W D ρ H (.rt d N)) : D.rt v H := h v H ρ .refl R r
theorem RSt.set {d : NY.D} {v : V} (S : RSt K ρ H σn σ) (r : RD K ρ H d v) (i : Nat) : RSt K ρ H (σn.set i (some d)) (σ.set i (some v)) := by
  refine ⟨by rw [List.length_set, List.length_set]; exact S.1, fun j e h => ?_⟩
  by_cases q : i = j
  · subst q
    by_cases hl : i < σn.length
    · rw [List.getElem?_set_self hl] at h
      cases h
      exact ⟨v, by rw [List.getElem?_set_self (by rw [← S.1]; exact hl)], r⟩
    · rw [List.getElem?_eq_none (by rw [List.length_set]; omega)] at h; cases h
  · rw [List.getElem?_set_ne q] at h
    obtain ⟨w, h1, h2⟩ := S.2 j e h
    exact ⟨w, by rw [List.getElem?_set_ne q]; exact h1, h2⟩
end

/-! ### the simple statements -/
def sPass : NS := fun σ N => .nx σ N
def RS.then (r : RS) (k : NEnv → NH → RS) : RS := match r with
  | .nx σ N => k σ N
  | r => r
def sSeq (a b : NS) : NS := fun σ N => (a σ N).then b
def sRet (a : NE) : NS := fun σ N => (a σ N).stm σ fun d N => .rt d N
def sExpr (a : NE) : NS := fun σ N => (a σ N).stm σ fun _ N => .nx σ N
def sIf (t : NT) (a b : NS) : NS := fun σ N => (t σ N).stm σ fun c N => if c = true then a σ N else b σ N
/-- a target: what the names hold behind it -/
structure NP where
  is : List Nat
  put : D → NEnv → NH → Option NEnv
def pName (i : Nat) : NP := ⟨[i], fun d σ _ => some (σ.set i (some d))⟩
def setAll : List Nat → List D → NEnv → NEnv
  | i :: is, d :: ds, σ => setAll is ds (σ.set i (some d))
  | _, _, σ => σ
def pTup (is : List Nat) : NP := ⟨is, fun d σ N => match seqN N d with
  | some l => if l.length = is.length then some (setAll is l σ) else none
  | none => none⟩
def sAsg (a : NE) (p : NP) : NS := fun σ N => (a σ N).stm σ fun d N => match p.put d σ N with
  | some σ' => .nx σ' N
  | none => .bad
/-- only the slots is differ -/
def Only (is : List Nat) (σ σ' : L2.St) : Prop := σ'.length = σ.length ∧ ∀ j, j ∉ is → σ'[j]? = σ[j]?
theorem Only.refl {is : List Nat} {σ : L2.St} : Only is σ σ := ⟨rfl, fun _ _ => rfl⟩
theorem Only.set {is : List Nat} {σ : L2.St} {i : Nat} {v : Option V} (h : i ∈ is) : Only is σ (σ.set i v) := ⟨List.length_set, fun j hj => List.getElem?_set_ne (fun (z : i = j) => hj (z ▸ h))⟩
theorem Only.trans {is : List Nat} {σ σ1 σ2 : L2.St} (h : Only is σ σ1) (h' : Only is σ1 σ2) : Only is σ σ2 := ⟨h'.1.trans h.1, fun j hj => (h'.2 j hj).trans (h.2 j hj)⟩
theorem Only.mono {is js : List Nat} {σ σ1 : L2.St} (h : Only is σ σ1) (l : ∀ i ∈ is, i ∈ js) : Only js σ σ1 := ⟨h.1, fun j hj => h.2 j (fun z => hj (l j z))⟩
def tG (K : PySem.W.Frag) (C : NC) (p : NP) : TG := fun v σ H Q => ∃ (ρ : List Addr) (σn : NEnv) (N : NH) (d : D), NRel K C ρ N H ∧ RSt K ρ H σn σ ∧ RD K ρ H d v ∧ match p.put d σn N with
  | some σn' => ∀ σ', RSt K ρ H σn' σ' → Only p.is σ σ' → Q σ' H
  | none => False
section
variable {X : Cx} {C : NC} {W : WX} {e o i : Expr} {st : Stmt} {sts : List Stmt} {pos p pos' tpos : Pos}
theorem s_pass : PS X (.Pass pos) (tS X.K C W sPass) := ps_weak ps_pass fun D σ H ⟨ρ, σn, N, R, S, q⟩ => q.nx R S
theorem s_nil : PSs X [] (tS X.K C W sPass) := pss_weak pss_nil fun D σ H ⟨ρ, σn, N, R, S, q⟩ => q.nx R S
theorem s_one {m : NS} (h : PS X st (tS X.K C W m)) : PSs X [st] (tS X.K C W m) := pss_one h
theorem s_cons {st2 : Stmt} {a b : NS} (h : PS X st (tS X.K C W a)) (h2 : PSs X (st2 :: sts) (tS X.K C W b)) : PSs X (st :: st2 :: sts) (tS X.K C W (sSeq a b)) :=
  pss_weak (pss_cons h h2) fun D σ H ⟨ρ, σn, N, R, S, q⟩ => ⟨ρ, σn, N, R, S, by
    unfold sSeq at q
    cases e : a σn N with
    | nx s1 N1 =>
      rw [e] at q
      exact fun σ2 H2 ρ2 E2 R2 S2 => ⟨ρ2, s1, N1, R2, S2, PostS.ext E2 (show PostS X.K C W D ρ H (b s1 N1) from q)⟩
    | rt d N1 => rw [e] at q; exact q
    | bk s1 N1 => rw [e] at q; exact q
    | exc x s1 N1 => rw [e] at q; exact q
    | bad => rw [e] at q; exact q⟩
theorem s_ret {a : NE} (h : PE X e (tE X.K C W a)) : PS X (.Return (some e) pos) (tS X.K C W (sRet a)) :=
  ps_weak (ps_ret h) fun D σ H ⟨ρ, σn, N, R, S, q⟩ => PostS.part R S q fun v H1 ρ1 N1 d E1 R1 S1 rd q1 => q1.rt R1 rd
theorem s_expr {a : NE} (h : PE X e (tE X.K C W a)) (hs : swapsWith e none pos.line X.env = pure false := by rfl) : PS X (.Expr e pos) (tS X.K C W (sExpr a)) :=
  ps_weak (ps_expr h hs) fun D σ H ⟨ρ, σn, N, R, S, q⟩ => PostS.part R S q fun v H1 ρ1 N1 d E1 R1 S1 rd q1 => q1.nx R1 S1
theorem s_if {c : Expr} {b1 b2 : List Stmt} {t : NT} {m1 m2 : NS} (hc : PT X c (tT X.K C W t)) (h1 : PSs X b1 (tS X.K C W m1)) (h2 : PSs X b2 (tS X.K C W m2)) : PS X (.If c b1 b2 pos) (tS X.K C W (sIf t m1 m2)) :=
  ps_weak (ps_if hc h1 h2) fun D σ H ⟨ρ, σn, N, R, S, q⟩ => PostS.part R S q fun b H1 ρ1 N1 c E1 R1 S1 rd q1 => by
    have rd' : b = c := rd
    subst rd'
    by_cases hb : b = true
    · rw [if_pos hb] at q1 ⊢; exact ⟨ρ1, σn, N1, R1, S1, q1⟩
    · rw [if_neg hb] at q1 ⊢; exact ⟨ρ1, σn, N1, R1, S1, q1⟩
/-! targets -/
theorem g_name {x : Str} (i : Nat) (hN : X.N.Nodup) (hi : X.N[i]? = some x := by rfl) (hx : L2.Loc X.env.scope x := by first | exact Or.inl rfl | exact Or.inr rfl) (hf : X.fn x = true ∨ X.env.scope.names.lookup x = some .local := by first | exact Or.inl rfl | exact Or.inr rfl) : PG X (.Name x pos) (tG X.K C (pName i)) :=
  pg_weak (pg_name hN hi hx hf) fun v σ H Q ⟨ρ, σn, N, d, R, S, rd, q⟩ => q _ (S.set rd i) (Only.set (List.mem_singleton.mpr rfl))
theorem s_asg {tg : Expr} {a : NE} {pt : NP} (h : PE X e (tE X.K C W a)) (hg : PG X tg (tG X.K C pt)) (h1 : swapsWithSole [tg] e pos.line X.env = pure false := by rfl) (h2 : swappedStores [tg] e X.env = pure none := by rfl) (h3 : List.map (fun x => x.snd) (assignEach [tg] X.env) = [assign tg X.env] := by rfl) :
    PS X (.Assign [tg] e pos) (tS X.K C W (sAsg a pt)) :=
  ps_weak (ps_asg h hg h1 h2 h3) fun D σ H ⟨ρ, σn, N, R, S, q⟩ => PostS.part R S q fun v H1 ρ1 N1 d E1 R1 S1 rd q1 => by
    refine ⟨ρ1, σn, N1, d, R1, S1, rd, ?_⟩
    cases e : pt.put d σn N1 with
    | none => rw [e] at q1; exact q1
    | some s => rw [e] at q1; exact fun σ' S' _ => q1.nx R1 S'
/-! o[i] = v -/
def putIx (N : NH) (o i v : D) : Option NH := match o with
  | .ref n => match N[n]? with
    | some (.lst l) => match i with
      | .int k => (ixN l.length k).map fun j => N.set n (.lst (l.set j v))
      | _ => none
    | some (.dK kvs) => (keyD i).bind fun k => if kvs.length < sizeLine then some (N.set n (.dK (putD kvs k v))) else none
    | some (.dT kvs) => match i with
      | .tup ds => (keysD ds).bind fun k => if kvs.length < sizeLine then some (N.set n (.dT (putD kvs k v))) else none
      | _ => none
    | _ => none
  | _ => none
def sPut (o i v : NE) : NS := fun σ N => (v σ N).stm σ fun v N => (o σ N).stm σ fun o N => (i σ N).stm σ fun i N => match putIx N o i v with
  | some N' => .nx σ N'
  | none => .bad
def rPut : TSet := fun o i v H Q => rSetL o i v H Q ∨ rSetD o i v H Q
theorem setPut {X : Cx} (hu : X.A.units + 1 < cLine) : PSet X rPut := fun pins s σ H o i v ov iv u Q I ro ri rv h => h.elim (set_list pins s σ H o i v ov iv u Q I ro ri rv) (set_dict hu pins s σ H o i v ov iv u Q I ro ri rv)
theorem snd_put {K : PySem.W.Frag} {ρ : List Addr} {N N' : NH} {H : Hp} {o i v : D} {x y z : V} {Q : Hp → Prop} (R : NRel K C ρ N H) (ro : RD K ρ H o x) (ri : RD K ρ H i y) (rv : RD K ρ H v z) (e : putIx N o i v = some N')
    (q : ∀ H', Ext ρ H ρ H' → NRel K C ρ N' H' → Q H') : rPut x y z H Q := by
  unfold putIx at e
  split at e
  · rename_i n
    obtain ⟨a, rfl, ha⟩ := ro
    split at e
    · rename_i l hN
      split at e
      · rename_i k
        obtain ⟨j, hj, rfl⟩ := Option.map_eq_some_iff.mp e
        obtain ⟨xs, h1, h2⟩ := R.obj n a _ ha hN
        obtain ⟨E, R'⟩ := R.write (o' := .lst (l.set j v)) (u := .lst (xs.set j z)) ha (fun _ _ z => by rw [h1] at z; cases z) (by
          have E0 : Ext ρ H ρ (upd H a (.lst (xs.set j z))) := Ext.write (memOf ha) (fun _ z => by rw [h1] at z; cases z) (fun _ _ z => by rw [h1] at z; cases z)
          exact ⟨_, upd_same, (h2.set rv j).ext E0⟩)
        exact .inl ⟨a, xs, k, j, rfl, ri, h1, by rw [h2.length]; exact hj, q _ E R'⟩
      · cases e
    · rename_i kvs hN
      obtain ⟨k, hk, e2⟩ := Option.bind_eq_some_iff.mp e
      split at e2
      · rename_i hl
        cases e2
        obtain ⟨l, h1, h2⟩ := R.obj n a _ ha hN
        obtain ⟨E, R'⟩ := R.write (o' := .dK (putD kvs k v)) (u := .dK (putK l k z)) ha (fun _ _ z => by rw [h1] at z; cases z) (by
          have E0 : Ext ρ H ρ (upd H a (.dK (putK l k z))) := Ext.write (memOf ha) (fun _ z => by rw [h1] at z; cases z) (fun _ _ z => by rw [h1] at z; cases z)
          exact ⟨_, upd_same, (h2.put rv).ext E0⟩)
        exact .inr ⟨a, _, rfl, .inl ⟨l, k, h1, keyD_ok ri hk, by rw [h2.length]; exact hl, rfl⟩, q _ E R'⟩
      · cases e2
    · rename_i kvs hN
      split at e
      · rename_i ds
        obtain ⟨k, hk, e2⟩ := Option.bind_eq_some_iff.mp e
        split at e2
        · rename_i hl
          cases e2
          obtain ⟨l, h1, h2⟩ := R.obj n a _ ha hN
          obtain ⟨b, xs, rfl, tb, rb⟩ := ri
          obtain ⟨E, R'⟩ := R.write (o' := .dT (putD kvs k v)) (u := .dT (putK l k z)) ha (fun _ _ z => by rw [h1] at z; cases z) (by
            have E0 : Ext ρ H ρ (upd H a (.dT (putK l k z))) := Ext.write (memOf ha) (fun _ z => by rw [h1] at z; cases z) (fun _ _ z => by rw [h1] at z; cases z)
            exact ⟨_, upd_same, (h2.put rv).ext E0⟩)
          exact .inr ⟨a, _, rfl, .inr ⟨l, k, b, h1, rfl, by rw [← keysD_ok rb hk]; exact tb.2, by rw [h2.length]; exact hl, rfl⟩, q _ E R'⟩
        · cases e2
      · cases e
    · cases e
  · cases e
theorem s_put {mo mi mv : NE} {value : Expr} (hu : X.A.units + 1 < cLine) (hv : PE X value (tE X.K C W mv)) (ho : PE X o (tE X.K C W mo)) (hi : PE X i (tE X.K C W mi))
    (h0 : ∀ (v : Value), (assign (o.Subscript i p) X.env v = do
      let ov ← holding [v] (eval o X.env)
      let iv ← holding [v, ov] (eval i X.env)
      standAt p
      holding [v, ov, iv] (setItem ov iv v)
      release [v, ov, iv] []) := by intro _; rfl)
    (h1 : swapsWithSole [.Subscript o i p] value pos.line X.env = pure false := by rfl) (h2 : swappedStores [.Subscript o i p] value X.env = pure none := by rfl) (h3 : List.map (fun x => x.snd) (assignEach [.Subscript o i p] X.env) = [assign (.Subscript o i p) X.env] := by rfl) :
    PS X (.Assign [.Subscript o i p] value pos) (tS X.K C W (sPut mo mi mv)) :=
  ps_weak (ps_asg hv (pg_sub ho hi (setPut hu) h0) h1 h2 h3) fun D σ H ⟨ρ, σn, N, R, S, q⟩ => PostS.part R S q fun v H1 ρ1 N1 d E1 R1 S1 rd q1 => PostS.part R1 S1 q1 fun x H2 ρ2 N2 do' E2 R2 S2 ro q2 => PostS.part R2 S2 q2 fun y H3 ρ3 N3 di E3 R3 S3 ri q3 => by
    split at q3
    · rename_i N4 hN4
      exact snd_put R3 (ro.ext E3) ri ((rd.ext E2).ext E3) hN4 fun H' E' R' => q3 σ H' ρ3 E' R' (S3.ext E')
    · exact q3.elim
/-! o.f = v -/
def sFldPut (cs : List Nat) (f : Nat) (o v : NE) : NS := fun σ N => (v σ N).stm σ fun v N => (o σ N).stm σ fun o N => match o with
  | .ref n => match N[n]? with
    | some (.ins c fs) => if c ∈ cs ∧ fs.length < 1000 then .nx σ (N.set n (.ins c (putFD f v fs))) else .bad
    | _ => .bad
  | _ => .bad
end
end NY

set_option Elab.async false
set_option linter.all false
set_option maxRecDepth 100000
set_option maxHeartbeats 4000000
/-! NY8: loops -/
namespace NY
open PySem PySem.Spec PyProof.Rows L2

/-! ### a write that no plain value sees -/
def Same (ρ : List Addr) (H H' : Hp) : Prop := ∀ a, a ∉ ρ → ((∃ xs, H a = some (.tup xs)) ∨ (∃ o u, H a = some (.frz o u))) → H' a = H a
section
variable {K : PySem.W.Frag} {C : NC} {ρ : List Addr} {H H' : Hp}
mutual
theorem RD.same (s : Same ρ H H') : ∀ (d : D) {v : V}, RD K ρ H d v → RD K ρ H' d v
  | .non, _, h => h
  | .bl _, _, h => h
  | .int _, _, h => h
  | .str _, _, h => h
  | .tup ds, _, h => by
    obtain ⟨a, xs, rfl, h1, h2⟩ := h
    exact ⟨a, xs, rfl, ⟨h1.1, (s a h1.1 (.inl ⟨_, h1.2⟩)).trans h1.2⟩, RDs.same s ds h2⟩
  | .ctup ds, _, h => by
    obtain ⟨a, xs, rfl, h1, h2⟩ := h
    refine ⟨a, xs, rfl, ?_, RDs.same s ds h2⟩
    rcases h1 with ⟨n, o, h1, h2, h⟩ | h
    · exact .inl ⟨n, o, h1, h2, (s a n (.inr ⟨_, _, h⟩)).trans h⟩
    · exact .inr h
  | .lsc ds, _, h => by
    obtain ⟨a, xs, rfl, h1, h2⟩ := h
    refine ⟨a, xs, rfl, ?_, RDs.same s ds h2⟩
    rcases h1 with ⟨n, o, h⟩ | h
    · exact .inl ⟨n, o, (s a n (.inr ⟨_, _, h⟩)).trans h⟩
    · exact .inr h
  | .ref n, _, h => h
theorem RDs.same (s : Same ρ H H') : ∀ (ds : List D) {xs : List V}, RDs K ρ H ds xs → RDs K ρ H' ds xs
  | [], _, h => h
  | d :: ds, _, h => by
    obtain ⟨x, r, rfl, h1, h2⟩ := h
    exact ⟨x, r, rfl, RD.same s d h1, RDs.same s ds h2⟩
end
theorem RF.same (e : Same ρ H H') {names : List Str} : ∀ (fs : List (Nat × D)) {l : List (Str × V)}, RF K ρ H names fs l → RF K ρ H' names fs l
  | [], _, h => h
  | (n, d) :: r, _, h => by
    obtain ⟨x, v, s, rfl, h1, h2, h3⟩ := h
    exact ⟨x, v, s, rfl, h1, h2.same e, RF.same e r h3⟩
theorem RK.same {κ : Type} (e : Same ρ H H') : ∀ (fs : List (κ × D)) {l : List (κ × V)}, RK K ρ H fs l → RK K ρ H' fs l
  | [], _, h => h
  | (k, d) :: r, _, h => by
    obtain ⟨v, s, rfl, h2, h3⟩ := h
    exact ⟨v, s, rfl, h2.same e, RK.same e r h3⟩
theorem RO.same {a : Addr} {o : O} (e : Same ρ H H') (hs : H' a = H a) (h : RO K C ρ H a o) : RO K C ρ H' a o := by
  cases o with
  | lst ds => obtain ⟨xs, e1, r⟩ := h; exact ⟨xs, hs.trans e1, r.same e⟩
  | dK _ => obtain ⟨xs, e1, r⟩ := h; exact ⟨xs, hs.trans e1, r.same e⟩
  | dT _ => obtain ⟨xs, e1, r⟩ := h; exact ⟨xs, hs.trans e1, r.same e⟩
  | fK _ => obtain ⟨ob, xs, e1, r⟩ := h; exact ⟨ob, xs, hs.trans e1, r.same e⟩
  | fT _ => obtain ⟨ob, xs, e1, r⟩ := h; exact ⟨ob, xs, hs.trans e1, r.same e⟩
  | ins _ _ => obtain ⟨dx, xs, e1, r⟩ := h; exact ⟨dx, xs, hs.trans e1, r.same e⟩
theorem RSt.same {σn : NEnv} {σ : L2.St} (e : Same ρ H H') (h : RSt K ρ H σn σ) : RSt K ρ H' σn σ :=
  ⟨h.1, fun i d q => let ⟨v, a, b⟩ := h.2 i d q; ⟨v, a, b.same e⟩⟩
theorem Same.mem {a : Addr} {u : HO} (m : a ∈ ρ) : Same ρ H (upd H a u) := fun b n _ => upd_ne (fun z => n (z ▸ m))
theorem Same.lst {a : Addr} {u : HO} {xs : List V} (m : H a = some (.lst xs)) : Same ρ H (upd H a u) := fun b _ h => upd_ne (fun z => by
  subst z
  rcases h with ⟨_, h⟩ | ⟨_, _, h⟩
  · rw [m] at h; cases h
  · rw [m] at h; cases h)
theorem NRel.unlock {N : NH} {a : Addr} {n : Nat} {o' : O} (R : NRel K C ρ N H) (h : ρ[n]? = some a) {u : HO} (new : RO K C ρ (upd H a u) a o') : NRel K C ρ (N.set n o') (upd H a u) := by
  have m := memOf h
  have E : Same ρ H (upd H a u) := Same.mem m
  refine ⟨by rw [List.length_set]; exact R.len, R.nd, R.names, fun k b o hk ho => ?_, fun P hP => ?_⟩
  · by_cases e : k = n
    · subst e
      rw [h] at hk; cases hk
      rw [List.getElem?_set_self (by have := (List.getElem?_eq_some_iff.mp h).1; have := R.len; omega)] at ho
      cases ho
      exact new
    · rw [List.getElem?_set_ne (fun z => e z.symm)] at ho
      have ne : b ≠ a := fun z => e (nd_ix R.nd (z ▸ hk) h)
      exact (R.obj k b o hk ho).same E (upd_ne ne)
  · obtain ⟨ps, e, t⟩ := R.tab P hP
    exact ⟨ps, by rw [upd_ne (show P ≠ a from fun z => R.notab hP (z ▸ m))]; exact e, t⟩
/-- a write at a list that is none of the nice objects -/
theorem NRel.aside {N : NH} {a : Addr} {xs : List V} (R : NRel K C ρ N H) (m : H a = some (.lst xs)) (n : a ∉ ρ) {u : HO} : NRel K C ρ N (upd H a u) := by
  have E : Same ρ H (upd H a u) := Same.lst m
  refine ⟨R.len, R.nd, R.names, fun k b o hk ho => ?_, fun P hP => ?_⟩
  · exact (R.obj k b o hk ho).same E (upd_ne (fun z => n (z ▸ memOf hk)))
  · obtain ⟨ps, e, t⟩ := R.tab P hP
    exact ⟨ps, by rw [upd_ne (show P ≠ a from fun z => by rw [z, m] at e; cases e)]; exact e, t⟩
/-- a list joins the nice objects -/
theorem NRel.adopt {N : NH} {a : Addr} {xs : List V} {ds : List D} (R : NRel K C ρ N H) (m : H a = some (.lst xs)) (n : a ∉ ρ) (r : RDs K ρ H ds xs) (ρ0 : List Addr) (H0 : Hp) (E0 : Ext ρ0 H0 ρ H) (h0 : H0 a = none) :
    Ext ρ0 H0 (ρ ++ [a]) H ∧ NRel K C (ρ ++ [a]) (N ++ [.lst ds]) H := by
  have hin : ∀ b, H b ≠ some (.lst xs) → b ∉ ρ → b ∉ ρ ++ [a] := fun b hb nb hm => by
    rcases List.mem_append.mp hm with q | q
    · exact nb q
    · rw [List.mem_singleton.mp q] at hb; exact hb m
  have rd : (∀ (d : D) (v : V), RD K ρ H d v → RD K (ρ ++ [a]) H d v) ∧ (∀ (d : List D) (v : List V), RDs K ρ H d v → RDs K (ρ ++ [a]) H d v) := by
    have hT : ∀ (b : Addr) (ys : List V), TupAt ρ H b ys → TupAt (ρ ++ [a]) H b ys := fun b ys h => ⟨hin b (by rw [h.2]; exact fun z => nomatch z) h.1, h.2⟩
    have hL : ∀ (b : Addr) (ys : List V), LscAt K ρ H b ys → LscAt K (ρ ++ [a]) H b ys := fun b ys h => by
      rcases h with ⟨n, o, h⟩ | h
      · exact .inl ⟨hin b (by rw [h]; exact fun z => nomatch z) n, o, h⟩
      · exact .inr h
    have hC : ∀ (b : Addr) (ys : List V), CtupAt K ρ H b ys → CtupAt K (ρ ++ [a]) H b ys := fun b ys h => by
      rcases h with ⟨n, o, h1, h2, h⟩ | h
      · exact .inl ⟨hin b (by rw [h]; exact fun z => nomatch z) n, o, h1, h2, h⟩
      · exact .inr h
    have key : ∀ (d : D) (v : V), RD K ρ H d v → RD K (ρ ++ [a]) H d v := fun d =>
      D.rec (motive_1 := fun d => ∀ v, RD K ρ H d v → RD K (ρ ++ [a]) H d v) (motive_2 := fun ds => ∀ vs, RDs K ρ H ds vs → RDs K (ρ ++ [a]) H ds vs)
        (fun _ h => h) (fun _ _ h => h) (fun _ _ h => h) (fun _ _ h => h)
        (fun ds ih v ⟨b, ys, e, h1, h2⟩ => ⟨b, ys, e, hT b ys h1, ih ys h2⟩)
        (fun ds ih v ⟨b, ys, e, h1, h2⟩ => ⟨b, ys, e, hC b ys h1, ih ys h2⟩)
        (fun ds ih v ⟨b, ys, e, h1, h2⟩ => ⟨b, ys, e, hL b ys h1, ih ys h2⟩)
        (fun n v ⟨b, e, h⟩ => ⟨b, e, by rw [List.getElem?_append_left (List.getElem?_eq_some_iff.mp h).1]; exact h⟩)
        (fun _ h => h) (fun d ds ih1 ih2 vs ⟨x, r, e, h1, h2⟩ => ⟨x, r, e, ih1 x h1, ih2 r h2⟩) d
    refine ⟨key, fun d => ?_⟩
    induction d with
    | nil => exact fun v h => h
    | cons d ds ih => exact fun v ⟨x, r, e, h1, h2⟩ => ⟨x, r, e, key d x h1, ih r h2⟩
  have rf : ∀ (names : List Str) (fs : List (Nat × D)) (l : List (Str × V)), RF K ρ H names fs l → RF K (ρ ++ [a]) H names fs l := fun names fs => by
    induction fs with
    | nil => exact fun v h => h
    | cons p ds ih => exact fun v ⟨x, v', s, e, h1, h2, h3⟩ => ⟨x, v', s, e, h1, rd.1 _ _ h2, ih s h3⟩
  have rk : ∀ {κ : Type} (fs : List (κ × D)) (l : List (κ × V)), RK K ρ H fs l → RK K (ρ ++ [a]) H fs l := fun fs => by
    induction fs with
    | nil => exact fun v h => h
    | cons p ds ih => exact fun v ⟨v', s, e, h2, h3⟩ => ⟨v', s, e, rd.1 _ _ h2, ih s h3⟩
  have ro : ∀ (b : Addr) (o : O), RO K C ρ H b o → RO K C (ρ ++ [a]) H b o := fun b o h => by
    cases o with
    | lst ds => obtain ⟨xs, e1, r⟩ := h; exact ⟨xs, e1, rd.2 _ _ r⟩
    | dK _ => obtain ⟨xs, e1, r⟩ := h; exact ⟨xs, e1, rk _ _ r⟩
    | dT _ => obtain ⟨xs, e1, r⟩ := h; exact ⟨xs, e1, rk _ _ r⟩
    | fK _ => obtain ⟨ob, xs, e1, r⟩ := h; exact ⟨ob, xs, e1, rk _ _ r⟩
    | fT _ => obtain ⟨ob, xs, e1, r⟩ := h; exact ⟨ob, xs, e1, rk _ _ r⟩
    | ins _ _ => obtain ⟨dx, xs, e1, r⟩ := h; exact ⟨dx, xs, e1, rf _ _ _ r⟩
  refine ⟨⟨?_, fun b hb nb => ?_, E0.keep, E0.tbl, E0.frz⟩, by simp [R.len], List.nodup_append.mpr ⟨R.nd, by simp, fun x hx y hy z => n (by rw [List.mem_singleton.mp hy] at z; exact z ▸ hx)⟩, R.names, fun k b o hk ho => ?_, R.tab⟩
  · obtain ⟨t, e⟩ := E0.pre
    exact ⟨t ++ [a], by rw [e, List.append_assoc]⟩
  · rcases List.mem_append.mp hb with q | q
    · exact E0.new b q nb
    · rw [List.mem_singleton.mp q]; exact h0
  · by_cases e : k < ρ.length
    · rw [List.getElem?_append_left e] at hk
      rw [List.getElem?_append_left (by have := R.len; omega)] at ho
      exact ro b o (R.obj k b o hk ho)
    · have hk1 := (List.getElem?_eq_some_iff.mp hk).1
      rw [List.length_append, List.length_singleton] at hk1
      have e2 : k = ρ.length := by omega
      subst e2
      rw [List.getElem?_concat_length] at hk
      rw [R.len, List.getElem?_concat_length] at ho
      cases hk; cases ho
      exact ⟨xs, m, rd.2 _ _ r⟩
end

/-! ### what is walked -/
structure NIt where
  items : List D
  ok : NH → Bool
abbrev NI := NEnv → NH → R NIt
def JOk (K : PySem.W.Frag) (C : NC) (ρ0 : List Addr) (H0 : Hp) (t : NIt) (J : It) : Prop := ∀ ρ H N, Ext ρ0 H0 ρ H → NRel K C ρ N H → t.ok N = true →
  (∀ (i : Nat) (d : D), t.items[i]? = some d → J.go i H ∧ ∀ x H', J.yld i H x H' → ∃ ρ', Ext ρ H ρ' H' ∧ NRel K C ρ' N H' ∧ RD K ρ' H' d x) ∧ J.stop t.items.length H
def tI (K : PySem.W.Frag) (C : NC) (W : WX) (m : NI) : TI := tR (JOk K C) K C W m
def chars (s : Str) : List D := s.cps.toList.map fun c => .str ⟨#[c]⟩
/-- a list, a tuple, a text, a dict that is locked -/
def itOf (N : NH) : D → Option NIt
  | .tup l | .ctup l | .lsc l => some ⟨l, fun _ => true⟩
  | .str s => some ⟨chars s, fun _ => true⟩
  | .ref n => match N[n]? with
    | some (.lst l) => some ⟨l, fun N => decide (N[n]? = some (.lst l))⟩
    | some (.fK kvs) => some ⟨kvs.map fun p => dKey p.1, fun _ => true⟩
    | some (.fT kvs) => some ⟨kvs.map fun p => .tup (p.1.map dKey), fun _ => true⟩
    | _ => none
  | _ => none
def iSeq (a : NE) : NI := fun σ N => (a σ N).bind fun d N => match itOf N d with | some t => .ok t N | none => .bad
section
variable {K : PySem.W.Frag} {C : NC} {ρ : List Addr} {N : NH} {H : Hp}
theorem jok_lst {n : Nat} {l : List D} {a : Addr} (ha : ρ[n]? = some a) : JOk K C ρ H ⟨l, fun N => decide (N[n]? = some (.lst l))⟩ (Itl K a) := fun ρ1 H1 N1 E R h => by
  obtain ⟨xs, h1, h2⟩ := R.obj n a _ (E.get ha) (of_decide_eq_true h)
  refine ⟨fun i d hd => ?_, xs, SqL.of h1, by rw [h2.length]; exact Nat.le_refl _⟩
  obtain ⟨x, e1, e2⟩ := h2.get' hd
  refine ⟨⟨xs, x, SqL.of h1, e1⟩, fun y H' ⟨hH, hy⟩ => ⟨ρ1, ?_⟩⟩
  subst hH
  have := hy xs (SqL.of h1)
  rw [e1] at this; cases this
  exact ⟨.refl, R, e2⟩
theorem jok_lsc {l : List D} {a : Addr} {xs : List V} (ha : LscAt K ρ H a xs) (hr : RDs K ρ H l xs) : JOk K C ρ H ⟨l, fun N => true⟩ (Itl K a) := fun ρ1 H1 N1 E R h => by
  have h1 := (ha.ext E).sq
  have h2 := RDs.ext E l hr
  refine ⟨fun i d hd => ?_, xs, h1, by rw [h2.length]; exact Nat.le_refl _⟩
  obtain ⟨x, e1, e2⟩ := h2.get' hd
  refine ⟨⟨xs, x, h1, e1⟩, fun y H' ⟨hH, hy⟩ => ⟨ρ1, ?_⟩⟩
  subst hH
  have := hy xs h1
  rw [e1] at this; cases this
  exact ⟨.refl, R, e2⟩
theorem jok_tup {l : List D} {a : Addr} {xs : List V} (ha : TupAt ρ H a xs ∨ CtupAt K ρ H a xs) (hr : RDs K ρ H l xs) : JOk K C ρ H ⟨l, fun N => true⟩ (Itt K a) := fun ρ1 H1 N1 E R h => by
  have h1 : SqT K H1 a xs := by
    rcases ha with h | h
    · exact (h.ext E).sq
    · exact (h.ext E).sq
  have h2 := RDs.ext E l hr
  refine ⟨fun i d hd => ?_, xs, h1, by rw [h2.length]; exact Nat.le_refl _⟩
  obtain ⟨x, e1, e2⟩ := h2.get' hd
  refine ⟨⟨xs, x, h1, e1⟩, fun y H' ⟨hH, hy⟩ => ⟨ρ1, ?_⟩⟩
  subst hH
  have := hy xs h1
  rw [e1] at this; cases this
  exact ⟨.refl, R, e2⟩
theorem jok_str {x : Str} : JOk K C ρ H ⟨chars x, fun N => true⟩ (Its x) := fun ρ1 H1 N1 E R h => by
  have hl : (chars x).length = x.cps.size := by unfold chars; simp
  refine ⟨fun i d hd => ?_, by rw [show (NIt.mk (chars x) fun _ => true).items = chars x from rfl, hl]; exact Nat.le_refl _⟩
  have hi := (List.getElem?_eq_some_iff.mp hd).1
  refine ⟨by rw [show (NIt.mk (chars x) fun _ => true).items = chars x from rfl, hl] at hi; exact hi, fun y H' ⟨hH, c, hc, hy⟩ => ⟨ρ1, ?_⟩⟩
  subst hH
  refine ⟨.refl, R, ?_⟩
  have e : (chars x)[i]? = some (.str ⟨#[c]⟩) := by
    unfold chars
    rw [List.getElem?_map, show x.cps.toList[i]? = some c by rw [Array.getElem?_toList]; exact hc]; rfl
  rw [show (NIt.mk (chars x) fun _ => true).items = chars x from rfl, e] at hd
  cases hd
  exact hy
theorem RK.dkeys_get {kvs : List (Key × D)} {l : List (Key × V)} {i : Nat} {d : D} (h : RK K ρ H kvs l) (hd : (kvs.map fun p => dKey p.1)[i]? = some d) : ∃ k v, l[i]? = some (k, v) ∧ d = dKey k := by
  rw [List.getElem?_map] at hd
  obtain ⟨p, h1, rfl⟩ := Option.map_eq_some_iff.mp hd
  have hl : i < l.length := by rw [h.length]; exact (List.getElem?_eq_some_iff.mp h1).1
  have e : l[i]? = some (l[i]'hl) := List.getElem?_eq_getElem _
  obtain ⟨d', h2, _⟩ := h.get e
  rw [h1] at h2
  refine ⟨(l[i]'hl).1, (l[i]'hl).2, e, ?_⟩
  rw [Option.some.inj h2]
theorem RK.tkeys_get {kvs : List (List Key × D)} {l : List (List Key × V)} {i : Nat} {d : D} (h : RK K ρ H kvs l) (hd : (kvs.map fun p => D.tup (p.1.map dKey))[i]? = some d) : ∃ k v, l[i]? = some (k, v) ∧ d = .tup (k.map dKey) := by
  rw [List.getElem?_map] at hd
  obtain ⟨p, h1, rfl⟩ := Option.map_eq_some_iff.mp hd
  have hl : i < l.length := by rw [h.length]; exact (List.getElem?_eq_some_iff.mp h1).1
  have e : l[i]? = some (l[i]'hl) := List.getElem?_eq_getElem _
  obtain ⟨d', h2, _⟩ := h.get e
  rw [h1] at h2
  refine ⟨(l[i]'hl).1, (l[i]'hl).2, e, ?_⟩
  rw [Option.some.inj h2]
theorem jok_fK {kvs : List (Key × D)} {l : List (Key × V)} {a : Addr} {ob : Obj} (ha : H a = some (.frz ob (.dK l))) (hr : RK K ρ H kvs l) : JOk K C ρ H ⟨kvs.map fun p => dKey p.1, fun N => true⟩ (Itk a ob l) := fun ρ1 H1 N1 E R h => by
  have h1 := E.frz a _ _ ha
  refine ⟨fun i d hd => ?_, h1, by simp [hr.length]⟩
  obtain ⟨k, v, e1, rfl⟩ := hr.dkeys_get hd
  refine ⟨⟨h1, (List.getElem?_eq_some_iff.mp e1).1⟩, fun y H' ⟨hH, k', v', e2, hy⟩ => ⟨ρ1, ?_⟩⟩
  subst hH
  rw [e1] at e2; cases e2
  exact ⟨.refl, R, by rw [hy]; exact dKey_ok k⟩
theorem jok_fT {kvs : List (List Key × D)} {l : List (List Key × V)} {a : Addr} {ob : Obj} (ha : H a = some (.frz ob (.dT l))) (hr : RK K ρ H kvs l) : JOk K C ρ H ⟨kvs.map fun p => .tup (p.1.map dKey), fun N => true⟩ (Itkt a ob l) := fun ρ1 H1 N1 E R h => by
  have h1 := E.frz a _ _ ha
  refine ⟨fun i d hd => ?_, h1, by simp [hr.length]⟩
  obtain ⟨k, v, e1, rfl⟩ := hr.tkeys_get hd
  refine ⟨⟨h1, (List.getElem?_eq_some_iff.mp e1).1⟩, fun y H' ⟨hH, k', v', b, e2, hy, hb⟩ => ⟨ρ1, ?_⟩⟩
  subst hH
  rw [e1] at e2; cases e2
  refine ⟨.refl, R, ⟨b, k.map kV, hy, ⟨fun m => ?_, hb⟩, dKeys_ok k⟩⟩
  obtain ⟨u, e, nt, _⟩ := R.tracked m
  rw [hb] at e
  exact nt _ (Option.some.inj e).symm
end
section
variable {X : Cx} {C : NC} {W : WX} {e a b c tg iter : Expr} {body : List Stmt} {pos p : Pos}
theorem n_it {ma : NE} (h : PE X e (tE X.K C W ma)) : PI X tg e (tI X.K C W (iSeq ma)) :=
  pi_weak (pi_or (pi_list h) (pi_or (pi_tup h) (pi_or (pi_str h) (pi_keys h)))) fun σ H R' ⟨ρ, σn, N, R, S, q⟩ => by
    have hb := PostR.bind (rel := RD X.K) q
    have hS : ∀ {P : V → Hp → Prop}, (PostR (RD X.K) X.K C W ρ H σ P (ma σn N)) → tE X.K C W ma σ H P := fun h => ⟨ρ, σn, N, R, S, h⟩
    cases e : ma σn N with
    | exc x N' => rw [e] at hb; exact .inl (hS (by rw [e]; exact hb))
    | bad => rw [e] at hb; exact hb.elim
    | ok d N' =>
      have q0 := q
      unfold iSeq at q0
      rw [e] at q0
      replace q0 : PostR (JOk X.K C) X.K C W ρ H σ R' (match itOf N' d with | some t => NY.R.ok t N' | none => .bad) := q0
      unfold itOf at q0
      cases d with
      | tup l =>
        refine .inr (.inl (hS ?_)); rw [e]
        intro v H1 ρ1 E1 R1 rd
        obtain ⟨a, xs, rfl, ta, ra⟩ := rd
        exact ⟨a, rfl, ⟨xs, ta.sq⟩, q0 _ H1 ρ1 E1 R1 (jok_tup (.inl ta) ra)⟩
      | ctup l =>
        refine .inr (.inl (hS ?_)); rw [e]
        intro v H1 ρ1 E1 R1 rd
        obtain ⟨a, xs, rfl, ta, ra⟩ := rd
        exact ⟨a, rfl, ⟨xs, ta.sq⟩, q0 _ H1 ρ1 E1 R1 (jok_tup (.inr ta) ra)⟩
      | lsc l =>
        refine .inl (hS ?_); rw [e]
        intro v H1 ρ1 E1 R1 rd
        obtain ⟨a, xs, rfl, ta, ra⟩ := rd
        exact ⟨a, rfl, ⟨xs, ta.sq⟩, q0 _ H1 ρ1 E1 R1 (jok_lsc ta ra)⟩
      | str x =>
        refine .inr (.inr (.inl (hS ?_))); rw [e]
        intro v H1 ρ1 E1 R1 rd
        exact ⟨x, rd, q0 _ H1 ρ1 E1 R1 jok_str⟩
      | ref n =>
        dsimp only at q0
        split at q0
        · rename_i t ht
          split at ht
          · rename_i l hN
            cases ht
            refine .inl (hS ?_); rw [e]
            intro v H1 ρ1 E1 R1 rd
            obtain ⟨a, us, rfl, ha, h1, ra⟩ := R1.lst rd hN
            exact ⟨a, rfl, ⟨us, SqL.of h1⟩, q0 _ H1 ρ1 E1 R1 (jok_lst ha)⟩
          · rename_i kvs hN
            cases ht
            refine .inr (.inr (.inr (hS ?_))); rw [e]
            intro v H1 ρ1 E1 R1 rd
            obtain ⟨a, rfl, ha⟩ := rd
            obtain ⟨ob, l, h1, h2⟩ := R1.obj n a _ ha hN
            exact ⟨a, ob, rfl, .inl ⟨l, h1, q0 _ H1 ρ1 E1 R1 (jok_fK h1 h2)⟩⟩
          · rename_i kvs hN
            cases ht
            refine .inr (.inr (.inr (hS ?_))); rw [e]
            intro v H1 ρ1 E1 R1 rd
            obtain ⟨a, rfl, ha⟩ := rd
            obtain ⟨ob, l, h1, h2⟩ := R1.obj n a _ ha hN
            exact ⟨a, ob, rfl, .inr ⟨l, h1, q0 _ H1 ρ1 E1 R1 (jok_fT h1 h2)⟩⟩
          · cases ht
        · exact q0.elim
      | _ => exact q0.elim
/-! range -/
def iRng (a : NA) : NI := fun σ N => (a σ N).bind fun ds N => match ds with
  | [.int j] => if -(2 ^ 62) ≤ j ∧ j < 2 ^ 62 then .ok ⟨(List.range j.toNat).map fun (i : Nat) => .int (i : Int), fun _ => true⟩ N else .bad
  | [.int i, .int j] => if -(2 ^ 62) ≤ i ∧ i < 2 ^ 62 ∧ -(2 ^ 62) ≤ j ∧ j < 2 ^ 62 then .ok ⟨(List.range (j - i).toNat).map fun (k : Nat) => .int (i + (k : Int)), fun _ => true⟩ N else .bad
  | _ => .bad
theorem jok_rng {K : PySem.W.Frag} {ρ : List Addr} {H : Hp} {lo : Int} {n : Nat} {l : List D} (hl : l = (List.range n).map fun (k : Nat) => .int (lo + (k : Int))) : JOk K C ρ H ⟨l, fun N => true⟩ (Itr lo n) := fun ρ1 H1 N1 E R h => by
  subst hl
  refine ⟨fun i d hd => ?_, by simp [Itr]⟩
  rw [List.getElem?_map] at hd
  obtain ⟨k, h1, rfl⟩ := Option.map_eq_some_iff.mp hd
  obtain ⟨h2, h3⟩ := List.getElem?_eq_some_iff.mp h1
  rw [List.length_range] at h2
  rw [List.getElem_range] at h3
  subst h3
  refine ⟨h2, fun y H' ⟨hH, hy⟩ => ⟨ρ1, ?_⟩⟩
  subst hH
  exact ⟨.refl, R, hy⟩
theorem n_range1 {ma : NA} (hm : X.mg "range" = none) (h : PA X [a] (tA X.K C W ma)) (hg : Gl X "range" := by rfl) (hs : starEach [a] X.env = [(false, eval a X.env)] := by rfl) (hl : ∀ σ N ds N', ma σ N = .ok ds N' → ds.length = 1) : PI X tg (.Call (.Name "range" p) [a] [] pos) (tI X.K C W (iRng ma)) :=
  pi_weak (pi_range1 hg hm h hs) fun σ H R' ⟨ρ, σn, N, R, S, q⟩ => ⟨ρ, σn, N, R, S, (PostR.bindE (rel := RDs X.K) q).imp fun us H1 ⟨ds, ρ1, N1, E1, R1, rs, q1, em⟩ => by
    have h1 := hl _ _ _ _ em
    split at q1
    · split at q1
      · rename_i hj
        obtain ⟨x, rfl, rx⟩ := rs.one_of
        exact ⟨_, by rw [show x = _ from rx], hj.1, hj.2, q1 _ H1 ρ1 .refl R1 (jok_rng (by simp))⟩
      · exact q1.elim
    · simp at h1
    · exact q1.elim⟩
end

/-! ### for -/
def loopN (p : NP) (body : NS) (ok : NH → Bool) : List D → NS
  | [], σ, N => if ok N = true then .nx σ N else .bad
  | x :: r, σ, N => if ok N = true then (match p.put x σ N with
    | some σ1 => match body σ1 N with
      | .nx σ2 N2 => loopN p body ok r σ2 N2
      | .bk σ2 N2 => .nx σ2 N2
      | q => q
    | none => .bad) else .bad
def sFor (it : NI) (p : NP) (body : NS) : NS := fun σ N => (it σ N).stm σ fun t N => loopN p body t.ok t.items σ N
section
variable {X : Cx} {C : NC} {W : WX} {e a b c tg iter : Expr} {body : List Stmt} {pos p : Pos}
theorem s_for {mi : NI} {pt : NP} {mb : NS} (hp : PassesOwn (model X.prog X.w) X.A X.env X.xe) (hc : X.calm = true) (hi : PI X tg iter (tI X.K C W mi)) (hg : PG X tg (tG X.K C pt)) (hb : PSs X body (tS X.K C W mb)) (hf : ∀ (x : Value), foldedSetIterable iter X.env x = pure x := by intro _; rfl) :
    PS X (.For tg iter body [] pos) (tS X.K C W (sFor mi pt mb)) :=
  ps_weak (ps_for hp hc hi hg hb hf) fun D σ H ⟨ρ, σn, N, R, S, q⟩ => PostS.part R S q fun J H1 ρ1 N1 t E1 R1 S1 hJ q1 => by
    refine ⟨fun i m σ H => ∃ ρ σn N, Ext ρ1 H1 ρ H ∧ NRel X.K C ρ N H ∧ RSt X.K ρ H σn σ ∧ i ≤ t.items.length ∧ m = t.items.length - i ∧ PostS X.K C W D ρ H (loopN pt mb t.ok (t.items.drop i) σn N), ⟨_, ρ1, σn, N1, .refl, R1, S1, Nat.zero_le _, rfl, q1⟩, ?_⟩
    intro i m σ2 H2 ⟨ρ2, σn2, N2, E2, R2, S2, hi, hm, q2⟩
    by_cases hlt : i < t.items.length
    · have hd : t.items.drop i = t.items[i] :: t.items.drop (i + 1) := List.drop_eq_getElem_cons hlt
      rw [hd] at q2
      unfold loopN at q2
      split at q2
      · rename_i hok
        have ⟨hJ1, _⟩ := hJ ρ2 H2 N2 E2 R2 hok
        have ⟨hgo, hy⟩ := hJ1 i t.items[i] (List.getElem?_eq_getElem hlt)
        refine .inr ⟨hgo, fun σ3 H3 => ∃ ρ3 σn3 N3, Ext ρ1 H1 ρ3 H3 ∧ NRel X.K C ρ3 N3 H3 ∧ RSt X.K ρ3 H3 σn3 σ3 ∧ PostS X.K C W D ρ3 H3 (loopN pt mb t.ok (t.items.drop (i + 1)) σn3 N3), fun σ3 H3 ⟨ρ3, σn3, N3, E3, R3, S3, q3⟩ => ⟨_, by omega, ρ3, σn3, N3, E3, R3, S3, hlt, rfl, q3⟩, ?_⟩
        intro x H3 hx
        obtain ⟨ρ3, E3, R3, rd⟩ := hy x H3 hx
        refine ⟨ρ3, σn2, N2, _, R3, S2.ext E3, rd, ?_⟩
        split
        · rename_i σn4 hp4
          rw [hp4] at q2
          intro σ4 S4 _
          refine ⟨ρ3, σn4, N2, R3, S4, ?_⟩
          have E13 := E2.trans E3
          cases eb : mb σn4 N2 with
          | nx σ5 N5 =>
            dsimp only at q2
            rw [eb] at q2
            exact fun σ' H' ρ' E' R' S' => ⟨ρ', σ5, N5, E13.trans E', R', S', PostS.ext (E3.trans E') q2⟩
          | rt d N5 => dsimp only at q2; rw [eb] at q2; exact PostS.ext E3 q2
          | bk σ5 N5 => dsimp only at q2; rw [eb] at q2; exact PostS.ext E3 q2
          | exc x σ5 N5 => dsimp only at q2; rw [eb] at q2; exact PostS.ext E3 q2
          | bad => dsimp only at q2; rw [eb] at q2; exact q2
        · rename_i hp4
          rw [hp4] at q2
          exact q2.elim
      · exact q2.elim
    · have hil : i = t.items.length := by omega
      subst hil
      rw [List.drop_length] at q2
      unfold loopN at q2
      split at q2
      · rename_i hok
        have ⟨_, hJ2⟩ := hJ ρ2 H2 N2 E2 R2 hok
        exact .inl ⟨hJ2, q2.nx R2 S2⟩
      · exact q2.elim
end
end NY

set_option Elab.async false
set_option linter.all false
set_option maxRecDepth 100000
set_option maxHeartbeats 4000000
/-! NY9: list comprehensions -/
namespace NY
open PySem PySem.Spec PyProof.Rows L2

def wipeN (σ : NEnv) : List Nat → NEnv
  | [] => σ
  | i :: is => (wipeN σ is).set i none
theorem wipe_len : ∀ (vs : List Nat) (σ : L2.St), (wipe σ vs).length = σ.length
  | [], σ => rfl
  | i :: is, σ => by rw [show wipe σ (i :: is) = (wipe σ is).set i none from rfl, List.length_set, wipe_len is]
theorem wipe_get : ∀ (vs : List Nat) (σ : L2.St) (j : Nat), (wipe σ vs)[j]? = if j ∈ vs ∧ j < σ.length then some none else σ[j]?
  | [], σ, j => by simp [L2.wipe]
  | i :: is, σ, j => by
    rw [show wipe σ (i :: is) = (wipe σ is).set i none from rfl]
    by_cases h2 : i = j
    · subst h2
      by_cases h3 : i < σ.length
      · rw [if_pos ⟨List.mem_cons_self, h3⟩, List.getElem?_set_self (by rw [wipe_len]; exact h3)]
      · rw [if_neg (fun z => h3 z.2), List.getElem?_eq_none (by rw [List.length_set, wipe_len]; omega), List.getElem?_eq_none (by omega)]
    · rw [List.getElem?_set_ne h2, wipe_get is σ j]
      by_cases h1 : j ∈ is
      · by_cases h3 : j < σ.length
        · rw [if_pos ⟨h1, h3⟩, if_pos ⟨List.mem_cons_of_mem _ h1, h3⟩]
        · rw [if_neg (fun z => h3 z.2), if_neg (fun z => h3 z.2)]
      · rw [if_neg (fun z => h1 z.1), if_neg (fun z => by rcases List.mem_cons.mp z.1 with e | e; exact h2 e.symm; exact h1 e)]
theorem wipe_only {vs : List Nat} {σ σ' : L2.St} (h : Only vs (wipe σ vs) σ') : wipe σ' vs = wipe σ vs := by
  apply List.ext_getElem?
  intro j
  have hl : σ'.length = σ.length := h.1.trans (wipe_len vs σ)
  rw [wipe_get, hl]
  by_cases q : j ∈ vs
  · by_cases q2 : j < σ.length
    · rw [if_pos ⟨q, q2⟩, wipe_get, if_pos ⟨q, q2⟩]
    · rw [if_neg (fun z => q2 z.2), List.getElem?_eq_none (by omega), List.getElem?_eq_none (by rw [wipe_len]; omega)]
  · rw [if_neg (fun z => q z.1)]; exact h.2 j q
section
variable {K : PySem.W.Frag} {C : NC} {ρ ρ' : List Addr} {H H' : Hp}
theorem RSt.setNone {σn : NEnv} {σ : L2.St} (S : RSt K ρ H σn σ) (i : Nat) : RSt K ρ H (σn.set i none) (σ.set i none) := by
  refine ⟨by rw [List.length_set, List.length_set]; exact S.1, fun j e h => ?_⟩
  by_cases q : i = j
  · subst q
    by_cases hl : i < σn.length
    · rw [List.getElem?_set_self hl] at h; cases h
    · rw [List.getElem?_eq_none (by rw [List.length_set]; omega)] at h; cases h
  · rw [List.getElem?_set_ne q] at h
    obtain ⟨w, h1, h2⟩ := S.2 j e h
    exact ⟨w, by rw [List.getElem?_set_ne q]; exact h1, h2⟩
theorem RSt.wipe : ∀ (vs : List Nat) {σn : NEnv} {σ : L2.St}, RSt K ρ H σn σ → RSt K ρ H (wipeN σn vs) (L2.wipe σ vs)
  | [], _, _, S => S
  | i :: is, _, _, S => (RSt.wipe is S).setNone i
/-- a list beside the nice objects, that a comprehension fills -/
def Fill (K : PySem.W.Frag) (ρ : List Addr) (H : Hp) (a : Addr) (acc : List D) : Prop := a ∉ ρ ∧ ∃ xs, H a = some (.lst xs) ∧ RDs K ρ H acc xs
theorem Fill.ext {a : Addr} {acc : List D} (e : Ext ρ H ρ' H') (h : Fill K ρ H a acc) : Fill K ρ' H' a acc := by
  obtain ⟨n, xs, h1, h2⟩ := h
  refine ⟨fun m => ?_, xs, e.keep a _ h1 n (fun _ z => nomatch z), h2.ext e⟩
  rw [e.new a m n] at h1; cases h1
theorem Fill.push {a : Addr} {acc : List D} {xs : List V} {N : NH} {ρ0 : List Addr} {H0 : Hp} {y : D} {v : V} (R : NRel K C ρ N H) (n : a ∉ ρ) (h1 : H a = some (.lst xs)) (h2 : RDs K ρ H acc xs) (hy : RD K ρ H y v) (E0 : Ext ρ0 H0 ρ H) (h0 : H0 a = none) :
    Ext ρ0 H0 ρ (upd H a (.lst (xs ++ [v]))) ∧ NRel K C ρ N (upd H a (.lst (xs ++ [v]))) ∧ Fill K ρ (upd H a (.lst (xs ++ [v]))) a (acc ++ [y]) := by
  have hs : Same ρ H (upd H a (.lst (xs ++ [v]))) := Same.lst h1
  refine ⟨⟨E0.pre, E0.new, fun b o hb nb nt => ?_, fun b ps hb => ?_, fun b o w hb => ?_⟩, R.aside h1 n, n, _, upd_same, (RDs.same hs _ h2).append (RDs.one (hy.same hs))⟩
  · rw [upd_ne (ne_of_none hb h0)]; exact E0.keep b o hb nb nt
  · rw [upd_ne (ne_of_none hb h0)]; exact E0.tbl b ps hb
  · rw [upd_ne (ne_of_none hb h0)]; exact E0.frz b o w hb
theorem Fill.new {a : Addr} {N : NH} (R : NRel K C ρ N H) (h : H a = none) : Ext ρ H ρ (upd H a (.lst [])) ∧ NRel K C ρ N (upd H a (.lst [])) ∧ Fill K ρ (upd H a (.lst [])) a [] := by
  obtain ⟨E, R'⟩ := R.side (u := .lst []) h
  exact ⟨E, R', R.fresh h, [], upd_same, rfl⟩
end

/-- a comprehension's row: what follows the list so far -/
def lcLoop (p : NP) (c : NT) (elt : NE) (ok : NH → Bool) (σ0 : NEnv) : List D → List D → NH → R (List D)
  | [], acc, N => if ok N = true then .ok acc N else .bad
  | x :: r, acc, N => if ok N = true then (match p.put x σ0 N with
    | some σ1 => match c σ1 N with
      | .ok true N1 => match elt σ1 N1 with
        | .ok y N2 => if acc.length < sizeLine then lcLoop p c elt ok σ0 r (acc ++ [y]) N2 else .bad
        | _ => .bad
      | .ok false N1 => lcLoop p c elt ok σ0 r acc N1
      | _ => .bad
    | none => .bad) else .bad
def nLc (it : NI) (p : NP) (c : NT) (elt : NE) (vs : List Nat) : NE := fun σ N => (it σ N).bind fun t N => (lcLoop p c elt t.ok (wipeN σ vs) t.items [] N).bind fun l N => N.new (.lst l)
def nYes : NT := fun _ N => .ok true N
theorem pts_weak {X : Cx} {e : List Expr} {t t' : TT} (h : PTs X e t) (w : ∀ σ H Q, t' σ H Q → t σ H Q) : PTs X e t' := ⟨fun pins s σ H Q I q => h.run pins s σ H Q I (w σ H Q q)⟩
section
variable {X : Cx} {C : NC} {W : WX} {elt tg iter tg1 iter1 : Expr} {ifs ifs1 : List Expr} {scope : Scope} {own : List (Str × Nat)} {pos p : Pos} {vs1 : List Nat}
theorem n_noif : PTs X [] (tT X.K C W nYes) := pts_weak pts_nil fun σ H Q ⟨ρ, σn, N, R, S, q⟩ => q true H ρ .refl R rfl
theorem snd_lc {mi : NI} {pt : NP} {mc : NT} {me : NE} {vs : List Nat} {σ : L2.St} {H : Hp} {Q : VK} (hv : ∀ i ∈ pt.is, i ∈ vs) (q : tE X.K C W (nLc mi pt mc me vs) σ H Q) :
    tLc (tI X.K C W mi) (tG X.K C pt) (tT X.K C W0 mc) (tE X.K C W0 me) vs σ H Q := by
  obtain ⟨ρ, σn, N, R, S, q⟩ := q
  refine PostR.then R S q fun J H1 ρ1 N1 t E1 R1 S1 hJ q1 => ?_
  intro Da hDa
  obtain ⟨E2, R2, F2⟩ := Fill.new R1 hDa
  refine ⟨fun i m H => ∃ ρ N acc, Ext ρ1 H1 ρ H ∧ NRel X.K C ρ N H ∧ Fill X.K ρ H Da acc ∧ i ≤ t.items.length ∧ m = t.items.length - i ∧ PostR (RD X.K) X.K C W ρ1 H1 σ Q ((lcLoop pt mc me t.ok (wipeN σn vs) (t.items.drop i) acc N).bind fun l N => N.new (.lst l)), ⟨_, ρ1, N1, [], E2, R2, F2, Nat.zero_le _, rfl, q1⟩, ?_⟩
  intro i m H3 ⟨ρ3, N3, acc, E3, R3, F3, hi, hm, q3⟩
  by_cases hlt : i < t.items.length
  · have hd : t.items.drop i = t.items[i] :: t.items.drop (i + 1) := List.drop_eq_getElem_cons hlt
    rw [hd] at q3
    unfold lcLoop at q3
    by_cases hok : t.ok N3 = true
    · rw [if_pos hok] at q3
      have ⟨hJ1, _⟩ := hJ ρ3 H3 N3 E3 R3 hok
      have ⟨hgo, hy⟩ := hJ1 i t.items[i] (List.getElem?_eq_getElem hlt)
      refine .inr ⟨hgo, fun H4 => ∃ ρ N acc, Ext ρ1 H1 ρ H4 ∧ NRel X.K C ρ N H4 ∧ Fill X.K ρ H4 Da acc ∧ PostR (RD X.K) X.K C W ρ1 H1 σ Q ((lcLoop pt mc me t.ok (wipeN σn vs) (t.items.drop (i + 1)) acc N).bind fun l N => N.new (.lst l)), fun H4 ⟨ρ4, N4, acc4, E4, R4, F4, q4⟩ => ⟨_, by omega, ρ4, N4, acc4, E4, R4, F4, hlt, rfl, q4⟩, ?_⟩
      intro x H4 hx
      obtain ⟨ρ4, E4, R4, rd⟩ := hy x H4 hx
      have E14 := E3.trans E4
      refine ⟨ρ4, wipeN σn vs, N3, _, R4, RSt.wipe vs (S1.ext E14), rd, ?_⟩
      cases hp4 : pt.put t.items[i] (wipeN σn vs) N3 with
      | none => rw [hp4] at q3; exact q3.elim
      | some σ1 =>
        rw [hp4] at q3
        dsimp only at q3 ⊢
        intro σ5 S5 O5
        refine ⟨wipe_only (O5.mono hv), ρ4, σ1, N3, R4, S5, ?_⟩
        cases hc : mc σ1 N3 with
        | exc y N5 => rw [hc] at q3; exact q3.elim
        | bad => rw [hc] at q3; exact q3.elim
        | ok k N5 =>
          rw [hc] at q3
          intro b H5 ρ5 E5 R5 rk
          have rk' : b = k := rk
          subst rk'
          cases b with
          | false =>
            rw [if_neg (by simp)]
            exact ⟨ρ5, N5, acc, E14.trans E5, R5, (F3.ext E4).ext E5, q3⟩
          | true =>
            rw [if_pos rfl]
            refine ⟨ρ5, σ1, N5, R5, S5.ext E5, ?_⟩
            dsimp only at q3
            cases he : me σ1 N5 with
            | exc y N6 => rw [he] at q3; exact q3.elim
            | bad => rw [he] at q3; exact q3.elim
            | ok y N6 =>
              rw [he] at q3
              intro v H6 ρ6 E6 R6 rv
              obtain ⟨n6, xs, h1, h2⟩ := ((F3.ext E4).ext E5).ext E6
              dsimp only at q3
              by_cases hl : acc.length < sizeLine
              · rw [if_pos hl] at q3
                obtain ⟨E7, R7, F7⟩ := Fill.push R6 n6 h1 h2 rv ((E14.trans E5).trans E6) hDa
                exact ⟨xs, h1, by rw [h2.length]; exact hl, ρ6, N6, _, E7, R7, F7, q3⟩
              · rw [if_neg hl] at q3; exact q3.elim
    · rw [if_neg hok] at q3; exact q3.elim
  · have hil : i = t.items.length := by omega
    subst hil
    rw [List.drop_length] at q3
    unfold lcLoop at q3
    by_cases hok : t.ok N3 = true
    · rw [if_pos hok] at q3
      have ⟨_, hJ2⟩ := hJ ρ3 H3 N3 E3 R3 hok
      obtain ⟨n3, xs, h1, h2⟩ := F3
      obtain ⟨E8, R8⟩ := R3.adopt h1 n3 h2 ρ1 H1 E3 hDa
      exact .inl ⟨hJ2, q3 _ H3 _ E8 R8 ⟨Da, rfl, by rw [← R3.len]; exact get_last⟩⟩
    · rw [if_neg hok] at q3; exact q3.elim
theorem n_lc {mi : NI} {pt : NP} {mc : NT} {me : NE} (own : List (Str × Nat)) (hc : X.calm = true) (hN : X.N.Nodup) (ok : BlkOk X.N X.env.scope scope own) (hv : ∀ i ∈ pt.is, i ∈ own.map (fun x => x.2)) (hi : PI X tg iter (tI X.K C W mi))
    (hg : ∀ (s : Shared) (H : Hp) (Cc : Addr) (cl : List (Str × Addr)) (fp : List Addr), PG (X.blk s H scope (compEnvC scope cl Cc X.env) fp) tg (tG X.K C pt))
    (ht : ∀ (s : Shared) (H : Hp) (Cc : Addr) (cl : List (Str × Addr)) (fp : List Addr), PTs (X.blk s H scope (compEnvC scope cl Cc X.env) fp) ifs (tT X.K C W0 mc))
    (he : ∀ (s : Shared) (H : Hp) (Cc : Addr) (cl : List (Str × Addr)) (fp : List Addr), PE (X.blk s H scope (compEnvC scope cl Cc X.env) fp) elt (tE X.K C W0 me))
    (hf : ∀ (x : Value), foldedSetIterable iter X.env x = pure x := by intro _; rfl) : PE X (.ListComp elt [⟨tg, iter, ifs, 0⟩] scope pos) (tE X.K C W (nLc mi pt mc me (own.map fun x => x.2))) :=
  pe_weak (pe_lc hc hN hi ok hg ht he hf) fun σ H Q q => snd_lc hv q
/-! x = [..] -/
theorem s_setLc {i : Nat} {y : Str} {py spos : Pos} {mi : NI} {pt : NP} {mc : NT} {me : NE} (own : List (Str × Nat)) (hc : X.calm = true) (hN : X.N.Nodup) (ok : BlkOk X.N X.env.scope scope own) (hv : ∀ i ∈ pt.is, i ∈ own.map (fun x => x.2)) (hi : PI X tg iter (tI X.K C W mi))
    (hg : ∀ (s : Shared) (H : Hp) (Cc : Addr) (cl : List (Str × Addr)) (fp : List Addr), PG (X.blk s H scope (compEnvC scope cl Cc X.env) fp) tg (tG X.K C pt))
    (ht : ∀ (s : Shared) (H : Hp) (Cc : Addr) (cl : List (Str × Addr)) (fp : List Addr), PTs (X.blk s H scope (compEnvC scope cl Cc X.env) fp) ifs (tT X.K C W0 mc))
    (he : ∀ (s : Shared) (H : Hp) (Cc : Addr) (cl : List (Str × Addr)) (fp : List Addr), PE (X.blk s H scope (compEnvC scope cl Cc X.env) fp) elt (tE X.K C W0 me))
    (hy : X.N[i]? = some y := by rfl) (hyl : X.env.scope.names.lookup y = some .local := by rfl) (hsw : swapsWith (.ListComp elt [⟨tg, iter, ifs, 0⟩] scope pos) (some (.Name y py)) spos.line X.env = pure true := by rfl)
    (hf : ∀ (x : Value), foldedSetIterable iter X.env x = pure x := by intro _; rfl) : PS X (.Assign [.Name y py] (.ListComp elt [⟨tg, iter, ifs, 0⟩] scope pos) spos) (tS X.K C W (sAsg (nLc mi pt mc me (own.map fun x => x.2)) (pName i))) :=
  ps_weak (ps_setLc hc hN hy hyl hsw hi ok hg ht he hf) fun D σ H ⟨ρ, σn, N, R, S, q⟩ => snd_lc hv (PostS.part R S q fun v H1 ρ1 N1 d E1 R1 S1 rd q1 => q1 _ H1 ρ1 .refl R1 (S1.set rd i))

end
end NY

set_option Elab.async false
set_option linter.all false
set_option maxRecDepth 100000
set_option maxHeartbeats 4000000
/-! NY10: defs, methods, classes, the law's end -/
namespace NY
open PySem PySem.Spec PyProof.Rows L2

def nFun (slots : Nat) (m : NS) : NF := fun ds N => match m (ds.map some ++ List.replicate (slots - ds.length) none) N with
  | .nx _ N => .ok .non N
  | .rt d N => .ok d N
  | .exc x _ N => .exc x N
  | _ => .bad
theorem RSt.start {K : PySem.W.Frag} {ρ : List Addr} {H : Hp} {ds : List D} {vs : List V} (Ns : List Str) (r : RDs K ρ H ds vs) : RSt K ρ H (ds.map some ++ List.replicate (Ns.length - ds.length) none) (L2.start Ns vs) := by
  have hl := r.length
  refine ⟨by unfold L2.start; simp [hl], fun i d h => ?_⟩
  by_cases hi : i < ds.length
  · rw [List.getElem?_append_left (by simpa using hi), List.getElem?_map] at h
    obtain ⟨e, h1, h2⟩ := Option.map_eq_some_iff.mp h
    cases h2
    obtain ⟨x, e1, e2⟩ := r.get' h1
    exact ⟨x, by unfold L2.start; rw [List.getElem?_append_left (by simp [hl]; exact hi), List.getElem?_map, e1]; rfl, e2⟩
  · rw [List.getElem?_append_right (by simp; omega)] at h
    have := List.getElem?_eq_some_iff.mp h
    obtain ⟨h1, h2⟩ := this
    rw [List.getElem_replicate] at h2; cases h2

section
variable {P : Program} {w : World} {K : PySem.W.Frag} {mg : Str → Option Value} {base : Heap} {C : NC}
/-- a context that a def's body is walked in -/
structure Go (X : Cx) (W : WX) (k : Nat) : Prop where
  tk : Takes X W
  po : PassesOwn (model X.prog X.w) X.A X.env X.xe
  hr : Room k X.A
theorem Go.px {X : Cx} {W : WX} {k : Nat} (g : Go X W k) : PX X W := NY.px g.tk
theorem Go.room {X : Cx} {W : WX} {k j : Nat} (g : Go X W k) (h : j ≤ k := by decide) : Room j X.A := g.hr.mono h
theorem Go.u1 {X : Cx} {W : WX} {k : Nat} (g : Go X W k) : X.A.units + 1 < cLine := by have := g.hr.un; omega
theorem Go.u64 {X : Cx} {W : WX} {k : Nat} (g : Go X W k) : X.A.units + 64 < cLine := by have := g.hr.un; omega
theorem Go.u65 {X : Cx} {W : WX} {k : Nat} (g : Go X W k) : X.A.units + 65 < cLine := by have := g.hr.un; omega
abbrev WOf (E : XK) : WX := fun c d _ H => E c d H
theorem n_fun {x qual : Str} {st : Stmt} {f : Addr} {fd : FuncData} {Ns ps : List Str} {k n : Nat} {m : NS} (F : L2.Fun K x qual st f fd) (Sc : FnScope Ns ps (defScope st)) (hn : ps.length = n)
    (hb : ∀ (cdv : Value) (A : Around) (outer : List Env) (s : Shared) (H : Hp) (E : XK), Go (cxOf (L2.CX P w) P w K mg base Ns qual (defScope st) f cdv A outer s H E) (WOf E) k → PSs (cxOf (L2.CX P w) P w K mg base Ns qual (defScope st) f cdv A outer s H E) (defBody st) (tS K C (WOf E) m)) :
    FnOk P w K mg base (L2.CX P w) (k + 1) f fd ps (spN K C n (nFun Ns.length m)) := by
  refine F.okX Sc (fun vs H Q E h => by rw [h.1, hn]) fun cdv A outer s H vs Q E hr ⟨hl, ρ, N, ds, R, rs, q⟩ => ?_
  refine ⟨_, hb cdv A outer s H E ⟨takes_of rfl rfl rfl rfl, passes_of rfl, hr⟩, ρ, _, N, R, RSt.start Ns rs, ?_⟩
  unfold nFun at q
  cases e : m (ds.map some ++ List.replicate (Ns.length - ds.length) none) N with
  | nx s1 N1 => rw [e] at q; exact fun σ' H' ρ' E' R' S' => q .non H' ρ' E' R' rfl
  | rt d N1 => rw [e] at q; exact q
  | bk s1 N1 => rw [e] at q; exact q.elim
  | exc x s1 N1 => rw [e] at q; exact fun c dx σ' H' ρ' E' R' S' rx => q c dx H' ρ' E' R' rx
  | bad => rw [e] at q; exact q.elim
/-! ### the law -/
/-- the heap ahead of the law: no nice object yet -/
theorem nrel0 {ρ : List Addr} {H : Hp} (hn : C.names.Nodup) (ht : ∀ P ∈ C.tabs, GxR.TabG H P) : NRel K C [] [] H := ⟨rfl, .nil, hn, (fun n a o h _ => by simp at h), ht⟩
/-- the script as the law gets it: a list that it alone reads, or the first nice object -/
def Scr (N : NH) (d : D) (l : List D) : Prop := (N = [] ∧ d = .lsc l) ∨ (N = [.lst l] ∧ d = .ref 0)
theorem law_sp {m : NF} {H : Hp} {a : Addr} {ns : List Int} (hn : C.names.Nodup) (ht : ∀ P ∈ C.tabs, GxR.TabG H P) (hS : SqL K H a (ns.map V.int))
    (hm : ∀ N d, Scr N d (ns.map .int) → ∃ N', m [d] N = .ok (.bl true) N') : spN K C 1 m [V.ref a] H (fun v _ => v = V.bl true) (fun _ _ _ => False) := by
  have h1 : ∀ (hl : LscAt K [] H a (ns.map V.int)), spN K C 1 m [V.ref a] H (fun v _ => v = V.bl true) (fun _ _ _ => False) := fun hl => by
    refine ⟨rfl, [], [], [.lsc (ns.map .int)], nrel0 (ρ := []) hn ht, ⟨V.ref a, [], rfl, ⟨a, ns.map V.int, rfl, hl, RDs.of_ints ns⟩, rfl⟩, ?_⟩
    obtain ⟨N, hm⟩ := hm [] _ (.inl ⟨rfl, rfl⟩)
    rw [hm]
    exact fun v H' ρ' E R r => r
  rcases hS with (h | ⟨o, h⟩) | h
  · refine ⟨rfl, [a], [.lst (ns.map .int)], [.ref 0], ⟨rfl, by simp, hn, fun n b o hb ho => ?_, ht⟩, ⟨V.ref a, [], rfl, ⟨a, rfl, rfl⟩, rfl⟩, ?_⟩
    · cases n with
      | zero =>
        simp at hb ho
        subst hb ho
        exact ⟨_, h, RDs.of_ints ns⟩
      | succ n => simp at hb
    · obtain ⟨N, hm⟩ := hm _ _ (.inr ⟨rfl, rfl⟩)
      rw [hm]
      exact fun v H' ρ' E R r => r
  · exact h1 (.inl ⟨by simp, o, h⟩)
  · exact h1 (.inr h)
end
end NY

set_option Elab.async false
set_option linter.all false
set_option maxRecDepth 100000
set_option maxHeartbeats 4000000
/-! NY11: isinstance, methods of built-in types -/
namespace NY
open PySem PySem.Spec PyProof.Rows L2

/-! ### isinstance -/
inductive Kd where
  | non | bl | int | str | tup | lst | dic
  deriving DecidableEq
def Kd.nm : Kd → String
  | .non => "NoneType" | .bl => "bool" | .int => "int" | .str => "str" | .tup => "tuple" | .lst => "list" | .dic => "dict"
def isiK : Kd → Kd → Bool
  | .bl, .int => true
  | a, b => decide (a = b)
def kindN (N : NH) : D → Option Kd
  | .non => some .non
  | .bl _ => some .bl
  | .int _ => some .int
  | .str _ => some .str
  | .tup _ | .ctup _ => some .tup
  | .lsc _ => some .lst
  | .ref n => match N[n]? with
    | some (.lst _) => some .lst
    | some (.dK _) | some (.dT _) => some .dic
    | _ => none
def nIsi (T : Kd) (a : NE) : NE := fun σ N => (a σ N).bind fun d N => match kindN N d with | some k => .ok (.bl (isiK k T)) N | none => .bad
section
variable {X : Cx} {C : NC} {W : WX} {e o f : Expr} {es : List Expr} {pos p p2 apos cpos : Pos} {x : Str}
/-! ### methods of lists -/
def fAppend : D → List D → NH → R D
  | .ref n, [y], N => match N[n]? with
    | some (.lst l) => if l.length < sizeLine then .ok .non (N.set n (.lst (l ++ [y]))) else .bad
    | _ => .bad
  | _, _, _ => .bad
def fPopAt : D → List D → NH → R D
  | .ref n, [.int i], N => match N[n]? with
    | some (.lst l) => if -(2 ^ 63) ≤ i ∧ i < 2 ^ 63 then (match seqIndex? i l.length with
      | some k => match l[k]? with
        | some y => .ok y (N.set n (.lst (l.eraseIdx k)))
        | none => .bad
      | none => .bad) else .bad
    | _ => .bad
  | _, _, _ => .bad
theorem PostR.lstSet {K : PySem.W.Frag} {ρ : List Addr} {N : NH} {H : Hp} {σ : L2.St} {n : Nat} {a : Addr} {l' : List D} {xs xs' : List V} {d : D} {v : V} {Q : VK} (R : NRel K C ρ N H) (ha : ρ[n]? = some a) (h1 : H a = some (.lst xs)) (h2 : RDs K ρ H l' xs') (hv : RD K ρ H d v)
    (q : PostR (RD K) K C W ρ H σ Q (.ok d (N.set n (.lst l')))) : Q v (upd H a (.lst xs')) := by
  have hz : ∀ o w, H a ≠ some (.frz o w) := fun _ _ z => by rw [h1] at z; cases z
  have E0 : Ext ρ H ρ (upd H a (.lst xs')) := Ext.write (memOf ha) (fun _ z => by rw [h1] at z; cases z) hz
  obtain ⟨E, R'⟩ := R.write (o' := .lst l') (u := .lst xs') ha hz ⟨_, upd_same, h2.ext E0⟩
  exact q v _ ρ E R' (hv.ext E)
theorem sndAppend {K : PySem.W.Frag} : SndM K C fAppend "list" rAppend := by
  intro W ρ N H σ d ds x xs Q R rd rs q
  unfold fAppend at q
  split at q
  · rename_i n y
    obtain ⟨v, rfl, rv⟩ := rs.one_of
    split at q
    · rename_i l hN
      split at q
      · rename_i hl
        obtain ⟨a, us, rfl, ha, h1, ra⟩ := R.lst rd hN
        exact ⟨a, us, v, rfl, rfl, h1, by rw [ra.length]; exact hl, PostR.lstSet (d := .non) R ha h1 (ra.append (RDs.one rv)) rfl q⟩
      · exact q.elim
    · exact q.elim
  · exact q.elim
/-! ### methods of texts -/
def fSplit : D → List D → NH → R D
  | .str a, [.str b], N => if (b.length == 0) = false ∧ a.length + 2 ≤ sizeLine then N.new (.lst ((Txt.split a b).map .str)) else .bad
  | _, _, _ => .bad
def fJoin : D → List D → NH → R D
  | .str a, [d], N => match (seqN N d).bind strsOf with
    | some ys => if (ys.map (·.length)).sum + ys.length * a.length ≤ 16777216 then .ok (.str (Txt.join a ys)) N else .bad
    | none => .bad
  | _, _, _ => .bad
theorem sndSplit {K : PySem.W.Frag} : SndM K C fSplit "str" (fun x xs H Q => ∃ a b, x = .str a ∧ xs = [.str b] ∧ (b.length == 0) = false ∧ a.length + 2 ≤ sizeLine ∧ rNewStrs (Txt.split a b) H Q) := by
  intro W ρ N H σ d ds x xs Q R rd rs q
  unfold fSplit at q
  split at q
  · obtain ⟨v, rfl, rv⟩ := rs.one_of
    split at q
    · rename_i h
      exact ⟨_, _, rd, by rw [show v = _ from rv], h.1, h.2, fun p hp => q.newL R (RDs.of_strs _) hp⟩
    · exact q.elim
  · exact q.elim
theorem sndJoin {K : PySem.W.Frag} : SndM K C fJoin "str" (fun x xs H Q => ∃ a p, ∃ ys : List Str, x = .str a ∧ xs = [.ref p] ∧ (SqL K H p (ys.map V.str) ∨ SqT K H p (ys.map V.str)) ∧ (ys.map (·.length)).sum + ys.length * a.length ≤ 16777216 ∧ Q (.str (Txt.join a ys)) H) := by
  intro W ρ N H σ d ds x xs Q R rd rs q
  unfold fJoin at q
  split at q
  · obtain ⟨v, rfl, rv⟩ := rs.one_of
    split at q
    · rename_i ys hy
      obtain ⟨l, h1, h2⟩ := Option.bind_eq_some_iff.mp hy
      split at q
      · rename_i h
        obtain ⟨a, us, rfl, hs, ra⟩ := seqN_ok R rv h1
        rw [strsOf_eq h2] at ra
        rw [ra.strs] at hs
        exact ⟨_, a, ys, rd, rfl, hs, h, q.ok R rfl⟩
      · exact q.elim
    · exact q.elim
  · exact q.elim
/-! ### dict.get, dict.setdefault -/
def isDic (N : NH) (n : Nat) : Bool := match N[n]? with
  | some (.dK _) | some (.dT _) | some (.fK _) | some (.fT _) => true
  | _ => false
def nDGet2 (o k e : NE) : NE := fun σ N => (o σ N).bind fun x N => match x with
  | .ref n => if isDic N n = true then (k σ N).bind fun y N => (e σ N).bind fun z N => (match getN N n y with | some r => .ok (r.getD z) N | none => .bad) else .bad
  | _ => .bad
end
end NY

set_option Elab.async false
set_option linter.all false
set_option maxRecDepth 100000
set_option maxHeartbeats 4000000
/-! NY12: dict displays, x = [..] over dicts -/
namespace NY
open PySem PySem.Spec PyProof.Rows L2
section
variable {K : PySem.W.Frag} {C : NC} {ρ : List Addr} {H : Hp}
theorem Same.dK {a : Addr} {u : HO} {l : List (Key × V)} (m : H a = some (.dK l)) : Same ρ H (upd H a u) := fun b _ h => upd_ne (fun z => by
  subst z
  rcases h with ⟨_, h⟩ | ⟨_, _, h⟩
  · rw [m] at h; cases h
  · rw [m] at h; cases h)
theorem NRel.asideD {N : NH} {a : Addr} {l : List (Key × V)} (R : NRel K C ρ N H) (m : H a = some (.dK l)) (n : a ∉ ρ) {u : HO} : NRel K C ρ N (upd H a u) := by
  have E : Same ρ H (upd H a u) := Same.dK m
  refine ⟨R.len, R.nd, R.names, fun k b o hk ho => ?_, fun P hP => ?_⟩
  · exact (R.obj k b o hk ho).same E (upd_ne (fun z => n (z ▸ memOf hk)))
  · obtain ⟨ps, e, t⟩ := R.tab P hP
    exact ⟨ps, by rw [upd_ne (show P ≠ a from fun z => by rw [z, m] at e; cases e)]; exact e, t⟩
/-- a thing beside the nice objects joins them: the values stay what they were -/
theorem RD.lift {a : Addr} {u : HO} (m : H a = some u) (ht : ∀ xs, u ≠ .tup xs) (hz : ∀ o w, u ≠ .frz o w) : (∀ (d : D) (v : V), RD K ρ H d v → RD K (ρ ++ [a]) H d v) ∧ (∀ (d : List D) (v : List V), RDs K ρ H d v → RDs K (ρ ++ [a]) H d v) := by
  have hin : ∀ b w, H b = some w → w ≠ u → b ∉ ρ → b ∉ ρ ++ [a] := fun b w hb hw nb hm => by
    rcases List.mem_append.mp hm with q | q
    · exact nb q
    · rw [List.mem_singleton.mp q, m] at hb; exact hw (Option.some.inj hb).symm
  have hT : ∀ (b : Addr) (ys : List V), TupAt ρ H b ys → TupAt (ρ ++ [a]) H b ys := fun b ys h => ⟨hin b _ h.2 (fun z => ht _ z.symm) h.1, h.2⟩
  have hL : ∀ (b : Addr) (ys : List V), LscAt K ρ H b ys → LscAt K (ρ ++ [a]) H b ys := fun b ys h => by
    rcases h with ⟨n, o, h⟩ | h
    · exact .inl ⟨hin b _ h (fun z => hz _ _ z.symm) n, o, h⟩
    · exact .inr h
  have hC : ∀ (b : Addr) (ys : List V), CtupAt K ρ H b ys → CtupAt K (ρ ++ [a]) H b ys := fun b ys h => by
    rcases h with ⟨n, o, h1, h2, h⟩ | h
    · exact .inl ⟨hin b _ h (fun z => hz _ _ z.symm) n, o, h1, h2, h⟩
    · exact .inr h
  have key : ∀ (d : D) (v : V), RD K ρ H d v → RD K (ρ ++ [a]) H d v := fun d =>
    D.rec (motive_1 := fun d => ∀ v, RD K ρ H d v → RD K (ρ ++ [a]) H d v) (motive_2 := fun ds => ∀ vs, RDs K ρ H ds vs → RDs K (ρ ++ [a]) H ds vs)
      (fun _ h => h) (fun _ _ h => h) (fun _ _ h => h) (fun _ _ h => h)
      (fun ds ih v ⟨b, ys, e, h1, h2⟩ => ⟨b, ys, e, hT b ys h1, ih ys h2⟩)
      (fun ds ih v ⟨b, ys, e, h1, h2⟩ => ⟨b, ys, e, hC b ys h1, ih ys h2⟩)
      (fun ds ih v ⟨b, ys, e, h1, h2⟩ => ⟨b, ys, e, hL b ys h1, ih ys h2⟩)
      (fun n v ⟨b, e, h⟩ => ⟨b, e, by rw [List.getElem?_append_left (List.getElem?_eq_some_iff.mp h).1]; exact h⟩)
      (fun _ h => h) (fun d ds ih1 ih2 vs ⟨x, r, e, h1, h2⟩ => ⟨x, r, e, ih1 x h1, ih2 r h2⟩) d
  refine ⟨key, fun d => ?_⟩
  induction d with
  | nil => exact fun v h => h
  | cons d ds ih => exact fun v ⟨x, r, e, h1, h2⟩ => ⟨x, r, e, key d x h1, ih r h2⟩
theorem RK.lift {κ : Type} {a : Addr} {u : HO} (m : H a = some u) (ht : ∀ xs, u ≠ .tup xs) (hz : ∀ o w, u ≠ .frz o w) : ∀ (fs : List (κ × D)) (l : List (κ × V)), RK K ρ H fs l → RK K (ρ ++ [a]) H fs l := fun fs => by
  induction fs with
  | nil => exact fun v h => h
  | cons p ds ih => exact fun v ⟨v', s, e, h2, h3⟩ => ⟨v', s, e, (RD.lift m ht hz).1 _ _ h2, ih s h3⟩
theorem NRel.adoptO {N : NH} {a : Addr} {u : HO} {o' : O} (R : NRel K C ρ N H) (m : H a = some u) (ht : ∀ xs, u ≠ .tup xs) (hz : ∀ o w, u ≠ .frz o w) (n : a ∉ ρ) (new : RO K C (ρ ++ [a]) H a o') (ρ0 : List Addr) (H0 : Hp) (E0 : Ext ρ0 H0 ρ H) (h0 : H0 a = none) :
    Ext ρ0 H0 (ρ ++ [a]) H ∧ NRel K C (ρ ++ [a]) (N ++ [o']) H := by
  have rd := RD.lift (K := K) (ρ := ρ) m ht hz
  have rk := fun {κ : Type} => RK.lift (K := K) (ρ := ρ) (κ := κ) m ht hz
  have rf : ∀ (names : List Str) (fs : List (Nat × D)) (l : List (Str × V)), RF K ρ H names fs l → RF K (ρ ++ [a]) H names fs l := fun names fs => by
    induction fs with
    | nil => exact fun v h => h
    | cons p ds ih => exact fun v ⟨x, v', s, e, h1, h2, h3⟩ => ⟨x, v', s, e, h1, rd.1 _ _ h2, ih s h3⟩
  have ro : ∀ (b : Addr) (o : O), RO K C ρ H b o → RO K C (ρ ++ [a]) H b o := fun b o h => by
    cases o with
    | lst ds => obtain ⟨xs, e1, r⟩ := h; exact ⟨xs, e1, rd.2 _ _ r⟩
    | dK _ => obtain ⟨xs, e1, r⟩ := h; exact ⟨xs, e1, rk _ _ r⟩
    | dT _ => obtain ⟨xs, e1, r⟩ := h; exact ⟨xs, e1, rk _ _ r⟩
    | fK _ => obtain ⟨ob, xs, e1, r⟩ := h; exact ⟨ob, xs, e1, rk _ _ r⟩
    | fT _ => obtain ⟨ob, xs, e1, r⟩ := h; exact ⟨ob, xs, e1, rk _ _ r⟩
    | ins _ _ => obtain ⟨dx, xs, e1, r⟩ := h; exact ⟨dx, xs, e1, rf _ _ _ r⟩
  refine ⟨⟨?_, fun b hb nb => ?_, E0.keep, E0.tbl, E0.frz⟩, by simp [R.len], List.nodup_append.mpr ⟨R.nd, by simp, fun x hx y hy z => n (by rw [List.mem_singleton.mp hy] at z; exact z ▸ hx)⟩, R.names, fun k b o hk ho => ?_, R.tab⟩
  · obtain ⟨t, e⟩ := E0.pre
    exact ⟨t ++ [a], by rw [e, List.append_assoc]⟩
  · rcases List.mem_append.mp hb with q | q
    · exact E0.new b q nb
    · rw [List.mem_singleton.mp q]; exact h0
  · by_cases e : k < ρ.length
    · rw [List.getElem?_append_left e] at hk
      rw [List.getElem?_append_left (by have := R.len; omega)] at ho
      exact ro b o (R.obj k b o hk ho)
    · have hk1 := (List.getElem?_eq_some_iff.mp hk).1
      rw [List.length_append, List.length_singleton] at hk1
      have e2 : k = ρ.length := by omega
      subst e2
      rw [List.getElem?_concat_length] at hk
      rw [R.len, List.getElem?_concat_length] at ho
      cases hk; cases ho
      exact new
end
/-! ### dict displays -/
abbrev NPs := NEnv → NH → R (List (Key × D))
def nPsNil : NPs := fun _ N => .ok [] N
def nPsCons (k v : NE) (r : NPs) : NPs := fun σ N => (k σ N).bind fun x N => (v σ N).bind fun y N => (r σ N).bind fun l N => match keyD x with
  | some key => .ok ((key, y) :: l) N
  | none => .bad
def mergeD (kvs more : List (Key × D)) : List (Key × D) := more.foldl (fun acc kv => putD acc kv.1 kv.2) kvs
def nDisp (m : NPs) : NE := fun σ N => (m σ N).bind fun l N => if l.length ≤ 15 then N.new (.dK (mergeD [] l)) else .bad
def relP (K : PySem.W.Frag) (ρ : List Addr) (H : Hp) (kvs : List (Key × D)) (ps : List (V × V)) : Prop := ∃ l : List (Key × V), ps = l.map (fun kv => (kV kv.1, kv.2)) ∧ RK K ρ H kvs l
theorem RK.merge {K : PySem.W.Frag} {ρ : List Addr} {H : Hp} : ∀ {more : List (Key × D)} {l : List (Key × V)} {kvs : List (Key × D)} {l0 : List (Key × V)}, RK K ρ H kvs l0 → RK K ρ H more l → RK K ρ H (mergeD kvs more) (mergeK l0 l)
  | [], _, _, _, h, h' => by cases h'; exact h
  | (k, d) :: r, _, _, _, h, h' => by
    obtain ⟨v, s, rfl, h1, h2⟩ := h'
    exact RK.merge (kvs := putD _ k d) (l0 := putK _ k v) (h.put h1) h2
section
variable {X : Cx} {C : NC} {W : WX} {pos : Pos} {keys : List (Option Expr)} {values : List Expr} {k v : Expr}
def PD (X : Cx) (C : NC) (W : WX) (pos : Pos) (keys : List (Option Expr)) (values : List Expr) (m : NPs) : Prop :=
  ∃ trs, PPs X pos keys values trs ∧ ∀ σ H Q, tR (relP X.K) X.K C W m σ H Q → tPairs trs σ H Q
theorem d_nil : PD X C W pos [] [] nPsNil := ⟨_, pps_nil, fun σ H Q ⟨ρ, σn, N, R, S, q⟩ => q [] H ρ .refl R ⟨[], rfl, rfl⟩⟩
theorem d_cons {mk mv : NE} {m : NPs} (hk : PE X k (tE X.K C W mk)) (hv : PE X v (tE X.K C W mv)) (hr : PD X C W pos keys values m) : PD X C W pos (some k :: keys) (v :: values) (nPsCons mk mv m) := by
  obtain ⟨trs, h1, h2⟩ := hr
  refine ⟨_, pps_cons hk hv h1, fun σ H Q ⟨ρ, σn, N, R, S, q⟩ => ?_⟩
  refine PostR.then R S q fun x H1 ρ1 N1 dx E1 R1 S1 rx q1 => PostR.then R1 S1 q1 fun y H2 ρ2 N2 dy E2 R2 S2 ry q2 => h2 _ _ _ (PostR.then (rel := relP X.K) R2 S2 q2 fun ps H3 ρ3 N3 l E3 R3 S3 rp q3 => ?_)
  obtain ⟨l', rfl, hl⟩ := rp
  split at q3
  · rename_i key hkey
    exact q3 _ H3 ρ3 .refl R3 ⟨(key, y) :: l', by rw [List.map_cons, ← keyD_ok ((rx.ext E2).ext E3) hkey], ⟨y, l', rfl, ry.ext E3, hl⟩⟩
  · exact q3.elim
theorem n_disp {m : NPs} (h : PD X C W pos keys values m) (h1 : (keys.all fun x => x.isSome) = true := by rfl) (h2 : keys.length = values.length := by rfl) (h3 : keys ≠ [] := by exact (fun z => nomatch z)) (h4 : keys.length ≤ 15 := by decide) : PE X (.Dict keys values pos) (tE X.K C W (nDisp m)) := by
  obtain ⟨trs, hp, hw⟩ := h
  refine pe_weak (pe_disp hp h1 h2 h3 h4) fun σ H Q ⟨ρ, σn, N, R, S, q⟩ p hp => ?_
  obtain ⟨E0, R0⟩ := R.side (u := .dK []) hp
  refine hw σ _ _ ⟨ρ, σn, N, R0, S.ext E0, ?_⟩
  have hb : PostR (relP X.K) X.K C W ρ (upd H p (.dK [])) σ _ (m σn N) := ((PostR.bindE (rel := relP X.K) q).ext E0).imp fun _ _ h => h
  unfold nDisp at q
  cases e : m σn N with
  | exc x N' => rw [e] at hb; exact hb
  | bad => rw [e] at hb; exact hb
  | ok l N' =>
    rw [e] at q
    replace q : PostR (RD X.K) X.K C W ρ H σ Q (if l.length ≤ 15 then N'.new (.dK (mergeD [] l)) else .bad) := q
    intro ps H' ρ' E' R' ⟨l', e1, hl⟩
    by_cases hlen : l.length ≤ 15
    · rw [if_pos hlen] at q
      have np : p ∉ ρ' := fun hm => by
        have := E'.new p hm (R.fresh hp)
        rw [upd_same] at this; cases this
      have h2p : H' p = some (.dK []) := E'.keep p _ upd_same (R.fresh hp) (fun _ z => nomatch z)
      refine ⟨h2p, l', e1, by rw [hl.length]; exact hlen, ?_⟩
      have hs : Same ρ' H' (upd H' p (.dK (mergeK [] l'))) := Same.dK h2p
      have R2 := R'.asideD (u := .dK (mergeK [] l')) h2p np
      have hl2 : RK X.K ρ' (upd H' p (.dK (mergeK [] l'))) l l' := RK.same hs _ hl
      have E2 : Ext ρ H ρ' (upd H' p (.dK (mergeK [] l'))) := by
        have E3 := E0.trans E'
        refine ⟨E3.pre, E3.new, fun b o hb nb nt => ?_, fun b ps hb => ?_, fun b o w hb => ?_⟩
        · rw [upd_ne (ne_of_none hb hp)]; exact E3.keep b o hb nb nt
        · rw [upd_ne (ne_of_none hb hp)]; exact E3.tbl b ps hb
        · rw [upd_ne (ne_of_none hb hp)]; exact E3.frz b o w hb
      have hlift := RK.lift (κ := Key) (K := X.K) (ρ := ρ') (H := upd H' p (.dK (mergeK [] l'))) (a := p) upd_same (fun _ z => nomatch z) (fun _ _ z => nomatch z)
      obtain ⟨E4, R4⟩ := R2.adoptO (o' := .dK (mergeD [] l)) upd_same (fun _ z => nomatch z) (fun _ _ z => nomatch z) np ⟨_, upd_same, RK.merge rfl (hlift _ _ hl2)⟩ ρ H E2 hp
      exact q _ _ _ E4 R4 ⟨p, rfl, by rw [← R2.len]; exact get_last⟩
    · rw [if_neg hlen] at q; exact q.elim
end
/-! ### x = [.. for .. in a dict] -/
end NY

set_option Elab.async false
set_option linter.all false
set_option maxRecDepth 100000
set_option maxHeartbeats 4000000
/-! NY13: names of the module -/
namespace NY
open PySem PySem.Spec PyProof.Rows L2
/-- a name of the top holds a plain value -/
def GD (K : PySem.W.Frag) (mg : Str → Option Value) (x : Str) (d : D) : Prop := ∃ u v, mg x = some u ∧ RelV v u ∧ ∀ ρ H, RD K ρ H d v
theorem GD.int {K : PySem.W.Frag} {mg : Str → Option Value} {x : Str} {i : Int} {t : Tok} (h : mg x = some (.int i t)) : GD K mg x (.int i) := ⟨_, .int i, h, ⟨t, rfl⟩, fun _ _ => rfl⟩
theorem GD.str {K : PySem.W.Frag} {mg : Str → Option Value} {x : Str} {i : Str} {t : Tok} (h : mg x = some (.str i t)) : GD K mg x (.str i) := ⟨_, .str i, h, ⟨t, rfl⟩, fun _ _ => rfl⟩
/-- a written tuple of numbers and texts -/
def relC : List D → List Value → Prop
  | [], us => us = []
  | .int i :: ds, us => ∃ t r, us = .int i t :: r ∧ relC ds r
  | .str i :: ds, us => ∃ t r, us = .str i t :: r ∧ relC ds r
  | _ :: _, _ => False
theorem relC_ok {K : PySem.W.Frag} : ∀ {ds : List D} {us : List Value}, relC ds us → ∃ xs, Vals xs us ∧ ∀ ρ H, RDs K ρ H ds xs
  | [], _, h => by
    have e : _ = [] := h
    subst e; exact ⟨[], .nil, fun _ _ => rfl⟩
  | .int i :: ds, _, h => by
    obtain ⟨t, r, rfl, h1⟩ := h
    obtain ⟨xs, e1, e2⟩ := relC_ok (K := K) h1
    exact ⟨.int i :: xs, .cons ⟨t, rfl⟩ e1, fun ρ H => ⟨_, _, rfl, rfl, e2 ρ H⟩⟩
  | .str i :: ds, _, h => by
    obtain ⟨t, r, rfl, h1⟩ := h
    obtain ⟨xs, e1, e2⟩ := relC_ok (K := K) h1
    exact ⟨.str i :: xs, .cons ⟨t, rfl⟩ e1, fun ρ H => ⟨_, _, rfl, rfl, e2 ρ H⟩⟩
  | .non :: _, _, h | .bl _ :: _, _, h | .tup _ :: _, _, h | .ctup _ :: _, _, h | .lsc _ :: _, _, h | .ref _ :: _, _, h => nomatch h
theorem GD.ctup {K : PySem.W.Frag} {mg : Str → Option Value} {x : Str} {a : Addr} {ds : List D} {us : List Value} {n : Nat} {sl : Array (Option Value)} (h : mg x = some (.ref a)) (hl : K.lookup a = some ⟨.type "tuple", none, .seq us.toArray n, sl⟩) (hr : relC ds us) (hz : us.length ≤ 1000) : GD K mg x (.ctup ds) := by
  obtain ⟨xs, e1, e2⟩ := relC_ok (K := K) hr
  refine ⟨_, .ref a, h, rfl, fun ρ H => ⟨a, xs, rfl, .inr ⟨_, us.toArray, n, hl, rfl, rfl, rfl, ?_, by simpa using e1⟩, e2 ρ H⟩⟩
  have : (1000 : Nat) ≤ sizeLine := by decide
  simp; omega
theorem n_gc {X : Cx} {C : NC} {W : WX} {x : Str} {d : D} {pos : Pos} (h : GD X.K X.mg x d) (hg : Gl X x := by rfl) (hd : (x == ("__debug__" : Str)) = false := by decide) : PE X (.Name x pos) (tE X.K C W (nC d)) := by
  obtain ⟨u, v, h1, h2, h3⟩ := h
  exact n_glob hg h1 h2 h3 hd
end NY

set_option Elab.async false
set_option linter.all false
set_option maxRecDepth 100000
set_option maxHeartbeats 4000000
/-! NY14: what holds behind a nice program: plain rules, applied from the goal -/
namespace NY
open PySem PySem.Spec PyProof.Rows L2

abbrev XP := Exn → NH → Prop
abbrev X0 : XP := fun _ _ => False
@[irreducible] def wpR {α : Type} (r : R α) (Q : α → NH → Prop) (E : XP := X0) : Prop := match r with
  | .ok a N => Q a N
  | .exc x N => E x N
  | .bad => False
/-- how a row of statements ends -/
structure En where
  nx : NEnv → NH → Prop
  rt : D → NH → Prop := fun _ _ => False
  bk : NEnv → NH → Prop := fun _ _ => False
  ex : Exn → NEnv → NH → Prop := fun _ _ _ => False
@[irreducible] def wpS (r : RS) (e : En) : Prop := match r with
  | .nx σ N => e.nx σ N
  | .rt d N => e.rt d N
  | .bk σ N => e.bk σ N
  | .exc x σ N => e.ex x σ N
  | .bad => False
theorem wpR.mono {α : Type} {r : R α} {Q Q' : α → NH → Prop} {E E' : XP} (h : wpR r Q E) (hq : ∀ a N, Q a N → Q' a N) (he : ∀ x N, E x N → E' x N) : wpR r Q' E' := by
  with_unfolding_all
    cases r with
    | ok a N => exact hq a N h
    | exc x N => exact he x N h
    | bad => exact h
theorem wpR.ex {α : Type} {r : R α} {Q : α → NH → Prop} (h : wpR r Q) : ∃ a N, r = .ok a N ∧ Q a N := by
  with_unfolding_all
    cases r with
    | ok a N => exact ⟨a, N, rfl, h⟩
    | exc x N => exact h.elim
    | bad => exact h.elim
theorem wpS.mono {r : RS} {e e' : En} (h : wpS r e) (h1 : ∀ σ N, e.nx σ N → e'.nx σ N) (h2 : ∀ d N, e.rt d N → e'.rt d N) (h3 : ∀ σ N, e.bk σ N → e'.bk σ N) (h4 : ∀ x σ N, e.ex x σ N → e'.ex x σ N) : wpS r e' := by
  with_unfolding_all
    cases r with
    | nx s N => exact h1 _ _ h
    | rt d N => exact h2 _ _ h
    | bk s N => exact h3 _ _ h
    | exc x s N => exact h4 _ _ _ h
    | bad => exact h
theorem wp_law {m : NF} {d : D} {N : NH} (h : wpR (m [d] N) fun v _ => v = .bl true) : ∃ N', m [d] N = .ok (.bl true) N' := by
  with_unfolding_all
    obtain ⟨a, N', h1, h2⟩ := h.ex
    exact ⟨N', by rw [h1, h2]⟩
section
variable {α β : Type} {Q : D → NH → Prop} {E : XP} {σ : NEnv} {N : NH} {e : En} {d x y z : D} {i j : Int} {n : Nat} {s t : Str} {l : List D} {a b c : NE} {p q r : NS} {T U : NT} {A B : NA} {f g : D → D → NH → R D}
theorem wp_bind {r : R α} {k : α → NH → R β} {Q : β → NH → Prop} (h : wpR r (fun a N => wpR (k a N) Q E) E) : wpR (r.bind k) Q E := by
  with_unfolding_all
    cases r with
    | ok a N => exact h
    | exc x N => exact h
    | bad => exact h
theorem wp_stm {r : R α} {k : α → NH → RS} (h : wpR r (fun a N => wpS (k a N) e) (fun x N => e.ex x σ N)) : wpS (r.stm σ k) e := by
  with_unfolding_all
    cases r with
    | ok a N => exact h
    | exc x N => exact h
    | bad => exact h
/-! expressions -/
theorem wp_C (h : Q d N) : wpR (nC d σ N) Q E := by with_unfolding_all exact (h)
theorem wp_V (i : Nat) (hd : σ[i]? = some (some d)) (h : Q d N) : wpR (nV i σ N) Q E := by with_unfolding_all (unfold nV; rw [hd]; exact h)
theorem wp_op2 (h : wpR (a σ N) (fun x N => wpR (b σ N) (fun y N => wpR (f x y N) Q E) E) E) : wpR (nOp2 f a b σ N) Q E := by with_unfolding_all exact (wp_bind (h.mono (fun _ _ h => wp_bind h) fun _ _ h => h))
theorem wp_op1 {f : D → NH → R D} (h : wpR (a σ N) (fun x N => wpR (f x N) Q E) E) : wpR (nOp1 f a σ N) Q E := by with_unfolding_all exact (wp_bind h)
theorem wp_bool {Q : Bool → NH → Prop} (h : wpR (a σ N) (fun x N => ∃ b, x = .bl b ∧ Q b N) E) : wpR (nBool a σ N) Q E := by with_unfolding_all exact (wp_bind (h.mono (fun x N ⟨b, e, h⟩ => by subst e; exact h) fun _ _ h => h))
theorem wp_if (h : wpR (T σ N) (fun c N => if c = true then wpR (a σ N) Q E else wpR (b σ N) Q E) E) : wpR (nIf T a b σ N) Q E := by with_unfolding_all exact (wp_bind (h.mono (fun c N h => by split <;> rename_i q <;> simpa [q] using h) fun _ _ h => h))
theorem wp_andT {Q : Bool → NH → Prop} (h : wpR (T σ N) (fun c N => if c = true then wpR (U σ N) Q E else Q false N) E) : wpR (nAndT T U σ N) Q E := by with_unfolding_all exact (wp_bind (h.mono (fun c N h => by split <;> rename_i q <;> simpa [q, wpR] using h) fun _ _ h => h))
theorem wp_orT {Q : Bool → NH → Prop} (h : wpR (T σ N) (fun c N => if c = true then Q true N else wpR (U σ N) Q E) E) : wpR (nOrT T U σ N) Q E := by with_unfolding_all exact (wp_bind (h.mono (fun c N h => by split <;> rename_i q <;> simpa [q, wpR] using h) fun _ _ h => h))
theorem wp_notT {Q : Bool → NH → Prop} (h : wpR (T σ N) (fun c N => Q (!c) N) E) : wpR (nNotT T σ N) Q E := by with_unfolding_all exact (wp_bind h)
theorem wp_and (h : wpR (a σ N) (fun x N => ∃ k, x = .bl k ∧ if k = true then wpR (b σ N) Q E else Q (.bl false) N) E) : wpR (nAnd a b σ N) Q E := by with_unfolding_all exact (wp_bind (h.mono (fun x N ⟨k, e, h⟩ => by subst e; cases k <;> simpa [wpR] using h) fun _ _ h => h))
theorem wp_or (h : wpR (a σ N) (fun x N => ∃ k, x = .bl k ∧ if k = true then Q (.bl true) N else wpR (b σ N) Q E) E) : wpR (nOr a b σ N) Q E := by with_unfolding_all exact (wp_bind (h.mono (fun x N ⟨k, e, h⟩ => by subst e; cases k <;> simpa [wpR] using h) fun _ _ h => h))
theorem wp_not (h : wpR (a σ N) (fun x N => ∃ k, x = .bl k ∧ Q (.bl (!k)) N) E) : wpR (nNot a σ N) Q E := by with_unfolding_all exact (wp_bind (h.mono (fun x N ⟨k, e, h⟩ => by subst e; exact h) fun _ _ h => h))
theorem wp_tru {Q : Bool → NH → Prop} (h : wpR (a σ N) (fun x N => ∃ k, truN N x = some k ∧ Q k N) E) : wpR (nTru a σ N) Q E := by with_unfolding_all exact (wp_bind (h.mono (fun x N ⟨k, e, h⟩ => by rw [e]; exact h) fun _ _ h => h))
theorem wp_chain (h : wpR (a σ N) (fun x N => wpR (b σ N) (fun y N => wpR (f x y N) (fun z N => ∃ k, z = .bl k ∧ if k = true then wpR (c σ N) (fun z N => wpR (g y z N) Q E) E else Q (.bl false) N) E) E) E) : wpR (nChain f g a b c σ N) Q E := by with_unfolding_all exact (wp_bind (h.mono (fun x N h => wp_bind (h.mono (fun y N h => wp_bind (h.mono (fun z N ⟨k, e, h⟩ => by subst e; cases k; exact h; exact wp_bind h) fun _ _ h => h)) fun _ _ h => h)) fun _ _ h => h))
theorem wp_nil {Q : List D → NH → Prop} (h : Q [] N) : wpR (nNil σ N) Q E := by with_unfolding_all exact (h)
theorem wp_cons {Q : List D → NH → Prop} (h : wpR (a σ N) (fun x N => wpR (A σ N) (fun l N => Q (x :: l) N) E) E) : wpR (nCons a A σ N) Q E := by with_unfolding_all exact (wp_bind (h.mono (fun x N h => wp_bind (h.mono (fun _ _ h => h) fun _ _ h => h)) fun _ _ h => h))
theorem wp_call {F : NF} (h : wpR (A σ N) (fun l N => wpR (F l N) Q E) E) : wpR (nCall F A σ N) Q E := by with_unfolding_all exact (wp_bind h)
theorem wp_bm {f : D → List D → NH → R D} {T : String} (h : wpR (a σ N) (fun x N => tyN N T x = true ∧ wpR (A σ N) (fun l N => wpR (f x l N) Q E) E) E) : wpR (nBM T f a A σ N) Q E := by with_unfolding_all exact (wp_bind (h.mono (fun x N ⟨e, h⟩ => by rw [if_pos e]; exact wp_bind h) fun _ _ h => h))
theorem wp_tup (h : wpR (A σ N) (fun l N => l.length ≤ sizeLine ∧ Q (.tup l) N) E) : wpR (nTup A σ N) Q E := by with_unfolding_all exact (wp_bind (h.mono (fun x N ⟨e, h⟩ => by rw [if_pos e]; exact h) fun _ _ h => h))
theorem wp_lst (h : wpR (A σ N) (fun l N => l.length ≤ sizeLine ∧ Q (.ref N.length) (N ++ [.lst l])) E) : wpR (nLst A σ N) Q E := by with_unfolding_all exact (wp_bind (h.mono (fun x N ⟨e, h⟩ => by rw [if_pos e]; exact h) fun _ _ h => h))
theorem wp_dK (h : Q (.ref N.length) (N ++ [.dK []])) : wpR (nDK σ N) Q E := by with_unfolding_all exact (h)
theorem wp_dT (h : Q (.ref N.length) (N ++ [.dT []])) : wpR (nDT σ N) Q E := by with_unfolding_all exact (h)
theorem wp_psNil {Q : List (Key × D) → NH → Prop} (h : Q [] N) : wpR (nPsNil σ N) Q E := by with_unfolding_all exact (h)
theorem wp_psCons {m : NPs} {Q : List (Key × D) → NH → Prop} (h : wpR (a σ N) (fun x N => wpR (b σ N) (fun y N => wpR (m σ N) (fun l N => ∃ k, keyD x = some k ∧ Q ((k, y) :: l) N) E) E) E) : wpR (nPsCons a b m σ N) Q E := by with_unfolding_all exact (wp_bind (h.mono (fun x N h => wp_bind (h.mono (fun y N h => wp_bind (h.mono (fun l N ⟨k, e, h⟩ => by rw [e]; exact h) fun _ _ h => h)) fun _ _ h => h)) fun _ _ h => h))
theorem wp_disp {m : NPs} (h : wpR (m σ N) (fun l N => l.length ≤ 15 ∧ Q (.ref N.length) (N ++ [.dK (mergeD [] l)])) E) : wpR (nDisp m σ N) Q E := by with_unfolding_all exact (wp_bind (h.mono (fun x N ⟨e, h⟩ => by rw [if_pos e]; exact h) fun _ _ h => h))
theorem wp_noPart {Q : Option Int → NH → Prop} (h : Q none N) : wpR (nNoPart σ N) Q E := by with_unfolding_all exact (h)
theorem wp_part {Q : Option Int → NH → Prop} (h : wpR (a σ N) (fun x N => ∃ i, x = .int i ∧ Q (some i) N) E) : wpR (nPart a σ N) Q E := by with_unfolding_all exact (wp_bind (h.mono (fun x N ⟨i, e, h⟩ => by subst e; exact h) fun _ _ h => h))
theorem wp_cut {lo hi : NO} (h : wpR (a σ N) (fun x N => wpR (lo σ N) (fun l N => wpR (hi σ N) (fun u N => wpR (fCut x l u N) Q E) E) E) E) : wpR (nCut a lo hi σ N) Q E := by with_unfolding_all exact (wp_bind (h.mono (fun x N h => wp_bind (h.mono (fun _ _ h => wp_bind h) fun _ _ h => h)) fun _ _ h => h))
theorem wp_isi {k : Kd} (h : wpR (a σ N) (fun x N => ∃ k', kindN N x = some k' ∧ Q (.bl (isiK k' k)) N) E) : wpR (nIsi k a σ N) Q E := by with_unfolding_all exact (wp_bind (h.mono (fun x N ⟨i, e, h⟩ => by rw [e]; exact h) fun _ _ h => h))
theorem wp_fld {cs : List Nat} {f : Nat} (h : wpR (a σ N) (fun x N => ∃ n c fs d, x = .ref n ∧ N[n]? = some (.ins c fs) ∧ c ∈ cs ∧ lookF f fs = some d ∧ Q d N) E) : wpR (nFld cs f a σ N) Q E := by with_unfolding_all exact (wp_bind (h.mono (fun x N ⟨n, c, fs, d, e1, e2, e3, e4, h⟩ => by subst e1; show wpR (match N[n]? with | some (.ins c fs) => _ | _ => _) Q E; rw [e2]; show wpR (if c ∈ cs then _ else _) Q E; rw [if_pos e3]; show wpR (match lookF f fs with | some d => _ | none => _) Q E; rw [e4]; exact h) fun _ _ h => h))
theorem wp_dget2 (h : wpR (a σ N) (fun x N => ∃ n, x = .ref n ∧ isDic N n = true ∧ wpR (b σ N) (fun y N => wpR (c σ N) (fun z N => ∃ r, getN N n y = some r ∧ Q (r.getD z) N) E) E) E) : wpR (nDGet2 a b c σ N) Q E := by with_unfolding_all exact (wp_bind (h.mono (fun x N ⟨n, e1, e2, h⟩ => by subst e1; show wpR (if isDic N n = true then _ else _) Q E; rw [if_pos e2]; exact wp_bind (h.mono (fun y N h => wp_bind (h.mono (fun z N ⟨r, e, h⟩ => by rw [e]; exact h) fun _ _ h => h)) fun _ _ h => h)) fun _ _ h => h))
theorem wp_meth {fs : List (Nat × NF)} (h : wpR (a σ N) (fun x N => ∃ n c fl F, x = .ref n ∧ N[n]? = some (.ins c fl) ∧ fs.find? (fun p => decide (p.1 = c)) = some (c, F) ∧ wpR (A σ N) (fun l N => wpR (F (.ref n :: l) N) Q E) E) E) : wpR (nMeth fs a A σ N) Q E := by with_unfolding_all exact (wp_bind (h.mono (fun x N ⟨n, c, fl, F, e1, e2, e3, h⟩ => by subst e1; show wpR (match N[n]? with | some (.ins c _) => _ | _ => _) Q E; rw [e2]; show wpR (match fs.find? (fun p => decide (p.1 = c)) with | some (_, f) => _ | none => _) Q E; rw [e3]; exact wp_bind h) fun _ _ h => h))
theorem wp_make {F : NF} {c : Nat} (h : wpR (A σ N) (fun l N => wpR (F (.ref N.length :: l) (N ++ [.ins c []])) (fun v N' => v = .non ∧ Q (.ref N.length) N') E) E) : wpR (nMake c F A σ N) Q E := by with_unfolding_all exact (wp_bind (h.mono (fun l N h => wp_bind (h.mono (fun v N' ⟨e, h⟩ => by rw [if_pos e]; exact h) fun _ _ h => h)) fun _ _ h => h))
/-! defs -/
theorem wp_fun {m : NS} {ds : List D} {k : Nat} (h : wpS (m (ds.map some ++ List.replicate (k - ds.length) none) N) ⟨fun _ N => Q .non N, Q, fun _ _ => False, fun x _ N => E x N⟩) : wpR (nFun k m ds N) Q E := by
  with_unfolding_all
    unfold nFun
    revert h
    cases m (ds.map some ++ List.replicate (k - ds.length) none) N <;> exact fun h => h
theorem wp_fun1 {m : NS} {k : Nat} (h : wpS (m (some x :: List.replicate k none) N) ⟨fun _ N => Q .non N, Q, fun _ _ => False, fun x _ N => E x N⟩) : wpR (nFun (k + 1) m [x] N) Q E := by with_unfolding_all exact (wp_fun h)
theorem wp_fun2 {m : NS} {k : Nat} (h : wpS (m (some x :: some y :: List.replicate k none) N) ⟨fun _ N => Q .non N, Q, fun _ _ => False, fun x _ N => E x N⟩) : wpR (nFun (k + 2) m [x, y] N) Q E := by with_unfolding_all exact (wp_fun h)
theorem wp_fun3 {m : NS} {k : Nat} (h : wpS (m (some x :: some y :: some z :: List.replicate k none) N) ⟨fun _ N => Q .non N, Q, fun _ _ => False, fun x _ N => E x N⟩) : wpR (nFun (k + 3) m [x, y, z] N) Q E := by with_unfolding_all exact (wp_fun h)
/-! statements -/
theorem wp_seq (h : wpS (p σ N) { e with nx := fun σ N => wpS (q σ N) e }) : wpS (sSeq p q σ N) e := by
  with_unfolding_all
    unfold sSeq
    revert h
    cases p σ N <;> exact fun h => h
theorem wp_pass (h : e.nx σ N) : wpS (sPass σ N) e := by with_unfolding_all exact (h)
theorem wp_ret (h : wpR (a σ N) e.rt (fun x N => e.ex x σ N)) : wpS (sRet a σ N) e := by with_unfolding_all exact (wp_stm h)
theorem wp_expr (h : wpR (a σ N) (fun _ N => e.nx σ N) (fun x N => e.ex x σ N)) : wpS (sExpr a σ N) e := by with_unfolding_all exact (wp_stm h)
theorem wp_asg (n : Nat) (h : wpR (a σ N) (fun d N => e.nx (σ.set n (some d)) N) (fun x N => e.ex x σ N)) : wpS (sAsg a (pName n) σ N) e := by with_unfolding_all exact (wp_stm (h.mono (fun _ _ h => h) fun _ _ h => h))
theorem wp_asgT {is : List Nat} (h : wpR (a σ N) (fun d N => ∃ l, seqN N d = some l ∧ l.length = is.length ∧ e.nx (setAll is l σ) N) (fun x N => e.ex x σ N)) : wpS (sAsg a (pTup is) σ N) e := by with_unfolding_all exact (wp_stm (h.mono (fun d N ⟨l, e1, e2, h⟩ => by
    have : (pTup is).put d σ N = some (setAll is l σ) := by unfold pTup; simp [e1, e2]
    rw [this]; exact h) fun _ _ h => h))
theorem wp_sif (h : wpR (T σ N) (fun c N => if c = true then wpS (p σ N) e else wpS (q σ N) e) (fun x N => e.ex x σ N)) : wpS (sIf T p q σ N) e := by with_unfolding_all exact (wp_stm (h.mono (fun c N h => by split <;> rename_i q <;> simpa [q] using h) fun _ _ h => h))
theorem wp_put (h : wpR (c σ N) (fun v N => wpR (a σ N) (fun o N => wpR (b σ N) (fun i N => ∃ N', putIx N o i v = some N' ∧ e.nx σ N') (fun x N => e.ex x σ N)) (fun x N => e.ex x σ N)) (fun x N => e.ex x σ N)) : wpS (sPut a b c σ N) e := by with_unfolding_all exact (wp_stm (h.mono (fun v N h => wp_stm (h.mono (fun o N h => wp_stm (h.mono (fun i N ⟨N', e1, h⟩ => by rw [e1]; exact h) fun _ _ h => h)) fun _ _ h => h)) fun _ _ h => h))
theorem wp_fldput {cs : List Nat} {f : Nat} (h : wpR (b σ N) (fun v N => wpR (a σ N) (fun o N => ∃ n c fs, o = .ref n ∧ N[n]? = some (.ins c fs) ∧ c ∈ cs ∧ fs.length < 1000 ∧ e.nx σ (N.set n (.ins c (putFD f v fs)))) (fun x N => e.ex x σ N)) (fun x N => e.ex x σ N)) : wpS (sFldPut cs f a b σ N) e := by with_unfolding_all exact (wp_stm (h.mono (fun v N h => wp_stm (h.mono (fun o N ⟨n, c, fs, e1, e2, e3, e4, h⟩ => by subst e1; show wpS (match N[n]? with | some (.ins c fs) => _ | _ => _) e; rw [e2]; show wpS (if c ∈ cs ∧ fs.length < 1000 then _ else _) e; rw [if_pos ⟨e3, e4⟩]; exact h) fun _ _ h => h)) fun _ _ h => h))
theorem wp_for {it : NI} {pt : NP} (h : wpR (it σ N) (fun t N => wpS (loopN pt p t.ok t.items σ N) e) (fun x N => e.ex x σ N)) : wpS (sFor it pt p σ N) e := by with_unfolding_all exact (wp_stm h)
theorem wp_it {Q : NIt → NH → Prop} (h : wpR (a σ N) (fun d N => ∃ t, itOf N d = some t ∧ Q t N) E) : wpR (iSeq a σ N) Q E := by with_unfolding_all exact (wp_bind (h.mono (fun d N ⟨t, e1, h⟩ => by rw [e1]; exact h) fun _ _ h => h))
theorem wp_rng1 {Q : NIt → NH → Prop} (h : wpR (A σ N) (fun l N => ∃ j, l = [.int j] ∧ -(2 ^ 62) ≤ j ∧ j < 2 ^ 62 ∧ Q ⟨(List.range j.toNat).map fun (i : Nat) => .int (i : Int), fun _ => true⟩ N) E) : wpR (iRng A σ N) Q E := by with_unfolding_all exact (wp_bind (h.mono (fun l N ⟨j, e1, e2, e3, h⟩ => by subst e1; show wpR (if _ ∧ _ then _ else _) Q E; rw [if_pos ⟨e2, e3⟩]; exact h) fun _ _ h => h))
/-- a loop's invariant -/
theorem wp_loop (I : Nat → NEnv → NH → Prop) {pt : NP} {ok : NH → Bool} {l : List D} (h0 : I 0 σ N) (hok : ∀ i σ N, I i σ N → ok N = true)
    (hs : ∀ i x σ N, l[i]? = some x → I i σ N → ∃ σ1, pt.put x σ N = some σ1 ∧ wpS (p σ1 N) ⟨I (i + 1), e.rt, e.nx, e.ex⟩) (he : ∀ σ N, I l.length σ N → e.nx σ N) : wpS (loopN pt p ok l σ N) e := by
  with_unfolding_all
    have key : ∀ (r : List D) (i : Nat) (σ : NEnv) (N : NH), l.drop i = r → i ≤ l.length → I i σ N → wpS (loopN pt p ok r σ N) e := by
      intro r
      induction r with
      | nil =>
        intro i σ N hd hi h
        have : i = l.length := by
          have := congrArg List.length hd
          simp at this; omega
        subst this
        unfold loopN
        rw [if_pos (hok _ _ _ h)]
        exact he σ N h
      | cons x r ih =>
        intro i σ N hd hi h
        have hx : l[i]? = some x := by
          have := congrArg (·[0]?) hd
          simpa using this
        have hd2 : l.drop (i + 1) = r := by
          have := congrArg List.tail hd
          simpa using this
        have hi2 : i + 1 ≤ l.length := (List.getElem?_eq_some_iff.mp hx).1
        obtain ⟨σ1, h1, h2⟩ := hs i x σ N hx h
        unfold loopN
        rw [if_pos (hok _ _ _ h), h1]
        dsimp only
        revert h2
        cases p σ1 N with
        | nx σ2 N2 => exact fun h2 => ih (i + 1) σ2 N2 hd2 hi2 h2
        | rt d N2 => exact fun h2 => h2
        | bk σ2 N2 => exact fun h2 => h2
        | exc x σ2 N2 => exact fun h2 => h2
        | bad => exact fun h2 => h2
    exact key l 0 σ N rfl (Nat.zero_le _) h0
theorem wp_lc {it : NI} {pt : NP} {me : NE} {vs : List Nat} (h : wpR (it σ N) (fun t N => wpR (lcLoop pt T me t.ok (wipeN σ vs) t.items [] N) (fun l N => Q (.ref N.length) (N ++ [.lst l])) E) E) : wpR (nLc it pt T me vs σ N) Q E := by with_unfolding_all exact (wp_bind (h.mono (fun t N h => wp_bind h) fun _ _ h => h))
theorem wp_lcLoop (I : Nat → List D → NH → Prop) {pt : NP} {ok : NH → Bool} {l : List D} {me : NE} {Q : List D → NH → Prop} (h0 : I 0 [] N) (hok : ∀ i acc N, I i acc N → ok N = true ∧ acc.length < sizeLine)
    (hs : ∀ i x acc N, l[i]? = some x → I i acc N → ∃ σ1, pt.put x σ N = some σ1 ∧ wpR (T σ1 N) (fun k N => if k = true then wpR (me σ1 N) (fun y N => I (i + 1) (acc ++ [y]) N) else I (i + 1) acc N)) (he : ∀ acc N, I l.length acc N → Q acc N) : wpR (lcLoop pt T me ok σ l [] N) Q E := by
  with_unfolding_all
    have key : ∀ (r : List D) (i : Nat) (acc : List D) (N : NH), l.drop i = r → i ≤ l.length → I i acc N → wpR (lcLoop pt T me ok σ r acc N) Q E := by
      intro r
      induction r with
      | nil =>
        intro i acc N hd hi h
        have : i = l.length := by
          have := congrArg List.length hd
          simp at this; omega
        subst this
        unfold lcLoop
        rw [if_pos (hok _ _ _ h).1]
        exact he acc N h
      | cons x r ih =>
        intro i acc N hd hi h
        have hx : l[i]? = some x := by
          have := congrArg (·[0]?) hd
          simpa using this
        have hd2 : l.drop (i + 1) = r := by
          have := congrArg List.tail hd
          simpa using this
        have hi2 : i + 1 ≤ l.length := (List.getElem?_eq_some_iff.mp hx).1
        obtain ⟨σ1, h1, h2⟩ := hs i x acc N hx h
        unfold lcLoop
        rw [if_pos (hok _ _ _ h).1, h1]
        dsimp only
        revert h2
        cases T σ1 N with
        | exc x N2 => exact fun h2 => h2.elim
        | bad => exact fun h2 => h2.elim
        | ok k N2 =>
          cases k with
          | false => exact fun h2 => ih (i + 1) acc N2 hd2 hi2 h2
          | true =>
            intro h2
            replace h2 : wpR (me σ1 N2) (fun y N => I (i + 1) (acc ++ [y]) N) := h2
            dsimp only
            revert h2
            cases me σ1 N2 with
            | exc x N3 => exact fun h2 => h2.elim
            | bad => exact fun h2 => h2.elim
            | ok y N3 =>
              intro h2
              dsimp only
              rw [if_pos (hok _ _ _ h).2]
              exact ih (i + 1) _ N3 hd2 hi2 h2
    exact key l 0 [] N rfl (Nat.zero_le _) h0
/-! values -/
theorem wp_addI (h : Q (.int (i + j)) N) : wpR (fAdd (.int i) (.int j) N) Q E := by with_unfolding_all exact (h)
theorem wp_addS (hl : s.length + t.length ≤ sizeLine) (h : Q (.str (s ++ t)) N) : wpR (fAdd (.str s) (.str t) N) Q E := by with_unfolding_all (show wpR (if s.length + t.length ≤ sizeLine then _ else _) Q E; rw [if_pos hl]; exact h)
theorem wp_subI (h : Q (.int (i - j)) N) : wpR (fSub (.int i) (.int j) N) Q E := by with_unfolding_all exact (h)
theorem wp_mulI (hc : CMul i j) (h : Q (.int (i * j)) N) : wpR (fMul (.int i) (.int j) N) Q E := by with_unfolding_all (show wpR (if CMul i j then _ else _) Q E; rw [if_pos hc]; exact h)
theorem wp_divI (hc : CDivW i j) (h : Q (.int (i / j)) N) : wpR (fDiv (.int i) (.int j) N) Q E := by with_unfolding_all (show wpR (if CDivW i j then _ else _) Q E; rw [if_pos hc]; exact h)
theorem wp_modI (hc : 0 < j) (h : Q (.int (i % j)) N) : wpR (fMod (.int i) (.int j) N) Q E := by with_unfolding_all (show wpR (if 0 < j then _ else _) Q E; rw [if_pos hc]; exact h)
theorem wp_powI (hc : CPow i j) (h : Q (.int (i ^ j.toNat)) N) : wpR (fPow (.int i) (.int j) N) Q E := by with_unfolding_all (show wpR (if CPow i j then _ else _) Q E; rw [if_pos hc]; exact h)
theorem wp_negI (h : Q (.int (-i)) N) : wpR (fNeg (.int i) N) Q E := by with_unfolding_all exact (h)
theorem wp_ltI (h : Q (.bl (decide (i < j))) N) : wpR (fLt (.int i) (.int j) N) Q E := by with_unfolding_all exact (h)
theorem wp_leI (h : Q (.bl (decide (i ≤ j))) N) : wpR (fLe (.int i) (.int j) N) Q E := by with_unfolding_all exact (h)
theorem wp_gtI (h : Q (.bl (decide (j < i))) N) : wpR (fGt (.int i) (.int j) N) Q E := by with_unfolding_all exact (h)
theorem wp_geI (h : Q (.bl (decide (j ≤ i))) N) : wpR (fGe (.int i) (.int j) N) Q E := by with_unfolding_all exact (h)
theorem wp_eq {k : Bool} (hk : eqN N x y = some k) (h : Q (.bl k) N) : wpR (fEq x y N) Q E := by with_unfolding_all (unfold fEq; rw [hk]; exact h)
theorem wp_ne {k : Bool} (hk : eqN N x y = some k) (h : Q (.bl (!k)) N) : wpR (fNe x y N) Q E := by with_unfolding_all (unfold fNe; rw [hk]; exact h)
theorem wp_in {k : Bool} (hk : inN N x y = some k) (h : Q (.bl k) N) : wpR (fIn x y N) Q E := by with_unfolding_all (unfold fIn; rw [hk]; exact h)
theorem wp_notin {k : Bool} (hk : inN N x y = some k) (h : Q (.bl (!k)) N) : wpR (fNotIn x y N) Q E := by with_unfolding_all (unfold fNotIn; rw [hk]; exact h)
theorem wp_get (hk : getIx N x y = some d) (h : Q d N) : wpR (fGet x y N) Q E := by with_unfolding_all (unfold fGet; rw [hk]; exact h)
theorem wp_intI (h : Q (.int i) N) : wpR (fInt [.int i] N) Q E := by with_unfolding_all exact (h)
theorem wp_len (hk : lenN N x = some i) (h : Q (.int i) N) : wpR (fLen [x] N) Q E := by with_unfolding_all (show wpR (match lenN N x with | some i => _ | none => _) Q E; rw [hk]; exact h)
theorem wp_abs (h : Q (.int (if i < 0 then -i else i)) N) : wpR (fAbs [.int i] N) Q E := by with_unfolding_all exact (h)
theorem wp_list (hk : seqN N x = some l) (h : Q (.ref N.length) (N ++ [.lst l])) : wpR (fList [x] N) Q E := by with_unfolding_all (show wpR (match seqN N x with | some l => _ | none => _) Q E; rw [hk]; exact h)
theorem wp_tupleR {n : Nat} (hk : lstN N (.ref n) = some l) (h : Q (.tup l) N) : wpR (fTuple [.ref n] N) Q E := by
  with_unfolding_all
    show wpR (match lstN N (.ref n) with | some l => _ | none => _) Q E
    rw [hk]; exact h
theorem wp_append (hk : N[n]? = some (.lst l)) (hl : l.length < sizeLine) (h : Q .non (N.set n (.lst (l ++ [y])))) : wpR (fAppend (.ref n) [y] N) Q E := by
  with_unfolding_all
    show wpR (match N[n]? with | some (.lst l) => _ | _ => _) Q E
    rw [hk]
    show wpR (if l.length < sizeLine then _ else _) Q E
    rw [if_pos hl]; exact h
end
end NY

set_option Elab.async false
set_option linter.all false
set_option maxRecDepth 100000
set_option maxHeartbeats 4000000
/-! NY15: rules that look into the heap, rules that write -/
namespace NY
open PySem PySem.Spec PyProof.Rows L2
theorem fr_set {N : NH} {n : Nat} {o : O} : ∀ (m : Nat) (o' : O), m ≠ n → N[m]? = some o' → (N.set n o)[m]? = some o' := fun m o' h e => by rw [List.getElem?_set_ne h.symm]; exact e
theorem set_at {N : NH} {n : Nat} {o o' : O} (h : N[n]? = some o') : (N.set n o)[n]? = some o := List.getElem?_set_self (List.getElem?_eq_some_iff.mp h).1
theorem new_at {N : NH} {o : O} : (N ++ [o])[N.length]? = some o := List.getElem?_concat_length ..
theorem new_fr {N : NH} {o : O} : ∀ (m : Nat) (o' : O), N[m]? = some o' → (N ++ [o])[m]? = some o' := fun m o' e => by rw [List.getElem?_append_left (List.getElem?_eq_some_iff.mp e).1]; exact e
theorem new_none {N : NH} : N[N.length]? = none := List.getElem?_eq_none (Nat.le_refl _)
section
variable {Q : D → NH → Prop} {E : XP} {σ : NEnv} {N : NH} {e : En} {d x y z : D} {i j : Int} {n k : Nat} {s t : Str} {l l' : List D} {a b c : NE} {A : NA}
theorem wp_getL (h : N[n]? = some (.lst l)) (hi : atD l i = some d) (hq : Q d N) : wpR (fGet (.ref n) (.int i) N) Q E := wp_get (by unfold getIx; simp [h, hi]) hq
theorem wp_getT (hi : atD l i = some d) (hq : Q d N) : wpR (fGet (.tup l) (.int i) N) Q E := wp_get (by unfold getIx; simp [hi]) hq
theorem wp_lenL (h : N[n]? = some (.lst l)) (hq : Q (.int (l.length : Nat)) N) : wpR (fLen [.ref n] N) Q E := wp_len (i := (l.length : Nat)) (by unfold lenN; simp [h]) hq
theorem wp_lenT (hq : Q (.int (l.length : Nat)) N) : wpR (fLen [.tup l] N) Q E := wp_len (i := (l.length : Nat)) rfl hq
theorem wp_lenS (hz : s.length ≤ sizeLine) (hq : Q (.int (s.length : Nat)) N) : wpR (fLen [.str s] N) Q E := wp_len (i := (s.length : Nat)) (by unfold lenN; simp [hz]) hq
theorem wp_mulR (hj : -2 ^ 64 < j ∧ j < 2 ^ 64) (hq : Q (.int (i * j)) N) : wpR (fMul (.int i) (.int j) N) Q E := wp_mulI (.inr hj) hq
theorem wp_mulL (hj : -2 ^ 64 < i ∧ i < 2 ^ 64) (hq : Q (.int (i * j)) N) : wpR (fMul (.int i) (.int j) N) Q E := wp_mulI (.inl hj) hq
theorem ifT {c : Bool} {A B : Prop} (h : c = true) (ha : A) : if c = true then A else B := by rw [if_pos h]; exact ha
theorem ifF {c : Bool} {A B : Prop} (h : c = false) (hb : B) : if c = true then A else B := by rw [if_neg (by rw [h]; exact Bool.false_ne_true)]; exact hb
theorem wp_eqI (h : Q (.bl (decide (i = j))) N) : wpR (fEq (.int i) (.int j) N) Q E := by with_unfolding_all exact (h)
theorem wp_neI (h : Q (.bl (!decide (i = j))) N) : wpR (fNe (.int i) (.int j) N) Q E := by with_unfolding_all exact (h)
theorem wp_eqS (h : Q (.bl (decide (s = t))) N) : wpR (fEq (.str s) (.str t) N) Q E := by with_unfolding_all exact (h)
theorem wp_neS (h : Q (.bl (!decide (s = t))) N) : wpR (fNe (.str s) (.str t) N) Q E := by with_unfolding_all exact (h)
theorem wp_isN (h : Q (.bl (decide (d = .non))) N) : wpR (fIs d .non N) Q E := by
  with_unfolding_all
    have : fIs d .non N = .ok (.bl (decide (d = .non))) N := by unfold fIs; cases d <;> rfl
    rw [this]; exact h
theorem wp_isNotN (h : Q (.bl (!decide (d = .non))) N) : wpR (fIsNot d .non N) Q E := by
  with_unfolding_all
    have : fIsNot d .non N = .ok (.bl (!decide (d = .non))) N := by unfold fIsNot; cases d <;> rfl
    rw [this]; exact h
theorem wp_isN0 (h : Q (.bl true) N) : wpR (fIs .non .non N) Q E := wp_isN (by simpa using h)
theorem wp_isNotN0 (h : Q (.bl false) N) : wpR (fIsNot .non .non N) Q E := wp_isNotN (by simpa using h)
theorem wp_isNI (h : Q (.bl false) N) : wpR (fIs (.int i) .non N) Q E := wp_isN (by simpa using h)
theorem wp_isNotNI (h : Q (.bl true) N) : wpR (fIsNot (.int i) .non N) Q E := wp_isNotN (by simpa using h)
theorem wp_isNS (h : Q (.bl false) N) : wpR (fIs (.str s) .non N) Q E := wp_isN (by simpa using h)
theorem wp_isNotNS (h : Q (.bl true) N) : wpR (fIsNot (.str s) .non N) Q E := wp_isNotN (by simpa using h)
theorem wp_isNT (h : Q (.bl false) N) : wpR (fIs (.tup l) .non N) Q E := wp_isN (by simpa using h)
theorem wp_isNotNT (h : Q (.bl true) N) : wpR (fIsNot (.tup l) .non N) Q E := wp_isNotN (by simpa using h)
theorem wp_isNR (h : Q (.bl false) N) : wpR (fIs (.ref n) .non N) Q E := wp_isN (by simpa using h)
theorem wp_isNotNR (h : Q (.bl true) N) : wpR (fIsNot (.ref n) .non N) Q E := wp_isNotN (by simpa using h)
theorem atD_int {l : List Int} (h0 : 0 ≤ i) (h1 : i < l.length) : atD (l.map .int) i = some (.int (l.getD i.toNat 0)) := by
  unfold atD ixN
  rw [List.length_map, if_pos h0, if_pos h1]
  have : i.toNat < l.length := by omega
  simp [List.getElem?_eq_getElem this, List.getD_eq_getElem?_getD]
theorem atD_map {α : Type} {f : α → D} {l : List α} {y : α} (h0 : 0 ≤ i) (h1 : l[i.toNat]? = some y) : atD (l.map f) i = some (f y) := by
  have hl := (List.getElem?_eq_some_iff.mp h1).1
  unfold atD ixN
  rw [List.length_map, if_pos h0, if_pos (by omega)]
  simp [h1]
theorem wp_getTI {l : List Int} (h0 : 0 ≤ i) (h1 : i < l.length) (hq : Q (.int (l.getD i.toNat 0)) N) : wpR (fGet (.tup (l.map .int)) (.int i) N) Q E := wp_getT (atD_int h0 h1) hq
theorem cut_take {l : List D} (h0 : 0 ≤ i) (h1 : i ≤ l.length) : cutD l none (some i) = l.take i.toNat := by
  unfold cutD HT.sIx
  simp
  rw [if_neg (by omega)]
  congr 1; omega
theorem le_size {n : Nat} (h : n ≤ 1000000) : n ≤ sizeLine := Nat.le_trans h (by decide)
theorem lt_size {n : Nat} (h : n ≤ 1000000) : n < sizeLine := Nat.lt_of_le_of_lt h (by decide)
theorem ex_refL {K : Nat → List D → Prop} (h : N[n]? = some (.lst l)) (hk : K n l) : ∃ (m : Nat) (l' : List D), D.ref n = .ref m ∧ N[m]? = some (.lst l') ∧ K m l' := ⟨n, l, rfl, h, hk⟩
theorem ex_bl {K : Bool → Prop} {k : Bool} (hk : K k) : ∃ b, D.bl k = .bl b ∧ K b := ⟨k, rfl, hk⟩
theorem ex_int {K : Int → Prop} (hk : K i) : ∃ j, D.int i = .int j ∧ K j := ⟨i, rfl, hk⟩
theorem ex_str {K : Str → Prop} (hk : K s) : ∃ t, D.str s = .str t ∧ K t := ⟨s, rfl, hk⟩
theorem ex_putL {K : Nat → List D → Int → Nat → Prop} {j : Nat} (h : N[n]? = some (.lst l)) (hj : ixN l.length i = some j) (hk : K n l i j) : ∃ (m : Nat) (l' : List D) (k : Int) (j : Nat), D.ref n = .ref m ∧ D.int i = .int k ∧ N[m]? = some (.lst l') ∧ ixN l'.length k = some j ∧ K m l' k j := ⟨n, l, i, j, rfl, rfl, h, hj, hk⟩
theorem ex_tup {K : List D → Prop} {k : Nat} (hl : l.length = k) (hk : K l) : ∃ l', seqN N (.tup l) = some l' ∧ l'.length = k ∧ K l' := ⟨l, rfl, hl, hk⟩
theorem ex_tru {K : Bool → Prop} {k : Bool} (hk : K k) : ∃ b, truN N (.bl k) = some b ∧ K b := ⟨k, rfl, hk⟩
theorem ex_kd0 {K : Kd → Prop} (hk : K .non) : ∃ q, kindN N .non = some q ∧ K q := ⟨_, rfl, hk⟩
theorem ex_kdB {K : Kd → Prop} {k : Bool} (hk : K .bl) : ∃ q, kindN N (.bl k) = some q ∧ K q := ⟨_, rfl, hk⟩
theorem ex_kdI {K : Kd → Prop} (hk : K .int) : ∃ q, kindN N (.int i) = some q ∧ K q := ⟨_, rfl, hk⟩
theorem ex_kdS {K : Kd → Prop} (hk : K .str) : ∃ q, kindN N (.str s) = some q ∧ K q := ⟨_, rfl, hk⟩
theorem ex_kdT {K : Kd → Prop} (hk : K .tup) : ∃ q, kindN N (.tup l) = some q ∧ K q := ⟨_, rfl, hk⟩
theorem ex_kdL {K : Kd → Prop} (h : N[n]? = some (.lst l)) (hk : K .lst) : ∃ q, kindN N (.ref n) = some q ∧ K q := ⟨.lst, by simp [kindN, h], hk⟩
theorem ex_kdD {K : Kd → Prop} {kvs : List (Key × D)} (h : N[n]? = some (.dK kvs)) (hk : K .dic) : ∃ q, kindN N (.ref n) = some q ∧ K q := ⟨.dic, by simp [kindN, h], hk⟩
theorem and_size {P : Prop} {k : Nat} (h : k ≤ sizeLine) (hp : P) : k ≤ sizeLine ∧ P := ⟨h, hp⟩
theorem ex_fld {K : Nat → Nat → List (Nat × D) → D → Prop} {c f : Nat} {cs : List Nat} {fs : List (Nat × D)} (h : N[n]? = some (.ins c fs)) (hc : c ∈ cs) (hf : lookF f fs = some d) (hk : K n c fs d) : ∃ m c fs d, D.ref n = .ref m ∧ N[m]? = some (.ins c fs) ∧ c ∈ cs ∧ lookF f fs = some d ∧ K m c fs d := ⟨n, c, fs, d, rfl, h, hc, hf, hk⟩
theorem wp_getKS {kvs : List (Key × D)} (h : N[n]? = some (.dK kvs)) (hv : valD kvs (Sum.inr s : Key) = some d) (hq : Q d N) : wpR (fGet (.ref n) (.str s) N) Q E := wp_get (by unfold getIx; simp [h, getN, keyD, hv]) hq
theorem wp_divL (hj : 0 < j ∧ j.natAbs.log2 < 9000) (hq : Q (.int (i / j)) N) : wpR (fDiv (.int i) (.int j) N) Q E := wp_divI hj hq
/-- a new object -/
theorem wp_lstN (h : wpR (A σ N) (fun l N => l.length ≤ sizeLine ∧ ∀ (k : Nat) (N' : NH), N[k]? = none → N'[k]? = some (.lst l) → (∀ (m : Nat) (o : O), N[m]? = some o → N'[m]? = some o) → Q (.ref k) N') E) : wpR (nLst A σ N) Q E :=
  wp_lst (h.mono (fun l N ⟨h1, h2⟩ => ⟨h1, h2 _ _ new_none new_at new_fr⟩) fun _ _ h => h)
theorem wp_dispN {m : NPs} (h : wpR (m σ N) (fun l N => l.length ≤ 15 ∧ ∀ (k : Nat) (N' : NH), N[k]? = none → N'[k]? = some (.dK (mergeD [] l)) → (∀ (m : Nat) (o : O), N[m]? = some o → N'[m]? = some o) → Q (.ref k) N') E) : wpR (nDisp m σ N) Q E :=
  wp_disp (h.mono (fun l N ⟨h1, h2⟩ => ⟨h1, h2 _ _ new_none new_at new_fr⟩) fun _ _ h => h)
theorem wp_catT (h0 : l.length + l'.length ≤ sizeLine) (hq : Q (.tup (l ++ l')) N) : wpR (fAdd (.tup l) (.tup l') N) Q E := by
  with_unfolding_all
    show wpR (if l.length + l'.length ≤ sizeLine then _ else _) Q E
    rw [if_pos h0]
    exact hq
theorem wp_cutT {lo hi : Option Int} (hq : Q (.tup (cutD l lo hi)) N) : wpR (fCut (.tup l) lo hi N) Q E := by with_unfolding_all exact (hq)
/-- o[i] = v of a list -/
theorem wp_putL (h : wpR (c σ N) (fun v N => wpR (a σ N) (fun o N => wpR (b σ N) (fun i N => ∃ (n : Nat) (l : List D) (k : Int) (j : Nat), o = .ref n ∧ i = .int k ∧ N[n]? = some (.lst l) ∧ ixN l.length k = some j ∧
    ∀ (N' : NH), N'[n]? = some (.lst (l.set j v)) → (∀ (m : Nat) (o : O), m ≠ n → N[m]? = some o → N'[m]? = some o) → (∀ (m : Nat), N'[m]? = none ↔ N[m]? = none) → e.nx σ N') (fun x N => e.ex x σ N)) (fun x N => e.ex x σ N)) (fun x N => e.ex x σ N)) : wpS (sPut a b c σ N) e :=
  wp_put (h.mono (fun v N h => h.mono (fun o N h => h.mono (fun i N ⟨n, l, k, j, e1, e2, h1, h2, h3⟩ => ⟨N.set n (.lst (l.set j v)), by subst e1 e2; simp [putIx, h1, h2], h3 _ (set_at h1) fr_set (fun m => by simp)⟩) fun _ _ h => h) fun _ _ h => h) fun _ _ h => h)
theorem wp_pop0 (h : N[n]? = some (.lst (y :: l))) (hq : ∀ (N' : NH), N'[n]? = some (.lst l) → (∀ (m : Nat) (o : O), m ≠ n → N[m]? = some o → N'[m]? = some o) → (∀ (m : Nat), N'[m]? = none ↔ N[m]? = none) → Q y N') : wpR (fPopAt (.ref n) [.int 0] N) Q E := by
  with_unfolding_all
    show wpR (match N[n]? with | some (.lst l) => _ | _ => _) Q E
    rw [h]
    have e : seqIndex? 0 (y :: l).length = some 0 := by unfold seqIndex?; simp
    show wpR (if -(2 ^ 63) ≤ (0 : Int) ∧ (0 : Int) < 2 ^ 63 then (match seqIndex? 0 (y :: l).length with | some k => _ | none => _) else _) Q E
    rw [if_pos (by decide), e]
    exact hq _ (set_at h) fr_set (fun m => by simp)
theorem wp_bmL {f : D → List D → NH → R D} (h : wpR (a σ N) (fun x N => ∃ (n : Nat) (l : List D), x = .ref n ∧ N[n]? = some (.lst l) ∧ wpR (A σ N) (fun l N => wpR (f (.ref n) l N) Q E) E) E) : wpR (nBM "list" f a A σ N) Q E :=
  wp_bm (h.mono (fun x N ⟨n, l, e1, e2, h⟩ => by subst e1; exact ⟨by simp [tyN, e2], h⟩) fun _ _ h => h)
theorem wp_bmS {f : D → List D → NH → R D} (h : wpR (a σ N) (fun x N => ∃ s, x = .str s ∧ wpR (A σ N) (fun l N => wpR (f (.str s) l N) Q E) E) E) : wpR (nBM "str" f a A σ N) Q E :=
  wp_bm (h.mono (fun x N ⟨s, e1, h⟩ => by subst e1; exact ⟨by simp [tyN], h⟩) fun _ _ h => h)
end
end NY

set_option Elab.async false
set_option linter.all false
set_option maxRecDepth 100000
set_option maxHeartbeats 4000000
/-! NY16: dicts walked, sorted, sums -/
namespace NY
open PySem PySem.Spec PyProof.Rows L2
end NY

set_option Elab.async false
set_option linter.all false
set_option maxRecDepth 100000
set_option maxHeartbeats 4000000
/-! NYG1: all(..), any(..) of a generator expression whose element may call: its frame, its turns -/
namespace NY
open PySem PySem.Spec PyProof.Rows L2 GxR

end NY

set_option Elab.async false
set_option linter.all false
set_option maxRecDepth 100000
set_option maxHeartbeats 4000000
/-! NYG2: the turns of a generator expression, its consumer -/
namespace NY
open PySem PySem.Spec PyProof.Rows L2 GxR

/-- it has ended, or its consumer will ask no more -/
def IE (X' : Cx) (vs : List (Option V)) (Q : Bool → Hp → Prop) (b : Bool) (s : Shared) : Prop := ∃ o H', Inv X' [] (o :: vs) H' s ∧ Q b H'
section
variable {X : Cx} {scope : Scope} {x : Str} {fr : List (Str × Nat)} {C : Addr} {code : Value} {A A0 : Around} {s4 : Shared} {H4 : Hp} {fp : List Addr} {pn : List (Addr × Obj)} {elt iter : Expr} {px pos : Pos} {J : It} {it : Addr} {tn : Nat → Heap → Prop} {te : TE} {vs : List (Option V)}
  {W : Nat → Nat → Hp → Prop} {Q : Bool → Hp → Prop} {any : Bool}
end
end NY

set_option Elab.async false
set_option linter.all false
set_option maxRecDepth 100000
set_option maxHeartbeats 4000000
/-! NYG3: all(..), any(..) of a generator expression: the consumer, the rule -/
namespace NY
open PySem PySem.Spec PyProof.Rows L2 GxR GenW

end NY

set_option Elab.async false
set_option linter.all false
set_option maxRecDepth 100000
set_option maxHeartbeats 4000000
/-! NYG4: the rule for all(..), any(..) of a generator expression -/
namespace NY
open PySem PySem.Spec PyProof.Rows L2 GxR GenW
end NY

set_option Elab.async false
set_option linter.all false
set_option maxRecDepth 100000
set_option maxHeartbeats 4000000
/-! NYG5: all(..), any(..) over nice programs; defs with a table; the end of a law's row with tables -/
namespace NY
open PySem PySem.Spec PyProof.Rows L2 GxR


/-- the end of a law's row, with the top -/
theorem n_walkT {l : PySem.W.OpenLaw} {q : Program} {loose : List Str} {XP : (Str → Option Value) → Heap → Prop} {YP : World → Heap → Prop} {d : DefRec} {Kw : Params → PySem.W.Frag} {x : Str} (k : Nat) (m : NF) (hn : l.most = some 63) (hdf : d.params.defaults = []) (hr : Room k callerA)
    (hY : ∀ (w : World) (h : Heap), YP w h → (Kw w.params).In h)
    (F : ∀ (w : World) (mg mb : Str → Option Value) (fa : Addr) (h : Heap) (mean : ExcName → Option Value), YP w h → (Kw w.params).In h → Top q (PySem.W.looseW q loose) mean mg mb h → h.Ns mainGlobals mg → mg d.name = some (.ref fa) →
      ∃ (C : NC) (cs : List (Addr × Addr)) (fd : FuncData), C.names.Nodup ∧ C.tabs = cs.map (fun p => p.2) ∧ (∀ p ∈ cs, h.get? p.2 = some { cls := Value.none, data := Data.fields #[] }) ∧ (∀ p ∈ cs, (Kw w.params).lookup p.2 = none) ∧ (∀ p ∈ cs, PySem.W.CodeHd h p.1 p.2) ∧
        (∀ (s : Shared) (u : Value), BindsTo s fd { pos := [u] } [(x, u)]) ∧ ∀ (base : Heap), (Kw w.params).In base → base.Ns mainGlobals mg → (∀ p ∈ cs, LamX.TabB base mg p.1 p.2) → FnOk l.prog w (Kw w.params) mg base (L2.CX l.prog w) k fa fd [x] (spN (Kw w.params) C 1 m))
    (hm : ∀ (ns : List Int), ns.length ≤ 63 → (∀ z ∈ ns, Builtin.Int.intBits z ≤ 1048576) → ∀ N d, Scr N d (ns.map .int) → ∃ N', m [d] N = .ok (.bl true) N') :
    PySem.W.WalkO q loose XP YP l.row.toRowW d [] (fun f vs => PySem.call f vs) := by
  refine Att.attach_callB hn hdf fun w s₀ s₁ mg mb fa o pm cd doc a vs ns G Y ho hd hcd hmg hobj hints hlen hbits hg => ?_
  have KX := hY w _ Y
  obtain ⟨C, cs, fd, h1, h2, h3, h4, h5, h6, h7⟩ := F w mg mb fa _ _ Y KX G.T G.T.g hmg
  exact LamX.law_callTs KX G.T.g G.T.b G.T.builtins G.T.nolimit hg h3 h4 h5 G.T.bmain hobj hints (Nat.le_trans hlen (by decide)) hr h7 h6 (fun H hH hS => by
    refine law_sp h1 (fun P hP => ?_) hS (hm ns hlen hbits)
    rw [h2] at hP
    obtain ⟨p, hp, rfl⟩ := List.mem_map.mp hP
    exact ⟨#[], hH p hp, trivial⟩) fun H e s' z => by
      obtain ⟨_, _, _, _, _, _, _, _, _, _, _, _, z⟩ := z
      exact z
end NY

set_option Elab.async false
set_option linter.all false
set_option maxRecDepth 100000
set_option maxHeartbeats 4000000
/-! NYG6: what is never reached; scopes of generator expressions, checked; raise -/
namespace NY
open PySem PySem.Spec PyProof.Rows L2 GxR


/-! ### defs called by another name -/
structure DefA (K : PySem.W.Frag) (mg : Str → Option Value) (g x : Str) (st : Stmt) (ps : List Str) : Prop where
  ex : ∃ (f : Addr) (fd : FuncData), mg g = some (.ref f) ∧ L2.Fun K x x st f fd ∧ L2.Binds K fd ps []
section
variable {P : Program} {w : World} {K : PySem.W.Frag} {mg : Str → Option Value} {base : Heap} {C : NC}
theorem n_defA {g x : Str} {st : Stmt} {Ns ps : List Str} {k n : Nat} {m : NS} (F : DefA K mg g x st ps) (Sc : FnScope Ns ps (defScope st)) (hn : ps.length = n)
    (hb : ∀ (f : Addr) (cdv : Value) (A : Around) (outer : List Env) (s : Shared) (H : Hp) (E : XK), Go (cxOf (L2.CX P w) P w K mg base Ns x (defScope st) f cdv A outer s H E) (WOf E) k → PSs (cxOf (L2.CX P w) P w K mg base Ns x (defScope st) f cdv A outer s H E) (defBody st) (tS K C (WOf E) m)) :
    FunN P w K mg base C (k + 1) g n (nFun Ns.length m) := by
  obtain ⟨f, fd, h1, h2, h3⟩ := F.ex
  exact ⟨f, fd, ps, h1, h2.kp, h3, n_fun h2 Sc hn (hb f)⟩
end
end NY

set_option Elab.async false
set_option linter.all false
set_option maxRecDepth 100000
set_option maxHeartbeats 4000000
/-! NYS1: the nice heap by parts: what stands where, apart from each other; what is not named may be anything -/
namespace NY
open PySem PySem.Spec PyProof.Rows L2

abbrev PH := Nat → Option O
def PH.le (h h' : PH) : Prop := ∀ a o, h a = some o → h' a = some o
def PH.dj (h h' : PH) : Prop := ∀ a, h a = none ∨ h' a = none
def HP := PH → Prop
/-- the object at a -/
def pt (a : Nat) (o : O) : HP := fun h => h a = some o
def emp : HP := fun _ => True
def star (P Q : HP) : HP := fun h => ∃ h1 h2, PH.dj h1 h2 ∧ PH.le h1 h ∧ PH.le h2 h ∧ P h1 ∧ Q h2
def exH {α : Type} (P : α → HP) : HP := fun h => ∃ x, P x h
/-- a plain fact and a part -/
def andP (p : Prop) (P : HP) : HP := fun h => p ∧ P h
def Sat : List HP → PH → Prop
  | [], _ => True
  | P :: L, h => ∃ h1 h2, PH.dj h1 h2 ∧ PH.le h1 h ∧ PH.le h2 h ∧ P h1 ∧ Sat L h2
/-- these parts stand in the heap, apart -/
def At (N : NH) (L : List HP) : Prop := Sat L fun a => N[a]?
theorem PH.le.refl (h : PH) : PH.le h h := fun _ _ e => e
theorem PH.le.trans {a b c : PH} (x : PH.le a b) (y : PH.le b c) : PH.le a c := fun _ _ e => y _ _ (x _ _ e)
theorem PH.dj.symm {a b : PH} (x : PH.dj a b) : PH.dj b a := fun i => (x i).symm
theorem PH.dj.mono {a b a' b' : PH} (x : PH.dj a b) (h1 : PH.le a' a) (h2 : PH.le b' b) : PH.dj a' b' := fun i => by
  rcases x i with h | h
  · left
    cases e : a' i with
    | none => rfl
    | some o => rw [h1 i o e] at h; cases h
  · right
    cases e : b' i with
    | none => rfl
    | some o => rw [h2 i o e] at h; cases h
def PH.un (a b : PH) : PH := fun i => match a i with | some o => some o | none => b i
theorem PH.un_l (a b : PH) : PH.le a (PH.un a b) := fun i o e => by simp [PH.un, e]
theorem PH.un_r {a b : PH} (d : PH.dj a b) : PH.le b (PH.un a b) := fun i o e => by
  rcases d i with h | h
  · simp [PH.un, h, e]
  · rw [h] at e; cases e
theorem PH.un_le {a b c : PH} (h1 : PH.le a c) (h2 : PH.le b c) : PH.le (PH.un a b) c := fun i o e => by
  unfold PH.un at e
  cases q : a i with
  | none => rw [q] at e; exact h2 i o e
  | some u => rw [q] at e; cases e; exact h1 i _ q
theorem PH.dj_un {a b c : PH} (h1 : PH.dj a c) (h2 : PH.dj b c) : PH.dj (PH.un a b) c := fun i => by
  rcases h1 i with x | x
  · rcases h2 i with y | y
    · left; simp [PH.un, x, y]
    · exact .inr y
  · exact .inr x
theorem Sat.mono : ∀ {L : List HP} {h h' : PH}, PH.le h h' → Sat L h → Sat L h'
  | [], _, _, _, _ => trivial
  | _ :: _, _, _, l, ⟨h1, h2, d, l1, l2, p, q⟩ => ⟨h1, h2, d, l1.trans l, l2.trans l, p, q⟩
theorem Sat.swap {P Q : HP} {L : List HP} {h : PH} (x : Sat (P :: Q :: L) h) : Sat (Q :: P :: L) h := by
  obtain ⟨h1, h2, d, l1, l2, p, g1, g2, d', m1, m2, q, r⟩ := x
  refine ⟨g1, PH.un h1 g2, ?_, m1.trans l2, PH.un_le l1 (m2.trans l2), q, h1, g2, d.mono (PH.le.refl _) m2, PH.un_l _ _, PH.un_r (d.mono (PH.le.refl _) m2), p, r⟩
  exact (PH.dj_un (d.mono (PH.le.refl _) m1) d'.symm).symm
theorem Sat.cons {P : HP} {L L' : List HP} {h : PH} (f : ∀ g, Sat L g → Sat L' g) (x : Sat (P :: L) h) : Sat (P :: L') h := by
  obtain ⟨h1, h2, d, l1, l2, p, q⟩ := x
  exact ⟨h1, h2, d, l1, l2, p, f _ q⟩
theorem Sat.tail {P : HP} {L : List HP} {h : PH} (x : Sat (P :: L) h) : Sat L h := by
  obtain ⟨h1, h2, d, l1, l2, p, q⟩ := x
  exact q.mono l2
/-- a part taken out: the rest is R -/
inductive Pick : List HP → HP → List HP → Prop
  | head {P : HP} {L : List HP} : Pick (P :: L) P L
  | tail {P Q : HP} {L R : List HP} : Pick L P R → Pick (Q :: L) P (Q :: R)
theorem Pick.sat {L : List HP} {P : HP} {R : List HP} (x : Pick L P R) : ∀ {h : PH}, Sat L h → Sat (P :: R) h := by
  induction x with
  | head => exact fun s => s
  | tail _ ih => exact fun s => (s.cons fun _ q => ih q).swap
theorem At.pick {N : NH} {L R : List HP} {P : HP} (H : At N L) (x : Pick L P R) : At N (P :: R) := x.sat H
/-- some of them, in their order -/
inductive Sub : List HP → List HP → Prop
  | refl {L : List HP} : Sub L L
  | drop {L L' : List HP} {P : HP} : Sub L L' → Sub (P :: L) L'
theorem Sub.sat {L L' : List HP} (x : Sub L L') : ∀ {h : PH}, Sat L h → Sat L' h := by
  induction x with
  | refl => exact fun s => s
  | drop _ ih => exact fun s => ih s.tail
/-- all of these -/
inductive Covers : List HP → List HP → Prop
  | nil {L : List HP} : Covers L []
  | cons {L R Ps : List HP} {P : HP} : Pick L P R → Covers R Ps → Covers L (P :: Ps)
  | sub {L L' : List HP} : Sub L L' → Covers L L'
theorem Covers.sat {L L' : List HP} (x : Covers L L') : ∀ {h : PH}, Sat L h → Sat L' h := by
  induction x with
  | nil => exact fun _ => trivial
  | cons p _ ih => exact fun s => (p.sat s).cons fun _ q => ih q
  | sub p => exact fun s => p.sat s
theorem At.cover {N : NH} {L L' : List HP} (H : At N L) (x : Covers L L') : At N L' := x.sat H
theorem At.get {N : NH} {L R : List HP} {a : Nat} {o : O} (H : At N L) (x : Pick L (pt a o) R) : N[a]? = some o := by
  obtain ⟨h1, h2, d, l1, l2, p, q⟩ := H.pick x
  exact l1 a o p
theorem At.nil {N : NH} : At N [] := trivial
/-- a heap that goes on -/
theorem At.ext {N N' : NH} {L : List HP} (H : At N L) (h : ∀ (m : Nat) (o : O), N[m]? = some o → N'[m]? = some o) : At N' L := Sat.mono h H
def PH.one (a : Nat) (o : O) : PH := fun i => if i = a then some o else none
theorem PH.one_ne {a i : Nat} {o : O} (h : i ≠ a) : PH.one a o i = none := if_neg h
theorem PH.one_eq {a : Nat} {o : O} : PH.one a o a = some o := if_pos rfl
/-- a new object -/
theorem At.new {N : NH} {L : List HP} {o : O} (H : At N L) : At (N ++ [o]) (pt N.length o :: L) := by
  refine ⟨PH.one N.length o, fun i => N[i]?, fun i => ?_, fun i u e => ?_, fun i u e => new_fr i u e, PH.one_eq, H⟩
  · by_cases h : i = N.length
    · right; rw [h]; exact new_none
    · left; exact PH.one_ne h
  · by_cases h : i = N.length
    · rw [h, PH.one_eq] at e; cases e; rw [h]; exact new_at
    · rw [PH.one_ne h] at e; cases e
/-- an object written -/
theorem At.set {N : NH} {L : List HP} {a : Nat} {o o' : O} (H : At N (pt a o :: L)) : At (N.set a o') (pt a o' :: L) := by
  obtain ⟨h1, h2, d, l1, l2, p, q⟩ := H
  have ha := l1 a o p
  have h2a : h2 a = none := by
    rcases d a with x | x
    · rw [show h1 a = some o from p] at x; cases x
    · exact x
  refine ⟨PH.one a o', h2, fun i => ?_, fun i u e => ?_, fun i u e => ?_, PH.one_eq, q⟩
  · by_cases h : i = a
    · right; rw [h]; exact h2a
    · left; exact PH.one_ne h
  · by_cases h : i = a
    · rw [h, PH.one_eq] at e; cases e; rw [h]; exact set_at ha
    · rw [PH.one_ne h] at e; cases e
  · have h : i ≠ a := fun z => by rw [z, h2a] at e; cases e
    exact fr_set i u h (l2 i u e)
theorem At.put {N : NH} {L R : List HP} {a : Nat} {o o' : O} (H : At N L) (x : Pick L (pt a o) R) : At (N.set a o') (pt a o' :: R) := (H.pick x).set
/-! parts of parts -/
theorem At.unstar {N : NH} {P Q : HP} {L : List HP} (H : At N (star P Q :: L)) : At N (P :: Q :: L) := by
  obtain ⟨h1, h2, d, l1, l2, ⟨g1, g2, d', m1, m2, p, q⟩, r⟩ := H
  exact ⟨g1, PH.un g2 h2, (PH.dj_un d'.symm (d.mono m1 (PH.le.refl _)).symm).symm, m1.trans l1, PH.un_le (m2.trans l1) l2, p, g2, h2, d.mono m2 (PH.le.refl _), PH.un_l _ _, PH.un_r (d.mono m2 (PH.le.refl _)), q, r⟩
theorem At.star {N : NH} {P Q : HP} {L : List HP} (H : At N (P :: Q :: L)) : At N (star P Q :: L) := by
  obtain ⟨h1, h2, d, l1, l2, p, g1, g2, d', m1, m2, q, r⟩ := H
  refine ⟨PH.un h1 g1, g2, PH.dj_un (d.mono (PH.le.refl _) m2) d', PH.un_le l1 (m1.trans l2), m2.trans l2, ?_, r⟩
  exact ⟨h1, g1, d.mono (PH.le.refl _) m1, PH.un_l _ _, PH.un_r (d.mono (PH.le.refl _) m1), p, q⟩
theorem At.unex {N : NH} {α : Type} {P : α → HP} {L : List HP} (H : At N (exH P :: L)) : ∃ x, At N (P x :: L) := by
  obtain ⟨h1, h2, d, l1, l2, ⟨x, p⟩, q⟩ := H
  exact ⟨x, h1, h2, d, l1, l2, p, q⟩
theorem At.ex {N : NH} {α : Type} {P : α → HP} {L : List HP} (x : α) (H : At N (P x :: L)) : At N (exH P :: L) := by
  obtain ⟨h1, h2, d, l1, l2, p, q⟩ := H
  exact ⟨h1, h2, d, l1, l2, ⟨x, p⟩, q⟩
theorem At.unand {N : NH} {p : Prop} {P : HP} {L : List HP} (H : At N (andP p P :: L)) : p ∧ At N (P :: L) := by
  obtain ⟨h1, h2, d, l1, l2, ⟨p, q⟩, r⟩ := H
  exact ⟨p, h1, h2, d, l1, l2, q, r⟩
theorem At.and {N : NH} {p : Prop} {P : HP} {L : List HP} (hp : p) (H : At N (P :: L)) : At N (andP p P :: L) := by
  obtain ⟨h1, h2, d, l1, l2, q, r⟩ := H
  exact ⟨h1, h2, d, l1, l2, ⟨hp, q⟩, r⟩
theorem At.drop {N : NH} {P : HP} {L : List HP} (H : At N (P :: L)) : At N L := Sat.tail H
/-- parts by a list -/
def allH {α : Type} (P : α → HP) : List α → HP
  | [] => emp
  | x :: r => star (P x) (allH P r)

section
variable {Q : D → NH → Prop} {E : XP} {σ : NEnv} {N : NH} {e : En} {d x y z : D} {i j : Int} {n k : Nat} {s t : Str} {l l' : List D} {a b c : NE} {A : NA} {L R R2 : List HP}
/-! ### rules -/
theorem ex_at {K : List HP → Prop} (H : At N L) (h : K L) : ∃ L, At N L ∧ K L := ⟨L, H, h⟩
theorem sl_lst (h : wpR (A σ N) (fun l N => l.length ≤ sizeLine ∧ ∃ L, At N L ∧ ∀ (k : Nat) (N' : NH), At N' (pt k (.lst l) :: L) → Q (.ref k) N') E) : wpR (nLst A σ N) Q E :=
  wp_lst (h.mono (fun l N ⟨h1, L, H, h2⟩ => ⟨h1, h2 _ _ H.new⟩) fun _ _ h => h)
theorem sl_list (hk : seqN N x = some l) (H : At N L) (h : ∀ (k : Nat) (N' : NH), At N' (pt k (.lst l) :: L) → Q (.ref k) N') : wpR (fList [x] N) Q E := wp_list hk (h _ _ H.new)
theorem sl_dK (H : At N L) (h : ∀ (k : Nat) (N' : NH), At N' (pt k (.dK []) :: L) → Q (.ref k) N') : wpR (nDK σ N) Q E := wp_dK (h _ _ H.new)
theorem sl_dT (H : At N L) (h : ∀ (k : Nat) (N' : NH), At N' (pt k (.dT []) :: L) → Q (.ref k) N') : wpR (nDT σ N) Q E := wp_dT (h _ _ H.new)
theorem sl_disp {m : NPs} (h : wpR (m σ N) (fun l N => l.length ≤ 15 ∧ ∃ L, At N L ∧ ∀ (k : Nat) (N' : NH), At N' (pt k (.dK (mergeD [] l)) :: L) → Q (.ref k) N') E) : wpR (nDisp m σ N) Q E :=
  wp_disp (h.mono (fun l N ⟨h1, L, H, h2⟩ => ⟨h1, h2 _ _ H.new⟩) fun _ _ h => h)
theorem sl_cutL {lo hi : Option Int} (H : At N L) (hp : Pick L (pt n (.lst l)) R) (hq : ∀ (k : Nat) (N' : NH), At N' (pt k (.lst (NY.cutD l lo hi)) :: L) → Q (.ref k) N') : wpR (fCut (.ref n) lo hi N) Q E := by
  have e : fCut (.ref n) lo hi N = N.new (.lst (NY.cutD l lo hi)) := by unfold fCut; simp [H.get hp]
  rw [e]
  with_unfolding_all exact hq _ _ H.new
theorem sl_repL (H : At N L) (hp : Pick L (pt n (.lst l)) R) (h0 : 0 ≤ i ∧ i < 1000000 ∧ l.length * i.toNat ≤ sizeLine) (hq : ∀ (k : Nat) (N' : NH), At N' (pt k (.lst (List.replicate i.toNat l).flatten) :: L) → Q (.ref k) N') : wpR (fMul (.ref n) (.int i) N) Q E := by
  have h := H.get hp
  with_unfolding_all
    show wpR (match N[n]? with | some (.lst x) => _ | _ => _) Q E
    rw [h]
    show wpR (if 0 ≤ i ∧ i < 1000000 ∧ l.length * i.toNat ≤ sizeLine then _ else _) Q E
    rw [if_pos h0]
    exact hq _ _ H.new
theorem sl_catL {m : Nat} (H : At N L) (hp : Pick L (pt n (.lst l)) R) (hp2 : Pick L (pt m (.lst l')) R2) (hl : l.length + l'.length ≤ sizeLine) (hq : ∀ (k : Nat) (N' : NH), At N' (pt k (.lst (l ++ l')) :: L) → Q (.ref k) N') : wpR (fAdd (.ref n) (.ref m) N) Q E := by
  have e : fAdd (.ref n) (.ref m) N = N.new (.lst (l ++ l')) := by
    show (match N[n]?, N[m]? with | some (.lst x), some (.lst y) => if x.length + y.length ≤ sizeLine then N.new (.lst (x ++ y)) else .bad | _, _ => .bad) = _
    rw [H.get hp, H.get hp2]
    exact if_pos hl
  rw [e]
  with_unfolding_all exact hq _ _ H.new
theorem sl_app (H : At N L) (hp : Pick L (pt n (.lst l)) R) (hl : l.length < sizeLine) (hq : ∀ (N' : NH), At N' (pt n (.lst (l ++ [y])) :: R) → Q .non N') : wpR (fAppend (.ref n) [y] N) Q E :=
  wp_append (H.get hp) hl (hq _ (H.put hp))
theorem sl_pop0 (H : At N L) (hp : Pick L (pt n (.lst (y :: l))) R) (hq : ∀ (N' : NH), At N' (pt n (.lst l) :: R) → Q y N') : wpR (fPopAt (.ref n) [.int 0] N) Q E := by
  have h := H.get hp
  with_unfolding_all
    show wpR (match N[n]? with | some (.lst l) => _ | _ => _) Q E
    rw [h]
    have e : seqIndex? 0 (y :: l).length = some 0 := by unfold seqIndex?; simp
    show wpR (if -(2 ^ 63) ≤ (0 : Int) ∧ (0 : Int) < 2 ^ 63 then (match seqIndex? 0 (y :: l).length with | some k => _ | none => _) else _) Q E
    rw [if_pos (by decide), e]
    exact hq _ (H.put hp)
/-- o[i] = v of a list, d[k] = v of a dict -/
def PutAt (N : NH) (o i v : D) (K : NH → Prop) : Prop := ∃ N', putIx N o i v = some N' ∧ K N'
theorem sl_put (h : wpR (c σ N) (fun v N => wpR (a σ N) (fun o N => wpR (b σ N) (fun i N => PutAt N o i v (e.nx σ)) (fun x N => e.ex x σ N)) (fun x N => e.ex x σ N)) (fun x N => e.ex x σ N)) : wpS (sPut a b c σ N) e := wp_put h
theorem put_L {K : NH → Prop} {v : D} {j : Nat} (H : At N L) (hp : Pick L (pt n (.lst l)) R) (hj : ixN l.length i = some j) (hq : ∀ N', At N' (pt n (.lst (l.set j v)) :: R) → K N') : PutAt N (.ref n) (.int i) v K :=
  ⟨_, by simp [putIx, H.get hp, hj], hq _ (H.put hp)⟩
theorem put_K {K : NH → Prop} {v : D} {kvs : List (Key × D)} {k : Key} {i' : D} (H : At N L) (hp : Pick L (pt n (.dK kvs)) R) (hk : keyD i' = some k) (hl : kvs.length < sizeLine) (hq : ∀ N', At N' (pt n (.dK (putD kvs k v)) :: R) → K N') : PutAt N (.ref n) i' v K :=
  ⟨_, by simp [putIx, H.get hp, hl, hk], hq _ (H.put hp)⟩
theorem sl_fldput {cs : List Nat} {f : Nat} (h : wpR (b σ N) (fun v N => wpR (a σ N) (fun o N => ∃ n c fs L R, o = .ref n ∧ At N L ∧ Pick L (pt n (.ins c fs)) R ∧ c ∈ cs ∧ fs.length < 1000 ∧ ∀ N', At N' (pt n (.ins c (putFD f v fs)) :: R) → e.nx σ N') (fun x N => e.ex x σ N)) (fun x N => e.ex x σ N)) : wpS (sFldPut cs f a b σ N) e :=
  wp_fldput (h.mono (fun v N h => h.mono (fun o N ⟨n, c, fs, L, R, e1, H, hp, e3, e4, h⟩ => ⟨n, c, fs, e1, H.get hp, e3, e4, h _ (H.put hp)⟩) fun _ _ h => h) fun _ _ h => h)
theorem ex_fldput {K : Nat → Nat → List (Nat × D) → List HP → Prop} {c : Nat} {cs : List Nat} {fs : List (Nat × D)} (H : At N L) (hp : Pick L (pt n (.ins c fs)) R) (hc : c ∈ cs) (hl : fs.length < 1000) (hk : K n c fs R) :
    ∃ m c fs L R, D.ref n = .ref m ∧ At N L ∧ Pick L (pt m (.ins c fs)) R ∧ c ∈ cs ∧ fs.length < 1000 ∧ K m c fs R := ⟨n, c, fs, L, R, rfl, H, hp, hc, hl, hk⟩
theorem sl_make {F : NF} {c : Nat} (h : wpR (A σ N) (fun l N => ∃ L, At N L ∧ ∀ k N', At N' (pt k (.ins c []) :: L) → wpR (F (.ref k :: l) N') (fun v N' => v = .non ∧ Q (.ref k) N') E) E) : wpR (nMake c F A σ N) Q E :=
  wp_make (h.mono (fun l N ⟨L, H, h⟩ => h _ _ H.new) fun _ _ h => h)
theorem ex_meth {c : Nat} {fl : List (Nat × D)} {fs : List (Nat × NF)} {F : NF} {K : Nat → NF → Prop} (h : N[n]? = some (.ins c fl)) (hf : fs.find? (fun p => decide (p.1 = c)) = some (c, F)) (hk : K n F) :
    ∃ m c fl F, D.ref n = .ref m ∧ N[m]? = some (.ins c fl) ∧ fs.find? (fun p => decide (p.1 = c)) = some (c, F) ∧ K m F := ⟨n, c, fl, F, rfl, h, hf, hk⟩
theorem atD0 {x : D} {r : List D} : atD (x :: r) 0 = some x := by
  unfold atD ixN
  rw [if_pos (by omega), if_pos (by rw [List.length_cons]; omega)]
  rfl
theorem wp_getT0 (hq : Q d N) : wpR (fGet (.tup (d :: l)) (.int 0) N) Q E := wp_getT atD0 hq
/-- a <= b <= c of numbers, the third looked at alone -/
theorem wp_chI {f g : D → D → NH → NY.R D} {p q : Int → Int → Bool} (hf : ∀ i j N, f (.int i) (.int j) N = .ok (.bl (p i j)) N) (hg : ∀ i j N, g (.int i) (.int j) N = .ok (.bl (q i j)) N)
    (h : wpR (a σ N) (fun x N => wpR (b σ N) (fun y N => wpR (c σ N) (fun z N' => N' = N ∧ ∃ i j k, x = .int i ∧ y = .int j ∧ z = .int k ∧ Q (.bl (p i j && q j k)) N)) E) E) : wpR (nChain f g a b c σ N) Q E := by
  refine wp_chain (h.mono (fun x N h => h.mono (fun y N h => ?_) fun _ _ h => h) fun _ _ h => h)
  obtain ⟨z, N', hc, rfl, i, j, k, rfl, rfl, rfl, h⟩ := h.ex
  rw [hf]
  with_unfolding_all
    refine ⟨_, rfl, ?_⟩
    cases hp : p i j with
    | false => rw [hp] at h; exact h
    | true =>
      rw [hp] at h
      rw [if_pos rfl, hc]
      show wpR (g (.int j) (.int k) N') Q E
      rw [hg]
      exact h
theorem wp_chLL (h : wpR (a σ N) (fun x N => wpR (b σ N) (fun y N => wpR (c σ N) (fun z N' => N' = N ∧ ∃ i j k, x = .int i ∧ y = .int j ∧ z = .int k ∧ Q (.bl (decide (i ≤ j) && decide (j ≤ k))) N)) E) E) : wpR (nChain fLe fLe a b c σ N) Q E := wp_chI (fun _ _ _ => rfl) (fun _ _ _ => rfl) h
theorem wp_chLl (h : wpR (a σ N) (fun x N => wpR (b σ N) (fun y N => wpR (c σ N) (fun z N' => N' = N ∧ ∃ i j k, x = .int i ∧ y = .int j ∧ z = .int k ∧ Q (.bl (decide (i ≤ j) && decide (j < k))) N)) E) E) : wpR (nChain fLe fLt a b c σ N) Q E := wp_chI (fun _ _ _ => rfl) (fun _ _ _ => rfl) h
theorem ex_ch {K : Int → Int → Int → Prop} {i j k : Int} (hk : K i j k) : N = N ∧ ∃ i' j' k', D.int i = .int i' ∧ D.int j = .int j' ∧ D.int k = .int k' ∧ K i' j' k' := ⟨rfl, i, j, k, rfl, rfl, rfl, hk⟩
theorem wp_eqB {p q : Bool} (h : Q (.bl (decide (p = q))) N) : wpR (fEq (.bl p) (.bl q) N) Q E := by with_unfolding_all exact (h)
theorem wp_neB {p q : Bool} (h : Q (.bl (!decide (p = q))) N) : wpR (fNe (.bl p) (.bl q) N) Q E := by with_unfolding_all exact (h)
theorem ex_kdC {K : Kd → Prop} (hk : K .tup) : ∃ q, kindN N (.ctup l) = some q ∧ K q := ⟨_, rfl, hk⟩
theorem wp_ofEq {r : NY.R D} (e : r = .ok d N) (h : Q d N) : wpR r Q E := by subst e; with_unfolding_all exact h
theorem wp_isB {p q : Bool} (h : Q (.bl (decide (p = q))) N) : wpR (fIs (.bl p) (.bl q) N) Q E := by with_unfolding_all exact (h)
theorem wp_isNotB {p q : Bool} (h : Q (.bl (!decide (p = q))) N) : wpR (fIsNot (.bl p) (.bl q) N) Q E := by with_unfolding_all exact (h)
theorem sl_split {r : List Str} (h1 : (t.length == 0) = false ∧ s.length + 2 ≤ sizeLine) (hr : Txt.split s t = r) (H : At N L) (h : ∀ (k : Nat) (N' : NH), At N' (pt k (.lst (r.map .str)) :: L) → Q (.ref k) N') : wpR (fSplit (.str s) [.str t] N) Q E := by
  have e : fSplit (.str s) [.str t] N = N.new (.lst (r.map .str)) := by
    show (if (t.length == 0) = false ∧ s.length + 2 ≤ sizeLine then N.new (.lst ((Txt.split s t).map .str)) else .bad) = _
    rw [if_pos h1, hr]
  rw [e]
  with_unfolding_all exact h _ _ H.new
theorem sl_tuple (H : At N L) (hp : Pick L (pt n (.lst l)) R) (h : Q (.tup l) N) : wpR (fTuple [.ref n] N) Q E := wp_tupleR (by simp [lstN, H.get hp]) h
/-- [.. for k in range(m)]: P what the elements are; the heap's parts stay -/
theorem sl_lcR {it : NA} {me : NE} {vs : List Nat} {v : Nat} (P : Nat → D → Prop) (h : wpR (it σ N) (fun l N => ∃ (m : Int) (L : List HP), l = [.int m] ∧ m ≤ 1000000 ∧ -1000000 ≤ m ∧ At N L ∧
    (∀ (i : Nat) (N : NH), (i : Int) < m → At N L → wpR (me ((wipeN σ vs).set v (some (.int (i : Int)))) N) (fun y N' => P i y ∧ At N' L)) ∧
    ∀ (l : List D) (k : Nat) (N' : NH), l.length = m.toNat → (∀ (i : Nat) x, l[i]? = some x → P i x) → At N' (pt k (.lst l) :: L) → Q (.ref k) N') E) : wpR (nLc (iRng it) (pName v) nYes me vs σ N) Q E := by
  refine wp_lc (wp_rng1 (h.mono (fun l N ⟨m, L, e, h1, h2, H, hs, hq⟩ => ⟨m, e, by omega, by omega, ?_⟩) fun _ _ h => h))
  refine wp_lcLoop (fun i acc N => At N L ∧ acc.length = i ∧ i ≤ m.toNat ∧ ∀ (j : Nat) x, acc[j]? = some x → P j x) ⟨H, rfl, by omega, fun j x h => by simp at h⟩ (fun i acc N ⟨_, h, h', _⟩ => ⟨rfl, lt_size (by omega)⟩) ?_ ?_
  · rintro i x acc N hx ⟨H, hl, _, hP⟩
    have hi := (List.getElem?_eq_some_iff.mp hx).1
    rw [List.length_map, List.length_range] at hi
    rw [List.getElem?_map, List.getElem?_range hi] at hx
    cases hx
    refine ⟨_, rfl, ?_⟩
    with_unfolding_all
      show wpR (me _ N) _
      refine (hs i N (by omega) H).mono (fun y N' ⟨hy, H'⟩ => ⟨H', by simp [hl], by omega, fun j x h => ?_⟩) fun _ _ h => h
      by_cases hj : j < acc.length
      · rw [List.getElem?_append_left hj] at h; exact hP j x h
      · have hl2 := (List.getElem?_eq_some_iff.mp h).1
        rw [List.length_append, List.length_singleton] at hl2
        have : j = acc.length := by omega
        subst this
        rw [List.getElem?_concat_length] at h
        cases h
        rw [hl]; exact hy
  · rintro acc N ⟨H, hl, _, hP⟩
    rw [List.length_map, List.length_range] at hl
    exact hq acc _ _ hl hP H.new
end
end NY

set_option Elab.async false
set_option linter.all false
set_option maxRecDepth 100000
set_option maxHeartbeats 4000000
/-! NYE1: own exceptions: raise, try .. except X, try .. except X as n with return isinstance(n, Y) -/
namespace NY
open PySem PySem.Spec PyProof.Rows L2

end NY

set_option Elab.async false
set_option linter.all false
set_option maxRecDepth 100000
set_option maxHeartbeats 4000000
/-! NYE2: what a row says of an own exception class, and the statements by it -/
namespace NY
open PySem PySem.Spec PyProof.Rows L2
/-- named by an except clause -/
structure XT (K : PySem.W.Frag) (mg : Str → Option Value) (x : Str) (a : Addr) : Prop where
  gC : mg x = some (.ref a)
  s : PySem.W.subIn K (.ref a) (.type "BaseException") = some true
  t : PySem.W.typeIn K (.ref a) = some (.type "type")
  hd : PySem.W.hasDictIn K a = true
  ss : PySem.W.subIn K (.ref a) (.ref a) = some true
/-- asked by isinstance -/
structure XI (K : PySem.W.Frag) (mg : Str → Option Value) (a : Addr) (y : Str) : Prop where
  ex : ExcC K a
  cy : ∃ Cy : Addr, mg y = some (.ref Cy) ∧ PySem.W.kitOne K (.ref a) (.ref Cy) = some true
def catc (c : Nat) : Nat → Option Bool := fun n => if n = c then some true else none
theorem catc_eq {c n : Nat} {k : Bool} (h : catc c n = some k) : n = c ∧ k = true := by
  unfold catc at h
  split at h
  · rename_i e; exact ⟨e, (Option.some.inj h).symm⟩
  · cases h
section
variable {X : Cx} {C : NC} {W : WX} {p p2 np pos pos' : Pos} {k : Nat}
theorem XT.cat {x : Str} {c : Nat} (F : XT X.K X.mg x (C.cls c)) : ∀ n k, catc c n = some k → PySem.W.exmOne X.K (.ref (C.cls n)) (.ref (C.cls c)) = some k := fun n k h => by
  obtain ⟨rfl, rfl⟩ := catc_eq h
  exact PySem.W.exm_ref F.s F.hd F.t F.ss
end
end NY

set_option Elab.async false
set_option linter.all false
set_option maxRecDepth 100000
set_option maxHeartbeats 4000000
/-! NYE3: return isinstance(n, Y) and isinstance(n, Z), Z a built-in class -/
namespace NY
open PySem PySem.Spec PyProof.Rows L2
end NY

set_option Elab.async false
set_option linter.all false
set_option maxRecDepth 100000
set_option maxHeartbeats 4000000
/-! NYE4: try .. except X as n: t = t + int(isinstance(n, Y)) -/
namespace NY
open PySem PySem.Spec PyProof.Rows L2
end NY

set_option Elab.async false
set_option linter.all false
set_option maxRecDepth 100000
set_option maxHeartbeats 4000000
/-! NYE5: methods whose name is a field of another class, too -/
namespace NY
open PySem PySem.Spec PyProof.Rows L2
structure MthW (P : Program) (w : World) (K : PySem.W.Frag) (mg : Str → Option Value) (base : Heap) (C : NC) (fb k : Nat) (c : Nat) (x : Str) (n : Nat) (m : NF) : Prop where
  cls : Cls K (C.cls c)
  no : ∀ i, C.names[i]? = some x → i = fb
  ex : ∃ (f : Addr) (fd : FuncData) (ps : List Str), Meth K (C.cls c) x f ∧ Binds K fd ps [] ∧ FnOk P w K mg base (L2.CX P w) k f fd ps (spN K C n m)
/-- o.m(..): the receiver's class chooses the def; the receiver has not the field fb -/
def nMethW (fb : Nat) (fs : List (Nat × NF)) (o : NE) (m : NA) : NE := fun σ N => (o σ N).bind fun x N => match x with
  | .ref n => match N[n]? with
    | some (.ins c fl) => if fl.all (fun p => decide (p.1 ≠ fb)) = true then (match fs.find? (fun p => decide (p.1 = c)) with
      | some (_, f) => (m σ N).bind fun ds N => f (x :: ds) N
      | none => .bad) else .bad
    | _ => .bad
  | _ => .bad
section
variable {X : Cx} {C : NC} {W : WX} {fb k n c : Nat} {x : Str} {f : NF} {p pos apos : Pos} {e o : Expr} {es : List Expr} {m : NA}
/-- the receiver is of one of the classes, each with its def -/
def MthsW (X : Cx) (C : NC) (fb k : Nat) (x : Str) (n : Nat) (fs : List (Nat × NF)) : Prop := ∀ p ∈ fs, MthW X.prog X.w X.K X.mg X.base C fb k p.1 x n p.2
theorem MthsW.nil {X : Cx} : MthsW X C fb k x n [] := fun p h => nomatch h
theorem MthsW.cons {X : Cx} {fs : List (Nat × NF)} (h : MthW X.prog X.w X.K X.mg X.base C fb k c x n f) (r : MthsW X C fb k x n fs) : MthsW X C fb k x n ((c, f) :: fs) := fun p hp => by
  rcases List.mem_cons.mp hp with e | e
  · rw [e]; exact h
  · exact r p e
theorem MthW.mono {P : Program} {w : World} {K : PySem.W.Frag} {mg : Str → Option Value} {base : Heap} {j : Nat} (h : MthW P w K mg base C fb j c x n f) (l : j ≤ k) : MthW P w K mg base C fb k c x n f :=
  ⟨h.cls, h.no, let ⟨fa, fd, ps, a, b, d⟩ := h.ex; ⟨fa, fd, ps, a, b, d.mono l⟩⟩
end
section
variable {σ : NEnv} {N : NH} {a : NE} {A : NA} {Q : D → NH → Prop} {E : XP}
theorem wp_methW {fb : Nat} {fs : List (Nat × NF)} (h : wpR (a σ N) (fun x N => ∃ n c fl F, x = .ref n ∧ N[n]? = some (.ins c fl) ∧ fl.all (fun p => decide (p.1 ≠ fb)) = true ∧ fs.find? (fun p => decide (p.1 = c)) = some (c, F) ∧ wpR (A σ N) (fun l N => wpR (F (.ref n :: l) N) Q E) E) E) : wpR (nMethW fb fs a A σ N) Q E := by with_unfolding_all exact (wp_bind (h.mono (fun x N ⟨n, c, fl, F, e1, e2, e4, e3, h⟩ => by subst e1; show wpR (match N[n]? with | some (.ins c fl) => _ | _ => _) Q E; rw [e2]; show wpR (if _ then _ else _) Q E; rw [if_pos e4]; show wpR (match fs.find? (fun p => decide (p.1 = c)) with | some (_, f) => _ | none => _) Q E; rw [e3]; exact wp_bind h) fun _ _ h => h))
end
end NY

set_option Elab.async false
set_option linter.all false
set_option maxRecDepth 100000
set_option maxHeartbeats 4000000
/-! NYZ1: sorted(set(xs)) of a list of numbers -/
namespace NY
open PySem PySem.Spec PyProof.Rows L2
end NY

set_option Elab.async false
set_option linter.all false
set_option maxRecDepth 100000
set_option maxHeartbeats 4000000
/-! NYZ2: [.. for .. in .. for .. in ..] -/
namespace NY
open PySem PySem.Spec PyProof.Rows L2
section
variable {X : Cx} {C : NC} {W : WX} {elt tg iter tg1 iter1 : Expr} {ifs ifs1 : List Expr} {scope : Scope} {own : List (Str × Nat)} {pos p : Pos}
def TA (K : PySem.W.Frag) (ρ : List Addr) (H : Hp) (a : Addr) (xs : List V) (l : List D) : Prop := (TupAt ρ H a xs ∨ CtupAt K ρ H a xs) ∧ RDs K ρ H l xs
theorem TA.sq {K : PySem.W.Frag} {ρ : List Addr} {H : Hp} {a : Addr} {xs : List V} {l : List D} (h : TA K ρ H a xs l) : SqT K H a xs := by
  rcases h.1 with h | h
  · exact h.sq
  · exact h.sq
theorem TA.ext {K : PySem.W.Frag} {ρ ρ' : List Addr} {H H' : Hp} {a : Addr} {xs : List V} {l : List D} (e : Ext ρ H ρ' H') (h : TA K ρ H a xs l) : TA K ρ' H' a xs l := by
  refine ⟨?_, h.2.ext e⟩
  rcases h.1 with h | h
  · exact .inl (h.ext e)
  · exact .inr (h.ext e)
theorem TA.push {K : PySem.W.Frag} {ρ : List Addr} {H : Hp} {a Da : Addr} {xs ys zs : List V} {l : List D} (h1 : H Da = some (.lst ys)) (h : TA K ρ H a xs l) : TA K ρ (upd H Da (.lst zs)) a xs l := by
  refine ⟨?_, RDs.same (Same.lst h1) _ h.2⟩
  rcases h.1 with h | h
  · refine .inl ⟨h.1, ?_⟩
    rw [upd_ne (fun z => by have := h.2; rw [z, h1] at this; cases this)]
    exact h.2
  · rcases h with ⟨n, o, q1, q2, q⟩ | h
    · refine .inr (.inl ⟨n, o, q1, q2, ?_⟩)
      rw [upd_ne (fun z => by rw [z, h1] at q; cases q)]
      exact q
    · exact .inr (.inr h)
end
end NY

set_option Elab.async false
set_option linter.all false
set_option maxRecDepth 100000
set_option maxHeartbeats 4000000
/-! NYT: t.index(x) of a tuple of texts -/
namespace NY
open PySem PySem.Spec PyProof.Rows L2
/-! the same of a module's constant -/
def GX (K : PySem.W.Frag) (mg : Str → Option Value) (x : Str) (d : D) : Prop := ∃ u v, mg x = some u ∧ RelV v u ∧ (∀ ρ H, RD K ρ H d v) ∧ ∀ H, tyV K "tuple" v H
theorem GX.ctup {K : PySem.W.Frag} {mg : Str → Option Value} {x : Str} {q : Addr} {us : List Value} {n : Nat} {sl : Array (Option Value)} {ds : List D} (h : mg x = some (.ref q)) (hl : K.lookup q = some ⟨.type "tuple", none, .seq us.toArray n, sl⟩) (hr : relC ds us) (hz : us.length ≤ 1000) : GX K mg x (.ctup ds) := by
  obtain ⟨u, v, e1, e2, e3⟩ := GD.ctup h hl hr hz
  rw [h] at e1
  cases e1
  cases v with
  | ref a =>
    cases e2
    exact ⟨_, .ref q, h, rfl, e3, fun H => .inr (.inl ⟨rfl, _, hl, rfl, rfl⟩)⟩
  | _ => first | exact (nomatch e2) | (obtain ⟨_, e2⟩ := e2; cases e2)
end NY

set_option Elab.async false
set_option linter.all false
set_option maxRecDepth 100000
set_option maxHeartbeats 4000000
/-! NYX1: making an exception whose class has an own __init__(self, line): super().__init__(a text); self.line = line -/
namespace PySem
namespace BTX
open PySem.W PySem.Calls PyProof.Rows PySem.HandSPX
/-! the text of __init__ -/
def iA (p1 p2 : Pos) : Arguments := { posonlyargs := [], args := [{ arg := "self", annotation := none, pos := p1 }, { arg := "line", annotation := none, pos := p2 }], vararg := none, kwonlyargs := [], kw_defaults := [], kwarg := none, defaults := [] }
def iB (m : Str) (j : Nat) (a1 a2 a3 a4 a5 a6 b1 b2 b3 b4 : Pos) : List Stmt :=
  [.Expr (.Call (.Attribute (.Call (.Name "super" a1) [] [] a2) "__init__" a3) [.Constant (.str m) j a4] [] a5) a6, .Assign [.Attribute (.Name "self" b1) "line" b2] (.Name "line" b3) b4]
/-- what a row says of the class at C, and of its __init__, at fI -/
structure BtTxt (prog : Program) (K : Frag) (C fI : Addr) : Prop where
  cls : ∃ nm q N bs bm sn sub ab col dd k0 k1 k2 k3 k5, K.lookup C = some (excClassObj nm q C N bs bm true sn sub ab col dd k0 k1 k2 k3 k5 "ValueError.__new__") ∧ refsVE bm = true
  sa : findIn K (.ref C) "__setattr__" = some (some (.builtin "object.__setattr__"))
  noN : findIn K (.ref C) "line" = some none
  iC : findIn K (.ref C) "__init__" = some (some (.ref fI))
  tC : typeIn K (.ref fI) = some (.type "function")
  su : ks_superIn K C C "__init__" = some (some (.builtin "ValueError.__init__"))
  sv : subIn K (.ref C) (.type "ValueError") = some true
  sC : mroIn K C (.ref C) = some true
  tp : nsIn K cStatics "thirdparty.any" = some none
  top : (prog.main.scope.names.lookup ("super" : Str)).isSome = false
  fn : ∃ (oc : Value) (od : Option Addr) (doc pm : Value) (an : Option Addr) (ct : Value) (osl : Array (Option Value)) (p1 p2 : Pos) (m : Str) (j : Nat) (a1 a2 a3 a4 a5 a6 b1 b2 b3 b4 : Pos) (ns : List (Str × NameKind)) (mo : List (Str × Const)) (pl : Env → Sem Bool) (cda cc : Addr),
    K.lookup fI = some ⟨oc, od, .func (ksFn "__init__" "BadText.__init__" (iA p1 p2) (iB m j a1 a2 a3 a4 a5 a6 b1 b2 b3 b4) { kind := .function, names := ns, isGenerator := false, isCoroutine := false, more := mo } .none .none doc pm an (.ref cda) ct cc), osl⟩ ∧ codeIn K (.ref cda) "BadText.__init__" = true ∧
    ns.lookup ("self" : Str) = some .local ∧ ns.lookup ("line" : Str) = some .local ∧ ns.lookup ("super" : Str) = some .globalImplicit ∧ ns.lookup ("__class__" : Str) = some .free ∧ (∀ x ∈ ns, x.2 ≠ .cell) ∧
    (∀ env, eval (.Call (.Attribute (.Call (.Name "super" a1) [] [] a2) "__init__" a3) [.Constant (.str m) j a4] [] a5) env = (do
        let ov ← attributeBase (.Call (.Name "super" a1) [] [] a2) "__init__" env (eval (.Call (.Name "super" a1) [] [] a2) env)
        standAt a3.atName
        let (f, first) ← holding [ov] (getMethod ov "__init__" (pl env))
        callWith a5 f first (backTo a5 (starEach [.Constant (.str m) j a4] env)) [])) ∧
    (∃ (cl : Value) (cld : Option Addr) (csl : Array (Option Value)), K.lookup cc = some ⟨cl, cld, .cell (some (.ref C)), csl⟩) ∧
    ∃ (ccl : Value) (cdd : Option Addr) (vs : Array Value) (ccs : Array (Option Value)) (file : Str) (tf : Tok), K.lookup cda = some ⟨ccl, cdd, .fields vs, ccs⟩ ∧ vs[2]? = some (.str file tf) ∧ ((prog.main.file : Str) == file) = true
theorem one_size (v : Value) : [v].length ≤ sizeLine := by
  rw [sizeLine_eq]
  exact (by decide : 1 ≤ 16777216)
/-- what __init__ leaves of a fresh exception at x -/
structure InitEnd (h h' : Heap) (x C dx t1 : Addr) (v : Value) : Prop where
  keep : ∀ b o, b ≠ x → h.get? b = some o → h'.get? b = some o
  obj : h'.get? x = some { cls := .ref C, dict := some dx, data := .fields #[.ref t1, .none, .none, .none, .bool false, .none] }
  dbig : h.objs.size ≤ dx
  dne : dx ≠ x
  ns : h'.Ns1 dx (fun y => if y = "line" then some v else none)
section
variable {prog : Program} {w : World} {M : Model} {A : Around} {E : Value → Shared → Prop} {h : Heap} {g : Array GenState} {d : Drawn} {t : Nat} {os : OsState}
theorem callWith_mw {s : Shared} {pos : Pos} {u x : Addr} {i : String} {first : List Value} {args : List (Bool × Sem Value)} {Q : Value → Shared → Prop} (hplain : args.any (·.1) = false)
    (h : wpAny M A (evalArgs (.ref u) true args []) (fun a s₁ => s₁.heap.get? u = some (kxs_mw i x) ∧ wpAny M A (call (.ref u) (first ++ a.pos) a.kw) Q E s₁) E s) : wpAny M A (callWith pos (.ref u) first args []) Q E s := by
  unfold callWith
  refine wpAny_bind (wpAny_holding (wpAny_mono h (fun a s₁ h₁ => wpAny_bind (wpAny_standAt ?_)) fun _ _ x => x))
  obtain ⟨ho, hcall⟩ := h₁
  simp only [hplain, List.any_nil, Bool.or_false]
  refine wpAny_bind (m := keeperOf (.ref u)) ?_
  unfold keeperOf
  refine wpAny_bind (wpAny_load ho ?_)
  simp only [kxs_mw, show (Value.type "method-wrapper" != Value.type "method") = true by decide, show (Value.type "method-wrapper" == Value.type "builtin_function_or_method" || Value.type "method-wrapper" == Value.type "method-wrapper") = true by decide, if_true]
  refine wpAny_pure ?_
  exact wpAny_bind (wpAny_mono hcall (fun r s₂ hr => wpAny_bind (wpAny_holding (wpAny_point (wpAny_pure hr)))) fun _ _ x => x)
theorem callWith_mw1 {s : Shared} {pos : Pos} {u x : Addr} {i : String} {env : Env} {e : Expr} {rest : List Expr} {Q : Value → Shared → Prop}
    (h : wpAny M A (spliced (backTo pos (starEach (e :: rest) env))) (fun vs s₁ => s₁.heap.get? u = some (kxs_mw i x) ∧ wpAny M A (call (.ref u) vs) Q E s₁) E s)
    (he : starEach (e :: rest) env = (false, eval e env) :: starEach rest env := by rfl) (hplain : (backTo pos (starEach rest env)).any (·.1) = false := by rfl) :
    wpAny M A (callWith pos (.ref u) [] (backTo pos (starEach (e :: rest) env)) []) Q E s := by
  rw [he] at h ⊢
  refine callWith_mw (x := x) (i := i) (by show (false || (backTo pos (starEach rest env)).any (·.1)) = false; rw [hplain]; rfl) ?_
  exact Calls.evalArgs_plain h
variable {nm q : Str} {C N : Addr} {bs bm : List Value} {hdct : Bool} {sn : List Str} {sub : List Value} {ab : Bool} {col : Option Bool} {dd : Option Addr} {k0 k1 k2 k3 k5 : Option Value}
theorem call_mw {u e t0 : Addr} {rest : List Value} {Q : Value → Shared → Prop}
    (hC : h.get? C = some (excClassObj nm q C N bs bm hdct sn sub ab col dd k0 k1 k2 k3 k5 "ValueError.__new__")) (he : h.get? e = some (excO C t0)) (hu : h.get? u = some (kxs_mw "ValueError.__init__" e)) (hrest : rest.length ≤ sizeLine)
    (hq : ∀ h' t1, (∀ b o, b ≠ e → h.get? b = some o → h'.get? b = some o) → h'.get? e = some (excO C t1) → h.objs.size ≤ h'.objs.size → Q .none ⟨h', g, d, t, os⟩) :
    wpAny (model prog w) A (call (.ref u) rest) Q E ⟨h, g, d, t, os⟩ := by
  refine wpAny_call (codeAny_of_tree ?_)
  show wpAny _ A.in1 (callAny (.ref u) ⟨rest, []⟩) _ _ _
  simp only [callAny]
  refine wpAny_bind (wpAny_load hu ?_)
  simp only [kxs_mw, show (Value.type "method-wrapper" == Value.type "method" || Value.type "method-wrapper" == Value.type "builtin_function_or_method" || Value.type "method-wrapper" == Value.type "method-wrapper") = true by decide, if_true]
  refine W.KFB.if_so (by decide) ?_
  refine wpAny_bind (ESX.check_bound F.excBase_ValueError hC he rfl ?_)
  refine wpAny_bind (wpAny_pure (wpAny_pure ?_))
  refine ⟨Code.quiet_builtin _ (by decide +kernel), codeAny_builtin F.excBase_ValueError.initEntry ?_⟩
  rw [Around.under_plainId F.excBase_ValueError.init.plain _]
  wp_walk
  refine hq _ h.objs.size (fun b o hb ho => ?_) ?_ ?_
  · rw [Heap.get?_update_other _ _ (Ne.symm hb)]
    exact Heap.get?_push_of_some _ ho
  · rw [Heap.get?_update_self _ (Heap.get?_push_of_some _ he) rfl]
    rfl
  · simp
end
section
variable {prog : Program} {w : World} {A : Around} {R : Result → Shared → Prop} {s : Shared} {K : Frag} {mg : Str → Option Value} {base : Heap} {C fI : Addr}
theorem bt_init (T : BtTxt prog K C fI) (M : L2.Mod K mg base) (hsu : mg "super" = none) (kb : ∀ b o, base.get? b = some o → s.heap.get? b = some o) {x t0 : Addr} {v : Value} (hx : s.heap.get? x = some (excO C t0)) (hnx : base.get? x = none) (hroom : A.depth < recursionLimit)
    (hq : ∀ h' tk dx t1, InitEnd s.heap h' x C dx t1 v → R (.ok (.ret .none)) { s with heap := h', toks := tk }) :
    codeAny (model prog w) A (.call (.ref fI) ⟨[.ref x, v], []⟩) R s := by
  obtain ⟨oc, od, doc, pm, an, ct, osl, p1, p2, m, j, a1, a2, a3, a4, a5, a6, b1, b2, b3, b4, ns, mo, pl, cda, cc, ho, hcd, ks, kl, kp, kc, hcell, hev, ⟨cl, cld, csl, hcc⟩, ccl, cdd, vs, ccs, file, tf, hcode, hvs, hfile⟩ := T.fn
  obtain ⟨nm, q, N, bs, bm, sn, sub, ab, col, dd, k0, k1, k2, k3, k5, hC, hbm⟩ := T.cls
  have hcl : clsIn K C = some { name := nm, bases := bs, mro := .ref C :: bm, ns := N, qualname := q, hasDict := true, slotNames := sn, subclasses := sub, abstract := ab, collection := col, hasDel := false } := by unfold clsIn; rw [hC] <;> rfl
  have X0 : K.In s.heap := M.kin.keeps kb
  have hlim : s.heap.NoLimit := M.nolimit.keeps kb
  have hkind : ({ kind := .function, names := ns, isGenerator := false, isCoroutine := false, more := mo } : Scope).kind = .function := rfl
  have hxC : x ≠ C := fun z => by
    have e := M.kin _ _ hC
    rw [← z, hnx] at e
    cases e
  refine ks_codeAny_call_defAt (fd := ksFn "__init__" "BadText.__init__" (iA p1 p2) (iB m j a1 a2 a3 a4 a5 a6 b1 b2 b3 b4) { kind := .function, names := ns, isGenerator := false, isCoroutine := false, more := mo } .none .none doc pm an (.ref cda) ct cc) (body := iB m j a1 a2 a3 a4 a5 a6 b1 b2 b3 b4) (binds := [("self", .ref x), ("line", v)])
    hroom (X0 _ _ ho) rfl hlim (codeRec_of X0 hcd) rfl (BindsTo.of_eq (by first | rfl | with_unfolding_all rfl)) hcell (fun y hy => ?_) (fun h₁ hn k => ?_) rfl rfl rfl
  · rcases List.mem_cons.mp hy with rfl | hy
    · exact ks
    rcases List.mem_cons.mp hy with rfl | hy
    · exact kl
    · cases hy
  have X₁ : K.In h₁ := X0.keeps k
  have hx₁ := k _ _ hx
  have hL : s.heap.objs.size < h₁.objs.size := hn.lt
  show _root_.PySem.wpAt _ _ _ (execs _ (ksEnv "BadText.__init__" { kind := .function, names := ns, isGenerator := false, isCoroutine := false, more := mo } s.heap.objs.size fI (.ref cda) cc)) _ _ _
  obtain ⟨mb, hmb1, hmb2⟩ := M.blt
  have kb1 : ∀ b o, base.get? b = some o → h₁.get? b = some o := fun b o e => k b o (kb b o e)
  refine ks_wpAt_execs_cons (ks_wpAt_Expr_any (ks_wpAt_MethodCall (pl := pl _) ?_ (hev _)) (hi := rfl))
  refine ks_wpAt_super_base (env := ksEnv "BadText.__init__" { kind := .function, names := ns, isGenerator := false, isCoroutine := false, more := mo } s.heap.objs.size fI (.ref cda) cc) kp kc (by decide) rfl (X₁ _ _ ho) rfl rfl rfl (X₁ _ _ hcode) rfl hvs hfile T.top ?_
  refine ks_loadName_global hkind kp (Calls.loadGlobal_builtin (env := ksEnv "BadText.__init__" { kind := .function, names := ns, isGenerator := false, isCoroutine := false, more := mo } s.heap.objs.size fI (.ref cda) cc) (M.glob.keeps kb1) hsu (hmb1.keeps kb1) ((hmb2 _ (by decide)).trans (by rfl)) ⟨rfl, ?_⟩)
  refine wpAny_loadName_free hkind kc rfl ⟨_, X₁ _ _ hcc, rfl⟩ ?_
  refine wpAny_loadName_local hkind ks hn (by first | rfl | with_unfolding_all rfl | kernel_rfl) ?_
  refine ks_wpAny_isType_cls (X₁ _ _ hC) rfl ⟨rfl, ?_⟩
  refine ks_wpAny_call_super (X₁ _ _ hC) rfl hx₁ rfl (fun c e => by cases e) (looks_mroIn X₁ T.sC) (fun h₂ hso k₂ => ?_)
  have X₂ : K.In h₂ := X₁.keeps k₂
  have hx₂ := k₂ _ _ hx₁
  have hm : alongIn K "__init__" (((Value.ref C :: bm).dropWhile (· != .ref C)).drop 1) = some (some (.builtin "ValueError.__init__")) := by
    have := T.su
    unfold ks_superIn at this
    rw [hcl] at this
    exact this
  refine kxs_getMethod kxs_ValueError hso (looks_opaque X₂ T.tp) (l₀ := .ref C :: bm) (fun A Q E s k q => wpAny_bind ((looks_clsIn X₂ hcl) A _ E s k (wpAny_pure q))) rfl X₂ hm ((InstAt.type (od := none) ⟨hx₂, rfl, rfl, trivial⟩).andThen (looks_subIn X₂ T.sv)) hxC (by decide) ?_
  show wpAny _ _ (callWith a5 (.ref h₂.objs.size) [] (backTo a5 (starEach [.Constant (.str m) j a4] _)) []) _ _ _
  refine callWith_mw1 (x := x) (i := "ValueError.__init__") (spliced_more (Calls.Constant_str (spliced_none ⟨Heap.get?_push_size h₂ rfl, ?_⟩)))
  have k₃ : ∀ b o, h₂.get? b = some o → (h₂.push (kxs_mw "ValueError.__init__" x)).get? b = some o := fun b o e => Heap.get?_push_of_some _ e
  refine call_mw (k₃ _ _ (X₂ _ _ hC)) (k₃ _ _ hx₂) (Heap.get?_push_size h₂ rfl) (one_size _) fun h₄ t1 k₄ hx₄ hsz => ?_
  have kx : ∀ b o, b ≠ x → h₁.get? b = some o → h₄.get? b = some o := fun b o hb e => k₄ b o hb (k₃ _ _ (k₂ _ _ e))
  have hK : K.lookup x = none := by
    cases e : K.lookup x with
    | none => rfl
    | some o =>
      have := M.kin _ _ e
      rw [hnx] at this
      cases this
  have X₄ : K.In h₄ := fun a o e => kx a o (fun z => by rw [z, hK] at e; cases e) (X₁ a o e)
  have hxL : s.heap.objs.size ≠ x := Nat.ne_of_gt (Heap.lt_size hx)
  have hn₄ : h₄.Ns s.heap.objs.size (fun y => ([(("self" : Str), Value.ref x), (("line" : Str), v)] : List (Str × Value)).reverse.lookup y) := by
    obtain ⟨oL, es, ep, h5, r⟩ := hn
    exact ⟨oL, es, ep, kx _ _ hxL h5, r⟩
  show _root_.PySem.wpAt _ _ _ (execs _ _) _ _ _
  refine _root_.PySem.wpAt_of_wpAny ?_
  refine wpAny_execs_cons (plainObj_wpAny_Assign_Attribute ?_)
  refine wpAny_Name (wpAny_loadName_local hkind kl hn₄ (v := v) (by first | rfl | with_unfolding_all rfl | kernel_rfl) ?_) (by decide)
  refine wpAny_Name (wpAny_loadName_local hkind ks hn₄ (v := .ref x) (by first | rfl | with_unfolding_all rfl | kernel_rfl) ?_) (by decide)
  refine set_plain X₄ (ox := excO C t1) (od := none) ⟨hx₄, rfl, rfl, trivial⟩ T.sa ?_
  refine exc_osa X₄ hx₄ hcl (show refsVE (.ref C :: bm) = true from hbm) rfl T.noN (fun h₅ tk₅ dx k₅ dn dne hx₅ hn₅ => ?_)
  show wpAny _ _ (execs _ _) _ _ _
  have z1 : h₁.objs.size ≤ h₂.objs.size := Nat.le_of_lt (Heap.lt_size hso)
  have z2 : h₂.objs.size ≤ (h₂.push (kxs_mw "ValueError.__init__" x)).objs.size := by simp
  have z4 : h₁.objs.size ≤ h₄.objs.size := Nat.le_trans z1 (Nat.le_trans z2 hsz)
  exact wpAny_execs_nil (hq h₅ tk₅ dx t1 ⟨fun b o hb e => k₅ b o hb (kx b o hb (k b o e)), hx₅, Nat.le_trans (Nat.le_of_lt hL) (Nat.le_trans z4 dn), dne, hn₅⟩)
end
end BTX
end PySem
namespace L2
open PySem PySem.Spec PyProof.Rows PySem.BTX
/-- C(e): a made exception with its own field line -/
def tMkB (C : Addr) (ta : TA) : St → Hp → XK → Prop := fun σ H Q => ta σ H fun vs H1 => ∃ v, vs = [v] ∧ ∀ d, H1 d = none → Q (.ref C) (some d) (upd H1 d (.xd [("line", v)]))
section
variable {X : Cx} {e : Expr} {ta : TA} {p pos : Pos}
theorem pmk_bt {x : Str} {C fI : Addr} (B : BtTxt X.prog X.K C fI) (T : Raises X (.ref C)) (kC : PySem.W.keepIn X.K (.ref C) = true) (hr : Room 3 X.A) (hsu : X.mg "super" = none) (hg : Gl X x) (hm : X.mg x = some (.ref C)) (ha : PA X [e] ta)
    (hdb : (x == ("__debug__" : Str)) = false := by decide) (he : starEach [e] X.env = (false, eval e X.env) :: starEach [] X.env := by rfl) (hpl : (backTo pos (starEach [] X.env)).any (·.1) = false := by rfl) :
    PMk X (.Call (.Name x p) [e] [] pos) (tMkB C ta) := by
  intro pins s σ H Q I h
  obtain ⟨nm, q, N, bs, bm, sn, sub, ab, col, dd, k0, k1, k2, k3, k5, hC, hbm⟩ := B.cls
  refine wpAny_Call_Name_kw (ld_glob I hg hm ?_ hdb)
  refine PySem.W.callWith_K (h₀ := X.base) I.ok.mod.kin kC (thn (ha.run pos pins s σ H _ I h) fun us s1 ⟨vs, H1, I1, r1, v, hv, q1⟩ => ⟨I1.kIn, ?_⟩) he hpl
  subst hv
  show wpAny _ _ (call (.ref C) us) _ _ _
  obtain ⟨u, rfl, ru⟩ := Vals.one r1
  obtain ⟨hp, g, dr, tk, os⟩ := s1
  have hsz : hp.objs.size ≤ hp.objs.size + 1 := Nat.le_succ _
  have hn : H1 (hp.objs.size + 1) = none := I1.hok.fresh hsz
  have kk : ∀ b o, hp.get? b = some o → ((hp.push (PySem.W.kdv_tup [u])).push (PySem.HandSPX.excO C hp.objs.size)).get? b = some o := fun b o e => Heap.get?_push_of_some _ (Heap.get?_push_of_some _ e)
  have hget : ((hp.push (PySem.W.kdv_tup [u])).push (PySem.HandSPX.excO C hp.objs.size)).get? (hp.objs.size + 1) = some (PySem.HandSPX.excO C hp.objs.size) := by heap_get
  have I2 : Inv X pins σ (upd H1 (hp.objs.size + 1) (exo (hp.objs.size + 1) C none)) ⟨(hp.push (PySem.W.kdv_tup [u])).push (PySem.HandSPX.excO C hp.objs.size), g, dr, tk, os⟩ :=
    I1.laid (t' := tk) (a := hp.objs.size + 1) (o := exo (hp.objs.size + 1) C none) (h' := (hp.push (PySem.W.kdv_tup [u])).push (PySem.HandSPX.excO C hp.objs.size)) kk hsz (exo_ok hget)
  have hnb : X.base.get? (hp.objs.size + 1) = none := by
    cases eb : X.base.get? (hp.objs.size + 1) with
    | none => rfl
    | some o => exact absurd (Heap.lt_size ((I1.bs _ _ eb).1)) (Nat.not_lt.mpr hsz)
  refine wpAny_call (PySem.HandSPX.call_own F.excBase_ValueError (fun Y => PySem.HandSPX.refsVE_contains Y bm hbm) (I1.kIn _ _ hC) (PySem.W.looks_findIn I1.kIn B.iC) (fun self => PySem.W.bind_fn I1.kIn self B.tC) (BTX.one_size u)
    (BTX.bt_init B I.ok.mod hsu (fun b o eb => kk b o (I1.bs b o eb).1) hget hnb ((hr.make C [u] []).depth) fun h' tk' d t1 IE => ?_))
  obtain ⟨k3', hx, dn, dne, hns⟩ := IE
  generalize hA : hp.objs.size + 1 = a at *
  generalize hP2 : (hp.push (PySem.W.kdv_tup [u])).push (PySem.HandSPX.excO C hp.objs.size) = hp2 at *
  have e : upd H1 a (exo a C none) a = some (exo a C none) := upd_same
  generalize hH : upd H1 a (exo a C none) = H2 at *
  have hnd : H2 d = none := I2.hok.fresh dn
  have nd : ∀ {b : Addr} {o : Obj}, hp2.get? b = some o → b ≠ d := fun {b o} q => Nat.ne_of_lt (Nat.lt_of_lt_of_le (Heap.lt_size q) dn)
  have na : ∀ {b : Addr}, H2 b = none → b ≠ a := fun {b} n z => by
    rw [z, e] at n
    cases n
  have Un1 : Un (frs X.stack) [] H2 (upd (upd H2 d (exd d [("line", v)])) a (exo a C (some d))) hp2 h' := {
    keep := fun b o q n _ _ => k3' b o (na n) q
    slot := fun b o q n _ _ => ⟨o.slots, k3' b o (na n) q⟩
    free := fun b o q n _ => by rw [upd_ne (na n), upd_ne (nd q)]; exact n
    there := fun b o q _ => by
      by_cases hb : b = a
      · exact ⟨_, by rw [hb]; exact hx⟩
      · exact ⟨o, k3' b o hb q⟩
    tups := fun b xs q => by rw [upd_ne (at_ne e q exo_tup), upd_ne (ne_of_none q hnd)]; exact q
    frzs := fun b o v q => by rw [upd_ne (at_ne e q exo_frz), upd_ne (ne_of_none q hnd)]; exact q
    tbls := fun b ps q => ⟨#[], by rw [upd_ne (at_ne e q exo_tbl), upd_ne (ne_of_none q hnd), q]; simp⟩ }
  have hok2 : HOk X.prog X.w (upd (upd H2 d (exd d [("line", v)])) a (exo a C (some d))) h' := fun b o q => by
    by_cases hb : b = a
    · subst hb
      rw [upd_same] at q
      cases q
      exact exo_ok hx
    · rw [upd_ne hb] at q
      by_cases hd : b = d
      · subst hd
        rw [upd_same] at q
        cases q
        exact exd_ok hns (relO_put (fs := []) ru fun g => True.intro)
      · rw [upd_ne hd] at q
        exact (I2.hok b o q).stay (fun c v hc z => k3' c v (by
            rcases hc with hc | hc
            · rw [hc]
              exact hb
            · exact at_ne e hc exo_own) z)
          (fun c hc => by rw [upd_ne (at_ne e hc exo_own), upd_ne (ne_of_none hc hnd)]; exact hc) (fun c xs hc => by rw [upd_ne (at_ne e hc exo_tup), upd_ne (ne_of_none hc hnd)]; exact hc)
  have hd1 : H1 d = none := by
    have := hnd
    rw [← hH, upd_ne dne] at this
    exact this
  have eH : upd (del (upd (upd H2 d (exd d [("line", v)])) a (exo a C (some d))) a) d (.xd [("line", v)]) = upd H1 d (.xd [("line", v)]) := by
    funext b
    by_cases hb : b = d
    · rw [hb, upd_same, upd_same]
    · rw [upd_ne hb, upd_ne hb]
      by_cases hb2 : b = a
      · rw [hb2, del_same, hn]
      · rw [del_ne hb2, upd_ne hb2, upd_ne hb, ← hH, upd_ne hb2]
  subst hH
  have hsz' : hp.objs.size ≤ a := by omega
  exact ⟨rfl, mk_end (d2 := dr) (t2 := tk') (os2 := os) T I1 hsz' kk Un1 hok2 rfl I1.bare upd_same (by rw [upd_ne dne, upd_same]) hd1 (by rw [eH]; exact q1 d hd1)⟩
end
end L2

set_option Elab.async false
set_option linter.all false
set_option maxRecDepth 100000
set_option maxHeartbeats 4000000
/-! NYX2: isinstance of a caught exception with an own dict; raise X(e); except suites that read the field -/
namespace PySem.W
open PySem PySem.Spec PySem.Calls PyProof.Rows
section
variable {prog : Program} {w : World} {A : Around} {E : Value → Shared → Prop} {s : Shared} {K : Frag} {x D : Addr} {ox : Obj} {od : Option Obj}
theorem ny_findObj {C : Addr} {name : Str} {a g : Value} (hc : (clsIn K C).isSome = true) (ha : findIn K (.ref C) name = some (some a)) (hg : specialIn K a "__get__" = some (some g)) (ht : takesIn K a = some true) : findObj K C od name = some (.bind g a) := by
  obtain ⟨cd, hc⟩ := Option.isSome_iff_exists.mp hc
  unfold findObj
  rw [hc, Option.bind_some, ha, Option.bind_some]
  simp [hg, ht]
theorem ny_kin_class {Q : Option Value → Shared → Prop} (hga : findIn K (.ref D) "__getattribute__" = some (some (.builtin "BaseException.__getattribute__"))) (hgt : findIn K (.ref D) "__getattr__" = some none) (hsub : subIn K (.ref D) (.type "BaseException") = some true)
    (hdct : hasDictIn K D = true) (ha : findIn K (.ref D) "__class__" = some (some (.builtin "object.__class__")))
    (hn : specialIn K (.builtin "object.__class__") "__get__" = some (some (.builtin "getset_descriptor.__get__"))) (htk : takesIn K (.builtin "object.__class__") = some true) (hm : mroIn K D (.type "object") = some true)
    (X : K.In s.heap) (I : InstAt s.heap x ox D od) (h : Q (some (.ref D)) { s with toks := s.toks + 1 }) : wpAny (model prog w) A (getAttr? (.ref x) "__class__") Q E s := by
  have hf : findObj K D od "__class__" = some (.bind (.builtin "getset_descriptor.__get__") (.builtin "object.__class__")) := ny_findObj (by obtain ⟨cd, hc, _⟩ := any_some hdct; rw [hc]; rfl) ha hn htk
  obtain ⟨hp, g, d, t, os⟩ := s
  have L0 := I.type (M := model prog w)
  have L1 := looks_findIn (M := model prog w) X hga
  have L2 := looks_findIn (M := model prog w) X hgt
  have L3 := looks_find (M := model prog w) X I hf
  have sub : Looks (model prog w) hp (isInstance (.ref x) (.type "BaseException")) true := L0.andThen (looks_subIn X hsub)
  have hx0 : (false && onTheHeap (Value.builtin "BaseException.__getattribute__")) = false := rfl
  have hx2 : (Value.builtin "BaseException.__getattribute__" == Value.builtin "object.__getattribute__") = false := by decide +kernel
  have hx1 : (onTheHeap (Value.ref D) && Value.builtin "BaseException.__getattribute__" == Value.builtin "object.__getattribute__") = false := by rw [hx2]; rfl
  unfold getAttr? getAttrBy? getAttrBy
  refine wpAny_bind (wpAny_mkText (wpAny_bind (wpAny_attempt (wpAny_holding (wpAny_bind (L0.at (wpAny_bind (L1.at ?_))))))))
  show wpAny _ _ (if (onTheHeap (Value.ref D) && Value.builtin "BaseException.__getattribute__" == Value.builtin "object.__getattribute__") = true then _ else _) _ _ _
  rw [hx1, if_neg Bool.false_ne_true]
  unfold getAttrByItsOwn hookBefore
  refine wpAny_bind ?_
  rw [if_pos (show onTheHeap (Value.ref D) = true from rfl)]
  refine L2.at ?_
  refine wpAny_bind (wpAny_attempt (wpAny_holding ?_))
  unfold callGetattribute
  rw [hx0, if_neg Bool.false_ne_true]
  unfold boundAndCalled
  rw [PySem.F.excAttr_ValueError.ga.bind (.ref x)]
  refine wpAny_bind (wpAny_pure ?_)
  show wpAny _ _ (call (.builtin "BaseException.__getattribute__") [.ref x, .str "__class__" t]) _ _ _
  refine wpAny_call (codeAny_call_builtin PySem.F.excAttr_ValueError.ga.plain PySem.F.entry_bexc_ga ?_)
  refine @check_slot (model prog w) _ _ ⟨hp, g, d, t + 1, os⟩ "BaseException.__getattribute__" "BaseException" "__getattribute__" (.ref x) [.str "__class__" t] [] _ (by decide +kernel) (by decide +kernel) sub (PySem.F.args_bexc_ga (.ref x) (.str "__class__" t)) ?_
  unfold Builtin.«object.__getattribute__»
  refine wpAny_bind (wpAny_of_eq (a := ((Value.ref x : Value), [Value.str "__class__" t])) (by first | rfl | (simp only [slotArgs]; rfl)) ?_)
  refine wpAny_bind (wpAny_pure (wpAny_bind (L0.at (wpAny_bind (L3.at ?_)))))
  show wpAny _ _ (holding [Value.builtin "object.__class__"] (call (.builtin "getset_descriptor.__get__") [.builtin "object.__class__", .ref x, .ref D]) >>= ret) _ _ _
  refine wpAny_bind (wpAny_holding (wpAny_call (class_get (s := ⟨hp, g, d, t + 1, os⟩) (ox := ox) (od := od) X I hm ?_)))
  refine wpAny_pure ?_
  show wpAny _ _ (handedOut (.ref D)) _ _ _
  rw [handedOut_of (v := .ref D) rfl]
  first
    | exact wpAny_pure (wpAny_pure h)
    | exact wpAny_pure h
    | exact wpAny_pure (wpAny_bind (wpAny_pure (wpAny_pure h)))
theorem ny_kitx (hga : findIn K (.ref D) "__getattribute__" = some (some (.builtin "BaseException.__getattribute__"))) (hgt : findIn K (.ref D) "__getattr__" = some none) (hsub : subIn K (.ref D) (.type "BaseException") = some true) (hdct : hasDictIn K D = true) (ha : findIn K (.ref D) "__class__" = some (some (.builtin "object.__class__")))
    (hn : specialIn K (.builtin "object.__class__") "__get__" = some (some (.builtin "getset_descriptor.__get__"))) (htk : takesIn K (.builtin "object.__class__") = some true) (hm : mroIn K D (.type "object") = some true) :
    KitX K (.ref x) (.ref D) (fun h => ∃ od, InstAt h x ox D od) where
  ty := fun _ _ _ ⟨_, I⟩ => I.type
  it := fun _ _ X _ => by
    obtain ⟨cdD, hcD, _⟩ := any_some hdct
    unfold clsIn at hcD
    split at hcD
    · rename_i c' d' cd' sl' ho
      intro A' Q' E' s' k q
      unfold isType loadHead
      exact wpAny_bind (wpAny_loadPart (k _ _ (X _ _ ho)) (wpAny_pure q))
    · cases hcD
  ne := fun h tp dd its n sl X htp => by
    obtain ⟨cdD, hcD, _⟩ := any_some hdct
    refine Bool.eq_false_iff.mpr fun q => ?_
    have e : D = tp := Value.ref.inj (beq_iff_eq.mp q)
    subst e
    unfold clsIn at hcD
    split at hcD
    · rename_i c' d' cd' sl' ho
      have z := (X _ _ ho).symm.trans htp
      cases z
    · cases hcD
  ca := fun X ⟨_, I⟩ k => ny_kin_class hga hgt hsub hdct ha hn htk hm X I k
end
end PySem.W
namespace L2
open PySem PySem.Spec PyProof.Rows
/-- isinstance(e, c), e the exception that the suite holds, its dict at dd -/
def rIsG (K : PySem.W.Frag) (D a dd : Addr) : List V → Hp → VK → Prop := fun xs H Q => ∃ (c : V) (cv : Value) (b : Bool) (fs : List (Str × V)), xs = [.ref a, c] ∧ (∀ u, RelV c u → u = cv) ∧ PySem.W.kitOne K (.ref D) cv = some b ∧ H dd = some (.xd fs) ∧ Q (.bl b) H
theorem call_isG {X : Cx} {a D dd : Addr} {oe : Obj} {pn : List (Addr × Obj)} (C : ExcC X.K D) (hz : Zc (.ref D) (some dd) oe) (hf : ∃ vs, oe.data = .fields vs) : CallR (X.suite a ((a, oe) :: pn)) (.builtin "isinstance") (rIsG X.K D a dd) := by
  intro pins s σ H xs us Q I r h
  obtain ⟨c, cv, b, fs, rfl, hcv, e, hd, q⟩ := h
  cases r with
  | cons rx rr =>
    cases rr with
    | cons rt rr =>
      cases rr
      cases rx
      have ec := hcv _ rt
      subst ec
      obtain ⟨hget, _⟩ := I.pin (a, oe) (List.mem_append.mpr (.inl List.mem_cons_self))
      obtain ⟨vs, hv⟩ := hf
      have hx : ObjOk X.prog X.w H s.heap dd (.xd fs) := I.hok dd _ hd
      obtain ⟨mA, ⟨od, es, ep, ho, _⟩, hr⟩ := hx
      have J : ∃ od, PySem.W.InstAt s.heap a oe D od := by
        obtain ⟨oc, od', oda, osl⟩ := oe
        obtain ⟨h1, h2⟩ := hz
        dsimp only at h1 h2 hv
        subst h1 h2 hv
        exact ⟨some od, hget, rfl, rfl, ho⟩
      exact PySem.W.kia_one (PySem.W.ny_kitx C.hg C.hk C.hs C.hd C.ha C.hn C.ht C.hm) I.kIn J e (fun z => nomatch z) fun tk => ⟨.bl b, H, I.kept (t' := tk) fun _ _ z => z, rfl, q⟩
end L2
namespace NY
open PySem PySem.Spec PyProof.Rows L2
/-- raise X(e): the class, the number of its field -/
def sRaiseV (c f : Nat) (m : NE) : NS := fun σ N => match m σ N with
  | .ok v N1 => .exc ⟨c, [(f, v)]⟩ σ N1
  | .exc x N1 => .exc x σ N1
  | .bad => .bad
/-- what a row says of such a class -/
structure XV (P : Program) (K : PySem.W.Frag) (mg : Str → Option Value) (x : Str) (a : Addr) : Prop where
  gC : mg x = some (.ref a)
  bt : ∃ fI, BTX.BtTxt P K a fI
  kC : PySem.W.keepIn K (.ref a) = true
  s : PySem.W.subIn K (.ref a) (.type "BaseException") = some true
  t : PySem.W.typeIn K (.ref a) = some (.type "type")
  su : mg "super" = none
/-- .. and of one that is caught -/
structure XW (K : PySem.W.Frag) (mg : Str → Option Value) (x : Str) (a : Addr) (y : Str) : Prop extends XT K mg x a, XI K mg a y where
  xf : XfC K a
  nl : PySem.W.findIn K (.ref a) "line" = some none
theorem wp_raiseV {c f : Nat} {m : NE} {σ : NEnv} {N : NH} {e : En} (h : wpR (m σ N) (fun v N1 => e.ex ⟨c, [(f, v)]⟩ σ N1) (fun x N1 => e.ex x σ N1)) : wpS (sRaiseV c f m σ N) e := by
  unfold sRaiseV
  with_unfolding_all
    revert h
    cases m σ N with
    | ok v N1 => exact fun h => h
    | exc x N1 => exact fun h => h
    | bad => exact fun h => h
end NY

set_option Elab.async false
set_option linter.all false
set_option maxRecDepth 100000
set_option maxHeartbeats 4000000
/-! NYX3: raise X(e), and except suites that return what the field tells -/
namespace NY
open PySem PySem.Spec PyProof.Rows L2
section
variable {X : Cx} {C : NC} {W : WX} {p p2 np pos pos' : Pos} {k : Nat}
theorem s_raiseV {c f : Nat} {x : Str} {e : Expr} {m : NE} (G : Go X W k) (F : XV X.prog X.K X.mg x (C.cls c)) (hf : C.names[f]? = some "line") (ha : PE X e (tE X.K C W m)) (h3 : 3 ≤ k := by decide) (hc : X.calm = true := by rfl) (hg : Gl X x := by rfl) (hdb : (x == ("__debug__" : Str)) = false := by decide)
    (he : starEach [e] X.env = (false, eval e X.env) :: starEach [] X.env := by rfl) (hpl : (backTo pos (starEach [] X.env)).any (·.1) = false := by rfl) :
    PS X (.Raise (some (.Call (.Name x p) [e] [] pos)) none pos') (tS X.K C W (sRaiseV c f m)) := by
  obtain ⟨fI, B⟩ := F.bt
  refine ps_weak (ps_raise hc G.tk (pmk_bt B (raises_own F.s F.t) F.kC (G.hr.mono h3) F.su hg F.gC (n_cons (C := C) (W := W) ha n_nil he) hdb he hpl)) ?_
  rintro D σ H ⟨ρ, σn, N, R, S, q⟩
  refine ⟨ρ, σn, N, R, S, ?_⟩
  unfold sRaiseV at q
  show PostR _ _ _ _ _ _ _ _ ((m σn N).bind fun v N1 => (nNil σn N1).bind fun vs N2 => .ok (v :: vs) N2)
  cases hm : m σn N with
  | ok v N1 =>
    rw [hm] at q
    intro vs H' ρ' E R' rs
    obtain ⟨y, rfl, ry⟩ := rs.one_of
    refine ⟨y, rfl, fun d hd => ?_⟩
    obtain ⟨E2, R2⟩ := R'.side (u := .xd [("line", y)]) hd
    exact q _ (some d) σ _ ρ' (E.trans E2) R2 (S.ext (E.trans E2)) ⟨rfl, R'.fresh hd, by simp, _, upd_same, "line", y, [], rfl, hf, ry.ext E2, rfl⟩
  | exc x N1 =>
    rw [hm] at q
    intro c dx H' ρ' E R' rx
    exact q c dx σ H' ρ' E R' (S.ext E) rx
  | bad =>
    rw [hm] at q
    exact q.elim
/-- try b, except the class c, whose one field is f: what g does with it -/
def sTryL (b : NS) (c f : Nat) (g : D → NS) : NS := fun σ N => match b σ N with
  | .exc x σ1 N1 => if x.cls = c then (match x.fs with
    | [(f', v)] => if f' = f then g v σ1 N1 else .bad
    | _ => .bad) else .bad
  | r => r
/-- return e.line == t + 1 and isinstance(e, Y), t in slot j -/
def gEq (i j : Nat) (kb : Bool) : D → NS := fun v σ N => match v, σ[j]? with
  | .int a, some (some (.int b)) => if i < σ.length ∧ i ≠ j then .rt (.bl (decide (a = b + 1) && kb)) N else .bad
  | _, _ => .bad
/-- what the suite is to do, the exception's own dict at dd -/
def tsL (C : NC) (c i : Nat) (Rr : V → VK → L2.St → Hp → Prop) : Addr → Value → Option Addr → TS := fun a cls d D σ H =>
  cls = .ref (C.cls c) ∧ σ[i]? = some (some (.ref a)) ∧ ∃ (dd : Addr) (y : V), d = some dd ∧ H dd = some (.xd [("line", y)]) ∧ Rr y D.rt σ H
theorem try_line {c f i : Nat} {b : NS} {g : D → NS} {Rr : V → VK → L2.St → Hp → Prop} {D : Ends} {ρ : List Addr} {H : Hp} {σn : NEnv} {N : NH} {Cc : Value}
    (hcat : PySem.W.exmOne X.K (.ref (C.cls c)) Cc = some true) (hf : C.names[f]? = some "line")
    (hR : ∀ (D : Ends) v y (a : Addr) σ' H' ρ' σ1 N1, NRel X.K C ρ' N1 H' → RSt X.K ρ' H' σ1 σ' → RD X.K ρ' H' v y → PostS X.K C W D ρ' H' (g v σ1 N1) → i < σ1.length ∧ Rr y D.rt (σ'.set i (some (.ref a))) H')
    (q : PostS X.K C W D ρ H (sTryL b c f g σn N)) : PostS X.K C (wAs X.K Cc i (tsL C c i Rr) W D) D ρ H (b σn N) := by
  unfold sTryL at q
  cases e : b σn N with
  | nx σ1 N1 => rw [e] at q; exact q
  | rt d N1 => rw [e] at q; exact q
  | bk σ1 N1 => rw [e] at q; exact q
  | bad => rw [e] at q; exact q
  | exc x σ1 N1 =>
    rw [e] at q
    dsimp only at q
    intro cv dx σ' H' ρ' E' R' S' rx
    by_cases hc : x.cls = c
    · rw [if_pos hc] at q
      split at q
      · rename_i f' v hfs
        by_cases hff : f' = f
        · rw [if_pos hff] at q
          subst hff
          cases dx with
          | none =>
            have := rx.2
            rw [hfs] at this
            cases this
          | some dd =>
            obtain ⟨e1, e2, e3, l, e4, e5⟩ := rx
            rw [hfs] at e5
            obtain ⟨xn, y, s, rfl, e6, e7, e8⟩ := e5
            obtain rfl : s = [] := e8
            rw [hf] at e6
            obtain rfl := Option.some.inj e6
            rw [hc] at e1
            refine ⟨true, by rw [e1]; exact hcat, fun _ a ha => ?_, fun z => by cases z⟩
            obtain ⟨hl, hr⟩ := hR D v y a σ' H' ρ' σ1 N1 R' S' e7 (PostS.ext E' q)
            exact ⟨e1, by rw [List.getElem?_set_self (by rw [← S'.1]; exact hl)], dd, y, rfl, e4, hr⟩
        · rw [if_neg hff] at q; exact q.elim
      · exact q.elim
    · rw [if_neg hc] at q; exact q.elim
/-- try: body, except x as n: return n.line == t + 1 and isinstance(n, y) -/
theorem s_tryLE {c f i j : Nat} {x y n tn : Str} {body : List Stmt} {mb : NS} {j1 : Nat} {q1 q2 q3 q4 q5 q6 q7 q8 r1 r2 r3 r4 : Pos} (G : Go X W k) (F : XW X.K X.mg x (C.cls c) y) (hf : C.names[f]? = some "line") (hm : X.mg "isinstance" = none) (nd : X.N.Nodup) (hi : X.N[i]? = some n) (hj : X.N[j]? = some tn)
    (hb : ∀ (W : WX) (pn : List (Addr × Obj)) (xe : Value → Shared → Prop), Go (X.tr pn xe) W k → PSs (X.tr pn xe) body (tS X.K C W mb))
    (hs : X.stack = X.env :: X.outer := by rfl) (hfr : X.env.frame = some X.env.locals := by rfl) (hln : X.env.kindOf n = some .local := by rfl) (hg : Gl X x := by rfl) (hdb : (x == ("__debug__" : Str)) = false := by decide)
    (hgi : Gl X "isinstance" := by rfl) (hgy : Gl X y := by rfl) (hv : Vis X.env.scope n := by exact Or.inl rfl) (hvt : Vis X.env.scope tn := by exact Or.inl rfl) (hdy : (y == ("__debug__" : Str)) = false := by decide) (hdn : (n == ("__debug__" : Str)) = false := by decide) (hcn : (n == ("__classdict__" : Str)) = false := by decide)
    (hdt : (tn == ("__debug__" : Str)) = false := by decide) (hct : (tn == ("__classdict__" : Str)) = false := by decide)
    (hat : attributeBase (.Name n q1) "line" X.env (eval (.Name n q1) X.env) = eval (.Name n q1) X.env := by rfl)
    (he : starEach [.Name n q4, .Name y q5] X.env = (false, eval (.Name n q4) X.env) :: starEach [.Name y q5] X.env := by rfl) (he2 : starEach [.Name y q5] X.env = (false, eval (.Name y q5) X.env) :: starEach [] X.env := by rfl) (hpl : (backTo q6 (starEach [.Name y q5] X.env)).any (·.1) = false := by rfl) :
    PS X (.Try body [.ExceptHandler (some (.Name x np)) (some n) [.Return (some (.BoolOp .And [.Compare (.Attribute (.Name n q1) "line" q2) [.Eq] [.BinOp (.Name tn r1) .Add (.Constant (.int 1) j1 r2) r3] r4, .Call (.Name "isinstance" q3) [.Name n q4, .Name y q5] [] q6] q7)) q8] pos'] [] [] pos) (tS X.K C W (sTryL mb c f (gEq i j true))) := by
  obtain ⟨Cy, gy, hk⟩ := F.cy
  refine ps_weak (ps_try_as (i := i) (tb := fun W => tS X.K C W mb) (ts := tsL C c i fun y rt σ H => ∃ l b : Int, y = .int l ∧ σ[j]? = some (some (.int b)) ∧ rt (.bl (decide (l = b + 1))) H) hs hfr nd hi hln ⟨hg, hdb, .inl F.gC⟩ G.tk (fun W pn xe tk po => hb W pn xe ⟨tk, po, G.hr⟩) ?_) ?_
  · intro a oe cls d pn hz hv'
    refine pss_one ⟨fun pins s σ H D I' ⟨e1, hσ, dd, yv, e2, hdd, l, b, e3, hσj, q⟩ => ?_⟩
    subst e1 e2 e3
    have pa1 := pe_xf (X := X) (pos := q2) F.xf F.nl hz hv' (pe_var (X := X.suite a ((a, oe) :: pn)) (pos := q1) hi hv hdn hcn) hat
    have pe1 := pe_callB (p := q3) (pos := q6) (X := X.suite a ((a, oe) :: pn)) (call_isG F.ex hz hv') hgi hm boot_isinstance (pa_cons (pe_var (X := X.suite a ((a, oe) :: pn)) (pos := q4) hi hv hdn hcn) (pa_cons (pe_glob (X := X.suite a ((a, oe) :: pn)) (v := .ref Cy) (pos := q5) hgy gy rfl hdy) pa_nil he2) he) (by decide) (by decide) he hpl
    have pe2 := pe_op (pos := r3) (X := X.suite a ((a, oe) :: pn)) op_add (pe_var (X := X.suite a ((a, oe) :: pn)) (pos := r1) hj hvt hdt hct) (pe_int (i := 1) (j := j1) (pos := r2))
    have pe3 := pe_cmp (pos := r4) (pc_eqI pa1 pe2)
    refine (ps_ret (pe_and pe3 (pe_one pe1))).run pins s σ H D I' ?_
    refine ⟨.ref a, hσ, rfl, rfl, dd, [("line", .int l)], .int l, rfl, hdd, rfl, .int b, hσj, b, 1, rfl, rfl, l, b + 1, rfl, rfl, decide (l = b + 1), rfl, ?_⟩
    cases hd : decide (l = b + 1) with
    | false => rw [hd] at q; exact q
    | true => rw [hd] at q; exact ⟨.ref a, hσ, .ref Cy, .ref Cy, true, _, rfl, fun u r => r, hk, hdd, q⟩
  · rintro D σ H ⟨ρ, σn, N, R, S, q⟩
    refine ⟨ρ, σn, N, R, S, try_line (F.cat _ _ (if_pos rfl)) hf (fun D v y a σ' H' ρ' σ1 N1 R1 S1 rd q1 => ?_) q⟩
    unfold gEq at q1
    split at q1
    · rename_i la b hb'
      split at q1
      · rename_i hl
        obtain ⟨vb, h1, h2⟩ := S1.2 j _ hb'
        obtain rfl : vb = .int b := h2
        obtain rfl : y = .int la := rd
        refine ⟨hl.1, la, b, rfl, by rw [List.getElem?_set_ne hl.2]; exact h1, ?_⟩
        have := q1 (.bl (decide (la = b + 1) && true)) H' ρ' .refl R1 rfl
        rwa [Bool.and_true] at this
      · exact q1.elim
    · exact q1.elim
end
end NY
namespace NY
open PySem PySem.Spec PyProof.Rows L2
/-- what the text of such an __init__ says -/
def BtText (st : Stmt) : Prop := ∃ (p1 p2 : Pos) (m : Str) (j : Nat) (a1 a2 a3 a4 a5 a6 b1 b2 b3 b4 : Pos) (ns : List (Str × NameKind)) (mo : List (Str × Const)) (pl : Env → Sem Bool),
  defArgs st = BTX.iA p1 p2 ∧ defBody st = BTX.iB m j a1 a2 a3 a4 a5 a6 b1 b2 b3 b4 ∧ defScope st = { kind := .function, names := ns, isGenerator := false, isCoroutine := false, more := mo } ∧
  ns.lookup ("self" : Str) = some .local ∧ ns.lookup ("line" : Str) = some .local ∧ ns.lookup ("super" : Str) = some .globalImplicit ∧ ns.lookup ("__class__" : Str) = some .free ∧ (∀ x ∈ ns, x.2 ≠ .cell) ∧
  ∀ env, eval (.Call (.Attribute (.Call (.Name "super" a1) [] [] a2) "__init__" a3) [.Constant (.str m) j a4] [] a5) env = (do
        let ov ← attributeBase (.Call (.Name "super" a1) [] [] a2) "__init__" env (eval (.Call (.Name "super" a1) [] [] a2) env)
        standAt a3.atName
        let (f, first) ← holding [ov] (getMethod ov "__init__" (pl env))
        callWith a5 f first (backTo a5 (starEach [.Constant (.str m) j a4] env)) [])
theorem bt_mk {P : Program} {K : PySem.W.Frag} {C fI Yw cda cc : Addr} {st : Stmt} {nm q : Str} {N : Addr} {bs : List Value} {sn : List Str} {sub : List Value} {ab : Bool} {col : Option Bool} {dd : Option Addr} {m0 m1 m2 m3 m5 : Option Value}
    {oc doc pm ct cl ccl : Value} {od an cld cdd : Option Addr} {osl csl ccs : Array (Option Value)} {vs : Array Value} {file : Str} {tf : Tok} (ht : BtText st)
    (xL : K.lookup C = some (PySem.excClassObj nm q C N bs [.ref Yw, .type "ValueError", .type "Exception", .type "BaseException", .type "object"] true sn sub ab col dd m0 m1 m2 m3 m5 "ValueError.__new__"))
    (sa : PySem.W.findIn K (.ref C) "__setattr__" = some (some (.builtin "object.__setattr__"))) (nl : PySem.W.findIn K (.ref C) "line" = some none) (iC : PySem.W.findIn K (.ref C) "__init__" = some (some (.ref fI))) (tC : PySem.W.typeIn K (.ref fI) = some (.type "function"))
    (su : PySem.W.ks_superIn K C C "__init__" = some (some (.builtin "ValueError.__init__"))) (sv : PySem.W.subIn K (.ref C) (.type "ValueError") = some true) (sC : PySem.W.mroIn K C (.ref C) = some true) (tp : PySem.W.nsIn K cStatics "thirdparty.any" = some none)
    (top : (P.main.scope.names.lookup ("super" : Str)).isSome = false)
    (lB : K.lookup fI = some ⟨oc, od, .func (PySem.W.ksFn "__init__" "BadText.__init__" (defArgs st) (defBody st) (defScope st) .none .none doc pm an (.ref cda) ct cc), osl⟩) (cB : PySem.W.codeIn K (.ref cda) "BadText.__init__" = true)
    (lC : K.lookup cc = some ⟨cl, cld, .cell (some (.ref C)), csl⟩) (lD : K.lookup cda = some ⟨ccl, cdd, .fields vs, ccs⟩) (hv : vs[2]? = some (.str file tf)) (hf : ((P.main.file : Str) == file) = true) : BTX.BtTxt P K C fI := by
  obtain ⟨p1, p2, m, j, a1, a2, a3, a4, a5, a6, b1, b2, b3, b4, ns, mo, pl, e1, e2, e3, k1, k2, k3, k4, k5, k6⟩ := ht
  rw [e1, e2, e3] at lB
  exact { cls := ⟨nm, q, N, bs, _, sn, sub, ab, col, dd, m0, m1, m2, m3, m5, xL, by rfl⟩, sa := sa, noN := nl, iC := iC, tC := tC, su := su, sv := sv, sC := sC, tp := tp, top := top,
          fn := ⟨oc, od, doc, pm, an, ct, osl, p1, p2, m, j, a1, a2, a3, a4, a5, a6, b1, b2, b3, b4, ns, mo, pl, cda, cc, lB, cB, k1, k2, k3, k4, k5, k6, ⟨cl, cld, csl, lC⟩, ccl, cdd, vs, ccs, file, tf, lD, hv, hf⟩ }
end NY

set_option Elab.async false
set_option linter.all false
set_option maxRecDepth 100000
set_option maxHeartbeats 4000000
/-! NYX4: a list comprehension whose element may let an exception out -/
namespace PySem
namespace HandSPX
end HandSPX
end PySem

namespace L2
open PySem PySem.Spec PyProof.Rows

end L2

namespace NY
open PySem PySem.Spec PyProof.Rows L2
end NY

set_option Elab.async false
set_option linter.all false
set_option maxRecDepth 100000
set_option maxHeartbeats 4000000
/-! NYX5: e.replace(y, z, 1) of written texts, behind a test that gives a token out -/
namespace PySem
open Builtin Builtin.Str
namespace Txt
/-- the first y alone goes -/
def replace1 (x y z : Str) : Str :=
  if ((occurrences x y 0 x.length 1).isEmpty || (y.length == 0 && z.length == 0)) = true then x
  else glued z (partsBetween x (occurrences x y 0 x.length 1) y.length)
end Txt
namespace SC
theorem gives_replace1 (x y z : Str) (t u v w : Tok)
    (hf : ((occurrences x y 0 x.length 1).isEmpty || (y.length == 0 && z.length == 0)) = false →
      (u == 0 || v == 0) = false ∧ (u == v) = false ∧ (y == z) = false ∧ tooLong (x.length + (occurrences x y 0 x.length 1).length * z.length) = false) :
    Gives («str.replace» ⟨[.str x t, .str y u, .str z v, .int 1 w], []⟩) (if ((occurrences x y 0 x.length 1).isEmpty || (y.length == 0 && z.length == 0)) = true then .val (.str x t) else .str (glued z (partsBetween x (occurrences x y 0 x.length 1) y.length))) := by
  show Gives (if ((occurrences x y 0 x.length 1).isEmpty || (y.length == 0 && z.length == 0)) = true then (do rule "str.replace.nothing"; ret (.str x t)) else
          (do let same ← isSame (.str y u) (.str z v)
              if same = true then (do rule "str.replace.old-is-new"; ret (.str x t)) else
              if tooLong (x.length + (occurrences x y 0 x.length 1).length * z.length) = true then unsupported "str.replace:memory" else
              retStr (glued z (partsBetween x (occurrences x y 0 x.length 1) y.length)))) _
  cases hc : ((occurrences x y 0 x.length 1).isEmpty || (y.length == 0 && z.length == 0))
  · obtain ⟨h0, huv, hyz, hl⟩ := hf hc
    rw [isSame_str_other y z u v h0 huv hyz, hl]
    exact .of_eq rfl
  · exact .rule (.of_eq rfl)
theorem fits1 {x z : Str} (y : Str) (hb : x.length + (x.length + 1) * z.length ≤ 16777216) :
    (glued z (partsBetween x (occurrences x y 0 x.length 1) y.length)).length ≤ sizeLine := by
  have h1 := StrLaws.occ_length_le x y 0 x.length 1
  have hy : (glued y (partsBetween x (occurrences x y 0 x.length 1) y.length)).length = x.length := by rw [StrLaws.glued_between_self]
  rw [size_glued, length_partsBetween, Nat.add_sub_cancel] at hy
  rw [size_glued, length_partsBetween, Nat.add_sub_cancel, sizeLine_eq]
  have h2 : (occurrences x y 0 x.length 1).length * z.length ≤ (x.length + 1) * z.length := Nat.mul_le_mul_right _ (Nat.le_trans h1 (by omega))
  omega
section
variable {prog : Program} {w : World} {A : Around} {E : Value → Shared → Prop} {s : Shared} {x y z : Str} {t u v w1 : Tok} {Q : Value → Shared → Prop}
theorem replace1 (hu : u ≠ 0) (hv : v ≠ 0) (huv : u ≠ v) (hyz : (y == z) = false) (hb : x.length + (x.length + 1) * z.length ≤ 16777216)
    (hq : ∀ t' k, Q (.str (Txt.replace1 x y z) t') { s with toks := k }) : wpAny (model prog w) A (call (.builtin "str.replace") [.str x t, .str y u, .str z v, .int 1 w1]) Q E s := by
  have e : (2 : Nat) ^ 24 = 16777216 := by decide
  have hl : tooLong (x.length + (occurrences x y 0 x.length 1).length * z.length) = false := by
    have h1 := StrLaws.occ_length_le x y 0 x.length 1
    have h2 : (occurrences x y 0 x.length 1).length * z.length ≤ (x.length + 1) * z.length := Nat.mul_le_mul_right _ (Nat.le_trans h1 (by omega))
    unfold tooLong sizeLine
    exact decide_eq_false (by omega)
  refine call_gives F.slot_str_replace (typeIs_str _ _ _) F.entry_str_replace (F.args_str_replace_4 _ _ _ _)
    (gives_replace1 x y z t u v w1 fun _ => ⟨by simp [hu, hv], by simp [huv], hyz, hl⟩) ?_
  have hq' := hq
  unfold Txt.replace1 at hq'
  cases hc : ((occurrences x y 0 x.length 1).isEmpty || (y.length == 0 && z.length == 0))
  · rw [hc] at hq'
    simp only [Bool.false_eq_true, if_false] at hq' ⊢
    exact ⟨fits1 y hb, hq' _ _⟩
  · rw [hc] at hq'
    simp only [if_true] at hq' ⊢
    exact hq' t s.toks
end
end SC
end PySem
namespace L2
open PySem PySem.Spec PyProof.Rows
def tRepl1 (to : TE) (y z : Str) : TE := fun σ H Q => to σ H fun v H1 => ∃ x, v = .str x ∧ x.length + (x.length + 1) * z.length ≤ 16777216 ∧ Q (.str (Txt.replace1 x y z)) H1
section
variable {X : Cx} {o e a b : Expr} {ta tb : TE} {to : TE} {y z : Str} {j k i : Nat} {m : Int} {c0 c1 c2 apos pos p p' : Pos}
theorem call_method3 {P : Program} {w : World} {A : Around} {E : Value → Shared → Prop} {env : Env} {s : Shared} {o e₁ e₂ e₃ : Expr} {name : Str} {apos pos : Pos} {Q : Value → Shared → Prop}
    (hbase : attributeBase o name env (eval o env) = eval o env) (hs : starEach [e₁, e₂, e₃] env = [(false, eval e₁ env), (false, eval e₂ env), (false, eval e₃ env)]) (hline : (apos.endLine == pos.line) = true)
    (h : wpAny (model P w) A (eval o env) (fun ov s₁ => MethodOnS P w A E name ov pos [(false, eval e₁ env), (false, eval e₂ env), (false, eval e₃ env)] Q s₁) E s) :
    wpAny (model P w) A (eval (.Call (.Attribute o name apos) [e₁, e₂, e₃] [] pos) env) Q E s := by
  refine wpAny_Call_method_lateS hbase (by rw [hs]; rfl) hline ?_
  rw [hs]; exact h
theorem pet_repl1 (ho : PE X o to) (hyz : (y == z) = false := by decide)
    (hst : starEach [.Constant (.str y) j c0, .Constant (.str z) k c1, .Constant (.int 1) i c2] X.env = [(false, eval (.Constant (.str y) j c0) X.env), (false, eval (.Constant (.str z) k c1) X.env), (false, eval (.Constant (.int 1) i c2) X.env)] := by rfl)
    (hbase : attributeBase o "replace" X.env (eval o X.env) = eval o X.env := by rfl) (hline : (apos.endLine == pos.line) = true := by rfl) :
    PET X (.Call (.Attribute o "replace" apos) [.Constant (.str y) j c0, .Constant (.str z) k c1, .Constant (.int 1) i c2] [] pos) (tRepl1 to y z) := by
  intro pins s σ H Q h0 I h
  refine call_method3 hbase hst hline (wpAny_mono (PySem.wpAny_toks (ho.run pins s σ H _ I h)) (fun v s1 q => ?_) fun _ _ z => z.2)
  obtain ⟨hk, v', H1, I1, r1, x, e1, hb, q⟩ := q
  subst e1
  obtain ⟨tx, e2⟩ := r1
  subst e2
  refine ⟨"str", _, PySem.F.plainAttrs_str, PySem.F.slot_str_replace, PySem.F.type_str_replace, typeIs_str _ _ _, (fun _ e => nomatch e), Calls.callWith_builtin rfl (Calls.evalArgs_plain (Calls.spliced_cons ?_))⟩
  refine Calls.Constant_str (Calls.spliced_cons (Calls.Constant_str (Calls.spliced_cons (wpAny_Constant_int (Calls.spliced_nil ?_)))))
  exact PySem.SC.replace1 (by show s1.toks ≠ 0; omega) (by show s1.toks + 1 ≠ 0; omega) (by show s1.toks ≠ s1.toks + 1; omega) hyz hb fun t' k => ⟨.str (Txt.replace1 x y z), H1, I1.tok k, ⟨t', rfl⟩, q⟩
/-- a if c op an int else b: the test gives a token out -/
theorem pe_ifTok {op : CmpOp} {r : R2} {c : Expr} {tc : TE} (ho : OpR X (compareOp op) r) (hc : PE X c tc) (ha : PET X a ta) (hb : PE X b tb) (hm : behindInMarks op (.Constant (.int m) j p) = false) : PE X (.IfExp (.Compare c [op] [.Constant (.int m) j p] pos) a b p') (tIf (tTest (tOp r tc (tC (.int m)))) ta tb) := by
  refine ⟨fun pins s σ H Q I h => ?_⟩
  refine wpAny_IfExp (wpAny_isTrue_Compare1 (thn (hc.run pins s σ H _ I h) fun v s1 ⟨x, H1, I1, r1, q1⟩ => wpAny_Constant_int ?_) hm)
  refine wpAny_mono (PySem.wpAny_toks_of (n := 1) (by show 1 ≤ s1.toks + 1; omega) (ho pins _ σ H1 x (.int m) v _ _ (I1.tok _) r1 ⟨_, rfl⟩ q1)) (fun c s3 ⟨hk, z, H3, I3, r3, kb, e, q3⟩ => ?_) fun _ _ x => x.2
  subst e
  cases r3
  refine wpAny_truthy_bool ?_
  cases kb with
  | true => exact ha pins s3 σ H3 Q hk I3 q3
  | false => exact hb.run pins s3 σ H3 Q I3 q3
end
end L2
namespace NY
open PySem PySem.Spec PyProof.Rows L2
/-- e.replace(y, z, 1) -/
def nRepl1 (y z : Str) (m : NE) : NE := fun σ N => (m σ N).bind fun d N => match d with
  | .str x => if x.length + (x.length + 1) * z.length ≤ 16777216 then .ok (.str (Txt.replace1 x y z)) N else .bad
  | _ => .bad
section
variable {X : Cx} {C : NC} {W : WX} {o b c : Expr} {y z : Str} {j k i j1 : Nat} {m : Int} {c0 c1 c2 apos pos pos1 p p' : Pos}
theorem snd_repl1 {mo : NE} {σ : L2.St} {H : Hp} {Q : VK} (q : tE X.K C W (nRepl1 y z mo) σ H Q) : tRepl1 (tE X.K C W mo) y z σ H Q := by
  obtain ⟨ρ, σn, N, R, S, q⟩ := q
  refine PostR.then R S q fun x H1 ρ1 N1 d E1 R1 S1 rd q1 => ?_
  cases d with
  | str x' =>
    dsimp only at q1
    split at q1
    · rename_i hb
      exact ⟨x', rd, hb, q1.ok R1 rfl⟩
    · exact q1.elim
  | _ => exact q1.elim
theorem n_ifRepl1 {op : CmpOp} {f : D → D → NH → R D} {r : R2} {mc mo mb : NE} (ho : OpR X (compareOp op) r) (h : Snd2 X.K C f r) (hc : PE X c (tE X.K C W mc)) (hm : behindInMarks op (.Constant (.int m) j1 p) = false) (hov : PE X o (tE X.K C W mo)) (hb : PE X b (tE X.K C W mb)) (hyz : (y == z) = false := by decide)
    (hst : starEach [.Constant (.str y) j c0, .Constant (.str z) k c1, .Constant (.int 1) i c2] X.env = [(false, eval (.Constant (.str y) j c0) X.env), (false, eval (.Constant (.str z) k c1) X.env), (false, eval (.Constant (.int 1) i c2) X.env)] := by rfl)
    (hbase : attributeBase o "replace" X.env (eval o X.env) = eval o X.env := by rfl) (hline : (apos.endLine == pos.line) = true := by rfl) :
    PE X (.IfExp (.Compare c [op] [.Constant (.int m) j1 p] pos1) (.Call (.Attribute o "replace" apos) [.Constant (.str y) j c0, .Constant (.str z) k c1, .Constant (.int 1) i c2] [] pos) b p') (tE X.K C W (nIf (nBool (nOp2 f mc (nC (.int m)))) (nRepl1 y z mo) mb)) :=
  pe_weak (pe_ifTok ho hc (pet_repl1 hov hyz hst hbase hline) hb hm) fun σ H Q ⟨ρ, σn, N, R, S, q⟩ => by
    have q0 : PostR (RD X.K) X.K C W ρ H σ Q (((nBool (nOp2 f mc (nC (.int m)))) σn N).bind fun k N => if k = true then nRepl1 y z mo σn N else mb σn N) := q
    have q1 : tT X.K C W (nBool (nOp2 f mc (nC (.int m)))) σ H fun x H1 => if x = true then tRepl1 (tE X.K C W mo) y z σ H1 Q else tE X.K C W mb σ H1 Q :=
      PostR.then R S q0 fun x H1 ρ1 N1 d E1 R1 S1 rd q1 => by
        have rd : x = d := rd
        subst rd
        cases x with
        | true => rw [if_pos rfl] at q1 ⊢; exact snd_repl1 ⟨ρ1, σn, N1, R1, S1, q1⟩
        | false => rw [if_neg (by decide)] at q1 ⊢; exact ⟨ρ1, σn, N1, R1, S1, q1⟩
    obtain ⟨ρ2, σ2, N2, R2, S2, q2⟩ := snd_op h (to_bl q1)
    exact ⟨ρ2, σ2, N2, R2, S2, q2.imp fun x H1 ⟨ρ3, σ3, N3, R3, S3, q3⟩ => q3 (.int m) H1 ρ3 .refl R3 rfl⟩
end
end NY

set_option Elab.async false
set_option linter.all false
set_option maxRecDepth 100000
set_option maxHeartbeats 4000000
namespace OW
open NY PySem PySem.Spec PyProof.Rows L2

abbrev allNames : List Str := ("numbers" : Str) :: ("tuples" : Str) :: ("asked" : Str) :: ("notary" : Str) :: ("words" : Str) :: ("rows" : Str) :: ("code" : Str) :: ("given" : Str) :: ("states" : Str) :: ("named" : Str) :: ("held" : Str) :: ("delay" : Str) :: ("last_number" : Str) :: ("waiting" : Str) :: ("chain" : Str) :: ("told" : Str) :: ("due" : Str) :: ("made_at" : Str) :: ("rivalled_at" : Str) :: ("settled" : Str) :: ("payers" : Str) :: ("halvers" : Str) :: ("halved" : Str) :: ("counts" : Str) :: ("shown" : Str) :: ("ended" : Str) :: ("shared" : Str) :: ("groups" : Str) :: ("people" : Str) :: ("box" : Str) :: ("left" : Str) :: ("paid" : Str) :: ("arenas" : Str) :: ("run" : Str) :: ("pasts" : Str) :: ("name" : Str) :: ("known" : Str) :: ("clerk" : Str) :: ("book" : Str) :: ("guard" : Str) :: ("runs" : Str) :: ("met" : Str) :: ("line" : Str) :: []
abbrev c_PLAIN : D := .ctup [.str "cuts", .str "papers", .str "gathers"]
abbrev t1__law_mix : NS := (sRet (nOp2 fMod (nCall fInt (nCons (nOp2 fAdd (nOp2 fAdd (nOp2 fMul (nV 2) (nC (.int 40692))) (nOp2 fMul (nV 1) (nC (.int 7919)))) (nC (.int 1))) nNil)) (nC (.int 2147483399))))
def m__law_mix : NF := nFun 3 (sSeq (sAsg (nOp2 fMod (nCall fInt (nCons (nOp2 fAdd (nOp2 fAdd (nOp2 fMul (nV 0) (nC (.int 48271))) (nOp2 fMul (nV 1) (nC (.int 69621)))) (nC (.int 12345))) nNil)) (nC (.int 2147483647))) (pName 2))
    t1__law_mix)
abbrev t1__law_numbers : NS := (sAsg (nOp2 fDiv (nV 6) (nC (.int 1000))) (pName 6))
abbrev i2__law_numbers : NS := (sSeq (sExpr (nBM "list" fAppend (nV 2) (nCons (nOp2 fMod (nCall fInt (nCons (nV 6) nNil)) (nC (.int 1000))) nNil)))
    t1__law_numbers)
abbrev b3__law_numbers : NS := (sIf (nBool (nOp2 fGt (nV 6) (nC (.int 0)))) i2__law_numbers sPass)
abbrev b4__law_numbers : NS := (sExpr (nBM "list" fAppend (nV 2) (nCons (nOp2 fMod (nCall fInt (nCons (nCall m__law_mix (nCons (nV 6) (nCons (nOp2 fAdd (nV 5) (nC (.int 1))) nNil))) nNil)) (nC (.int 1000))) nNil)))
abbrev i5__law_numbers : NS := (sFor (iRng (nCons (nC (.int 60)) nNil)) (pName 5) b3__law_numbers)
abbrev i6__law_numbers : NS := (sFor (iRng (nCons (nC (.int 6)) nNil)) (pName 5) b4__law_numbers)
abbrev t7__law_numbers : NS := (sIf (nBool (nOp2 fGe (nV 6) (nOp2 fPow (nC (.int 10)) (nC (.int 18))))) i5__law_numbers i6__law_numbers)
abbrev t8__law_numbers : NS := (sSeq (sAsg (nCall m__law_mix (nCons (nV 3) (nCons (nOp2 fMod (nCall fInt (nCons (nV 6) nNil)) (nC (.int 2147483647))) nNil))) (pName 3))
    t7__law_numbers)
abbrev b9__law_numbers : NS := (sSeq (sAsg (nCall fAbs (nCons (nV 4) nNil)) (pName 6))
    t8__law_numbers)
abbrev t10__law_numbers : NS := (sExpr (nBM "list" fAppend (nV 2) (nCons (nOp2 fMod (nCall fInt (nCons (nV 3) nNil)) (nC (.int 1000))) nNil)))
abbrev i11__law_numbers : NS := (sSeq (sAsg (nCall m__law_mix (nCons (nV 3) (nCons (nOp2 fAdd (nV 5) (nC (.int 3))) nNil))) (pName 3))
    t10__law_numbers)
abbrev b12__law_numbers : NS := (sIf (nBool (nOp2 fLt (nCall fLen (nCons (nV 2) nNil)) (nV 1))) i11__law_numbers sPass)
abbrev t13__law_numbers : NS := (sRet (nCut (nV 2) nNoPart (nPart (nV 1))))
abbrev t14__law_numbers : NS := (sSeq (sFor (iRng (nCons (nV 1) nNil)) (pName 5) b12__law_numbers)
    t13__law_numbers)
abbrev t15__law_numbers : NS := (sSeq (sFor (iSeq (nCut (nV 0) nNoPart (nPart (nC (.int 63))))) (pName 4) b9__law_numbers)
    t14__law_numbers)
abbrev t16__law_numbers : NS := (sSeq (sAsg (nOp2 fAdd (nCall fLen (nCons (nV 0) nNil)) (nC (.int 1))) (pName 3))
    t15__law_numbers)
def m__law_numbers : NF := nFun 7 (sSeq (sAsg (nLst nNil) (pName 2))
    t16__law_numbers)
def m__law_draws : NF := nFun 2 (sRet (nDisp (nPsCons (nC (.str "at")) (nC (.int 0)) (nPsCons (nC (.str "row")) (nCall m__law_numbers (nCons (nV 0) (nCons (nV 1) nNil))) nPsNil))))
abbrev t1__law_take : NS := (sRet (nOp2 fMod (nCall fInt (nCons (nV 4) nNil)) (nV 1)))
abbrev t2__law_take : NS := (sSeq (sAsg (nOp2 fAdd (nOp2 fGet (nV 2) (nOp2 fMod (nCall fInt (nCons (nV 3) nNil)) (nCall fLen (nCons (nV 2) nNil)))) (nOp2 fDiv (nV 3) (nCall fLen (nCons (nV 2) nNil)))) (pName 4))
    t1__law_take)
abbrev t3__law_take : NS := (sSeq (sPut (nV 0) (nC (.str "at")) (nOp2 fAdd (nV 3) (nC (.int 1))))
    t2__law_take)
abbrev t4__law_take : NS := (sSeq (sAsg (nOp2 fGet (nV 0) (nC (.str "at"))) (pName 3))
    t3__law_take)
def m__law_take : NF := nFun 5 (sSeq (sAsg (nOp2 fGet (nV 0) (nC (.str "row"))) (pName 2))
    t4__law_take)
abbrev e1_is_name_1 : NE := (nOr (nOp2 fIn (nV 1) (nC (.str "abcdefghijklmnopqrstuvwxyz"))) (nOp2 fIn (nV 1) (nC (.str "0123456789"))))
abbrev t2_is_name_1 : NS := (sRet (nCall fAll (nCons (nLc (iSeq (nV 0)) (pName 1) nYes e1_is_name_1 [1]) nNil)))
def m_is_name_1 : NF := nFun 2 (sSeq (sIf (nOrT (nNotT (nBool (nChain fLe fLe (nC (.int 1)) (nCall fLen (nCons (nV 0) nNil)) (nC (.int 12))))) (nBool (nOp2 fNotIn (nOp2 fGet (nV 0) (nC (.int 0))) (nC (.str "abcdefghijklmnopqrstuvwxyz"))))) (sRet (nC (.bl false))) sPass)
    t2_is_name_1)
abbrev e1_number_of : NE := (nOp2 fIn (nV 2) (nC (.str "0123456789")))
abbrev t2_number_of : NS := (sRet (nIf (nBool (nOp2 fLe (nV 1) (nC (.int 281474976710656)))) (nV 1) (nC .non)))
abbrev t3_number_of : NS := (sSeq (sAsg (nCall fInt (nCons (nV 0) nNil)) (pName 1))
    t2_number_of)
abbrev t4_number_of : NS := (sSeq (sIf (nAndT (nBool (nOp2 fEq (nOp2 fGet (nV 0) (nC (.int 0))) (nC (.str "0")))) (nBool (nOp2 fGt (nCall fLen (nCons (nV 0) nNil)) (nC (.int 1))))) (sRet (nC .non)) sPass)
    t3_number_of)
def m_number_of : NF := nFun 3 (sSeq (sIf (nOrT (nNotT (nBool (nChain fLe fLe (nC (.int 1)) (nCall fLen (nCons (nV 0) nNil)) (nC (.int 16))))) (nNotT (nTru (nCall fAll (nCons (nLc (iSeq (nV 0)) (pName 2) nYes e1_number_of [2]) nNil))))) (sRet (nC .non)) sPass)
    t4_number_of)
abbrev e1_numbers_of : NE := (nCall m_number_of (nCons (nV 2) nNil))
abbrev e2_numbers_of : NE := (nOp2 fIs (nV 3) (nC .non))
abbrev t3_numbers_of : NS := (sRet (nV 1))
abbrev t4_numbers_of : NS := (sSeq (sIf (nTru (nCall fAny (nCons (nLc (iSeq (nV 1)) (pName 3) nYes e2_numbers_of [3]) nNil))) (sRet (nC .non)) sPass)
    t3_numbers_of)
def m_numbers_of : NF := nFun 4 (sSeq (sAsg (nLc (iSeq (nV 0)) (pName 2) nYes e1_numbers_of [2]) (pName 1))
    t4_numbers_of)
abbrev i1_player_act : NS := (sRet (nTup (nCons (nCut (nV 1) nNoPart (nPart (nOp1 fNeg (nC (.int 1))))) (nCons (nV 0) nNil))))
abbrev i2_player_act : NS := (sRet (nTup (nCons (nC (.str "send")) (nCons (nV 0) (nCons (nTup (nCons (nC (.str "put")) (nCons (nOp2 fGet (nV 2) (nC (.int 0))) (nCons (nOp2 fGet (nV 2) (nC (.int 1))) nNil)))) nNil)))))
abbrev i3_player_act : NS := (sRet (nTup (nCons (nC (.str "send")) (nCons (nV 0) (nCons (nTup (nCons (nC (.str "ask")) nNil)) nNil)))))
abbrev i4_player_act : NS := (sRet (nTup (nCons (nC (.str "lie")) (nCons (nV 0) (nCons (nOp2 fGet (nV 2) (nC (.int 0))) (nCons (nOp2 fGet (nV 2) (nC (.int 1))) (nCons (nOp2 fGet (nV 2) (nC (.int 2))) nNil)))))))
abbrev i5_player_act : NS := (sRet (nTup (nCons (nC (.str "forge")) (nCons (nV 0) (nCons (nOp2 fGet (nV 2) (nC (.int 0))) (nCons (nOp2 fGet (nV 2) (nC (.int 1))) nNil))))))
abbrev t6_player_act : NS := (sRet (nC .non))
abbrev t7_player_act : NS := (sSeq (sIf (nAndT (nBool (nOp2 fEq (nV 1) (nC (.str "forges")))) (nBool (nOp2 fEq (nCall fLen (nCons (nV 2) nNil)) (nC (.int 2))))) i5_player_act sPass)
    t6_player_act)
abbrev t8_player_act : NS := (sSeq (sIf (nAndT (nBool (nOp2 fEq (nV 1) (nC (.str "lies")))) (nBool (nOp2 fEq (nCall fLen (nCons (nV 2) nNil)) (nC (.int 3))))) i4_player_act sPass)
    t7_player_act)
abbrev t9_player_act : NS := (sSeq (sIf (nAndT (nBool (nOp2 fEq (nV 1) (nC (.str "asks")))) (nBool (nOp2 fEq (nV 2) (nLst nNil)))) i3_player_act sPass)
    t8_player_act)
abbrev t10_player_act : NS := (sSeq (sIf (nAndT (nBool (nOp2 fEq (nV 1) (nC (.str "puts")))) (nBool (nOp2 fEq (nCall fLen (nCons (nV 2) nNil)) (nC (.int 2))))) i2_player_act sPass)
    t9_player_act)
def m_player_act : NF := nFun 3 (sSeq (sIf (nAndT (nBool (nOp2 fIn (nV 1) (nC c_PLAIN))) (nBool (nOp2 fEq (nV 2) (nLst nNil)))) i1_player_act sPass)
    t10_player_act)
abbrev i1_act_of : NS := (sRet (nTup (nCons (nC (.str "block")) (nCons (nCall fTuple (nCons (nV 2) nNil)) nNil))))
abbrev t2_act_of : NS := (sIf (nBool (nOp2 fIsNot (nV 2) (nC .non))) i1_act_of sPass)
abbrev i3_act_of : NS := (sSeq (sAsg (nCall m_numbers_of (nCons (nCut (nV 1) (nPart (nC (.int 1))) nNoPart) nNil)) (pName 2))
    t2_act_of)
abbrev i4_act_of : NS := (sRet (nTup (nCons (nC (.str "back")) (nCons (nCall m_number_of (nCons (nOp2 fGet (nV 1) (nC (.int 1))) nNil)) nNil))))
abbrev t5_act_of : NS := (sRet (nCall m_player_act (nCons (nOp2 fGet (nV 1) (nC (.int 0))) (nCons (nOp2 fGet (nV 1) (nC (.int 1))) (nCons (nV 2) nNil)))))
abbrev t6_act_of : NS := (sSeq (sIf (nBool (nOp2 fIs (nV 2) (nC .non))) (sRet (nC .non)) sPass)
    t5_act_of)
abbrev t7_act_of : NS := (sSeq (sAsg (nCall m_numbers_of (nCons (nCut (nV 1) (nPart (nC (.int 2))) nNoPart) nNil)) (pName 2))
    t6_act_of)
abbrev t8_act_of : NS := (sSeq (sIf (nOrT (nBool (nOp2 fLt (nCall fLen (nCons (nV 1) nNil)) (nC (.int 2)))) (nNotT (nTru (nCall m_is_name_1 (nCons (nOp2 fGet (nV 1) (nC (.int 0))) nNil))))) (sRet (nC .non)) sPass)
    t7_act_of)
abbrev t9_act_of : NS := (sSeq (sIf (nAndT (nBool (nOp2 fEq (nOp2 fGet (nV 1) (nC (.int 0))) (nC (.str "back")))) (nAndT (nBool (nOp2 fEq (nCall fLen (nCons (nV 1) nNil)) (nC (.int 2)))) (nBool (nOp2 fIsNot (nCall m_number_of (nCons (nOp2 fGet (nV 1) (nC (.int 1))) nNil)) (nC .non))))) i4_act_of sPass)
    t8_act_of)
abbrev t10_act_of : NS := (sSeq (sIf (nBool (nOp2 fEq (nOp2 fGet (nV 1) (nC (.int 0))) (nC (.str "block")))) i3_act_of sPass)
    t9_act_of)
def m_act_of : NF := nFun 3 (sSeq (sAsg (nBM "str" fSplit (nV 0) (nCons (nC (.str " ")) nNil)) (pName 1))
    t10_act_of)
abbrev t1_read_script : NS := (sExpr (nBM "list" fAppend (nV 2) (nCons (nV 4) nNil)))
abbrev t2_read_script : NS := (sSeq (sIf (nBool (nOp2 fIs (nV 4) (nC .non))) (sRaiseV 15 42 (nOp2 fAdd (nV 3) (nC (.int 1)))) sPass)
    t1_read_script)
abbrev b3_read_script : NS := (sSeq (sAsg (nCall m_act_of (nCons (nOp2 fGet (nV 1) (nV 3)) nNil)) (pName 4))
    t2_read_script)
abbrev t4_read_script : NS := (sRet (nCall fTuple (nCons (nV 2) nNil)))
abbrev t5_read_script : NS := (sSeq (sFor (iRng (nCons (nCall fLen (nCons (nV 1) nNil)) nNil)) (pName 3) b3_read_script)
    t4_read_script)
abbrev t6_read_script : NS := (sSeq (sAsg (nLst nNil) (pName 2))
    t5_read_script)
abbrev t7_read_script : NS := (sSeq (sAsg (nBM "str" fSplit (nV 0) (nCons (nC (.str "\n")) nNil)) (pName 1))
    t6_read_script)
def m_read_script : NF := nFun 5 (sSeq (sIf (nBool (nOp2 fEq (nV 0) (nC (.str "")))) (sRet (nTup nNil)) sPass)
    t7_read_script)
abbrev e1_line_of : NE := (nCall fStr (nCons (nV 1) nNil))
abbrev i2_line_of : NS := (sRet (nBM "str" fJoin (nC (.str " ")) (nCons (nOp2 fAdd (nLst (nCons (nC (.str "block")) nNil)) (nLc (iSeq (nOp2 fGet (nV 0) (nC (.int 1)))) (pName 1) nYes e1_line_of [1])) nNil)))
abbrev i3_line_of : NS := (sRet (nOp2 fAdd (nC (.str "back ")) (nCall fStr (nCons (nOp2 fGet (nV 0) (nC (.int 1))) nNil))))
abbrev e4_line_of : NE := (nCall fStr (nCons (nV 1) nNil))
abbrev i5_line_of : NS := (sRet (nBM "str" fJoin (nC (.str " ")) (nCons (nOp2 fAdd (nLst (nCons (nOp2 fGet (nV 0) (nC (.int 1))) (nCons (nOp2 fAdd (nOp2 fGet (nOp2 fGet (nV 0) (nC (.int 2))) (nC (.int 0))) (nC (.str "s"))) nNil))) (nLc (iSeq (nCut (nOp2 fGet (nV 0) (nC (.int 2))) (nPart (nC (.int 1))) nNoPart)) (pName 1) nYes e4_line_of [1])) nNil)))
abbrev e6_line_of : NE := (nCall fStr (nCons (nV 1) nNil))
abbrev t7_line_of : NS := (sRet (nBM "str" fJoin (nC (.str " ")) (nCons (nOp2 fAdd (nLst (nCons (nOp2 fGet (nV 0) (nC (.int 1))) (nCons (nOp2 fAdd (nOp2 fGet (nV 0) (nC (.int 0))) (nC (.str "s"))) nNil))) (nLc (iSeq (nCut (nV 0) (nPart (nC (.int 2))) nNoPart)) (pName 1) nYes e6_line_of [1])) nNil)))
abbrev t8_line_of : NS := (sSeq (sIf (nBool (nOp2 fEq (nOp2 fGet (nV 0) (nC (.int 0))) (nC (.str "send")))) i5_line_of sPass)
    t7_line_of)
abbrev t9_line_of : NS := (sSeq (sIf (nBool (nOp2 fEq (nOp2 fGet (nV 0) (nC (.int 0))) (nC (.str "back")))) i3_line_of sPass)
    t8_line_of)
def m_line_of : NF := nFun 2 (sSeq (sIf (nBool (nOp2 fEq (nOp2 fGet (nV 0) (nC (.int 0))) (nC (.str "block")))) i2_line_of sPass)
    t9_line_of)
abbrev e1_print_script : NE := (nCall m_line_of (nCons (nV 1) nNil))
def m_print_script : NF := nFun 2 (sRet (nBM "str" fJoin (nC (.str "\n")) (nCons (nLc (iSeq (nV 0)) (pName 1) nYes e1_print_script [1]) nNil)))
abbrev i1__law_name_1 : NS := (sRet (nOp2 fGet (nLst (nCons (nC (.str "block")) (nCons (nC (.str "back")) (nCons (nC (.str "b")) (nCons (nC (.str "puts")) (nCons (nC (.str "a1b2c3d4e5f6")) nNil)))))) (nCall m__law_take (nCons (nV 0) (nCons (nC (.int 5)) nNil)))))
abbrev e2__law_name_1 : NE := (nOp2 fGet (nOp2 fAdd (nV 1) (nC (.str "0123456789"))) (nCall m__law_take (nCons (nV 0) (nCons (nC (.int 36)) nNil))))
abbrev t3__law_name_1 : NS := (sRet (nOp2 fAdd (nOp2 fGet (nV 1) (nCall m__law_take (nCons (nV 0) (nCons (nC (.int 26)) nNil)))) (nV 3)))
abbrev t4__law_name_1 : NS := (sSeq (sAsg (nBM "str" fJoin (nC (.str "")) (nCons (nLc (iRng (nCons (nV 2) nNil)) (pName 4) nYes e2__law_name_1 [4]) nNil)) (pName 3))
    t3__law_name_1)
abbrev t5__law_name_1 : NS := (sSeq (sAsg (nOp2 fGet (nLst (nCons (nC (.int 0)) (nCons (nC (.int 1)) (nCons (nC (.int 2)) (nCons (nC (.int 5)) (nCons (nC (.int 11)) nNil)))))) (nCall m__law_take (nCons (nV 0) (nCons (nC (.int 5)) nNil)))) (pName 2))
    t4__law_name_1)
abbrev t6__law_name_1 : NS := (sSeq (sIf (nBool (nOp2 fEq (nCall m__law_take (nCons (nV 0) (nCons (nC (.int 9)) nNil))) (nC (.int 0)))) i1__law_name_1 sPass)
    t5__law_name_1)
def m__law_name_1 : NF := nFun 5 (sSeq (sAsg (nC (.str "abcdefghijklmnopqrstuvwxyz")) (pName 1))
    t6__law_name_1)
def m__law_number_1 : NF := nFun 1 (sRet (nOp2 fGet (nLst (nCons (nC (.int 0)) (nCons (nC (.int 1)) (nCons (nC (.int 281474976710656)) (nCons (nCall m__law_take (nCons (nV 0) (nCons (nC (.int 1000)) nNil))) (nCons (nOp2 fAdd (nOp2 fPow (nC (.int 10)) (nC (.int 9))) (nCall m__law_take (nCons (nV 0) (nCons (nC (.int 1000)) nNil)))) nNil)))))) (nCall m__law_take (nCons (nV 0) (nCons (nC (.int 5)) nNil)))))
abbrev e1__law_act : NE := (nCall m__law_number_1 (nCons (nV 0) nNil))
abbrev e2__law_act : NE := (nOp2 fAdd (nC (.str " ")) (nCall fStr (nCons (nV 8) nNil)))
abbrev t3__law_act : NS := (sRet (nOp2 fGet (nV 6) (nCall m__law_take (nCons (nV 0) (nCons (nC (.int 9)) nNil)))))
abbrev t4__law_act : NS := (sSeq (sAsg (nLst (nCons (nTup (nCons (nTup (nCons (nC (.str "send")) (nCons (nV 1) (nCons (nTup (nCons (nC (.str "put")) (nCons (nV 2) (nCons (nV 3) nNil)))) nNil)))) (nCons (nOp2 fAdd (nOp2 fAdd (nOp2 fAdd (nOp2 fAdd (nV 1) (nC (.str " puts "))) (nCall fStr (nCons (nV 2) nNil))) (nC (.str " "))) (nCall fStr (nCons (nV 3) nNil))) nNil))) (nCons (nTup (nCons (nTup (nCons (nC (.str "send")) (nCons (nV 1) (nCons (nTup (nCons (nC (.str "ask")) nNil)) nNil)))) (nCons (nOp2 fAdd (nV 1) (nC (.str " asks"))) nNil))) (nCons (nTup (nCons (nTup (nCons (nC (.str "lie")) (nCons (nV 1) (nCons (nV 2) (nCons (nV 3) (nCons (nV 4) nNil)))))) (nCons (nOp2 fAdd (nOp2 fAdd (nOp2 fAdd (nOp2 fAdd (nOp2 fAdd (nOp2 fAdd (nV 1) (nC (.str " lies "))) (nCall fStr (nCons (nV 2) nNil))) (nC (.str " "))) (nCall fStr (nCons (nV 3) nNil))) (nC (.str " "))) (nCall fStr (nCons (nV 4) nNil))) nNil))) (nCons (nTup (nCons (nTup (nCons (nC (.str "forge")) (nCons (nV 1) (nCons (nV 2) (nCons (nV 3) nNil))))) (nCons (nOp2 fAdd (nOp2 fAdd (nOp2 fAdd (nOp2 fAdd (nV 1) (nC (.str " forges "))) (nCall fStr (nCons (nV 2) nNil))) (nC (.str " "))) (nCall fStr (nCons (nV 3) nNil))) nNil))) (nCons (nTup (nCons (nTup (nCons (nC (.str "cut")) (nCons (nV 1) nNil))) (nCons (nOp2 fAdd (nV 1) (nC (.str " cuts"))) nNil))) (nCons (nTup (nCons (nTup (nCons (nC (.str "paper")) (nCons (nV 1) nNil))) (nCons (nOp2 fAdd (nV 1) (nC (.str " papers"))) nNil))) (nCons (nTup (nCons (nTup (nCons (nC (.str "gather")) (nCons (nV 1) nNil))) (nCons (nOp2 fAdd (nV 1) (nC (.str " gathers"))) nNil))) (nCons (nTup (nCons (nTup (nCons (nC (.str "block")) (nCons (nV 5) nNil))) (nCons (nOp2 fAdd (nC (.str "block")) (nBM "str" fJoin (nC (.str "")) (nCons (nLc (iSeq (nV 5)) (pName 8) nYes e2__law_act [8]) nNil))) nNil))) (nCons (nTup (nCons (nTup (nCons (nC (.str "back")) (nCons (nV 2) nNil))) (nCons (nOp2 fAdd (nC (.str "back ")) (nCall fStr (nCons (nV 2) nNil))) nNil))) nNil)))))))))) (pName 6))
    t3__law_act)
abbrev t5__law_act : NS := (sSeq (sAsg (nCall fTuple (nCons (nLc (iRng (nCons (nCall m__law_take (nCons (nV 0) (nCons (nC (.int 5)) nNil))) nNil)) (pName 7) nYes e1__law_act [7]) nNil)) (pName 5))
    t4__law_act)
abbrev t6__law_act : NS := (sSeq (sAsg (nCall m__law_number_1 (nCons (nV 0) nNil)) (pName 4))
    t5__law_act)
abbrev t7__law_act : NS := (sSeq (sAsg (nCall m__law_number_1 (nCons (nV 0) nNil)) (pName 3))
    t6__law_act)
abbrev t8__law_act : NS := (sSeq (sAsg (nCall m__law_number_1 (nCons (nV 0) nNil)) (pName 2))
    t7__law_act)
def m__law_act : NF := nFun 9 (sSeq (sAsg (nCall m__law_name_1 (nCons (nV 0) nNil)) (pName 1))
    t8__law_act)
abbrev i1__law_wrong_1 : NS := (sRet (nIf (nBool (nOp2 fGt (nCall fLen (nCons (nV 3) nNil)) (nC (.int 1)))) (nRepl1 " " "  " (nV 1)) (nOp2 fAdd (nV 1) (nC (.str "  ")))))
abbrev i2__law_wrong_1 : NS := (sRet (nOp2 fAdd (nOp2 fAdd (nC (.str "ann puts 0")) (nCall fStr (nCons (nCall m__law_take (nCons (nV 0) (nCons (nC (.int 9)) nNil))) nNil))) (nC (.str " 3"))))
abbrev i3__law_wrong_1 : NS := (sRet (nOp2 fGet (nLst (nCons (nC (.str "ann puts 3")) (nCons (nC (.str "ann lies 1 2")) (nCons (nC (.str "ann forges 1")) (nCons (nC (.str "back")) (nCons (nC (.str "ann cuts 1")) (nCons (nC (.str "ann asks 0")) nNil))))))) (nCall m__law_take (nCons (nV 0) (nCons (nC (.int 6)) nNil)))))
abbrev i4__law_wrong_1 : NS := (sRet (nOp2 fGet (nLst (nCons (nC (.str "ann sells")) (nCons (nC (.str "ann put 1 2")) (nCons (nC (.str "block x")) (nCons (nC (.str "back -1")) (nCons (nC (.str "blocks 1")) (nCons (nC (.str "ann puts 1 +2")) nNil))))))) (nCall m__law_take (nCons (nV 0) (nCons (nC (.int 6)) nNil)))))
abbrev i5__law_wrong_1 : NS := (sRet (nOp2 fGet (nLst (nCons (nC (.str "Ann asks")) (nCons (nC (.str "1ann asks")) (nCons (nC (.str "abcdefghijklm asks")) (nCons (nC (.str "a_b asks")) (nCons (nC (.str " asks")) (nCons (nC (.str "ann  asks")) nNil))))))) (nCall m__law_take (nCons (nV 0) (nCons (nC (.int 6)) nNil)))))
abbrev t6__law_wrong_1 : NS := (sRet (nC (.str "")))
abbrev t7__law_wrong_1 : NS := (sSeq (sIf (nBool (nOp2 fEq (nV 2) (nC (.int 7)))) i5__law_wrong_1 sPass)
    t6__law_wrong_1)
abbrev t8__law_wrong_1 : NS := (sSeq (sIf (nBool (nOp2 fEq (nV 2) (nC (.int 6)))) i4__law_wrong_1 sPass)
    t7__law_wrong_1)
abbrev t9__law_wrong_1 : NS := (sSeq (sIf (nBool (nOp2 fEq (nV 2) (nC (.int 5)))) i3__law_wrong_1 sPass)
    t8__law_wrong_1)
abbrev t10__law_wrong_1 : NS := (sSeq (sIf (nBool (nOp2 fEq (nV 2) (nC (.int 4)))) (sRet (nC (.str "ann puts 281474976710657 3"))) sPass)
    t9__law_wrong_1)
abbrev t11__law_wrong_1 : NS := (sSeq (sIf (nBool (nOp2 fEq (nV 2) (nC (.int 3)))) i2__law_wrong_1 sPass)
    t10__law_wrong_1)
abbrev t12__law_wrong_1 : NS := (sSeq (sIf (nBool (nOp2 fEq (nV 2) (nC (.int 2)))) i1__law_wrong_1 sPass)
    t11__law_wrong_1)
abbrev t13__law_wrong_1 : NS := (sSeq (sIf (nBool (nOp2 fEq (nV 2) (nC (.int 1)))) (sRet (nOp2 fAdd (nC (.str " ")) (nV 1))) sPass)
    t12__law_wrong_1)
abbrev t14__law_wrong_1 : NS := (sSeq (sIf (nBool (nOp2 fEq (nV 2) (nC (.int 0)))) (sRet (nOp2 fAdd (nV 1) (nC (.str " ")))) sPass)
    t13__law_wrong_1)
abbrev t15__law_wrong_1 : NS := (sSeq (sAsg (nBM "str" fSplit (nV 1) (nCons (nC (.str " ")) nNil)) (pName 3))
    t14__law_wrong_1)
def m__law_wrong_1 : NF := nFun 4 (sSeq (sAsg (nCall m__law_take (nCons (nV 0) (nCons (nC (.int 9)) nNil))) (pName 2))
    t15__law_wrong_1)
end OW

set_option Elab.async false
set_option linter.all false
set_option maxRecDepth 100000
set_option maxHeartbeats 4000000
namespace OW
open NY PySem PySem.Spec PyProof.Rows L2
local macro_rules | `(tactic| walk_at "pick") => `(tactic| first | with_reducible exact Pick.head | ((with_reducible apply Pick.tail); walk_at "pick") | fail)
local macro_rules | `(tactic| walk_at "sub") => `(tactic| first | with_reducible exact Sub.refl | ((with_reducible apply Sub.drop); walk_at "sub") | fail)
local macro_rules | `(tactic| walk_at "cov") => `(tactic| first | with_reducible exact Covers.nil | ((with_reducible apply Covers.cons); (walk_at "pick"); walk_at "cov") | ((with_reducible apply Covers.sub); walk_at "sub") | fail)
local macro_rules | `(tactic| walk_at "at") => `(tactic| first | assumption | ((with_reducible apply At.cover); assumption; walk_at "cov") | fail)
local macro_rules | `(tactic| walk_at "hp") => `(tactic| first | assumption | ((with_reducible apply At.get); assumption; walk_at "pick") | fail)
local macro_rules | `(tactic| walk_at "sS1") => `(tactic| first | with_reducible refine wp_seq ?_ | with_reducible refine wp_asg _ ?_ | with_reducible refine wp_ret ?_ | with_reducible refine wp_pass ?_ | with_reducible refine wp_expr ?_ | fail)
local macro_rules | `(tactic| walk_at "sN1") => `(tactic| first | ((with_reducible apply wp_V); rfl) | with_reducible refine wp_C ?_ | with_reducible refine wp_cons ?_ | with_reducible refine wp_op2 ?_ | with_reducible refine wp_nil ?_ | with_reducible refine wp_call ?_ | fail)
local macro_rules | `(tactic| walk_at "sS2") => `(tactic| first | with_reducible refine wp_asgT ?_ | with_reducible refine sl_fldput ?_ | with_reducible refine sl_put ?_ | fail)
local macro_rules | `(tactic| walk_at "sN2") => `(tactic| first | with_reducible refine wp_bool ?_ | with_reducible refine wp_tru ?_ | with_reducible refine wp_tup ?_ | with_reducible refine wp_op1 ?_ | with_reducible refine wp_andT ?_ | with_reducible refine wp_orT ?_ | with_reducible refine wp_notT ?_ | with_reducible refine wp_and ?_ | with_reducible refine wp_or ?_ | with_reducible refine wp_not ?_ | with_reducible refine wp_chLL ?_ | with_reducible refine wp_chLl ?_ | with_reducible refine sl_lst ?_ | with_reducible refine wp_bmL ?_ | with_reducible refine wp_bmS ?_ | with_reducible refine wp_psNil ?_ | with_reducible refine wp_psCons ?_ | with_reducible refine sl_disp ?_ | with_reducible refine wp_noPart ?_ | with_reducible refine wp_part ?_ | with_reducible refine wp_cut ?_ | with_reducible refine wp_isi ?_ | with_reducible refine wp_fld ?_ | with_reducible refine wp_meth ?_ | with_reducible refine wp_methW ?_ | with_reducible refine sl_make ?_ | ((with_reducible apply sl_dK); assumption; intro _ _ _) | ((with_reducible apply sl_dT); assumption; intro _ _ _) | fail)
local macro_rules | `(tactic| walk_at "sB1") => `(tactic| first | with_reducible refine wp_eqS ?_ | with_reducible refine wp_eqI ?_ | with_reducible refine wp_addI ?_ | with_reducible refine wp_getT0 ?_ | ((with_reducible apply wp_getT); rfl) | ((with_reducible apply wp_getL); (walk_at "hp"); rfl) | ((with_reducible apply wp_getTI); (first | assumption | omega); (first | assumption | omega)) | ((with_reducible apply wp_catT); exact le_size (by simp only [List.length_append, List.length_cons, List.length_nil, List.length_map]; omega)) | fail)
local macro_rules | `(tactic| walk_at "sB2") => `(tactic| first | with_reducible refine wp_subI ?_ | ((with_reducible apply wp_mulR); decide) | ((with_reducible apply wp_mulL); decide) | ((with_reducible apply wp_modI); (first | decide | assumption)) | ((with_reducible apply wp_divL); decide) | ((with_reducible apply wp_divI); (first | decide | assumption)) | with_reducible refine wp_ltI ?_ | with_reducible refine wp_leI ?_ | with_reducible refine wp_gtI ?_ | with_reducible refine wp_geI ?_ | with_reducible refine wp_neI ?_ | with_reducible refine wp_eqB ?_ | with_reducible refine wp_neB ?_ | with_reducible refine wp_neS ?_ | with_reducible refine wp_isB ?_ | with_reducible refine wp_isNotB ?_ | with_reducible refine wp_isN0 ?_ | with_reducible refine wp_isNotN0 ?_ | with_reducible refine wp_isNI ?_ | with_reducible refine wp_isNotNI ?_ | with_reducible refine wp_isNS ?_ | with_reducible refine wp_isNotNS ?_ | with_reducible refine wp_isNT ?_ | with_reducible refine wp_isNotNT ?_ | with_reducible refine wp_isNR ?_ | with_reducible refine wp_isNotNR ?_ | fail)
local macro_rules | `(tactic| walk_at "sF") => `(tactic| first | with_reducible refine wp_intI ?_ | with_reducible refine wp_abs ?_ | with_reducible refine wp_lenT ?_ | ((with_reducible apply wp_lenL); walk_at "hp") | ((with_reducible apply sl_list); rfl; assumption; intro _ _ _) | ((with_reducible apply sl_tuple); assumption; walk_at "pick") | fail)
local macro_rules | `(tactic| walk_at "sM") => `(tactic| first | with_reducible refine wp_negI ?_ | with_reducible refine wp_cutT ?_ | ((with_reducible apply sl_pop0); assumption; walk_at "pick"; intro _ _) | fail)
local macro_rules | `(tactic| walk_at "sO1") => `(tactic| first | with_reducible refine ex_bl ?_ | with_reducible refine ex_tru ?_ | with_reducible refine ex_kdT ?_ | with_reducible refine ex_kdC ?_ | with_reducible refine ex_kdI ?_ | with_reducible refine ex_kdB ?_ | with_reducible refine ex_kdS ?_ | with_reducible refine ex_kd0 ?_ | with_reducible refine ex_int ?_ | with_reducible refine ex_str ?_ | with_reducible refine ex_ch ?_ | fail)
local macro_rules | `(tactic| walk_at "sO2") => `(tactic| first | ((with_reducible apply ex_refL); walk_at "hp") | ((with_reducible apply ex_tup); exact rfl) | ((with_reducible apply put_L); assumption; walk_at "pick"; rfl; intro N9 H9; (try simp only [Int.reduceToNat, List.set_cons_zero, List.set_cons_succ] at H9)) | ((with_reducible apply and_size); (first | decide | (simp only [List.length_cons, List.length_nil]; decide))) | ((with_reducible apply ex_fld); (walk_at "hp"); (decide); rfl) | ((with_reducible apply ex_meth); (walk_at "hp"); rfl) | ((with_reducible apply OW.ex_nmeth); assumption; (walk_at "pick"); rfl) | ((with_reducible apply OW.ex_wmeth); assumption; (walk_at "pick"); rfl) | ((with_reducible apply OW.ex_rmethW); assumption; (walk_at "pick"); rfl; rfl) | ((with_reducible apply OW.ex_rmeth); assumption; (walk_at "pick"); rfl) | ((with_reducible apply ex_at); assumption; intro _ _ _) | ((with_reducible apply ex_fldput); assumption; (walk_at "pick"); (decide); (first | decide | exact Nat.le_of_ble_eq_true rfl); intro _ _) | ((with_reducible apply ex_kdL); walk_at "hp") | ((with_reducible apply ex_kdD); walk_at "hp") | fail)
local macro_rules | `(tactic| walk_at "st") => `(tactic| first | ((with_reducible show NY.wpS _ _); walk_at "sS1") | ((with_reducible show NY.wpR ((_ : NEnv → NH → _) _ _) _ _); walk_at "sN1") | dsimp only [List.set_cons_zero, List.set_cons_succ, setAll] | ((with_reducible show NY.wpS _ _); walk_at "sS2") | ((with_reducible show NY.wpR ((_ : NEnv → NH → _) _ _) _ _); walk_at "sN2") | ((with_reducible show NY.wpR ((_ : D → D → NH → _) _ _ _) _ _); (first | walk_at "sB1" | walk_at "sB2" | fail)) | ((with_reducible show NY.wpR ((_ : List D → NH → _) _ _) _ _); walk_at "sF") | ((with_reducible show NY.wpR _ _ _); walk_at "sM") | ((fail_if_success (with_reducible show NY.wpR _ _ _)); (first | walk_at "sO1" | walk_at "sO2" | fail)) | fail)
local macro_rules | `(tactic| walk_at "go") => `(tactic| repeat' (walk_at "st"))
local macro_rules | `(tactic| walk_at "gos") => `(tactic| repeat' (first | with_reducible refine wp_sif ?_ | (walk_at "st") | fail))
local macro_rules | `(tactic| walk_at "ifs") => `(tactic| first | with_reducible refine ifT (by decide +kernel) ?_ | with_reducible refine ifF (by decide +kernel) ?_ | with_reducible refine wp_sif ?_ | (walk_at "st") | with_reducible refine wp_if ?_ | with_reducible refine ifT (by simp only [List.length_cons, List.length_nil]; decide +kernel) ?_ | with_reducible refine ifF (by simp only [List.length_cons, List.length_nil]; decide +kernel) ?_ | fail)
local macro_rules | `(tactic| walk_at "goi") => `(tactic| repeat' (walk_at "ifs"))
local macro_rules | `(tactic| walk_at "box") => `(tactic| (apply OW.box_mk; assumption; walk_at "pick"; walk_at "pick"))
section
variable {Q : D → NH → Prop} {E : XP} {N : NH} {n k : Nat} {σ : NEnv} {L R : List HP}
/-- the box of draws -/
def box (b : Nat) : HP := exH fun c : Nat => exH fun cs : List Int => exH fun x : Int => exH fun y : Int => exH fun z : Int => star (pt b (.lst [.ref c, .int x, .int y, .int z])) (pt c (.lst (cs.map .int)))
theorem box_mk {b c : Nat} {cs : List Int} {x y z : Int} (H : At N L) (hp : Pick L (pt b (.lst [.ref c, .int x, .int y, .int z])) R) {R2 : List HP} (hp2 : Pick R (pt c (.lst (cs.map .int))) R2) : At N (box b :: R2) :=
  At.ex c (At.ex cs (At.ex x (At.ex y (At.ex z (At.star (H.cover (.cons hp (.cons hp2 .nil)) |> fun h => (H.pick hp |> fun h2 => Sat.cons (fun _ s => hp2.sat s) h2)))))))
local macro_rules | `(tactic| walk_at "box") => `(tactic| (with_reducible apply box_mk; assumption; walk_at "pick"; walk_at "pick"))
end
end OW
set_option Elab.async false
set_option linter.all false
set_option maxRecDepth 100000
set_option maxHeartbeats 4000000
namespace OW
open NY PySem PySem.Spec PyProof.Rows L2
local macro_rules | `(tactic| walk_at "pick") => `(tactic| first | with_reducible exact Pick.head | ((with_reducible apply Pick.tail); walk_at "pick") | fail)
local macro_rules | `(tactic| walk_at "sub") => `(tactic| first | with_reducible exact Sub.refl | ((with_reducible apply Sub.drop); walk_at "sub") | fail)
local macro_rules | `(tactic| walk_at "cov") => `(tactic| first | with_reducible exact Covers.nil | ((with_reducible apply Covers.cons); (walk_at "pick"); walk_at "cov") | ((with_reducible apply Covers.sub); walk_at "sub") | fail)
local macro_rules | `(tactic| walk_at "at") => `(tactic| first | assumption | ((with_reducible apply At.cover); assumption; walk_at "cov") | fail)
local macro_rules | `(tactic| walk_at "hp") => `(tactic| first | assumption | ((with_reducible apply At.get); assumption; walk_at "pick") | fail)
local macro_rules | `(tactic| walk_at "sS1") => `(tactic| first | with_reducible refine wp_seq ?_ | with_reducible refine wp_asg _ ?_ | with_reducible refine wp_ret ?_ | with_reducible refine wp_pass ?_ | with_reducible refine wp_expr ?_ | fail)
local macro_rules | `(tactic| walk_at "sN1") => `(tactic| first | ((with_reducible apply wp_V); rfl) | with_reducible refine wp_C ?_ | with_reducible refine wp_cons ?_ | with_reducible refine wp_op2 ?_ | with_reducible refine wp_nil ?_ | with_reducible refine wp_call ?_ | fail)
local macro_rules | `(tactic| walk_at "sS2") => `(tactic| first | with_reducible refine wp_asgT ?_ | with_reducible refine sl_fldput ?_ | with_reducible refine sl_put ?_ | fail)
local macro_rules | `(tactic| walk_at "sN2") => `(tactic| first | with_reducible refine wp_bool ?_ | with_reducible refine wp_tru ?_ | with_reducible refine wp_tup ?_ | with_reducible refine wp_op1 ?_ | with_reducible refine wp_andT ?_ | with_reducible refine wp_orT ?_ | with_reducible refine wp_notT ?_ | with_reducible refine wp_and ?_ | with_reducible refine wp_or ?_ | with_reducible refine wp_not ?_ | with_reducible refine wp_chLL ?_ | with_reducible refine wp_chLl ?_ | with_reducible refine sl_lst ?_ | with_reducible refine wp_bmL ?_ | with_reducible refine wp_bmS ?_ | with_reducible refine wp_psNil ?_ | with_reducible refine wp_psCons ?_ | with_reducible refine sl_disp ?_ | with_reducible refine wp_noPart ?_ | with_reducible refine wp_part ?_ | with_reducible refine wp_cut ?_ | with_reducible refine wp_isi ?_ | with_reducible refine wp_fld ?_ | with_reducible refine wp_meth ?_ | with_reducible refine wp_methW ?_ | with_reducible refine sl_make ?_ | ((with_reducible apply sl_dK); assumption; intro _ _ _) | ((with_reducible apply sl_dT); assumption; intro _ _ _) | fail)
local macro_rules | `(tactic| walk_at "sB1") => `(tactic| first | with_reducible refine wp_eqS ?_ | with_reducible refine wp_eqI ?_ | with_reducible refine wp_addI ?_ | with_reducible refine wp_getT0 ?_ | ((with_reducible apply wp_getT); rfl) | ((with_reducible apply wp_getL); (walk_at "hp"); rfl) | ((with_reducible apply wp_getTI); (first | assumption | omega); (first | assumption | omega)) | ((with_reducible apply wp_catT); exact le_size (by simp only [List.length_append, List.length_cons, List.length_nil, List.length_map]; omega)) | fail)
local macro_rules | `(tactic| walk_at "sB2") => `(tactic| first | with_reducible refine wp_subI ?_ | ((with_reducible apply wp_mulR); decide) | ((with_reducible apply wp_mulL); decide) | ((with_reducible apply wp_modI); (first | decide | assumption)) | ((with_reducible apply wp_divL); decide) | ((with_reducible apply wp_divI); (first | decide | assumption)) | with_reducible refine wp_ltI ?_ | with_reducible refine wp_leI ?_ | with_reducible refine wp_gtI ?_ | with_reducible refine wp_geI ?_ | with_reducible refine wp_neI ?_ | with_reducible refine wp_eqB ?_ | with_reducible refine wp_neB ?_ | with_reducible refine wp_neS ?_ | with_reducible refine wp_isB ?_ | with_reducible refine wp_isNotB ?_ | with_reducible refine wp_isN0 ?_ | with_reducible refine wp_isNotN0 ?_ | with_reducible refine wp_isNI ?_ | with_reducible refine wp_isNotNI ?_ | with_reducible refine wp_isNS ?_ | with_reducible refine wp_isNotNS ?_ | with_reducible refine wp_isNT ?_ | with_reducible refine wp_isNotNT ?_ | with_reducible refine wp_isNR ?_ | with_reducible refine wp_isNotNR ?_ | fail)
local macro_rules | `(tactic| walk_at "sF") => `(tactic| first | with_reducible refine wp_intI ?_ | with_reducible refine wp_abs ?_ | with_reducible refine wp_lenT ?_ | ((with_reducible apply wp_lenL); walk_at "hp") | ((with_reducible apply sl_list); rfl; assumption; intro _ _ _) | ((with_reducible apply sl_tuple); assumption; walk_at "pick") | fail)
local macro_rules | `(tactic| walk_at "sM") => `(tactic| first | with_reducible refine wp_negI ?_ | with_reducible refine wp_cutT ?_ | ((with_reducible apply sl_pop0); assumption; walk_at "pick"; intro _ _) | fail)
local macro_rules | `(tactic| walk_at "sO1") => `(tactic| first | with_reducible refine ex_bl ?_ | with_reducible refine ex_tru ?_ | with_reducible refine ex_kdT ?_ | with_reducible refine ex_kdC ?_ | with_reducible refine ex_kdI ?_ | with_reducible refine ex_kdB ?_ | with_reducible refine ex_kdS ?_ | with_reducible refine ex_kd0 ?_ | with_reducible refine ex_int ?_ | with_reducible refine ex_str ?_ | with_reducible refine ex_ch ?_ | fail)
local macro_rules | `(tactic| walk_at "sO2") => `(tactic| first | ((with_reducible apply ex_refL); walk_at "hp") | ((with_reducible apply ex_tup); exact rfl) | ((with_reducible apply put_L); assumption; walk_at "pick"; rfl; intro N9 H9; (try simp only [Int.reduceToNat, List.set_cons_zero, List.set_cons_succ] at H9)) | ((with_reducible apply and_size); (first | decide | (simp only [List.length_cons, List.length_nil]; decide))) | ((with_reducible apply ex_fld); (walk_at "hp"); (decide); rfl) | ((with_reducible apply ex_meth); (walk_at "hp"); rfl) | ((with_reducible apply OW.ex_nmeth); assumption; (walk_at "pick"); rfl) | ((with_reducible apply OW.ex_wmeth); assumption; (walk_at "pick"); rfl) | ((with_reducible apply OW.ex_rmethW); assumption; (walk_at "pick"); rfl; rfl) | ((with_reducible apply OW.ex_rmeth); assumption; (walk_at "pick"); rfl) | ((with_reducible apply ex_at); assumption; intro _ _ _) | ((with_reducible apply ex_fldput); assumption; (walk_at "pick"); (decide); (first | decide | exact Nat.le_of_ble_eq_true rfl); intro _ _) | ((with_reducible apply ex_kdL); walk_at "hp") | ((with_reducible apply ex_kdD); walk_at "hp") | fail)
local macro_rules | `(tactic| walk_at "st") => `(tactic| first | ((with_reducible show NY.wpS _ _); walk_at "sS1") | ((with_reducible show NY.wpR ((_ : NEnv → NH → _) _ _) _ _); walk_at "sN1") | dsimp only [List.set_cons_zero, List.set_cons_succ, setAll] | ((with_reducible show NY.wpS _ _); walk_at "sS2") | ((with_reducible show NY.wpR ((_ : NEnv → NH → _) _ _) _ _); walk_at "sN2") | ((with_reducible show NY.wpR ((_ : D → D → NH → _) _ _ _) _ _); (first | walk_at "sB1" | walk_at "sB2" | fail)) | ((with_reducible show NY.wpR ((_ : List D → NH → _) _ _) _ _); walk_at "sF") | ((with_reducible show NY.wpR _ _ _); walk_at "sM") | ((fail_if_success (with_reducible show NY.wpR _ _ _)); (first | walk_at "sO1" | walk_at "sO2" | fail)) | fail)
local macro_rules | `(tactic| walk_at "go") => `(tactic| repeat' (walk_at "st"))
local macro_rules | `(tactic| walk_at "gos") => `(tactic| repeat' (first | with_reducible refine wp_sif ?_ | (walk_at "st") | fail))
local macro_rules | `(tactic| walk_at "ifs") => `(tactic| first | with_reducible refine ifT (by decide +kernel) ?_ | with_reducible refine ifF (by decide +kernel) ?_ | with_reducible refine wp_sif ?_ | (walk_at "st") | with_reducible refine wp_if ?_ | with_reducible refine ifT (by simp only [List.length_cons, List.length_nil]; decide +kernel) ?_ | with_reducible refine ifF (by simp only [List.length_cons, List.length_nil]; decide +kernel) ?_ | fail)
local macro_rules | `(tactic| walk_at "goi") => `(tactic| repeat' (walk_at "ifs"))
local macro_rules | `(tactic| walk_at "box") => `(tactic| (apply OW.box_mk; assumption; walk_at "pick"; walk_at "pick"))
section
variable {Q : D → NH → Prop} {E : XP} {N : NH} {n k : Nat} {σ : NEnv} {L R : List HP}
def okNum (d : D) (a b : Int) : Bool := match d with | .int i => decide (a ≤ i) && decide (i ≤ b) | _ => false
abbrev okWord (d : D) : Bool := okNum d 0 4294967295
def sTHREE : List Str := ["add", "sub", "mul", "div", "mod", "less", "same"]
def sTWO : List Str := ["copy", "load", "store"]
def sONE : List Str := ["read", "left", "write"]
def sNAMES : List Str := ["set", "copy", "add", "sub", "mul", "div", "mod", "less", "same", "load", "store", "jump", "zero", "read", "left", "write", "stop"]
def kinds (s : Str) : List Str :=
  if s ∈ sTHREE then ["register", "register", "register"] else if s ∈ sTWO then ["register", "register"] else if s ∈ sONE then ["register"]
  else if s = "set" then ["register", "word"] else if s = "jump" then ["place"] else if s = "zero" then ["register", "place"] else []
def okOp (s : Str) (d : D) : Bool := if s = "register" then okNum d 0 3 else if s = "word" then okWord d else okNum d 0 64
end
section
variable {Q : D → NH → Prop} {E : XP} {N : NH} {n k : Nat} {σ : NEnv} {L R : List HP}
def okOps (s : Str) (r : List D) : Bool := decide (r.length = (kinds s).length) && (List.range (kinds s).length).all fun k => okOp ((kinds s).getD k "") (r.getD k .non)
def insB : D → Bool
  | .tup (.str s :: r) => decide (s ∈ sNAMES) && okOps s r
  | _ => false
end
section
variable {Q : D → NH → Prop} {E : XP} {N : NH} {n k : Nat} {σ : NEnv} {L R : List HP}
def isW (w : Int) : Prop := 0 ≤ w ∧ w < 4294967296
/-- an instruction as data: its name, its operands -/
def Code (d : D) : Prop := ∃ (s : Str) (args : List Int), d = .tup (.str s :: args.map .int) ∧ insB d = true
end
section
variable {Q : D → NH → Prop} {E : XP} {N : NH} {n k : Nat} {σ : NEnv} {L R : List HP}
theorem small_log {m : Int} (h : 0 ≤ m) (h2 : m < 9000) : m.natAbs.log2 < 9000 := Nat.lt_of_le_of_lt (Nat.log2_le_self _) (by omega)
end
section
variable {Q : D → NH → Prop} {E : XP} {N : NH} {n k : Nat} {σ : NEnv} {L R : List HP}
end
section
variable {Q : D → NH → Prop} {E : XP} {N : NH} {n k : Nat} {σ : NEnv} {L R : List HP}
theorem cut_drop {l : List D} {i : Int} (h0 : 0 ≤ i) (h1 : i ≤ l.length) : NY.cutD l (some i) none = l.drop i.toNat := by
  unfold NY.cutD HT.sIx
  simp
  rw [if_neg (by omega)]
  rw [List.take_of_length_le (by rw [List.length_drop]; omega)]
  congr 1; omega
end
section
variable {Q : D → NH → Prop} {E : XP} {N : NH} {n k : Nat} {σ : NEnv}
/-- a text of real signs, not too long -/
def Nm (z : Str) (m : Nat) : Prop := z.length ≤ m ∧ ∀ c ∈ z.cps.toList, c < 0x110000
theorem Nm.mono {z : Str} {i j : Nat} (h : Nm z i) (l : i ≤ j) : Nm z j := ⟨Nat.le_trans h.1 l, h.2⟩
theorem Nm.app {a b : Str} {i j : Nat} (h : Nm a i) (h' : Nm b j) : Nm (a ++ b) (i + j) := by
  have e : (a ++ b).cps.toList = a.cps.toList ++ b.cps.toList := by
    show (a.cps ++ b.cps).toList = _
    simp
  refine ⟨?_, fun c hc => ?_⟩
  · show (a.cps ++ b.cps).size ≤ i + j
    have h1 : a.cps.size ≤ i := h.1
    have h2 : b.cps.size ≤ j := h'.1
    simp; omega
  · rw [e] at hc
    rcases List.mem_append.mp hc with q | q
    · exact h.2 c q
    · exact h'.2 c q
theorem Nm.one {c : Nat} (h : c < 0x110000) : Nm ⟨#[c]⟩ 1 := ⟨Nat.le_refl _, fun d hd => by simp at hd; omega⟩
theorem Nm.ok {z : Str} {i : Nat} (h : Nm z i) : okD (.str z) = true := by
  unfold okD NY.plain dep
  simp only [Nat.zero_le, decide_true, Bool.and_true]
  rw [← Array.all_toList]
  exact List.all_eq_true.mpr fun c hc => decide_eq_true (h.2 c hc)
theorem Nm.glue : ∀ (l : List Str) (a : Array Nat) (m : Nat), a.size ≤ m → (∀ c ∈ a.toList, c < 0x110000) → (∀ z ∈ l, Nm z 1) → Nm ⟨List.foldl (fun acc p => acc ++ (⟨#[]⟩ : Str).cps ++ p.cps) a l⟩ (m + l.length)
  | [], a, m, h1, h2, _ => ⟨h1, h2⟩
  | z :: r, a, m, h1, h2, h3 => by
    have hz := h3 z List.mem_cons_self
    have := Nm.glue r (a ++ (⟨#[]⟩ : Str).cps ++ z.cps) (m + 1) (by have h4 : z.cps.size ≤ 1 := hz.1; simp; omega) (fun c hc => by
      have hc : c ∈ a.toList ∨ c ∈ z.cps.toList := by simpa using hc
      rcases hc with q | q
      · exact h2 c q
      · exact hz.2 c q) (fun y hy => h3 y (List.mem_cons_of_mem _ hy))
    exact this.mono (by rw [List.length_cons]; omega)
theorem Nm.join {l : List Str} (h : ∀ z ∈ l, Nm z 1) : Nm (Txt.join "" l) (l.length) := by
  have e0 : ("" : Str) = ⟨#[]⟩ := by decide +kernel
  rw [e0]
  show Nm (Builtin.Str.glued ⟨#[]⟩ l) l.length
  unfold Builtin.Str.glued
  cases l with
  | nil => exact ⟨Nat.zero_le _, fun c hc => by simp [Str.empty] at hc⟩
  | cons z r =>
    have hz := h z List.mem_cons_self
    have := Nm.glue r z.cps 1 hz.1 hz.2 fun y hy => h y (List.mem_cons_of_mem _ hy)
    exact this.mono (by rw [List.length_cons]; omega)
theorem wp_join {s : Str} {ys : List Str} (h : N[n]? = some (.lst (ys.map .str))) (hl : (ys.map (·.length)).sum + ys.length * s.length ≤ 16777216) (hq : Q (.str (Txt.join s ys)) N) : wpR (fJoin (.str s) [.ref n] N) Q E := by
  have e : fJoin (.str s) [.ref n] N = .ok (.str (Txt.join s ys)) N := by
    show (match (seqN N (.ref n)).bind strsOf with | some ys => _ | none => _) = _
    have : seqN N (.ref n) = some (ys.map .str) := by simp [seqN, h]
    rw [this, Option.bind_some, strsOf_map]
    exact if_pos hl
  rw [e]
  with_unfolding_all exact hq
end
local macro_rules | `(tactic| walk_at "tg") => `(tactic| first
  | ((with_reducible apply wp_V); rfl) | with_reducible refine wp_C ?_ | with_reducible refine wp_op2 ?_
  | with_reducible refine wp_eqS ?_ | with_reducible refine wp_eqI ?_ | with_reducible refine wp_addI ?_ | ((with_reducible apply wp_getT); rfl) | ((with_reducible apply wp_getL); assumption; rfl)
  | with_reducible refine wp_bool ?_ | with_reducible refine ex_bl ?_ | with_reducible refine ex_int ?_ | with_reducible refine wp_seq ?_ | with_reducible refine wp_cons ?_ | with_reducible refine wp_nil ?_ | with_reducible refine wp_call ?_ | with_reducible refine wp_asg _ ?_ | with_reducible refine wp_ret ?_ | with_reducible refine wp_pass ?_
  | dsimp only [List.set_cons_zero, List.set_cons_succ, setAll]
  | with_reducible refine wp_expr ?_ | with_reducible refine wp_asgT ?_ | with_reducible refine wp_tup ?_ | with_reducible refine wp_fldput ?_ | with_reducible refine wp_putL ?_
  | with_reducible refine wp_subI ?_ | ((with_reducible apply wp_mulR); decide) | ((with_reducible apply wp_mulL); decide) | ((with_reducible apply wp_modI); (first | decide | assumption)) | ((with_reducible apply wp_divI); (first | decide | assumption)) | with_reducible refine wp_negI ?_ | with_reducible refine wp_ltI ?_ | with_reducible refine wp_leI ?_ | with_reducible refine wp_gtI ?_ | with_reducible refine wp_geI ?_ | with_reducible refine wp_intI ?_ | with_reducible refine wp_abs ?_
  | with_reducible refine wp_neI ?_ | with_reducible refine wp_neS ?_ | with_reducible refine wp_isN0 ?_ | with_reducible refine wp_isNotN0 ?_ | with_reducible refine wp_isNI ?_ | with_reducible refine wp_isNotNI ?_ | with_reducible refine wp_isNT ?_ | with_reducible refine wp_isNotNT ?_ | with_reducible refine wp_cutT ?_ | with_reducible refine wp_lenT ?_ | ((with_reducible apply wp_getTI); (first | assumption | omega); (first | assumption | omega))
  | ((with_reducible apply wp_catT); exact le_size (by simp only [List.length_append, List.length_cons, List.length_nil, List.length_map]; omega)) | ((with_reducible apply wp_lenL); assumption) | ((with_reducible apply wp_pop0); assumption)
  | with_reducible refine wp_op1 ?_ | with_reducible refine wp_andT ?_ | with_reducible refine wp_orT ?_ | with_reducible refine wp_notT ?_ | with_reducible refine wp_and ?_ | with_reducible refine wp_or ?_ | with_reducible refine wp_not ?_ | with_reducible refine wp_tru ?_ | with_reducible refine wp_chain ?_ | with_reducible refine wp_lstN ?_ | with_reducible refine wp_bmL ?_
  | with_reducible refine wp_psNil ?_ | with_reducible refine wp_psCons ?_ | with_reducible refine wp_dispN ?_ | with_reducible refine wp_noPart ?_ | with_reducible refine wp_part ?_ | with_reducible refine wp_cut ?_ | with_reducible refine wp_isi ?_ | with_reducible refine wp_fld ?_ | with_reducible refine wp_dget2 ?_ | with_reducible refine wp_meth ?_ | with_reducible refine wp_make ?_
  | ((with_reducible apply ex_refL); assumption) | ((with_reducible apply ex_tup); exact rfl) | ((with_reducible apply ex_putL); assumption; rfl) | ((with_reducible apply and_size); (first | decide | (simp only [List.length_cons, List.length_nil]; decide))) | with_reducible refine ex_str ?_ | ((with_reducible apply ex_fld); assumption; (decide); rfl) | fail)
local macro_rules | `(tactic| walk_at "ts") => `(tactic| first | with_reducible refine ifT (by decide +kernel) ?_ | with_reducible refine ifF (by decide +kernel) ?_ | with_reducible refine wp_sif ?_ | (walk_at "tg") | with_reducible refine wp_if ?_ | fail)
local macro_rules | `(tactic| walk_at "tss") => `(tactic| repeat' (walk_at "ts"))
inductive Ins where
  | three (o : Nat) (r s t : Int) | set (r w : Int) | copy (r s : Int) | load (r s : Int) | store (r s : Int) | jump (p : Int) | zero (r p : Int) | read (r : Int) | left (r : Int) | write (r : Int) | stop
def nm3 : Nat → Str
  | 0 => "add" | 1 => "sub" | 2 => "mul" | 3 => "div" | 4 => "mod" | 5 => "less" | _ => "same"
abbrev Rg (r : Int) : Prop := 0 ≤ r ∧ r < 4
abbrev W32 (w : Int) : Prop := 0 ≤ w ∧ w < 4294967296
def Ins.ok : Ins → Prop
  | .three o r s t => o < 7 ∧ Rg r ∧ Rg s ∧ Rg t
  | .set r w => Rg r ∧ W32 w
  | .copy r s | .load r s | .store r s => Rg r ∧ Rg s
  | .jump p => 0 ≤ p
  | .zero r p => Rg r ∧ 0 ≤ p
  | .read r | .left r | .write r => Rg r
  | .stop => True
structure Sta where
  p : Int
  r : List Int
  m : List Int
  q : Int
  w : List Int
  s : Int
structure Sta.ok (n k : Nat) (x : Sta) : Prop where
  p : 0 ≤ x.p
  r : x.r.length = 4
  rw : ∀ v ∈ x.r, W32 v
  m : x.m.length = 64
  mw : ∀ v ∈ x.m, W32 v
  q0 : 0 ≤ x.q
  q1 : x.q ≤ n
  w : x.w.length ≤ k
abbrev Sta.at (x : Sta) (r : Int) : Int := x.r.getD r.toNat 0
section
variable {Q : D → NH → Prop} {E : XP} {N : NH} {n k : Nat} {σ : NEnv} {L R : List HP}
def Ins.pl : Ins → Prop
  | .jump p => p ≤ 64
  | .zero _ p => p ≤ 64
  | _ => True
end
/-- blanks taken off at both ends -/
abbrev ofL (l : List Nat) : Str := ⟨l.toArray⟩
section
variable {Q : D → NH → Prop} {E : XP} {N : NH} {n k : Nat} {σ : NEnv} {L R R2 : List HP} {d x y z : D} {e : En} {A : NA}
/-! names, labels, numbers -/
def smallB (c : Nat) : Bool := decide (97 ≤ c) && decide (c ≤ 122)
def digB (c : Nat) : Bool := decide (48 ≤ c) && decide (c ≤ 57)
theorem small_eq : ("abcdefghijklmnopqrstuvwxyz" : Str).cps.toList = List.range' 97 26 := by decide +kernel
theorem dig_eq : ("0123456789" : Str).cps.toList = List.range' 48 10 := by decide +kernel
theorem small_mem (c : Nat) : decide (c ∈ ("abcdefghijklmnopqrstuvwxyz" : Str).cps.toList) = smallB c := by
  rw [small_eq]
  unfold smallB
  rw [← Bool.decide_and]
  exact decide_eq_decide.mpr ⟨fun h => by have := List.mem_range'_1.mp h; omega, fun h => List.mem_range'_1.mpr (by omega)⟩
theorem dig_mem (c : Nat) : decide (c ∈ ("0123456789" : Str).cps.toList) = digB c := by
  rw [dig_eq]
  unfold digB
  rw [← Bool.decide_and]
  exact decide_eq_decide.mpr ⟨fun h => by have := List.mem_range'_1.mp h; omega, fun h => List.mem_range'_1.mpr (by omega)⟩
def headB (p : Nat → Bool) : List Nat → Bool
  | [] => false
  | c :: _ => p c
def nameB (s : Str) : Bool := (decide (1 ≤ s.length) && decide (s.length ≤ 12)) && (headB smallB s.cps.toList && s.cps.toList.all fun c => smallB c || digB c)
theorem wp_inS {c : Nat} {s : Str} (h : Q (.bl (decide (c ∈ s.cps.toList))) N) : wpR (fIn (.str ⟨#[c]⟩) (.str s) N) Q E := wp_in (k := decide (c ∈ s.cps.toList)) rfl h
theorem wp_notinS {c : Nat} {s : Str} (h : Q (.bl (!decide (c ∈ s.cps.toList))) N) : wpR (fNotIn (.str ⟨#[c]⟩) (.str s) N) Q E := wp_notin (k := decide (c ∈ s.cps.toList)) rfl h
theorem wp_getS0 {c : Nat} {r : List Nat} {s : Str} (hs : s.cps.toList = c :: r) (hl : s.length ≤ sizeLine) (h : Q (.str ⟨#[c]⟩) N) : wpR (fGet (.str s) (.int 0) N) Q E := wp_get (d := .str ⟨#[c]⟩) (by
  unfold getIx
  dsimp only
  rw [if_pos hl, hs]
  simp [atI, ixN]) h
theorem len_list (s : Str) : s.length = s.cps.toList.length := TL.len_tl s
theorem inC {l : List D} {x : D} (hx : flatD x = true) (hl : l.all flatD = true) (h : Q (.bl (l.any fun z => eqD z x)) N) : wpR (fIn x (.ctup l) N) Q E := wp_in (k := l.any fun z => eqD z x) (by
  unfold inN
  dsimp only
  rw [hx, hl]; rfl) h
theorem any_strs {l : List Str} {s : Str} : ((l.map D.str).any fun z => eqD z (.str s)) = decide (s ∈ l) := by
  induction l with
  | nil => rfl
  | cons a r ih =>
    rw [List.map_cons, List.any_cons, ih]
    show ((a == s) || decide (s ∈ r)) = _
    by_cases e : a = s
    · subst e; simp
    · have e2 : (a == s) = false := by simpa using e
      rw [e2, Bool.false_or]
      exact decide_eq_decide.mpr ⟨.tail _, fun h => by
        rcases List.mem_cons.mp h with z | z
        · exact absurd z.symm e
        · exact z⟩
theorem strs_flat (l : List Str) : (l.map D.str).all flatD = true := by rw [List.all_map]; exact List.all_eq_true.mpr fun _ _ => rfl
/-! numbers -/
def numS (i : Int) : Str := toString i
theorem num_cs (n : Nat) : (numS (n : Int)).cps.toList = TL.numL n := TL.tl_num n
def optD : Option Int → D
  | none => .non
  | some v => .int v
theorem wp_intS {s : Str} {v : Int} (h : PySem.intText? s = some v) (hl : s.length ≤ 640) (hQ : Q (.int v) N) : wpR (fInt [.str s] N) Q E := wp_ofEq (d := .int v) (by
  show (match PySem.intText? s with | some n => if s.length ≤ 640 then NY.R.ok (D.int n) N else .bad | none => .bad) = _
  rw [h]
  exact if_pos hl) hQ
theorem one_zero (c : Nat) : decide ((⟨#[c]⟩ : Str) = ("0" : Str)) = decide (c = 48) := decide_eq_decide.mpr ⟨fun h => by
  have := congrArg (fun s : Str => s.cps.toList) h
  exact (List.cons.inj this).1, fun h => by subst h; decide +kernel⟩
end
section
variable {Q : D → NH → Prop} {E : XP} {N : NH} {n k : Nat} {σ : NEnv} {L R R2 : List HP} {d x y z : D} {a b c : NE}
/-- [.. for v in a if ..] that keeps the heap's parts -/
theorem sl_lcP {T : NT} {me : NE} {vs : List Nat} {v : Nat} (f : D → Bool) (g : D → D) (h : wpR (a σ N) (fun d N => ∃ t L, itOf N d = some t ∧ (∀ N, At N L → t.ok N = true) ∧ t.items.length < sizeLine ∧ At N L ∧
    (∀ x N, x ∈ t.items → At N L → wpR (T ((wipeN σ vs).set v (some x)) N) (fun k N' => At N' L ∧ k = f x)) ∧ (∀ x N, x ∈ t.items → f x = true → At N L → wpR (me ((wipeN σ vs).set v (some x)) N) (fun y N' => At N' L ∧ y = g x)) ∧
    ∀ (k : Nat) (N' : NH), At N' (pt k (.lst ((t.items.filter f).map g)) :: L) → Q (.ref k) N') E) : wpR (nLc (iSeq a) (pName v) T me vs σ N) Q E := by
  refine wp_lc (wp_it (h.mono (fun d N ⟨t, L, e1, hok, hl, H, hT, hm, hq⟩ => ⟨t, e1, ?_⟩) fun _ _ h => h))
  refine wp_lcLoop (fun i acc N' => At N' L ∧ acc = ((t.items.take i).filter f).map g ∧ i ≤ t.items.length) ⟨H, rfl, Nat.zero_le _⟩ (fun i acc N' ⟨e, e2, e3⟩ => ?_) ?_ ?_
  · refine ⟨hok _ e, ?_⟩
    rw [e2, List.length_map]
    refine Nat.lt_of_le_of_lt (List.length_filter_le _ _) ?_
    rw [List.length_take]
    omega
  · rintro i x acc N' hx ⟨H', rfl, hi⟩
    obtain ⟨hlt, rfl⟩ := List.getElem?_eq_some_iff.mp hx
    refine ⟨_, rfl, ?_⟩
    have hmem : t.items[i] ∈ t.items := List.getElem_mem hlt
    refine (hT _ _ hmem H').mono (fun k N2 ⟨H2, e2⟩ => ?_) fun _ _ h => h.elim
    subst e2
    have et : t.items.take (i + 1) = t.items.take i ++ [t.items[i]] := by rw [List.take_succ_eq_append_getElem hlt]
    split
    · rename_i hf
      refine (hm _ _ hmem hf H2).mono (fun y N3 ⟨H3, e2⟩ => ?_) fun _ _ h => h.elim
      subst e2
      exact ⟨H3, by rw [et, List.filter_append, List.map_append]; simp [hf], hlt⟩
    · rename_i hf
      exact ⟨H2, by rw [et, List.filter_append, List.map_append]; simp [hf], hlt⟩
  · rintro acc N' ⟨H', rfl, _⟩
    rw [List.take_length]
    exact hq _ _ H'.new
theorem bls_map {l : List D} {f : D → Bool} : blsOf (l.map fun x => D.bl (f x)) = some (l.map f) := by
  induction l with
  | nil => rfl
  | cons x r ih =>
    show blsOf (D.bl (f x) :: r.map fun x => D.bl (f x)) = _
    unfold blsOf
    rw [ih]; rfl
theorem sl_fall {l : List D} {f : D → Bool} (H : At N L) (hp : Pick L (pt n (.lst (l.map fun x => D.bl (f x)))) R) (h : Q (.bl (l.all f)) N) : wpR (fAll [.ref n] N) Q E := by
  refine wp_ofEq ?_ h
  show (match (lstN N (.ref n)).bind blsOf with | some ns => _ | none => _) = _
  have e : lstN N (.ref n) = some (l.map fun x => D.bl (f x)) := by simp [lstN, H.get hp]
  rw [e]
  show (match blsOf (l.map fun x => D.bl (f x)) with | some ns => _ | none => _) = _
  rw [bls_map]
  show NY.R.ok (D.bl ((l.map f).all _root_.id)) N = _
  rw [List.all_map]; rfl
theorem chars_len (s : Str) : (chars s).length = s.length := by unfold chars; rw [List.length_map]; exact Array.length_toList
end
section
variable {Q : D → NH → Prop} {E : XP} {N : NH} {n k : Nat} {σ : NEnv} {L R R2 : List HP} {d x y z : D} {a b c : NE}
/-! the notary: the sealed rows in their order -/
abbrev Rows := List (List Key)
def tupK (ks : List Key) : D := .tup (ks.map dKey)
def numT (i : Nat) : Rows → List (List Key × D)
  | [] => []
  | k :: r => (k, .int ((i + 1 : Nat) : Int)) :: numT (i + 1) r
def posT (i : Nat) (ks : List Key) : Rows → Option Nat
  | [] => none
  | k :: r => if k = ks then some (i + 1) else posT (i + 1) ks r
/-- the seal of a row: 0 where there is none -/
def num (T : Rows) (ks : List Key) : Nat := (posT 0 ks T).getD 0
def addT (T : Rows) (ks : List Key) : Rows := if (posT 0 ks T).isSome then T else T ++ [ks]
theorem posT_none {ks : List Key} : ∀ {i : Nat} {T : Rows}, ks ∉ T → posT i ks T = none
  | _, [], _ => rfl
  | i, k :: r, h => by
    unfold posT
    rw [if_neg (show ¬ k = ks from fun e => by subst e; exact h List.mem_cons_self)]
    exact posT_none fun m => h (List.mem_cons_of_mem _ m)
theorem posT_some {ks : List Key} : ∀ {i : Nat} {T : Rows}, ks ∈ T → ∃ j, posT i ks T = some (i + j + 1) ∧ T[j]? = some ks
  | i, k :: r, h => by
    unfold posT
    by_cases e : k = ks
    · rw [if_pos e]; exact ⟨0, rfl, by rw [e]; rfl⟩
    · rw [if_neg e]
      obtain ⟨j, h1, h2⟩ := posT_some (i := i + 1) ((List.mem_cons.mp h).resolve_left fun z => e z.symm)
      exact ⟨j + 1, by rw [h1]; congr 1; omega, by simpa using h2⟩
theorem posT_app {ks : List Key} {T2 : Rows} : ∀ {i : Nat} {T : Rows}, ks ∈ T → posT i ks (T ++ T2) = posT i ks T
  | i, k :: r, h => by
    rw [List.cons_append]
    unfold posT
    by_cases e : k = ks
    · rw [if_pos e, if_pos e]
    · rw [if_neg e, if_neg e]
      exact posT_app ((List.mem_cons.mp h).resolve_left fun z => e z.symm)
theorem num_none {T : Rows} {ks : List Key} (h : ks ∉ T) : num T ks = 0 := by unfold num; rw [posT_none h]; rfl
theorem num_pos {T : Rows} {ks : List Key} (h : ks ∈ T) : 1 ≤ num T ks ∧ num T ks ≤ T.length ∧ T[num T ks - 1]? = some ks := by
  obtain ⟨j, h1, h2⟩ := posT_some (i := 0) h
  have := (List.getElem?_eq_some_iff.mp h2).1
  have e : num T ks = j + 1 := by unfold num; rw [h1]; show 0 + j + 1 = j + 1; omega
  rw [e]
  exact ⟨by omega, by omega, h2⟩
theorem num_inj {T : Rows} {k l : List Key} (h : k ∈ T) (h' : num T k = num T l) : k = l := by
  obtain ⟨a1, a2, a3⟩ := num_pos h
  by_cases hl : l ∈ T
  · obtain ⟨_, _, b3⟩ := num_pos hl
    rw [← h', a3] at b3
    exact Option.some.inj b3
  · rw [num_none hl] at h'; omega
theorem num_app {T T2 : Rows} {ks : List Key} (h : ks ∈ T) : num (T ++ T2) ks = num T ks := by unfold num; rw [posT_app h]
theorem addT_in {T : Rows} {ks : List Key} (h : ks ∈ T) : addT T ks = T := by
  obtain ⟨j, e, _⟩ := posT_some (i := 0) h
  unfold addT; rw [e]; rfl
theorem addT_out {T : Rows} {ks : List Key} (h : ks ∉ T) : addT T ks = T ++ [ks] := by unfold addT; rw [posT_none h]; rfl
theorem addT_pre (T : Rows) (ks : List Key) : ∃ T2, addT T ks = T ++ T2 := by
  by_cases h : ks ∈ T
  · exact ⟨[], by rw [List.append_nil, addT_in h]⟩
  · exact ⟨[ks], addT_out h⟩
theorem addT_len (T : Rows) (ks : List Key) : (addT T ks).length ≤ T.length + 1 := by
  by_cases h : ks ∈ T
  · rw [addT_in h]; omega
  · rw [addT_out h, List.length_append, List.length_singleton]; omega
/-- n is a notary's, of these rows, asked so often -/
abbrev WidK (T : Rows) : Prop := ∀ ks ∈ T, ks.length ≤ 16
def ntry (n : Nat) (T : Rows) (q : Int) : HP := exH fun a : Nat => exH fun b : Nat => andP (WidK T) <| star (pt n (.ins 0 [(0, .ref a), (1, .ref b), (2, .int q)])) (star (pt a (.dT (numT 0 T))) (pt b (.lst (T.map tupK))))
theorem ntry_un {T : Rows} {q : Int} (H : At N L) (hp : Pick L (ntry n T q) R) : ∃ a b, At N (pt n (.ins 0 [(0, .ref a), (1, .ref b), (2, .int q)]) :: pt a (.dT (numT 0 T)) :: pt b (.lst (T.map tupK)) :: R) := by
  obtain ⟨a, H⟩ := (H.pick hp).unex
  obtain ⟨b, H⟩ := H.unex
  have H := H.unand.2.unstar
  refine ⟨a, b, ?_⟩
  exact (((H.pick (.tail .head)).unstar).pick (.tail (.tail .head)))
end
section
variable {Q : D → NH → Prop} {E : XP} {N : NH} {n k : Nat} {σ : NEnv} {L R R2 : List HP} {d x y z : D} {a b c : NE}
theorem ex_nmeth {T : Rows} {q : Int} {fs : List (Nat × NF)} {F : NF} {K : Nat → NF → Prop} (H : At N L) (hp : Pick L (ntry n T q) R) (hf : fs.find? (fun p => decide (p.1 = 0)) = some (0, F)) (hk : K n F) :
    ∃ m c fl F, D.ref n = .ref m ∧ N[m]? = some (.ins c fl) ∧ fs.find? (fun p => decide (p.1 = c)) = some (c, F) ∧ K m F := by
  obtain ⟨a, b, H⟩ := ntry_un H hp
  exact ⟨n, 0, _, F, rfl, H.get .head, hf, hk⟩
end
end OW
set_option Elab.async false
set_option linter.all false
set_option maxRecDepth 100000
set_option maxHeartbeats 4000000
namespace OW
open NY PySem PySem.Spec PyProof.Rows L2
local macro_rules | `(tactic| walk_at "pick") => `(tactic| first | with_reducible exact Pick.head | ((with_reducible apply Pick.tail); walk_at "pick") | fail)
local macro_rules | `(tactic| walk_at "sub") => `(tactic| first | with_reducible exact Sub.refl | ((with_reducible apply Sub.drop); walk_at "sub") | fail)
local macro_rules | `(tactic| walk_at "cov") => `(tactic| first | with_reducible exact Covers.nil | ((with_reducible apply Covers.cons); (walk_at "pick"); walk_at "cov") | ((with_reducible apply Covers.sub); walk_at "sub") | fail)
local macro_rules | `(tactic| walk_at "at") => `(tactic| first | assumption | ((with_reducible apply At.cover); assumption; walk_at "cov") | fail)
local macro_rules | `(tactic| walk_at "hp") => `(tactic| first | assumption | ((with_reducible apply At.get); assumption; walk_at "pick") | fail)
local macro_rules | `(tactic| walk_at "sS1") => `(tactic| first | with_reducible refine wp_seq ?_ | with_reducible refine wp_asg _ ?_ | with_reducible refine wp_ret ?_ | with_reducible refine wp_pass ?_ | with_reducible refine wp_expr ?_ | fail)
local macro_rules | `(tactic| walk_at "sN1") => `(tactic| first | ((with_reducible apply wp_V); rfl) | with_reducible refine wp_C ?_ | with_reducible refine wp_cons ?_ | with_reducible refine wp_op2 ?_ | with_reducible refine wp_nil ?_ | with_reducible refine wp_call ?_ | fail)
local macro_rules | `(tactic| walk_at "sS2") => `(tactic| first | with_reducible refine wp_asgT ?_ | with_reducible refine sl_fldput ?_ | with_reducible refine sl_put ?_ | fail)
local macro_rules | `(tactic| walk_at "sN2") => `(tactic| first | with_reducible refine wp_bool ?_ | with_reducible refine wp_tru ?_ | with_reducible refine wp_tup ?_ | with_reducible refine wp_op1 ?_ | with_reducible refine wp_andT ?_ | with_reducible refine wp_orT ?_ | with_reducible refine wp_notT ?_ | with_reducible refine wp_and ?_ | with_reducible refine wp_or ?_ | with_reducible refine wp_not ?_ | with_reducible refine wp_chLL ?_ | with_reducible refine wp_chLl ?_ | with_reducible refine sl_lst ?_ | with_reducible refine wp_bmL ?_ | with_reducible refine wp_bmS ?_ | with_reducible refine wp_psNil ?_ | with_reducible refine wp_psCons ?_ | with_reducible refine sl_disp ?_ | with_reducible refine wp_noPart ?_ | with_reducible refine wp_part ?_ | with_reducible refine wp_cut ?_ | with_reducible refine wp_isi ?_ | with_reducible refine wp_fld ?_ | with_reducible refine wp_meth ?_ | with_reducible refine wp_methW ?_ | with_reducible refine sl_make ?_ | ((with_reducible apply sl_dK); assumption; intro _ _ _) | ((with_reducible apply sl_dT); assumption; intro _ _ _) | fail)
local macro_rules | `(tactic| walk_at "sB1") => `(tactic| first | with_reducible refine wp_eqS ?_ | with_reducible refine wp_eqI ?_ | with_reducible refine wp_addI ?_ | with_reducible refine wp_getT0 ?_ | ((with_reducible apply wp_getT); rfl) | ((with_reducible apply wp_getL); (walk_at "hp"); rfl) | ((with_reducible apply wp_getTI); (first | assumption | omega); (first | assumption | omega)) | ((with_reducible apply wp_catT); exact le_size (by simp only [List.length_append, List.length_cons, List.length_nil, List.length_map]; omega)) | fail)
local macro_rules | `(tactic| walk_at "sB2") => `(tactic| first | with_reducible refine wp_subI ?_ | ((with_reducible apply wp_mulR); decide) | ((with_reducible apply wp_mulL); decide) | ((with_reducible apply wp_modI); (first | decide | assumption)) | ((with_reducible apply wp_divL); decide) | ((with_reducible apply wp_divI); (first | decide | assumption)) | with_reducible refine wp_ltI ?_ | with_reducible refine wp_leI ?_ | with_reducible refine wp_gtI ?_ | with_reducible refine wp_geI ?_ | with_reducible refine wp_neI ?_ | with_reducible refine wp_eqB ?_ | with_reducible refine wp_neB ?_ | with_reducible refine wp_neS ?_ | with_reducible refine wp_isB ?_ | with_reducible refine wp_isNotB ?_ | with_reducible refine wp_isN0 ?_ | with_reducible refine wp_isNotN0 ?_ | with_reducible refine wp_isNI ?_ | with_reducible refine wp_isNotNI ?_ | with_reducible refine wp_isNS ?_ | with_reducible refine wp_isNotNS ?_ | with_reducible refine wp_isNT ?_ | with_reducible refine wp_isNotNT ?_ | with_reducible refine wp_isNR ?_ | with_reducible refine wp_isNotNR ?_ | fail)
local macro_rules | `(tactic| walk_at "sF") => `(tactic| first | with_reducible refine wp_intI ?_ | with_reducible refine wp_abs ?_ | with_reducible refine wp_lenT ?_ | ((with_reducible apply wp_lenL); walk_at "hp") | ((with_reducible apply sl_list); rfl; assumption; intro _ _ _) | ((with_reducible apply sl_tuple); assumption; walk_at "pick") | fail)
local macro_rules | `(tactic| walk_at "sM") => `(tactic| first | with_reducible refine wp_negI ?_ | with_reducible refine wp_cutT ?_ | ((with_reducible apply sl_pop0); assumption; walk_at "pick"; intro _ _) | fail)
local macro_rules | `(tactic| walk_at "sO1") => `(tactic| first | with_reducible refine ex_bl ?_ | with_reducible refine ex_tru ?_ | with_reducible refine ex_kdT ?_ | with_reducible refine ex_kdC ?_ | with_reducible refine ex_kdI ?_ | with_reducible refine ex_kdB ?_ | with_reducible refine ex_kdS ?_ | with_reducible refine ex_kd0 ?_ | with_reducible refine ex_int ?_ | with_reducible refine ex_str ?_ | with_reducible refine ex_ch ?_ | fail)
local macro_rules | `(tactic| walk_at "sO2") => `(tactic| first | ((with_reducible apply ex_refL); walk_at "hp") | ((with_reducible apply ex_tup); exact rfl) | ((with_reducible apply put_L); assumption; walk_at "pick"; rfl; intro N9 H9; (try simp only [Int.reduceToNat, List.set_cons_zero, List.set_cons_succ] at H9)) | ((with_reducible apply and_size); (first | decide | (simp only [List.length_cons, List.length_nil]; decide))) | ((with_reducible apply ex_fld); (walk_at "hp"); (decide); rfl) | ((with_reducible apply ex_meth); (walk_at "hp"); rfl) | ((with_reducible apply OW.ex_nmeth); assumption; (walk_at "pick"); rfl) | ((with_reducible apply OW.ex_wmeth); assumption; (walk_at "pick"); rfl) | ((with_reducible apply OW.ex_rmethW); assumption; (walk_at "pick"); rfl; rfl) | ((with_reducible apply OW.ex_rmeth); assumption; (walk_at "pick"); rfl) | ((with_reducible apply ex_at); assumption; intro _ _ _) | ((with_reducible apply ex_fldput); assumption; (walk_at "pick"); (decide); (first | decide | exact Nat.le_of_ble_eq_true rfl); intro _ _) | ((with_reducible apply ex_kdL); walk_at "hp") | ((with_reducible apply ex_kdD); walk_at "hp") | fail)
local macro_rules | `(tactic| walk_at "st") => `(tactic| first | ((with_reducible show NY.wpS _ _); walk_at "sS1") | ((with_reducible show NY.wpR ((_ : NEnv → NH → _) _ _) _ _); walk_at "sN1") | dsimp only [List.set_cons_zero, List.set_cons_succ, setAll] | ((with_reducible show NY.wpS _ _); walk_at "sS2") | ((with_reducible show NY.wpR ((_ : NEnv → NH → _) _ _) _ _); walk_at "sN2") | ((with_reducible show NY.wpR ((_ : D → D → NH → _) _ _ _) _ _); (first | walk_at "sB1" | walk_at "sB2" | fail)) | ((with_reducible show NY.wpR ((_ : List D → NH → _) _ _) _ _); walk_at "sF") | ((with_reducible show NY.wpR _ _ _); walk_at "sM") | ((fail_if_success (with_reducible show NY.wpR _ _ _)); (first | walk_at "sO1" | walk_at "sO2" | fail)) | fail)
local macro_rules | `(tactic| walk_at "go") => `(tactic| repeat' (walk_at "st"))
local macro_rules | `(tactic| walk_at "gos") => `(tactic| repeat' (first | with_reducible refine wp_sif ?_ | (walk_at "st") | fail))
local macro_rules | `(tactic| walk_at "ifs") => `(tactic| first | with_reducible refine ifT (by decide +kernel) ?_ | with_reducible refine ifF (by decide +kernel) ?_ | with_reducible refine wp_sif ?_ | (walk_at "st") | with_reducible refine wp_if ?_ | with_reducible refine ifT (by simp only [List.length_cons, List.length_nil]; decide +kernel) ?_ | with_reducible refine ifF (by simp only [List.length_cons, List.length_nil]; decide +kernel) ?_ | fail)
local macro_rules | `(tactic| walk_at "goi") => `(tactic| repeat' (walk_at "ifs"))
local macro_rules | `(tactic| walk_at "box") => `(tactic| (apply OW.box_mk; assumption; walk_at "pick"; walk_at "pick"))
-- mac2
section
variable {Q : D → NH → Prop} {E : XP} {N : NH} {n k : Nat} {σ : NEnv} {L R R2 : List HP} {d x y z : D} {e : En} {A : NA}
/-! operands -/
theorem numL_head : ∀ {n : Nat}, 1 ≤ n → headB (fun c => decide (c = 48)) (TL.numL n) = false := by
  intro n
  induction n using Nat.strongRecOn with
  | ind n ih =>
    intro h
    by_cases hn : n < 10
    · rw [TL.numL_lt hn]
      exact decide_eq_false (by omega)
    · rw [TL.numL_step (by omega)]
      have h2 := ih (n / 10) (by omega) (by omega)
      cases hl : TL.numL (n / 10) with
      | nil => exact absurd hl (TL.numL_ne _)
      | cons c r =>
        rw [hl] at h2
        exact h2
end
-- mac2
section
variable {Q : D → NH → Prop} {E : XP} {N : NH} {n k : Nat} {σ : NEnv} {L R R2 : List HP} {d x y z : D} {e : En} {A : NA}
theorem strs_get {l : List Str} {j : Nat} {s : Str} {i : Int} (h : l[j]? = some s) (e : i = (j : Int)) : atD (l.map .str) i = some (.str s) := by
  have hlt := (List.getElem?_eq_some_iff.mp h).1
  subst e
  unfold atD ixN
  rw [if_pos (by omega), if_pos (by rw [List.length_map]; omega)]
  simp [h]
end
-- mac2
section
variable {Q : D → NH → Prop} {E : XP} {N : NH} {n k : Nat} {σ : NEnv} {L R R2 : List HP} {d x y z : D} {e : En} {A : NA}
/-! lines -/
theorem ofL_tl (s : Str) : ofL (TL.tl s) = s := TL.ext_tl rfl
theorem split_ofL {c : Nat} {x y : Str} (hy : TL.tl y = [c]) (hc : y.cps.all (· < 256) = true) : Txt.split x y = (TL.spl [c] 0 [] (TL.tl x)).map ofL := by
  have h := TL.split_spl x y (by rw [hy]; simp) (TL.kind_ok hc)
  rw [hy] at h
  rw [← h, List.map_map]
  conv => lhs; rw [← List.map_id (Txt.split x y)]
  exact List.map_congr_left fun s _ => (ofL_tl s).symm
theorem sp_tl : TL.tl (" " : Str) = [32] ∧ (" " : Str).cps.all (· < 256) = true := by decide +kernel
theorem nl_tl : TL.tl ("\n" : Str) = [10] ∧ ("\n" : Str).cps.all (· < 256) = true := by decide +kernel
end
-- mac2
section
variable {Q : D → NH → Prop} {E : XP} {N : NH} {n k : Nat} {σ : NEnv} {L R R2 : List HP} {d x y z : D} {e : En} {A : NA}
def one (o : Option (Str × List D)) : Nat := if o.isSome then 1 else 0
theorem itOfL {l : List D} (h : N[n]? = some (.lst l)) : itOf N (.ref n) = some ⟨l, fun N => decide (N[n]? = some (.lst l))⟩ := by unfold itOf; simp [h]
end
-- mac2
section
variable {Q : D → NH → Prop} {E : XP} {N : NH} {n k : Nat} {σ : NEnv} {L R R2 : List HP} {d x y z : D} {e : En} {A : NA}
/-! places, and a whole text -/
theorem cut_tl (x : D) (l : List D) : NY.cutD (x :: l) (some 1) none = l := by
  rw [cut_drop (by omega) (by rw [List.length_cons]; omega)]; rfl
/-- [f(..) for .. in a list] that keeps the heap's parts -/
theorem sl_lcM {a : NE} {me : NE} {p : NP} {vs : List Nat} (g : Nat → D) (h : wpR (a σ N) (fun d N => ∃ (n : Nat) (l : List D) (L R : List HP), d = .ref n ∧ At N L ∧ Pick L (pt n (.lst l)) R ∧ l.length < 1000000 ∧
    (∀ (j : Nat) x N2, l[j]? = some x → At N2 L → ∃ σ1, p.put x (wipeN σ vs) N2 = some σ1 ∧ wpR (me σ1 N2) (fun y N3 => y = g j ∧ At N3 L)) ∧
    ∀ (k : Nat) (N2 : NH), At N2 (pt k (.lst ((List.range l.length).map g)) :: L) → Q (.ref k) N2) E) : wpR (nLc (iSeq a) p nYes me vs σ N) Q E := by
  refine wp_lc (wp_it (h.mono (fun d N ⟨n, l, L, R, e1, H, hp, hl, hm, hq⟩ => ?_) fun _ _ h => h))
  subst e1
  refine ⟨_, itOfL (H.get hp), ?_⟩
  refine wp_lcLoop (fun i acc N' => At N' L ∧ acc = (List.range i).map g ∧ i ≤ l.length) ⟨H, rfl, Nat.zero_le _⟩ (fun i acc N' ⟨e, e2, e3⟩ => ⟨decide_eq_true (e.get hp), by rw [e2, List.length_map, List.length_range]; exact lt_size (by omega)⟩) ?_ ?_
  · rintro i x acc N' hx ⟨H', rfl, hi⟩
    obtain ⟨σ1, h1, h2⟩ := hm i x N' hx H'
    refine ⟨σ1, h1, ?_⟩
    with_unfolding_all
      show wpR (me _ N') _
      refine h2.mono (fun y N3 ⟨e, H3⟩ => ⟨H3, ?_, (List.getElem?_eq_some_iff.mp hx).1⟩) fun _ _ h => h
      subst e
      rw [List.range_succ, List.map_append]; rfl
  · rintro acc N' ⟨H', rfl, _⟩
    exact hq _ _ H'.new
end
-- mac2
section
variable {Q : D → NH → Prop} {E : XP} {N : NH} {n k : Nat} {σ : NEnv} {L R R2 : List HP} {d x y z : D} {e : En} {A : NA}
/-- [f(..) for .. in a tuple] that keeps the heap's parts -/
theorem sl_lcMT {a : NE} {me : NE} {p : NP} {vs : List Nat} (g : Nat → D) (h : wpR (a σ N) (fun d N => ∃ (l : List D) (L : List HP), d = .tup l ∧ At N L ∧ l.length < 1000000 ∧
    (∀ (j : Nat) x N2, l[j]? = some x → At N2 L → ∃ σ1, p.put x (wipeN σ vs) N2 = some σ1 ∧ wpR (me σ1 N2) (fun y N3 => y = g j ∧ At N3 L)) ∧
    ∀ (k : Nat) (N2 : NH), At N2 (pt k (.lst ((List.range l.length).map g)) :: L) → Q (.ref k) N2) E) : wpR (nLc (iSeq a) p nYes me vs σ N) Q E := by
  refine wp_lc (wp_it (h.mono (fun d N ⟨l, L, e1, H, hl, hm, hq⟩ => ?_) fun _ _ h => h))
  subst e1
  refine ⟨_, rfl, ?_⟩
  refine wp_lcLoop (fun i acc N' => At N' L ∧ acc = (List.range i).map g ∧ i ≤ l.length) ⟨H, rfl, Nat.zero_le _⟩ (fun i acc N' ⟨e, e2, e3⟩ => ⟨rfl, by rw [e2, List.length_map, List.length_range]; exact lt_size (by omega)⟩) ?_ ?_
  · rintro i x acc N' hx ⟨H', rfl, hi⟩
    obtain ⟨σ1, h1, h2⟩ := hm i x N' hx H'
    refine ⟨σ1, h1, ?_⟩
    with_unfolding_all
      show wpR (me _ N') _
      refine h2.mono (fun y N3 ⟨e, H3⟩ => ⟨H3, ?_, (List.getElem?_eq_some_iff.mp hx).1⟩) fun _ _ h => h
      subst e
      rw [List.range_succ, List.map_append]; rfl
  · rintro acc N' ⟨H', rfl, _⟩
    exact hq _ _ H'.new
theorem range_map {α : Type} {l : List α} {f : α → D} {g : Nat → D} {m : Nat} (hm : m = l.length) (h : ∀ j (hj : j < l.length), g j = f l[j]) : (List.range m).map g = l.map f := by
  refine List.ext_getElem (by simp [hm]) fun j h1 h2 => ?_
  simp only [List.getElem_map, List.getElem_range]
  exact h j (by simpa using h2)
theorem joinL_len (S : List Nat) : ∀ l : List (List Nat), (TL.joinL S l).length ≤ (l.map (·.length)).sum + l.length * S.length
  | [] => by simp [TL.joinL]
  | [p] => by
    show p.length ≤ (p.length + 0) + 1 * S.length
    omega
  | p :: q :: r => by
    have ih := joinL_len S (q :: r)
    show (p ++ (S ++ TL.joinL S (q :: r))).length ≤ _
    rw [List.length_append, List.length_append, List.map_cons, List.sum_cons, List.length_cons, Nat.add_mul]
    omega
theorem join_len (s : Str) (l : List Str) : (Txt.join s l).length ≤ (l.map (·.length)).sum + l.length * s.length := by
  have h := joinL_len (TL.tl s) (l.map TL.tl)
  rw [List.map_map, List.length_map, ← TL.len_tl] at h
  have e : l.map ((fun x : List Nat => x.length) ∘ TL.tl) = l.map (·.length) := List.map_congr_left fun x _ => (TL.len_tl x).symm
  rw [e] at h
  rw [TL.len_tl, TL.join_eq, TL.tl_join]
  exact h
theorem sum_le {l : List Str} {m : Nat} (h : ∀ t ∈ l, t.length ≤ m) : (l.map (·.length)).sum ≤ m * l.length := by
  induction l with
  | nil => simp
  | cons a r ih =>
    have h1 := h a List.mem_cons_self
    have h2 := ih fun t ht => h t (List.mem_cons_of_mem _ ht)
    rw [List.map_cons, List.sum_cons, List.length_cons, Nat.mul_succ]; omega
end
-- mac2
section
variable {Q : D → NH → Prop} {E : XP} {N : NH} {n k : Nat} {σ : NEnv} {L R R2 : List HP} {d x y z : D} {e : En} {A : NA}
/-! operands and lines, right or wrong -/
abbrev bt (v : D) : Exn := ⟨15, [(42, v)]⟩
end
section
variable {Q : D → NH → Prop} {E : XP} {N : NH} {n k : Nat} {σ : NEnv} {L R R2 : List HP} {d x y z : D} {e : En} {A : NA}
/-! the tree's numbers -/
def pk (a b : Int) : List Key := [.inr "pair", .inl a, .inl b]
def sealAll (T : Rows) : List (List Key) → Rows
  | [] => T
  | k :: r => sealAll (addT T k) r
def prs (row : List Int) : List (List Key) := (List.range (row.length / 2)).map fun k => pk (row.getD (2 * k) 0) (row.getD (2 * k + 1) 0)
def up (T : Rows) (row : List Int) : List Int := (prs row).map fun k => ((num T k : Nat) : Int)
def rootG (T : Rows) : Nat → List Int → Int
  | 0, row => row.getD 0 0
  | h + 1, row => rootG T h (up T row)
def Good (T : Rows) : Nat → List Int → Prop
  | 0, _ => True
  | h + 1, row => (∀ k ∈ prs row, k ∈ T) ∧ Good T h (up T row)
theorem sealAll_pre : ∀ (T : Rows) (ks : List (List Key)), ∃ T2, sealAll T ks = T ++ T2 ∧ T2.length ≤ ks.length
  | T, [] => ⟨[], by simp [sealAll], by simp⟩
  | T, k :: r => by
    obtain ⟨T1, h1⟩ := addT_pre T k
    have h3 := addT_len T k
    obtain ⟨T2, h2, h4⟩ := sealAll_pre (addT T k) r
    refine ⟨T1 ++ T2, by unfold sealAll; rw [h2, h1, List.append_assoc], ?_⟩
    rw [h1, List.length_append] at h3
    rw [List.length_append, List.length_cons]; omega
theorem prs_len (row : List Int) : (prs row).length = row.length / 2 := by unfold prs; rw [List.length_map, List.length_range]
theorem up_len (T : Rows) (row : List Int) : (up T row).length = row.length / 2 := by unfold up; rw [List.length_map, prs_len]
theorem up_app {T T2 : Rows} {row : List Int} (h : ∀ k ∈ prs row, k ∈ T) : up (T ++ T2) row = up T row := by
  unfold up
  exact List.map_congr_left fun k hk => by rw [num_app (h k hk)]
theorem good_app : ∀ {h : Nat} {T T2 : Rows} {row : List Int}, Good T h row → Good (T ++ T2) h row
  | 0, _, _, _, _ => trivial
  | h + 1, T, T2, row, ⟨a, b⟩ => ⟨fun k hk => List.mem_append_left _ (a k hk), by rw [up_app a]; exact good_app b⟩
theorem rootG_app : ∀ {h : Nat} {T T2 : Rows} {row : List Int}, Good T h row → rootG (T ++ T2) h row = rootG T h row
  | 0, _, _, _, _ => rfl
  | h + 1, T, T2, row, ⟨a, b⟩ => by unfold rootG; rw [up_app a, rootG_app b]
/-- what a row may hold -/
def okI (i : Int) : Prop := 0 ≤ i ∧ i ≤ 281474976710656
end
section
variable {Q : D → NH → Prop} {E : XP} {N : NH} {n k : Nat} {σ : NEnv} {L R R2 : List HP} {d x y z : D} {e : En} {A : NA}
theorem all_mk {α : Type} {P : α → HP} {x : α} {r : List α} (H : At N (P x :: allH P r :: L)) : At N (allH P (x :: r) :: L) := At.star H
end
section
variable {Q : D → NH → Prop} {E : XP} {N : NH} {n k : Nat} {σ : NEnv} {L R R2 : List HP} {d x y z : D} {e : En} {A : NA}
theorem ints_plain : ∀ l : List Int, plains (l.map .int) = true ∧ deps (l.map .int) = 0
  | [] => ⟨rfl, rfl⟩
  | i :: r => by
    obtain ⟨a, b⟩ := ints_plain r
    rw [List.map_cons]
    unfold NY.plains deps
    rw [a, b]
    exact ⟨rfl, rfl⟩
theorem up_get {T : Rows} {row : List Int} {j : Nat} (hj : j < row.length / 2) : (up T row).getD j 0 = ((num T (pk (row.getD (2 * j) 0) (row.getD (2 * j + 1) 0)) : Nat) : Int) := by
  unfold up prs
  rw [List.getD_eq_getElem?_getD, List.getElem?_map, List.getElem?_map, List.getElem?_range hj]
  rfl
theorem pk_inj {a b c d : Int} (h : pk a b = pk c d) : a = c ∧ b = d := by
  unfold pk at h
  simp at h
  exact h
end
section
variable {Q : D → NH → Prop} {E : XP} {N : NH} {n k : Nat} {σ : NEnv} {L R R2 : List HP} {d x y z : D} {e : En} {A : NA}
/-! the table grown by at most m -/
def Ext (T T' : Rows) (m : Nat) : Prop := ∃ T2, T' = T ++ T2 ∧ T2.length ≤ m
theorem Ext.len {T T' : Rows} {m : Nat} (h : Ext T T' m) : T'.length ≤ T.length + m := by
  obtain ⟨T2, rfl, hl⟩ := h
  rw [List.length_append]; omega
theorem Ext.refl (T : Rows) : Ext T T 0 := ⟨[], by rw [List.append_nil], Nat.le_refl _⟩
theorem Ext.trans {T T1 T2 : Rows} {m k : Nat} (h : Ext T T1 m) (h' : Ext T1 T2 k) : Ext T T2 (m + k) := by
  obtain ⟨a, rfl, ha⟩ := h
  obtain ⟨b, rfl, hb⟩ := h'
  exact ⟨a ++ b, by rw [List.append_assoc], by rw [List.length_append]; omega⟩
theorem Ext.mono {T T' : Rows} {m k : Nat} (h : Ext T T' m) (l : m ≤ k) : Ext T T' k := by
  obtain ⟨a, e, ha⟩ := h
  exact ⟨a, e, by omega⟩
theorem Ext.mem {T T' : Rows} {m : Nat} (h : Ext T T' m) {ks : List Key} (hk : ks ∈ T) : ks ∈ T' := by
  obtain ⟨a, rfl, _⟩ := h
  exact List.mem_append_left _ hk
theorem Ext.num {T T' : Rows} {m : Nat} (h : Ext T T' m) {ks : List Key} (hk : ks ∈ T) : num T' ks = num T ks := by
  obtain ⟨a, rfl, _⟩ := h
  exact num_app hk
theorem Ext.all (T : Rows) (ks : List (List Key)) : Ext T (sealAll T ks) ks.length := sealAll_pre T ks
theorem Ext.good {T T' : Rows} {m h : Nat} {row : List Int} (x : Ext T T' m) (g : Good T h row) : Good T' h row ∧ rootG T' h row = rootG T h row := by
  obtain ⟨a, rfl, _⟩ := x
  exact ⟨good_app g, rootG_app g⟩
/-- roots tell their rows -/
theorem pair_ext : ∀ {m : Nat} {a b : List Int}, a.length = 2 * m → b.length = 2 * m → (∀ j < m, a.getD (2 * j) 0 = b.getD (2 * j) 0 ∧ a.getD (2 * j + 1) 0 = b.getD (2 * j + 1) 0) → a = b
  | m, a, b, ha, hb, h => by
    apply List.ext_getElem (by omega)
    intro i h1 h2
    have e1 : a.getD i 0 = a[i] := by rw [List.getD_eq_getElem?_getD, List.getElem?_eq_getElem h1]; rfl
    have e2 : b.getD i 0 = b[i] := by rw [List.getD_eq_getElem?_getD, List.getElem?_eq_getElem h2]; rfl
    rw [← e1, ← e2]
    obtain ⟨x, y⟩ := h (i / 2) (by omega)
    by_cases hp : i % 2 = 0
    · rwa [show 2 * (i / 2) = i by omega] at x
    · rwa [show 2 * (i / 2) + 1 = i by omega] at y
theorem rootG_inj : ∀ {h : Nat} {T : Rows} {a b : List Int}, Good T h a → Good T h b → a.length = 2 ^ h → b.length = 2 ^ h → rootG T h a = rootG T h b → a = b
  | 0, T, a, b, _, _, ha, hb, e => by
    match a, b, ha, hb with
    | [x], [y], _, _ => rw [show x = y from e]
  | h + 1, T, a, b, ga, gb, ha, hb, e => by
    have hpow : 2 ^ (h + 1) = 2 * 2 ^ h := by rw [Nat.pow_succ]; omega
    have hu := rootG_inj (h := h) ga.2 gb.2 (by rw [up_len]; omega) (by rw [up_len]; omega) e
    refine pair_ext (m := 2 ^ h) (by omega) (by omega) fun j hj => ?_
    have h1 : (up T a).getD j 0 = (up T b).getD j 0 := by rw [hu]
    rw [up_get (by omega), up_get (by omega)] at h1
    have hm : pk (a.getD (2 * j) 0) (a.getD (2 * j + 1) 0) ∈ T := ga.1 _ (List.mem_map.mpr ⟨j, List.mem_range.mpr (by omega), rfl⟩)
    exact pk_inj (num_inj hm (by omega))
/-! words -/
def wk (w : Int) : List Key := [.inr "word", .inl w]
def wkeys (ws : List Int) : List (List Key) := ws.map wk ++ List.replicate (64 - ws.length) (wk 0)
def leafR (T : Rows) (ks : List (List Key)) : List Int := ks.map fun k => ((num T k : Nat) : Int)
/-- the tree over these leaves stands in T -/
def LGood (T : Rows) (ks : List (List Key)) : Prop := (∀ k ∈ ks, k ∈ T) ∧ Good T 6 (leafR T ks)
def lroot (T : Rows) (ks : List (List Key)) : Int := rootG T 6 (leafR T ks)
theorem leafR_ext {T T' : Rows} {m : Nat} {ks : List (List Key)} (x : Ext T T' m) (h : ∀ k ∈ ks, k ∈ T) : leafR T' ks = leafR T ks := List.map_congr_left fun k hk => by rw [x.num (h k hk)]
theorem LGood.ext {T T' : Rows} {m : Nat} {ks : List (List Key)} (g : LGood T ks) (x : Ext T T' m) : LGood T' ks ∧ lroot T' ks = lroot T ks := by
  have e := leafR_ext x g.1
  unfold LGood lroot
  rw [e]
  exact ⟨⟨fun k hk => x.mem (g.1 k hk), (x.good g.2).1⟩, (x.good g.2).2⟩
theorem LGood.inj {T : Rows} {a b : List (List Key)} (ga : LGood T a) (gb : LGood T b) (ha : a.length = 64) (hb : b.length = 64) (e : lroot T a = lroot T b) : a = b := by
  have h := rootG_inj ga.2 gb.2 (by unfold leafR; rw [List.length_map, ha]) (by unfold leafR; rw [List.length_map, hb]) e
  apply List.ext_getElem (by omega)
  intro i h1 h2
  have : (leafR T a)[i]? = (leafR T b)[i]? := by rw [h]
  unfold leafR at this
  rw [List.getElem?_map, List.getElem?_map, List.getElem?_eq_getElem h1, List.getElem?_eq_getElem h2] at this
  simp at this
  exact num_inj (ga.1 _ (List.getElem_mem h1)) (by omega)
end
section
variable {Q : D → NH → Prop} {E : XP} {N : NH} {n k : Nat} {σ : NEnv} {L R R2 : List HP} {d x y z : D} {e : En} {A : NA}
/-! chains -/
def ck (c w : Int) : List Key := [.inr "wrote", .inl c, .inl w]
def chainG (T : Rows) (c : Int) : List Int → Int
  | [] => c
  | w :: r => chainG T (num T (ck c w) : Nat) r
def CGood (T : Rows) (c : Int) : List Int → Prop
  | [] => True
  | w :: r => ck c w ∈ T ∧ CGood T (num T (ck c w) : Nat) r
theorem CGood.ext : ∀ {ws : List Int} {T T' : Rows} {m : Nat} {c : Int}, CGood T c ws → Ext T T' m → CGood T' c ws ∧ chainG T' c ws = chainG T c ws
  | [], _, _, _, _, _, _ => ⟨trivial, rfl⟩
  | w :: r, T, T', m, c, g, x => by
    have := CGood.ext (ws := r) g.2 x
    unfold CGood chainG
    rw [x.num g.1]
    exact ⟨⟨x.mem g.1, this.1⟩, this.2⟩
end
section
variable {Q : D → NH → Prop} {E : XP} {N : NH} {n k : Nat} {σ : NEnv} {L R R2 : List HP} {d x y z : D} {e : En} {A : NA}
def kk (ks : List Key) : List Key := .inr "code" :: ks
def ckeys (kss : List (List Key)) : List (List Key) := kss.map kk ++ List.replicate (64 - kss.length) (kk [])
def SIn (T : Rows) (x : Sta) : Prop := LGood T (wkeys x.m) ∧ CGood T 0 x.w
def fieldsL (T : Rows) (x : Sta) : List Int := x.p :: x.r ++ [lroot T (wkeys x.m), x.q, chainG T 0 x.w, x.s]
theorem SIn.ext {T T' : Rows} {m : Nat} {x : Sta} (g : SIn T x) (e : Ext T T' m) : SIn T' x ∧ fieldsL T' x = fieldsL T x := by
  obtain ⟨a1, a2⟩ := g.1.ext e
  obtain ⟨b1, b2⟩ := g.2.ext e
  exact ⟨⟨a1, b1⟩, by unfold fieldsL; rw [a2, b2]⟩
end
section
variable {Q : D → NH → Prop} {E : XP} {N : NH} {n k : Nat} {σ : NEnv} {L R R2 : List HP} {d x y z : D} {e : En} {A : NA}
/-! rows of slices -/
def slice (l : List Int) (a b : Nat) : List Int := (l.drop a).take b
end
section
variable {Q : D → NH → Prop} {E : XP} {N : NH} {n k : Nat} {σ : NEnv} {L R : List HP}
theorem eqDs_ints : ∀ (a b : List Int), eqDs (a.map .int) (b.map .int) = decide (a = b)
  | [], [] => rfl
  | [], _ :: _ => rfl
  | _ :: _, [] => rfl
  | x :: r, y :: s => by
    rw [List.map_cons, List.map_cons]
    unfold eqDs
    rw [eqDs_ints r s]
    by_cases h1 : x = y
    · by_cases h2 : r = s
      · simp [eqD, h1, h2]
      · simp [eqD, h1, h2]
    · simp [eqD, h1]
theorem cut_ints (l : List Int) (lo hi : Option Int) : ∃ r : List Int, NY.cutD (l.map D.int) lo hi = r.map D.int ∧ r.length ≤ l.length ∧ ∀ v ∈ r, v ∈ l := by
  unfold NY.cutD
  refine ⟨(l.drop (HT.sIx (l.map D.int).length 0 lo)).take (HT.sIx (l.map D.int).length (l.map D.int).length hi - HT.sIx (l.map D.int).length 0 lo), ?_, ?_, ?_⟩
  · rw [List.map_take, List.map_drop]
  · rw [List.length_take, List.length_drop]; omega
  · intro v hv
    exact List.mem_of_mem_drop (List.mem_of_mem_take hv)
end
section
variable {Q : D → NH → Prop} {E : XP} {N : NH} {n k : Nat} {σ : NEnv} {L R R2 : List HP} {d x y z : D} {e : En} {A : NA}
/-! instructions as keys -/
def insK : Ins → List Key
  | .three o r s t => [.inr (nm3 o), .inl r, .inl s, .inl t]
  | .set r w => [.inr "set", .inl r, .inl w]
  | .copy r s => [.inr "copy", .inl r, .inl s]
  | .load r s => [.inr "load", .inl r, .inl s]
  | .store r s => [.inr "store", .inl r, .inl s]
  | .jump p => [.inr "jump", .inl p]
  | .zero r p => [.inr "zero", .inl r, .inl p]
  | .read r => [.inr "read", .inl r]
  | .left r => [.inr "left", .inl r]
  | .write r => [.inr "write", .inl r]
  | .stop => [.inr "stop"]
end
section
/-! one-step papers: what the checker answers, in plain words -/
structure Fds where
  p : Int
  r : List Int
  mr : Int
  q : Int
  ch : Int
  s : Int
def Fds.l (f : Fds) : List Int := f.p :: f.r ++ [f.mr, f.q, f.ch, f.s]
structure Pap where
  f : Fds
  c : Option Ins
  pa : List Int
  w : Int
  wp : List Int
  g : Int
  gp : List Int
/-- the register that holds the index of the memory -/
def lookR : Option Ins → Option Int
  | some (.load _ s) => some s
  | some (.store _ s) => some s
  | _ => none
def isRead : Option Ins → Bool
  | some (.read _) => true
  | _ => false
def idxR (r : List Int) (c : Option Ins) : Int := match lookR c with | some s => r.getD s.toNat 0 | none => 0
def memB (r : List Int) (c : Option Ins) : Bool := (lookR c).isSome && decide (idxR r c < 64)
def readB (q : Int) (c : Option Ins) (il : Int) : Bool := isRead c && decide (q < il)
def runB (f : Fds) (pl : Int) : Bool := decide (f.s = 0) && decide (f.p < pl)
structure PapOk (pl il : Int) (P : Pap) : Prop where
  r4 : P.f.r.length = 4
  I : ∀ i ∈ P.f.l, okI i
  p : P.f.p ≤ 64
  rw : ∀ i ∈ P.f.r, isW i
  q : P.f.q ≤ il
  s : P.f.s ≤ 2
  w : isW P.w
  g : isW P.g
  run : P.c.isSome = runB P.f pl
  ok : ∀ i, P.c = some i → i.ok ∧ i.pl
  pa : P.pa.length = (if P.c.isSome then 6 else 0) ∧ ∀ i ∈ P.pa, okI i
  wp : P.wp.length = (if memB P.f.r P.c then 6 else 0) ∧ ∀ i ∈ P.wp, okI i
  gp : P.gp.length = (if readB P.f.q P.c il then 6 else 0) ∧ ∀ i ∈ P.gp, okI i
  w0 : memB P.f.r P.c = true ∨ P.w = 0
  g0 : readB P.f.q P.c il = true ∨ P.g = 0
def pkeys (is : List Ins) : List (List Key) := ckeys (is.map insK)
/-- what is given: a program, an input, their roots in the table, a state -/
structure Known (T : Rows) (is : List Ins) (ws : List Int) : Prop where
  hT : T.length ≤ 900000
  pl : is.length ≤ 64
  iok : ∀ i ∈ is, i.ok ∧ i.pl
  wl : ws.length ≤ 64
  wok : ∀ w ∈ ws, isW w
  gp : LGood T (pkeys is)
  gi : LGood T (wkeys ws)
theorem lookR_ok {c : Option Ins} {s : Int} (hc : ∀ i, c = some i → i.ok ∧ i.pl) (h : lookR c = some s) : Rg s := by
  match c, h with
  | some (.load r s'), h => cases h; exact (hc _ rfl).1.2
  | some (.store r s'), h => cases h; exact (hc _ rfl).1.2
end
section
variable {Q : D → NH → Prop} {E : XP} {N : NH} {n k : Nat} {σ : NEnv} {L R R2 : List HP} {d x y z : D} {e : En} {A : NA}
theorem four {r : List Int} (h : r.length = 4) : ∃ a b c d, r = [a, b, c, d] := by
  match r, h with
  | [a, b, c, d], _ => exact ⟨a, b, c, d, rfl⟩
end
section
variable {Q : D → NH → Prop} {E : XP} {N : NH} {n k : Nat} {σ : NEnv} {L R R2 : List HP} {d x y z : D} {e : En} {A : NA}
theorem PapOk.mem {pl il : Int} {P : Pap} (h : PapOk pl il P) (hn : P.wp ≠ []) : memB P.f.r P.c = true ∧ ∃ s, lookR P.c = some s ∧ Rg s := by
  have h1 := h.wp.1
  by_cases hm : memB P.f.r P.c = true
  · refine ⟨hm, ?_⟩
    unfold memB at hm
    obtain ⟨s, hs⟩ := Option.isSome_iff_exists.mp (Bool.and_eq_true_iff.mp hm).1
    exact ⟨s, hs, lookR_ok h.ok hs⟩
  · rw [if_neg hm] at h1
    exact absurd (List.length_eq_zero_iff.mp h1) hn
end
section
variable {Q : D → NH → Prop} {E : XP} {N : NH} {n k : Nat} {σ : NEnv} {L R R2 : List HP} {d x y z : D} {e : En} {A : NA}
/-! the maker of papers -/
theorem Known.ext {T T' : Rows} {m : Nat} {is : List Ins} {ws : List Int} (K : Known T is ws) (x : Ext T T' m) (h : T'.length ≤ 900000) : Known T' is ws ∧ lroot T' (pkeys is) = lroot T (pkeys is) ∧ lroot T' (wkeys ws) = lroot T (wkeys ws) :=
  ⟨⟨h, K.pl, K.iok, K.wl, K.wok, (K.gp.ext x).1, (K.gi.ext x).1⟩, (K.gp.ext x).2, (K.gi.ext x).2⟩
end
section
variable {Q : D → NH → Prop} {E : XP} {N : NH} {n k : Nat} {σ : NEnv} {L R R2 : List HP} {d x y z : D} {e : En} {A : NA}
theorem eqN_lst {a b : List Int} {j : Nat} {R2 : List HP} (H : At N L) (hp : Pick L (pt n (.lst (a.map .int))) R) (hp2 : Pick L (pt j (.lst (b.map .int))) R2) : eqN N (.ref n) (.ref j) = some (decide (a = b)) := by
  have oki : ∀ l : List Int, okDs (l.map .int) = true := fun l => by
    obtain ⟨a, b⟩ := ints_plain l
    unfold okDs
    rw [a, b]; rfl
  show (match N[n]?, N[j]? with | some (.lst x), some (.lst y) => if okDs x && okDs y then some (eqDs x y) else none | _, _ => none) = _
  rw [H.get hp, H.get hp2]
  show (if okDs _ && okDs _ then some (eqDs _ _) else none) = _
  rw [oki, oki, eqDs_ints]; rfl
end
-- mac2
section
variable {Q : D → NH → Prop} {E : XP} {N : NH} {n k : Nat} {σ : NEnv} {L R R2 : List HP} {d x y z : D} {e : En} {A : NA}
/-! histories -/
def stp (s : Int) : List Key := [.inr "step", .inl s]
def jn (a b s : Int) : List Key := [.inr "join", .inl a, .inl b, .inl s]
/-- the history of level j at place k of a row -/
def HistAt (T : Rows) (row : List Int) : Nat → Nat → Int → Prop
  | 0, k, x => stp (row.getD k 0) ∈ T ∧ x = (num T (stp (row.getD k 0)) : Nat)
  | j + 1, k, x => ∃ a b, HistAt T row j (2 * k) a ∧ HistAt T row j (2 * k + 1) b ∧ jn a b (row.getD ((k + 1) * 2 ^ (j + 1) - 1) 0) ∈ T ∧ x = (num T (jn a b (row.getD ((k + 1) * 2 ^ (j + 1) - 1) 0)) : Nat)
theorem HistAt.ext {T T' : Rows} {m : Nat} {row : List Int} (e : Ext T T' m) : ∀ {j k : Nat} {x : Int}, HistAt T row j k x → HistAt T' row j k x
  | 0, _, _, ⟨a, b⟩ => ⟨e.mem a, by rw [b, e.num a]⟩
  | j + 1, _, _, ⟨a, b, h1, h2, h3, h4⟩ => ⟨a, b, HistAt.ext e h1, HistAt.ext e h2, e.mem h3, by rw [h4, e.num h3]⟩
theorem HistAt.pos {T : Rows} {row : List Int} : ∀ {j k : Nat} {x : Int}, HistAt T row j k x → 1 ≤ x ∧ x ≤ (T.length : Nat)
  | 0, _, _, ⟨a, b⟩ => by have := num_pos a; omega
  | j + 1, _, _, ⟨a, b, h1, h2, h3, h4⟩ => by have := num_pos h3; omega
/-- a level of the histories of a row -/
structure Lev (T : Rows) (row : List Int) (j : Nat) (l : List Int) : Prop where
  n : l.length * 2 ^ j = row.length
  h : ∀ k < l.length, HistAt T row j k (l.getD k 0)
theorem Lev.ext {T T' : Rows} {m j : Nat} {row l : List Int} (h : Lev T row j l) (e : Ext T T' m) : Lev T' row j l := ⟨h.n, fun k hk => (h.h k hk).ext e⟩
end
-- mac2
-- mac2
-- mac2
section
variable {Q : D → NH → Prop} {E : XP} {N : NH} {n k : Nat} {σ : NEnv} {L R R2 : List HP} {d x y z : D} {e : En} {A : NA}
abbrev MP : Int := 281474976710656
def bh (p h : Int) : List Key := [.inr "behind", .inl p, .inl h]
/-- the rows of such a table: steps, joins and pasts -/
inductive HRow (m : Nat) : List Key → Prop
  | s {s : Int} : 1 ≤ s ∧ s ≤ MP → HRow m (stp s)
  | j {a b s : Int} : 1 ≤ a ∧ a ≤ (m : Int) → 1 ≤ b ∧ b ≤ (m : Int) → 1 ≤ s ∧ s ≤ MP → HRow m (jn a b s)
  | b {p h : Int} : 0 ≤ p ∧ p ≤ (m : Int) → 1 ≤ h ∧ h ≤ (m : Int) → HRow m (bh p h)
theorem HRow.mono {m k : Nat} {ks : List Key} (h : HRow m ks) (l : m ≤ k) : HRow k ks := by
  cases h with
  | s h => exact .s h
  | j a b s => exact .j ⟨a.1, by omega⟩ ⟨b.1, by omega⟩ s
  | b a b => exact .b ⟨a.1, by omega⟩ ⟨b.1, by omega⟩
end
-- mac2
section
variable {Q : D → NH → Prop} {E : XP} {N : NH} {n k : Nat} {σ : NEnv} {L R R2 : List HP} {d x y z : D} {e : En} {A : NA}
/-! openings of any table -/
inductive Opn where
  | st (s : Int) | jn (a b s : Int)
  deriving DecidableEq
def Opn.tp : Opn → D
  | .st s => .tup [.str "step", .int s]
  | .jn a b s => .tup [.str "join", .int a, .int b, .int s]
def Opn.last : Opn → Int
  | .st s => s
  | .jn _ _ s => s
end
-- mac2
section
variable {Q : D → NH → Prop} {E : XP} {N : NH} {n k : Nat} {σ : NEnv} {L R R2 : List HP} {d x y z : D} {e : En} {A : NA}
theorem map_get_int {l : List Int} {j : Nat} {y : D} (h : (l.map D.int)[j]? = some y) : ∃ x, l[j]? = some x ∧ y = .int x := by
  rw [List.getElem?_map] at h
  obtain ⟨x, h1, rfl⟩ := Option.map_eq_some_iff.mp h
  exact ⟨x, h1, rfl⟩
end
-- mac2
section
variable {Q : D → NH → Prop} {E : XP} {N : NH} {n k : Nat} {σ : NEnv} {L R R2 : List HP} {d x y z : D} {e : En} {A : NA}
/-! draws by a row of numbers -/
inductive ScA (l : List D) : D → List HP → Prop
  | lsc : ScA l (.lsc l) []
  | ref (n : Nat) : ScA l (.ref n) [pt n (.lst l)]
theorem scr_at {d : D} {l : List D} (h : Scr N d l) : ∃ S, ScA l d S ∧ At N S := by
  rcases h with ⟨rfl, rfl⟩ | ⟨rfl, rfl⟩
  · exact ⟨[], .lsc, At.nil⟩
  · exact ⟨_, .ref 0, At.new (N := []) (o := .lst l) At.nil⟩
theorem sc_cut {l : List D} {S : List HP} {P : HP} {lo hi : Option Int} (h : ScA l d S) (H : At N (P :: S)) (hq : ∀ (k : Nat) (N' : NH), At N' [pt k (.lst (NY.cutD l lo hi)), P] → Q (.ref k) N') : wpR (fCut d lo hi N) Q E := by
  cases h with
  | lsc => with_unfolding_all exact hq _ _ H.new
  | ref n => exact sl_cutL H (.tail .head) fun k N' H' => hq k N' (H'.cover (.cons .head (.cons .head .nil)))
theorem sc_len {l : List D} {S : List HP} (h : ScA l d S) (H : At N S) : lenN N d = some (l.length : Nat) := by
  cases h with
  | lsc => rfl
  | ref n => simp [lenN, H.get .head]
theorem mix_ok {a b : Int} (hQ : ∀ w : Int, 0 ≤ w → Q (.int w) N) : wpR (m__law_mix [.int a, .int b] N) Q E := by
  refine wp_fun2 ?_
  simp only [List.replicate]
  walk_at "gos"
  exact hQ _ (Int.emod_nonneg _ (by decide))
abbrev Small (l : List Int) : Prop := ∀ v ∈ l, 0 ≤ v ∧ v < 1000
theorem small_app {l : List Int} (h : Small l) (v : Int) : Small (l ++ [v % 1000]) := fun u hu => by
  rcases List.mem_append.mp hu with q | q
  · exact h u q
  · rw [List.mem_singleton.mp q]; exact ⟨Int.emod_nonneg _ (by decide), Int.emod_lt_of_pos _ (by decide)⟩
theorem map_snoc {l : List Int} {v : Int} : l.map D.int ++ [D.int v] = (l ++ [v]).map .int := by rw [List.map_append]; rfl
theorem numbers_ok {d : D} {ns : List Int} {S : List HP} {c : Nat} (hc : c ≤ 1000) (hc0 : 0 < c) (h : ScA (ns.map .int) d S) (hn : ns.length ≤ 63) (H : At N S) (hQ : ∀ (r : Nat) (l : List Int) N', At N' [pt r (.lst (l.map .int))] → l.length = c → Small l → Q (.ref r) N') : wpR (m__law_numbers [d, .int (c : Int)] N) Q E := by
  refine wp_fun2 ?_
  simp only [List.replicate]
  unfold t16__law_numbers t15__law_numbers
  generalize hX : t14__law_numbers = X
  generalize hB : b9__law_numbers = B
  walk_at "gos"
  rename_i f N1 H1
  refine wp_len (sc_len h H1.drop) ?_
  walk_at "gos"
  refine wp_for (wp_it ?_)
  walk_at "gos"
  refine sc_cut h H1 fun k2 N2 H2 => ?_
  obtain ⟨cs, hcs, hcl, _⟩ := cut_ints ns none (some 63)
  rw [hcs] at H2
  refine ⟨⟨cs.map .int, fun N => decide (N[k2]? = some (.lst (cs.map .int)))⟩, by unfold itOf; simp [H2.get .head], ?_⟩
  refine wp_loop (fun i σ N' => ∃ (fl : List Int) (tot : Int) (s4 s5 s6 : Option D), σ = [some d, some (.int (c : Int)), some (.ref f), some (.int tot), s4, s5, s6] ∧ Small fl ∧ fl.length ≤ 60 * i ∧ i ≤ 63 ∧ At N' [pt f (.lst (fl.map .int)), pt k2 (.lst (cs.map .int))])
    ⟨[], _, _, _, _, rfl, (fun _ h => nomatch h), by simp, by omega, H2.cover (.cons (.tail .head) (.cons .head .nil))⟩ (fun i σ N' ⟨_, _, _, _, _, _, _, _, _, H'⟩ => decide_eq_true (H'.get (.tail .head))) ?_ ?_
  · rintro i z σ N3 hz ⟨fl, tot, s4, s5, s6, rfl, hs3, hl3, hi, H3⟩
    obtain ⟨c0, hc, rfl⟩ := map_get_int hz
    have hi2 := (List.getElem?_eq_some_iff.mp hc).1
    refine ⟨_, rfl, ?_⟩
    subst hB
    unfold b9__law_numbers t8__law_numbers
    generalize hY : t7__law_numbers = Y
    walk_at "gos"
    generalize (if c0 < 0 then -c0 else c0) = nm
    refine mix_ok fun tot h0 => ?_
    walk_at "gos"
    subst hY
    unfold t7__law_numbers
    walk_at "gos"
    refine wp_powI (by decide) ?_
    walk_at "gos"
    split
    · unfold i5__law_numbers
      refine wp_for (wp_rng1 ?_)
      walk_at "gos"
      refine ⟨_, rfl, by decide, by decide, ?_⟩
      refine wp_loop (fun j σ N' => ∃ (fl : List Int) (nm : Int) (s5 : Option D), σ = [some d, some (.int (c : Int)), some (.ref f), some (.int tot), some (.int c0), s5, some (.int nm)] ∧ Small fl ∧ fl.length ≤ 60 * i + j ∧ j ≤ 60 ∧ At N' [pt f (.lst (fl.map .int)), pt k2 (.lst (cs.map .int))])
        ⟨fl, nm, _, rfl, hs3, by omega, by omega, H3⟩ (fun _ _ _ _ => rfl) ?_ ?_
      · rintro j z σ N4 hz ⟨fl, nm, s5, rfl, hs5, hl5, hj, H5⟩
        have hj2 : j < 60 := by have := (List.getElem?_eq_some_iff.mp hz).1; simpa using this
        refine ⟨_, rfl, ?_⟩
        walk_at "gos"
        split
        · walk_at "gos"
          refine sl_app H5 .head (lt_size (by rw [List.length_map]; omega)) fun N5 H6 => ?_
          walk_at "gos"
          rw [map_snoc] at H6
          exact ⟨fl ++ [nm % 1000], _, _, rfl, small_app hs5 nm, by rw [List.length_append, List.length_singleton]; omega, by omega, H6⟩
        · walk_at "gos"
          exact ⟨fl, nm, _, rfl, hs5, by omega, by omega, H5⟩
      · rintro σ N4 ⟨fl, nm, s5, rfl, hs5, hl5, hj, H5⟩
        simp only [List.length_map, List.length_range] at hl5
        exact ⟨fl, tot, _, _, _, rfl, hs5, by have : Int.toNat 60 = 60 := rfl; omega, by omega, H5⟩
    · unfold i6__law_numbers
      refine wp_for (wp_rng1 ?_)
      walk_at "gos"
      refine ⟨_, rfl, by decide, by decide, ?_⟩
      refine wp_loop (fun j σ N' => ∃ (fl : List Int) (s5 : Option D), σ = [some d, some (.int (c : Int)), some (.ref f), some (.int tot), some (.int c0), s5, some (.int nm)] ∧ Small fl ∧ fl.length ≤ 60 * i + j ∧ j ≤ 60 ∧ At N' [pt f (.lst (fl.map .int)), pt k2 (.lst (cs.map .int))])
        ⟨fl, _, rfl, hs3, by omega, by omega, H3⟩ (fun _ _ _ _ => rfl) ?_ ?_
      · rintro j z σ N4 hz ⟨fl, s5, rfl, hs5, hl5, hj, H5⟩
        obtain ⟨hlt, rfl⟩ := List.getElem?_eq_some_iff.mp hz
        have hj2 : j < 6 := by simpa using hlt
        refine ⟨_, rfl, ?_⟩
        simp only [List.getElem_map, List.getElem_range]
        walk_at "gos"
        refine mix_ok fun mx h0 => ?_
        walk_at "gos"
        refine sl_app H5 .head (lt_size (by rw [List.length_map]; omega)) fun N5 H6 => ?_
        walk_at "gos"
        rw [map_snoc] at H6
        exact ⟨fl ++ [mx % 1000], _, rfl, small_app hs5 mx, by rw [List.length_append, List.length_singleton]; omega, by omega, H6⟩
      · rintro σ N4 ⟨fl, s5, rfl, hs5, hl5, hj, H5⟩
        simp only [List.length_map, List.length_range] at hl5
        exact ⟨fl, tot, _, _, _, rfl, hs5, by have : Int.toNat 6 = 6 := rfl; omega, by omega, H5⟩
  · rintro σ N3 ⟨fl, tot, s4, s5, s6, rfl, hs3, hl3, hi, H3⟩
    subst hX
    unfold t14__law_numbers
    generalize hX : t13__law_numbers = X
    walk_at "gos"
    refine wp_for (wp_rng1 ?_)
    walk_at "gos"
    refine ⟨_, rfl, by omega, by omega, ?_⟩
    rw [Int.toNat_natCast]
    refine wp_loop (fun j σ N' => ∃ (fl : List Int) (tot : Int) (s5 : Option D), σ = [some d, some (.int (c : Int)), some (.ref f), some (.int tot), s4, s5, s6] ∧ Small fl ∧ j ≤ fl.length ∧ fl.length ≤ 4000 + j ∧ j ≤ c ∧ At N' [pt f (.lst (fl.map .int)), pt k2 (.lst (cs.map .int))])
      ⟨fl, tot, _, rfl, hs3, by omega, by rw [List.length_map] at hl3; omega, by omega, H3⟩ (fun _ _ _ _ => rfl) ?_ ?_
    · rintro j z σ N4 hz ⟨fl, tot, s5, rfl, hs5, hl5, hl6, hj, H5⟩
      obtain ⟨hlt, rfl⟩ := List.getElem?_eq_some_iff.mp hz
      have hj2 : j < c := by simpa using hlt
      refine ⟨_, rfl, ?_⟩
      simp only [List.getElem_map, List.getElem_range]
      walk_at "gos"
      rw [List.length_map]
      split
      · walk_at "gos"
        refine mix_ok fun mx h0 => ?_
        walk_at "gos"
        refine sl_app H5 .head (lt_size (by rw [List.length_map]; omega)) fun N5 H6 => ?_
        walk_at "gos"
        rw [map_snoc] at H6
        exact ⟨fl ++ [mx % 1000], _, _, rfl, small_app hs5 mx, by rw [List.length_append, List.length_singleton]; omega, by rw [List.length_append, List.length_singleton]; omega, by omega, H6⟩
      · rename_i hc
        have hc : ¬ (fl.length : Int) < c := by simpa using hc
        walk_at "gos"
        exact ⟨fl, _, _, rfl, hs5, by omega, by omega, by omega, H5⟩
    · rintro σ N4 ⟨fl, tot, s5, rfl, hs5, hl5, hl6, hj, H5⟩
      have hl5 : c ≤ fl.length := by simpa using hl5
      subst hX
      walk_at "gos"
      refine sl_cutL H5 .head fun r N5 H6 => ?_
      have hcut : NY.cutD (fl.map D.int) none (some (c : Int)) = (fl.take c).map D.int := by
        unfold NY.cutD HT.sIx
        simp
        rw [if_neg (by omega)]
        omega
      rw [hcut] at H6
      exact hQ r (fl.take c) N5 (H6.cover (.cons .head .nil)) (by rw [List.length_take]; omega) fun v hv => hs5 v (List.mem_of_mem_take hv)
abbrev kAt : Key := Sum.inr ("at" : Str)
abbrev kRow : Key := Sum.inr ("row" : Str)
abbrev drK (n : Int) (r : Nat) : List (Key × D) := [(kAt, .int n), (kRow, .ref r)]
theorem at_row : ¬ (kAt = kRow) := by decide +kernel
theorem row_at : ¬ (kRow = kAt) := by decide +kernel
theorem dr_row {n : Int} {r : Nat} : valD (drK n r) kRow = some (.ref r) := by
  unfold drK valD
  rw [if_neg at_row]
  unfold valD
  rw [if_pos rfl]
theorem dr_at {n : Int} {r : Nat} : valD (drK n r) kAt = some (.int n) := by
  unfold drK valD
  rw [if_pos rfl]
theorem dr_put {n m : Int} {r : Nat} : putD (drK n r) kAt (.int m) = drK m r := by
  unfold putD
  rw [dr_at, if_pos (by rfl)]
  unfold drK repD
  rw [if_pos rfl]
  unfold repD
  rw [if_neg row_at]
  rfl
theorem dr_merge {n : Int} {r : Nat} : mergeD [] [(kAt, D.int n), (kRow, D.ref r)] = drK n r := by
  have h : valD [(kAt, D.int n)] kRow = none := by
    unfold valD
    rw [if_neg at_row]
    rfl
  unfold mergeD
  simp only [List.foldl]
  have h0 : putD ([] : List (Key × D)) kAt (D.int n) = [(kAt, D.int n)] := rfl
  rw [h0]
  unfold putD
  rw [h]
  rfl
/-- the draws at d -/
def dr (c d : Nat) : HP := exH fun r : Nat => exH fun n : Int => exH fun l : List Int => andP (0 ≤ n ∧ l.length = c ∧ Small l) (star (pt d (.dK (drK n r))) (pt r (.lst (l.map .int))))
theorem dr_un {c d : Nat} (H : At N L) (hp : Pick L (dr c d) R) : ∃ (r : Nat) (n : Int) (l : List Int), (0 ≤ n ∧ l.length = c ∧ Small l) ∧ At N (pt d (.dK (drK n r)) :: pt r (.lst (l.map .int)) :: R) := by
  obtain ⟨r, H⟩ := (H.pick hp).unex
  obtain ⟨n, H⟩ := H.unex
  obtain ⟨l, H⟩ := H.unex
  obtain ⟨a, H⟩ := H.unand
  exact ⟨r, n, l, a, H.unstar⟩
theorem draws_ok {d : D} {ns : List Int} {c : Nat} (hc : c ≤ 1000) (hc0 : 0 < c) (hs : Scr N d (ns.map .int)) (hn : ns.length ≤ 63) (hQ : ∀ (d : Nat) N', At N' [dr c d] → Q (.ref d) N') : wpR (m__law_draws [d, .int (c : Int)] N) Q E := by
  obtain ⟨S, h, H⟩ := scr_at hs
  refine wp_fun2 ?_
  simp only [List.replicate]
  walk_at "gos"
  refine numbers_ok hc hc0 h hn H fun r l N1 H1 hl hs => ?_
  walk_at "gos"
  refine ⟨_, rfl, _, rfl, by simp, _, H1, fun k N2 H2 => hQ k N2 ?_⟩
  rw [show mergeD [] [((Sum.inr ("at" : Str) : Key), D.int 0), ((Sum.inr ("row" : Str) : Key), D.ref r)] = drK 0 r from dr_merge] at H2
  exact At.ex r (At.ex 0 (At.ex l (At.and ⟨by decide, hl, hs⟩ H2.star)))
theorem take_ok {c d : Nat} {b : Int} (hc : c ≤ 1000) (hc0 : 0 < c) (hb : 0 < b) (H : At N L) (hp : Pick L (dr c d) R) (hQ : ∀ w N', 0 ≤ w → w < b → At N' (dr c d :: R) → Q (.int w) N') : wpR (m__law_take [.ref d, .int b] N) Q E := by
  obtain ⟨r, n, l, ⟨h0, hl, hs⟩, H1⟩ := dr_un H hp
  refine wp_fun2 ?_
  simp only [List.replicate]
  unfold t4__law_take t3__law_take
  generalize hX : t2__law_take = X
  walk_at "gos"
  refine wp_getKS (H1.get .head) dr_row ?_
  walk_at "gos"
  refine wp_getKS (H1.get .head) dr_at ?_
  walk_at "gos"
  refine put_K H1 .head (k := kAt) rfl (lt_size (by simp)) fun N2 H2 => ?_
  rw [dr_put] at H2
  subst hX
  unfold t2__law_take
  walk_at "gos"
  rw [List.length_map, hl]
  refine wp_modI (by omega) ?_
  have hm0 := Int.emod_nonneg n (show (c : Int) ≠ 0 by omega)
  have hm1 := Int.emod_lt_of_pos n (show (0 : Int) < c by omega)
  refine wp_getL (H2.get (.tail .head)) (atD_int hm0 (by rw [hl]; exact hm1)) ?_
  walk_at "gos"
  rw [List.length_map, hl]
  refine wp_divL ⟨by omega, small_log (by omega) (by omega)⟩ ?_
  walk_at "gos"
  exact hQ _ _ (Int.emod_nonneg _ (by omega)) (Int.emod_lt_of_pos _ hb) (At.ex r (At.ex (n + 1) (At.ex l (At.and ⟨by omega, hl, hs⟩ H2.star))))
end
-- mac2
section
variable {Q : D → NH → Prop} {E : XP} {N : NH} {n k : Nat} {σ : NEnv} {L R R2 : List HP} {d x y z : D} {e : En} {A : NA}
/-! drawn names -/
abbrev letters : Str := "abcdefghijklmnopqrstuvwxyz"
abbrev signs : Str := letters ++ ("ABCDEFGHIJKLMNOPQRSTUVWXYZ0123456789_" : Str)
theorem wp_cutS {s : Str} {lo hi : Option Int} (hs : s.length ≤ sizeLine) (hq : Q (.str (L2.cutS s lo hi)) N) : wpR (fCut (.str s) lo hi N) Q E := by
  have e : fCut (.str s) lo hi N = .ok (.str (L2.cutS s lo hi)) N := if_pos hs
  rw [e]
  with_unfolding_all exact hq
theorem sl_split {a b : Str} (h : (b.length == 0) = false ∧ a.length + 2 ≤ sizeLine) (H : At N L) (hq : ∀ (k : Nat) (N' : NH), At N' (pt k (.lst ((Txt.split a b).map .str)) :: L) → Q (.ref k) N') : wpR (fSplit (.str a) [.str b] N) Q E := by
  have e : fSplit (.str a) [.str b] N = N.new (.lst ((Txt.split a b).map .str)) := if_pos h
  rw [e]
  with_unfolding_all exact hq _ _ H.new
end
-- mac2
section
variable {Q : D → NH → Prop} {E : XP} {N : NH} {n k : Nat} {σ : NEnv} {L R R2 : List HP} {d x y z : D} {e : En} {A : NA}
mutual
theorem eqD_self : ∀ d : D, NY.plain d = true → eqD d d = true
  | .non, _ => rfl
  | .bl b, _ => by cases b <;> rfl
  | .int i, _ => by simp [eqD]
  | .str s, _ => by simp [eqD]
  | .tup l, h => eqDs_self l h
  | .ctup _, h => nomatch h
  | .lsc _, h => nomatch h
  | .ref _, h => nomatch h
theorem eqDs_self : ∀ l : List D, NY.plains l = true → eqDs l l = true
  | [], _ => rfl
  | x :: r, h => by
    obtain ⟨a, b⟩ := Bool.and_eq_true_iff.mp h
    show (eqD x x && eqDs r r) = true
    rw [eqD_self x a, eqDs_self r b]; rfl
end
theorem eqN_self {l : List D} (h : okD (.tup l) = true) : eqN N (.tup l) (.tup l) = some true := by
  show (if okD (.tup l) && okD (.tup l) then some (eqD (.tup l) (.tup l)) else none) = some true
  rw [h, eqD_self (.tup l) (Bool.and_eq_true_iff.mp h).1]; rfl
end
-- mac2
section
variable {Q : D → NH → Prop} {E : XP} {N : NH} {n k : Nat} {σ : NEnv} {L R R2 : List HP} {d x y z : D} {e : En} {A : NA}
/-! scripts: names and numbers -/
def onC (p : Nat → Bool) : D → Bool := fun d => match d with
  | .str z => (match z.cps.toList with | [c] => p c | _ => false)
  | _ => false
theorem on_all (p : Nat → Bool) (s : Str) : (chars s).all (onC p) = s.cps.toList.all p := by
  unfold chars
  rw [List.all_map]; rfl
theorem sl_fany {l : List D} {f : D → Bool} (H : At N L) (hp : Pick L (pt n (.lst (l.map fun x => D.bl (f x)))) R) (h : Q (.bl (l.any f)) N) : wpR (fAny [.ref n] N) Q E := by
  refine wp_ofEq ?_ h
  show (match (lstN N (.ref n)).bind blsOf with | some ns => _ | none => _) = _
  have e : lstN N (.ref n) = some (l.map fun x => D.bl (f x)) := by simp [lstN, H.get hp]
  rw [e]
  show (match blsOf (l.map fun x => D.bl (f x)) with | some ns => _ | none => _) = _
  rw [bls_map]
  show NY.R.ok (D.bl ((l.map f).any _root_.id)) N = _
  rw [List.any_map]; rfl
theorem wp_yesL {q : Bool → NH → Prop} (h : q true N) : wpR (nYes σ N) q E := by with_unfolding_all exact h
theorem name1_ok {s : Str} (hs : s.length ≤ 1000) (H : At N L) (hQ : ∀ N', At N' L → Q (.bl (nameB s)) N') : wpR (m_is_name_1 [.str s] N) Q E := by
  refine wp_fun1 ?_
  simp only [List.replicate]
  generalize hX : t2_is_name_1 = X
  have hsz : s.length ≤ sizeLine := le_size (Nat.le_trans hs (by decide))
  walk_at "gos"
  refine wp_lenS hsz ?_
  walk_at "gos"
  have ec : (decide ((1 : Int) ≤ s.length) && decide ((s.length : Int) ≤ 12)) = (decide (1 ≤ s.length) && decide (s.length ≤ 12)) := by
    congr 1 <;> apply decide_eq_decide.mpr <;> omega
  rw [ec]
  unfold nameB at hQ
  cases hb : (decide (1 ≤ s.length) && decide (s.length ≤ 12)) with
  | false =>
    rw [hb] at hQ
    walk_at "goi"
    exact hQ N H
  | true =>
    rw [hb] at hQ
    have h1 := (Bool.and_eq_true_iff.mp hb).1
    have h1 := of_decide_eq_true h1
    walk_at "goi"
    cases hc : s.cps.toList with
    | nil => rw [len_list, hc] at h1; cases h1
    | cons c r =>
      rw [hc] at hQ
      refine wp_getS0 hc hsz ?_
      walk_at "goi"
      refine wp_notinS ?_
      rw [small_mem]
      have hQ : ∀ N', At N' L → Q (.bl (true && (smallB c && (c :: r).all fun c => smallB c || digB c))) N' := hQ
      cases h2 : smallB c with
      | false =>
        rw [h2] at hQ
        walk_at "goi"
        exact hQ N H
      | true =>
        rw [h2] at hQ
        walk_at "goi"
        subst hX
        unfold t2_is_name_1
        walk_at "gos"
        refine sl_lcP (fun _ => true) (fun d => .bl (onC (fun c => smallB c || digB c) d)) ?_
        walk_at "gos"
        refine ⟨⟨chars s, fun _ => true⟩, L, rfl, fun _ _ => rfl, lt_size (show (chars s).length ≤ 1000000 by rw [chars_len]; omega), H, fun y N1 _ H1 => ?_, fun y N1 hy _ H1 => ?_, fun k N2 H2 => ?_⟩
        · exact wp_yesL ⟨H1, rfl⟩
        · simp only [wipeN, List.map, List.set_cons_zero, List.set_cons_succ, List.foldl]
          obtain ⟨c', _, rfl⟩ := List.mem_map.mp hy
          unfold e1_is_name_1
          walk_at "gos"
          refine wp_inS ?_
          rw [small_mem]
          have ho : onC (fun c => smallB c || digB c) (.str ⟨#[c']⟩) = (smallB c' || digB c') := rfl
          cases h3 : smallB c' with
          | true =>
            rw [h3, Bool.true_or] at ho
            rw [ho]
            refine ⟨true, rfl, ?_⟩
            exact ⟨H1, rfl⟩
          | false =>
            rw [h3, Bool.false_or] at ho
            rw [ho]
            refine ⟨false, rfl, ?_⟩
            walk_at "gos"
            refine wp_inS ?_
            rw [dig_mem]
            exact ⟨H1, rfl⟩
        · rw [List.filter_eq_self.mpr fun _ _ => rfl] at H2
          walk_at "gos"
          refine sl_fall H2 .head ?_
          have := hQ N2 H2.drop
          rw [show ((⟨chars s, fun _ => true⟩ : NIt).items) = chars s from rfl, on_all, hc]
          exact this
def digs1 (s : Str) : Bool := (decide (1 ≤ s.length) && decide (s.length ≤ 16)) && s.cps.toList.all digB
def numM (s : Str) : Option Int := if digs1 s = true then (if (headB (fun c => decide (c = 48)) s.cps.toList && decide (1 < s.length)) = true then none else (if ((NumText.digitsVal s.cps.toList : Nat) : Int) ≤ 281474976710656 then some ((NumText.digitsVal s.cps.toList : Nat) : Int) else none)) else none
theorem number_ok {s : Str} (hs : s.length ≤ 1000) (H : At N L) (hQ : ∀ N', At N' L → Q (optD (numM s)) N') : wpR (m_number_of [.str s] N) Q E := by
  refine wp_fun1 ?_
  simp only [List.replicate]
  generalize hX : t4_number_of = X
  have hsz : s.length ≤ sizeLine := le_size (Nat.le_trans hs (by decide))
  walk_at "gos"
  refine wp_lenS hsz ?_
  walk_at "gos"
  have ec : (decide ((1 : Int) ≤ s.length) && decide ((s.length : Int) ≤ 16)) = (decide (1 ≤ s.length) && decide (s.length ≤ 16)) := by
    congr 1 <;> apply decide_eq_decide.mpr <;> omega
  rw [ec]
  unfold numM digs1 at hQ
  cases hb : (decide (1 ≤ s.length) && decide (s.length ≤ 16)) with
  | false =>
    rw [hb, Bool.false_and, if_neg (by decide)] at hQ
    walk_at "goi"
    exact hQ N H
  | true =>
    rw [hb, Bool.true_and] at hQ
    have h16 := of_decide_eq_true (Bool.and_eq_true_iff.mp hb).2
    have h1 := of_decide_eq_true (Bool.and_eq_true_iff.mp hb).1
    walk_at "goi"
    refine sl_lcP (fun _ => true) (fun d => .bl (onC digB d)) ?_
    walk_at "gos"
    refine ⟨⟨chars s, fun _ => true⟩, L, rfl, fun _ _ => rfl, lt_size (show (chars s).length ≤ 1000000 by rw [chars_len]; omega), H, fun y N1 _ H1 => ?_, fun y N1 hy _ H1 => ?_, fun k N2 H2 => ?_⟩
    · exact wp_yesL ⟨H1, rfl⟩
    · simp only [wipeN, List.map, List.set_cons_zero, List.set_cons_succ, List.foldl]
      obtain ⟨c', _, rfl⟩ := List.mem_map.mp hy
      unfold e1_number_of
      walk_at "gos"
      refine wp_inS ?_
      rw [dig_mem]
      exact ⟨H1, rfl⟩
    · rw [List.filter_eq_self.mpr fun _ _ => rfl] at H2
      walk_at "gos"
      refine sl_fall H2 .head ?_
      rw [show ((⟨chars s, fun _ => true⟩ : NIt).items) = chars s from rfl, on_all]
      have H3 := H2.drop
      cases hd : s.cps.toList.all digB with
      | false =>
        rw [hd, if_neg (by decide)] at hQ
        walk_at "goi"
        exact hQ N2 H3
      | true =>
        rw [hd, if_pos rfl] at hQ
        walk_at "goi"
        subst hX
        unfold t4_number_of
        generalize hX : t3_number_of = X
        have hne : s.cps.toList ≠ [] := fun e => by rw [len_list, e] at h1; cases h1
        have fin : (∀ N', At N' L → Q (optD (if ((NumText.digitsVal s.cps.toList : Nat) : Int) ≤ 281474976710656 then some ((NumText.digitsVal s.cps.toList : Nat) : Int) else none)) N') → wpS (X [some (.str s), none, none] N2) ⟨fun _ N => Q .non N, Q, fun _ _ => False, fun x _ N => E x N⟩ := by
          intro hq
          subst hX
          unfold t3_number_of
          generalize hX : t2_number_of = X
          walk_at "gos"
          have hi : PySem.intText? s = some ((NumText.digitsVal s.cps.toList : Nat) : Int) := by
            have := SX.int_S (a := s.cps.toList) (by rw [← hd]; rfl) hne (by rw [← len_list]; omega)
            rwa [SX.S_tl] at this
          refine wp_intS hi (by omega) ?_
          walk_at "gos"
          subst hX
          unfold t2_number_of
          walk_at "gos"
          refine wp_if ?_
          walk_at "gos"
          by_cases hle : ((NumText.digitsVal s.cps.toList : Nat) : Int) ≤ 281474976710656
          · rw [if_pos hle] at hq
            refine ifT (decide_eq_true hle) ?_
            walk_at "gos"
            exact hq N2 H3
          · rw [if_neg hle] at hq
            refine ifF (decide_eq_false hle) ?_
            walk_at "gos"
            exact hq N2 H3
        cases hc : s.cps.toList with
        | nil => exact absurd hc hne
        | cons c r =>
          rw [hc] at hQ
          rw [hc] at fin
          walk_at "gos"
          refine wp_getS0 hc hsz ?_
          walk_at "gos"
          rw [one_zero]
          have hQ : ∀ N', At N' L → Q (optD (if (decide (c = 48) && decide (1 < s.length)) = true then none else (if ((NumText.digitsVal (c :: r) : Nat) : Int) ≤ 281474976710656 then some ((NumText.digitsVal (c :: r) : Nat) : Int) else none))) N' := hQ
          cases hz : decide (c = 48) with
          | false =>
            rw [hz, Bool.false_and, if_neg (by decide)] at hQ
            walk_at "goi"
            exact fin hQ
          | true =>
            rw [hz, Bool.true_and] at hQ
            walk_at "goi"
            refine wp_lenS hsz ?_
            walk_at "gos"
            by_cases hlt : 1 < s.length
            · rw [decide_eq_true hlt, if_pos rfl] at hQ
              refine ifT (decide_eq_true (by omega)) ?_
              walk_at "gos"
              exact hQ N2 H3
            · rw [decide_eq_false hlt, if_neg (by decide)] at hQ
              refine ifF (decide_eq_false (by omega)) ?_
              walk_at "gos"
              exact fin hQ
end
-- mac2
section
variable {Q : D → NH → Prop} {E : XP} {N : NH} {n k : Nat} {σ : NEnv} {L R R2 : List HP} {d x y z : D} {e : En} {A : NA}
/-! scripts: the act of a line's words -/
def nums (ws : List Str) : Option (List Int) := if (ws.all fun w => (numM w).isSome) = true then some (ws.map fun w => (numM w).getD 0) else none
def numD : D → D := fun d => match d with
  | .str w => optD (numM w)
  | _ => .non
def isNonB : D → Bool := fun d => match d with
  | .non => true
  | _ => false
theorem wp_isNone {b : Option Int} (h : Q (.bl (!b.isSome)) N) : wpR (fIs (optD b) .non N) Q E := by
  cases b with
  | none => unfold optD; walk_at "gos"; exact h
  | some v => unfold optD; walk_at "gos"; exact h
theorem wp_isNotNone {b : Option Int} (h : Q (.bl b.isSome) N) : wpR (fIsNot (optD b) .non N) Q E := by
  cases b with
  | none => unfold optD; walk_at "gos"; exact h
  | some v => unfold optD; walk_at "gos"; exact h
theorem numbers_ok' {ws : List Str} (hsz : ∀ w ∈ ws, w.length ≤ 1000) (hl : ws.length ≤ 1000) (H : At N L) (hp : Pick L (pt n (.lst (ws.map .str))) R) (hQ1 : nums ws = none → ∀ N', At N' L → Q .non N') (hQ2 : ∀ ns, nums ws = some ns → ∀ k N', At N' (pt k (.lst (ns.map .int)) :: L) → Q (.ref k) N') : wpR (m_numbers_of [.ref n] N) Q E := by
  refine wp_fun1 ?_
  simp only [List.replicate]
  generalize hX : t4_numbers_of = X
  walk_at "gos"
  refine sl_lcP (fun _ => true) numD ?_
  walk_at "gos"
  refine ⟨_, L, itOfL (H.get hp), fun N2 H2 => decide_eq_true (H2.get hp), lt_size (by rw [List.length_map]; omega), H, fun y N1 _ H1 => ?_, fun y N1 hy _ H1 => ?_, fun k1 N2 H2 => ?_⟩
  · exact wp_yesL ⟨H1, rfl⟩
  · simp only [wipeN, List.map, List.set_cons_zero, List.set_cons_succ, List.foldl]
    obtain ⟨w, hw, rfl⟩ := List.mem_map.mp hy
    unfold e1_numbers_of
    walk_at "gos"
    exact number_ok (hsz w hw) H1 fun N' H' => ⟨H', rfl⟩
  rw [List.filter_eq_self.mpr fun _ _ => rfl] at H2
  have e1 : (ws.map D.str).map numD = ws.map fun w => optD (numM w) := by rw [List.map_map]; rfl
  rw [show ((⟨ws.map D.str, fun N => decide (N[n]? = some (O.lst (ws.map D.str)))⟩ : NIt).items) = ws.map D.str from rfl, e1] at H2
  walk_at "gos"
  subst hX
  unfold t4_numbers_of
  generalize hX : t3_numbers_of = X
  walk_at "gos"
  refine sl_lcP (fun _ => true) (fun d => .bl (isNonB d)) ?_
  walk_at "gos"
  refine ⟨_, _, itOfL (H2.get .head), fun N3 H3 => decide_eq_true (H3.get .head), lt_size (by rw [List.length_map]; omega), H2, fun y N3 _ H3 => ?_, fun y N3 hy _ H3 => ?_, fun k2 N3 H3 => ?_⟩
  · exact wp_yesL ⟨H3, rfl⟩
  · simp only [wipeN, List.map, List.set_cons_zero, List.set_cons_succ, List.foldl]
    obtain ⟨w, hw, rfl⟩ := List.mem_map.mp hy
    unfold e2_numbers_of
    walk_at "gos"
    refine wp_isNone ?_
    refine ⟨H3, ?_⟩
    cases numM w <;> rfl
  rw [List.filter_eq_self.mpr fun _ _ => rfl] at H3
  walk_at "gos"
  refine sl_fany H3 .head ?_
  have e2 : (((⟨ws.map fun w => optD (numM w), fun N => decide (N[k1]? = some (O.lst (ws.map fun w => optD (numM w))))⟩ : NIt).items).any isNonB) = !(ws.all fun w => (numM w).isSome) := by
    show ((ws.map fun w => optD (numM w)).any isNonB) = _
    rw [List.any_map, List.not_all_eq_any_not]
    congr 1
    funext w
    show isNonB (optD (numM w)) = !(numM w).isSome
    cases numM w <;> rfl
  rw [e2]
  unfold nums at hQ1 hQ2
  cases ha : (ws.all fun w => (numM w).isSome) with
  | false =>
    rw [ha, if_neg (by decide)] at hQ1
    refine ⟨true, rfl, ?_⟩
    walk_at "goi"
    exact hQ1 rfl N3 H3.drop.drop
  | true =>
    rw [ha, if_pos rfl] at hQ2
    refine ⟨false, rfl, ?_⟩
    walk_at "goi"
    subst hX
    walk_at "gos"
    refine hQ2 _ rfl _ _ ?_
    have e3 : ((ws.map fun w => (numM w).getD 0).map D.int) = ws.map fun w => optD (numM w) := by
      rw [List.map_map]
      refine List.map_congr_left fun w hw => ?_
      have := List.all_eq_true.mp ha w hw
      cases hn : numM w with
      | none => rw [hn] at this; cases this
      | some v => simp [optD, hn]
    rw [e3]
    exact H3.drop
def plains : List Str := ["cuts", "papers", "gathers"]
theorem plains_eq : c_PLAIN = .ctup (plains.map .str) := rfl
def playF (nm vb : Str) (ns : List Int) : Option D :=
  if vb ∈ plains ∧ ns = [] then some (.tup [.str (L2.cutS vb none (some (-1))), .str nm]) else
  if vb = "puts" ∧ ns.length = 2 then some (.tup [.str "send", .str nm, .tup [.str "put", .int (ns.getD 0 0), .int (ns.getD 1 0)]]) else
  if vb = "asks" ∧ ns = [] then some (.tup [.str "send", .str nm, .tup [.str "ask"]]) else
  if vb = "lies" ∧ ns.length = 3 then some (.tup [.str "lie", .str nm, .int (ns.getD 0 0), .int (ns.getD 1 0), .int (ns.getD 2 0)]) else
  if vb = "forges" ∧ ns.length = 2 then some (.tup [.str "forge", .str nm, .int (ns.getD 0 0), .int (ns.getD 1 0)]) else none
theorem ints_at {ns : List Int} {j : Nat} (h : j < ns.length) : atD (ns.map .int) (j : Int) = some (.int (ns.getD j 0)) := by
  unfold atD ixN
  rw [if_pos (by omega), if_pos (by rw [List.length_map]; omega)]
  simp [h, List.getElem?_eq_getElem h]
theorem player_ok {nm vb : Str} {ns : List Int} (hv : vb.length ≤ 1000) (hl : ns.length ≤ 1000) (H : At N L) (hp : Pick L (pt n (.lst (ns.map .int))) R) (hQ : ∀ N', At N' L → Q ((playF nm vb ns).getD .non) N') : wpR (m_player_act [.str nm, .str vb, .ref n] N) Q E := by
  have hlen : (ns.map D.int).length = ns.length := List.length_map ..
  refine wp_fun3 ?_
  simp only [List.replicate]
  have emp : ∀ {N' : NH} {P : Bool → NH → Prop} {E' : XP}, At N' L → (∀ N'', At N'' L → P (decide (ns = [])) N'') → wpR (nBool (nOp2 fEq (nV 2) (nLst nNil)) [some (.str nm), some (.str vb), some (.ref n)] N') P E' := by
    intro N' P E' H' hP
    walk_at "gos"
    rename_i k1 N1 H1
    refine wp_eq (k := decide (ns = [])) (eqN_lst (b := []) H1 (.tail hp) .head) ?_
    exact ⟨_, rfl, hP _ H1.drop⟩
  unfold playF at hQ
  generalize hX : t10_player_act = X
  have last : ∀ N', At N' L → ¬ (vb ∈ plains ∧ ns = []) → wpS (X [some (.str nm), some (.str vb), some (.ref n)] N') ⟨fun _ N => Q .non N, Q, fun _ _ => False, fun x _ N => E x N⟩ := by
    intro N1 H1 h1
    rw [if_neg h1] at hQ
    subst hX
    unfold t10_player_act
    generalize hX : t9_player_act = X
    have last : ¬ (vb = "puts" ∧ ns.length = 2) → wpS (X [some (.str nm), some (.str vb), some (.ref n)] N1) ⟨fun _ N => Q .non N, Q, fun _ _ => False, fun x _ N => E x N⟩ := by
      intro h2
      rw [if_neg h2] at hQ
      subst hX
      unfold t9_player_act
      generalize hX : t8_player_act = X
      have last : ∀ N', At N' L → ¬ (vb = "asks" ∧ ns = []) → wpS (X [some (.str nm), some (.str vb), some (.ref n)] N') ⟨fun _ N => Q .non N, Q, fun _ _ => False, fun x _ N => E x N⟩ := by
        intro N2 H2 h3
        rw [if_neg h3] at hQ
        subst hX
        unfold t8_player_act
        generalize hX : t7_player_act = X
        have last : ¬ (vb = "lies" ∧ ns.length = 3) → wpS (X [some (.str nm), some (.str vb), some (.ref n)] N2) ⟨fun _ N => Q .non N, Q, fun _ _ => False, fun x _ N => E x N⟩ := by
          intro h4
          rw [if_neg h4] at hQ
          subst hX
          unfold t7_player_act
          walk_at "gos"
          by_cases hvb : vb = "forges"
          · refine ifT (decide_eq_true hvb) ?_
            walk_at "gos"
            refine wp_lenL (H2.get hp) ?_
            walk_at "gos"
            rw [hlen]
            by_cases h5 : ns.length = 2
            · rw [if_pos ⟨hvb, h5⟩] at hQ
              refine ifT (decide_eq_true (by omega)) ?_
              walk_at "gos"
              refine wp_getL (H2.get hp) (ints_at (j := 0) (by omega)) ?_
              walk_at "gos"
              refine wp_getL (H2.get hp) (ints_at (j := 1) (by omega)) ?_
              walk_at "gos"
              exact hQ N2 H2
            · rw [if_neg fun q => h5 q.2] at hQ
              refine ifF (decide_eq_false (by omega)) ?_
              walk_at "goi"
              exact hQ N2 H2
          · rw [if_neg fun q => hvb q.1] at hQ
            refine ifF (decide_eq_false hvb) ?_
            walk_at "goi"
            exact hQ N2 H2
        walk_at "gos"
        by_cases hvb : vb = "lies"
        · refine ifT (decide_eq_true hvb) ?_
          walk_at "gos"
          refine wp_lenL (H2.get hp) ?_
          walk_at "gos"
          rw [hlen]
          by_cases h5 : ns.length = 3
          · rw [if_pos ⟨hvb, h5⟩] at hQ
            refine ifT (decide_eq_true (by omega)) ?_
            walk_at "gos"
            refine wp_getL (H2.get hp) (ints_at (j := 0) (by omega)) ?_
            walk_at "gos"
            refine wp_getL (H2.get hp) (ints_at (j := 1) (by omega)) ?_
            walk_at "gos"
            refine wp_getL (H2.get hp) (ints_at (j := 2) (by omega)) ?_
            walk_at "gos"
            exact hQ N2 H2
          · refine ifF (decide_eq_false (by omega)) ?_
            walk_at "goi"
            exact last fun q => h5 q.2
        · refine ifF (decide_eq_false hvb) ?_
          walk_at "goi"
          exact last fun q => hvb q.1
      refine wp_seq (wp_sif (wp_andT ?_))
      walk_at "gos"
      by_cases hvb : vb = "asks"
      · refine ifT (decide_eq_true hvb) ?_
        refine emp H1 fun N2 H2 => ?_
        by_cases h5 : ns = []
        · rw [if_pos ⟨hvb, h5⟩] at hQ
          refine ifT (decide_eq_true h5) ?_
          walk_at "gos"
          exact hQ N2 H2
        · refine ifF (decide_eq_false h5) ?_
          walk_at "goi"
          exact last N2 H2 fun q => h5 q.2
      · refine ifF (decide_eq_false hvb) ?_
        walk_at "goi"
        exact last N1 H1 fun q => hvb q.1
    walk_at "gos"
    by_cases hvb : vb = "puts"
    · refine ifT (decide_eq_true hvb) ?_
      walk_at "gos"
      refine wp_lenL (H1.get hp) ?_
      walk_at "gos"
      rw [hlen]
      by_cases h5 : ns.length = 2
      · rw [if_pos ⟨hvb, h5⟩] at hQ
        refine ifT (decide_eq_true (by omega)) ?_
        walk_at "gos"
        refine wp_getL (H1.get hp) (ints_at (j := 0) (by omega)) ?_
        walk_at "gos"
        refine wp_getL (H1.get hp) (ints_at (j := 1) (by omega)) ?_
        walk_at "gos"
        exact hQ N1 H1
      · refine ifF (decide_eq_false (by omega)) ?_
        walk_at "goi"
        exact last fun q => h5 q.2
    · refine ifF (decide_eq_false hvb) ?_
      walk_at "goi"
      exact last fun q => hvb q.1
  refine wp_seq (wp_sif (wp_andT ?_))
  walk_at "gos"
  rw [plains_eq]
  refine inC rfl (strs_flat _) ?_
  rw [any_strs]
  refine ⟨_, rfl, ?_⟩
  by_cases hvb : vb ∈ plains
  · refine ifT (decide_eq_true hvb) ?_
    refine emp H fun N2 H2 => ?_
    by_cases h5 : ns = []
    · rw [if_pos ⟨hvb, h5⟩] at hQ
      refine ifT (decide_eq_true h5) ?_
      walk_at "gos"
      refine wp_cutS (le_size (by omega)) ?_
      walk_at "gos"
      exact hQ N2 H2
    · refine ifF (decide_eq_false h5) ?_
      walk_at "goi"
      exact last N2 H2 fun q => h5 q.2
  · refine ifF (decide_eq_false hvb) ?_
    walk_at "goi"
    exact last N H fun q => hvb q.1
end
-- mac2
section
variable {Q : D → NH → Prop} {E : XP} {N : NH} {n k : Nat} {σ : NEnv} {L R R2 : List HP} {d x y z : D} {e : En} {A : NA}
/-! scripts: the act of a line, a whole script -/
def backF (r : List Str) : Option Int := if r.length = 1 then numM (r.headD "") else none
def actW : List Str → Option D
  | [] => none
  | w0 :: r =>
    match (if w0 = "block" then nums r else none) with
    | some ns => some (.tup [.str "block", .tup (ns.map .int)])
    | none =>
      match (if w0 = "back" then backF r else none) with
      | some v => some (.tup [.str "back", .int v])
      | none => if r = [] ∨ nameB w0 = false then none else (match nums (r.drop 1) with
        | none => none
        | some ns => playF w0 (r.headD "") ns)
theorem cut1_map (w : Str) (r : List Str) : NY.cutD ((w :: r).map D.str) (some 1) none = r.map .str := by rw [List.map_cons, cut_tl]
theorem cut2_map (w : Str) (r : List Str) (h : r ≠ []) : NY.cutD ((w :: r).map D.str) (some 2) none = (r.drop 1).map .str := by
  cases r with
  | nil => exact absurd rfl h
  | cons v r =>
    rw [cut_drop (by omega) (by simp; omega)]
    rfl
theorem act_ok {line w0 : Str} {r : List Str} (hl : line.length ≤ 10000) (hs : Txt.split line " " = w0 :: r) (hw : ∀ w ∈ w0 :: r, w.length ≤ 1000) (hr : (w0 :: r).length ≤ 1000) (H : At N L) (hQ : ∀ N', At N' L → Q ((actW (w0 :: r)).getD .non) N') : wpR (m_act_of [.str line] N) Q E := by
  have hr : r.length + 1 ≤ 1000 := hr
  have hwr : ∀ w ∈ r, w.length ≤ 1000 := fun w h => hw w (List.mem_cons_of_mem _ h)
  refine wp_fun1 ?_
  simp only [List.replicate]
  generalize hX : t10_act_of = X
  walk_at "gos"
  refine NY.sl_split (s := line) (t := " ") ⟨by decide +kernel, le_size (show line.length + 2 ≤ 1000000 by omega)⟩ hs H fun m N1 H1 => ?_
  walk_at "gos"
  subst hX
  unfold t10_act_of
  generalize hI : i3_act_of = I
  generalize hX : t9_act_of = X
  have hlen : ((w0 :: r).map D.str).length = r.length + 1 := by simp
  unfold actW at hQ
  dsimp only at hQ
  have last2 : ∀ (s2 : Option D) N', At N' (pt m (.lst ((w0 :: r).map .str)) :: L) → (∀ N', At N' L → Q ((if r = [] ∨ nameB w0 = false then none else (match nums (r.drop 1) with
        | none => none
        | some ns => playF w0 (r.headD "") ns)).getD .non) N') → wpS (t8_act_of [some (.str line), some (.ref m), s2] N') ⟨fun _ N => Q .non N, Q, fun _ _ => False, fun x _ N => E x N⟩ := by
    intro s2 N2 H2 hQ
    unfold t8_act_of
    generalize hX : t7_act_of = X
    walk_at "gos"
    rw [hlen]
    by_cases h0 : r = []
    · rw [if_pos (.inl h0)] at hQ
      refine ifT (decide_eq_true (by rw [h0]; decide)) ?_
      walk_at "goi"
      exact hQ N2 H2.drop
    have hrl : r.length ≠ 0 := fun q => h0 (List.length_eq_zero_iff.mp q)
    refine ifF (decide_eq_false (by omega)) ?_
    walk_at "gos"
    refine wp_getL (d := .str w0) (H2.get .head) atD0 ?_
    walk_at "gos"
    refine name1_ok (hw w0 List.mem_cons_self) H2 fun N3 H3 => ?_
    walk_at "gos"
    cases hn : nameB w0 with
    | false =>
      rw [if_pos (.inr hn)] at hQ
      walk_at "goi"
      exact hQ N3 H3.drop
    | true =>
      rw [if_neg (fun q => q.elim h0 fun q => by rw [hn] at q; cases q)] at hQ
      walk_at "goi"
      subst hX
      unfold t7_act_of
      generalize hX : t6_act_of = X
      walk_at "gos"
      refine sl_cutL (n := m) H3 .head fun m2 N4 H4 => ?_
      rw [cut2_map w0 r h0] at H4
      walk_at "gos"
      refine numbers_ok' (fun w h => hwr w (List.mem_of_mem_drop h)) (by rw [List.length_drop]; omega) H4 .head (fun hnn N5 H5 => ?_) fun ns hns m3 N5 H5 => ?_
      · rw [hnn] at hQ
        walk_at "gos"
        subst hX
        unfold t6_act_of
        walk_at "goi"
        exact hQ N5 H5.drop.drop
      · rw [hns] at hQ
        walk_at "gos"
        subst hX
        unfold t6_act_of
        generalize hX : t5_act_of = X
        walk_at "goi"
        subst hX
        unfold t5_act_of
        walk_at "gos"
        refine wp_getL (d := .str w0) (H5.get (.tail (.tail .head))) atD0 ?_
        walk_at "gos"
        refine wp_getL (d := .str (r.headD "")) (H5.get (.tail (.tail .head))) ?_ ?_
        · cases r with
          | nil => exact absurd rfl h0
          | cons v r => exact strs_get (l := w0 :: v :: r) (j := 1) rfl rfl
        walk_at "gos"
        have hnl : ns.length ≤ 1000 := by
          unfold nums at hns
          split at hns
          · cases hns
            rw [List.length_map, List.length_drop]; omega
          · cases hns
        refine player_ok (by
          cases r with
          | nil => exact absurd rfl h0
          | cons v r => exact hwr v List.mem_cons_self) hnl H5 .head fun N6 H6 => ?_
        exact hQ N6 H6.drop.drop.drop
  have last : ∀ (s2 : Option D) N', At N' (pt m (.lst ((w0 :: r).map .str)) :: L) → (∀ N', At N' L → Q ((match (if w0 = "back" then backF r else none) with
      | some v => some (D.tup [D.str "back", D.int v])
      | none => if r = [] ∨ nameB w0 = false then none else (match nums (r.drop 1) with
        | none => none
        | some ns => playF w0 (r.headD "") ns)).getD .non) N') → wpS (X [some (.str line), some (.ref m), s2] N') ⟨fun _ N => Q .non N, Q, fun _ _ => False, fun x _ N => E x N⟩ := by
    intro s2 N2 H2 hQ
    subst hX
    unfold t9_act_of
    generalize hJ : i4_act_of = J
    generalize hX : t8_act_of = X at last2 ⊢
    walk_at "gos"
    refine wp_getL (d := .str w0) (H2.get .head) atD0 ?_
    walk_at "gos"
    by_cases hb : w0 = "back"
    · rw [if_pos hb] at hQ
      refine ifT (decide_eq_true hb) ?_
      walk_at "gos"
      rw [hlen]
      unfold backF at hQ
      by_cases h1 : r.length = 1
      · rw [if_pos h1] at hQ
        obtain ⟨v, rfl⟩ : ∃ v, r = [v] := by
          match r, h1 with
          | [v], _ => exact ⟨v, rfl⟩
        refine ifT (decide_eq_true (by rw [h1]; rfl)) ?_
        walk_at "gos"
        refine number_ok (hwr v List.mem_cons_self) H2 fun N3 H3 => ?_
        walk_at "gos"
        refine wp_isNotNone ?_
        have hQ : ∀ N', At N' L → Q ((match numM v with
          | some v => some (D.tup [D.str "back", D.int v])
          | none => if [v] = [] ∨ nameB w0 = false then none else (match nums ([v].drop 1) with
            | none => none
            | some ns => playF w0 ([v].headD "") ns)).getD .non) N' := hQ
        cases hv : numM v with
        | none =>
          rw [hv] at hQ
          refine ⟨false, rfl, ?_⟩
          walk_at "goi"
          exact last2 _ N3 H3 hQ
        | some i =>
          rw [hv] at hQ
          refine ⟨true, rfl, ?_⟩
          walk_at "goi"
          subst hJ
          unfold i4_act_of
          walk_at "gos"
          refine number_ok (hwr v List.mem_cons_self) H3 fun N4 H4 => ?_
          rw [hv]
          walk_at "gos"
          exact hQ N4 H4.drop
      · rw [if_neg h1] at hQ
        refine ifF (decide_eq_false (by omega)) ?_
        walk_at "goi"
        exact last2 _ N2 H2 hQ
    · rw [if_neg hb] at hQ
      refine ifF (decide_eq_false hb) ?_
      walk_at "goi"
      exact last2 _ N2 H2 hQ
  walk_at "gos"
  refine wp_getL (d := .str w0) (H1.get .head) atD0 ?_
  walk_at "gos"
  by_cases hb : w0 = "block"
  · rw [if_pos hb] at hQ
    refine ifT (decide_eq_true hb) ?_
    subst hI
    unfold i3_act_of
    generalize hI : t2_act_of = I
    walk_at "gos"
    refine sl_cutL (n := m) H1 .head fun m2 N2 H2 => ?_
    rw [cut1_map w0 r] at H2
    walk_at "gos"
    refine numbers_ok' hwr (by omega) H2 .head (fun hnn N3 H3 => ?_) fun ns hns m3 N3 H3 => ?_
    · rw [hnn] at hQ
      walk_at "gos"
      subst hI
      unfold t2_act_of
      walk_at "goi"
      exact last _ N3 H3.drop hQ
    · rw [hns] at hQ
      walk_at "gos"
      subst hI
      unfold t2_act_of
      walk_at "goi"
      exact hQ _ H3.drop.drop.drop
  · rw [if_neg hb] at hQ
    refine ifF (decide_eq_false hb) ?_
    walk_at "goi"
    exact last _ N1 H1 hQ
end
-- mac2
section
variable {Q : D → NH → Prop} {E : XP} {N : NH} {n k : Nat} {σ : NEnv} {L R R2 : List HP} {d x y z : D} {e : En} {A : NA}
/-! scripts: a whole script is read -/
structure Wd (l : Str) (ws : List Str) : Prop where
  spl : Txt.split l " " = ws
  ne : ws ≠ []
  wl : ∀ w ∈ ws, w.length ≤ 1000
  len : ws.length ≤ 1000
  sz : l.length ≤ 10000
def ActL (l : Str) (v : D) : Prop := ∃ ws vs, Wd l ws ∧ actW ws = some v ∧ v = .tup vs
def NoAct (l : Str) : Prop := ∃ ws, Wd l ws ∧ actW ws = none
theorem act_wd {line : Str} {ws : List Str} (h : Wd line ws) (H : At N L) (hQ : ∀ N', At N' L → Q ((actW ws).getD .non) N') : wpR (m_act_of [.str line] N) Q E := by
  cases hw : ws with
  | nil => exact absurd hw h.ne
  | cons w0 r =>
    rw [hw] at h hQ
    exact act_ok h.sz h.spl h.wl h.len H hQ
theorem read_empty (hQ : Q (.tup []) N) : wpR (m_read_script [.str ""] N) Q E := by
  refine wp_fun1 ?_
  simp only [List.replicate]
  generalize hX : t7_read_script = X
  walk_at "goi"
  exact hQ
theorem read_script_t {text : Str} {ls : List Str} {vs : List D} {m : Nat} (ht : text ≠ "") (hs : Txt.split text "\n" = ls) (hsz : text.length ≤ 100000) (hl : ls.length ≤ 1000) (hm : vs.length = m) (hv : ∀ (j : Nat) l v, ls[j]? = some l → vs[j]? = some v → ActL l v) (H : At N L)
    (hend : (m = ls.length ∧ ∀ N', At N' L → Q (.tup vs) N') ∨ ∃ l, ls[m]? = some l ∧ NoAct l ∧ ∀ N', At N' L → E (bt (.int ((m : Int) + 1))) N') : wpR (m_read_script [.str text] N) Q E := by
  have hml : m ≤ ls.length := by
    rcases hend with ⟨e, _⟩ | ⟨l, e, _⟩
    · omega
    · have := (List.getElem?_eq_some_iff.mp e).1
      omega
  refine wp_fun1 ?_
  simp only [List.replicate]
  generalize hX : t7_read_script = X
  walk_at "gos"
  refine ifF (decide_eq_false ht) ?_
  walk_at "gos"
  subst hX
  unfold t7_read_script t6_read_script t5_read_script
  generalize hX : t4_read_script = X
  generalize hB : b3_read_script = B
  walk_at "gos"
  refine NY.sl_split (s := text) (t := "\n") ⟨by decide +kernel, le_size (by omega)⟩ hs H fun n N1 H1 => ?_
  walk_at "gos"
  rename_i a N2 H2
  refine wp_for (wp_rng1 ?_)
  walk_at "gos"
  refine ⟨_, rfl, by rw [List.length_map]; omega, by rw [List.length_map]; omega, ?_⟩
  rw [Int.toNat_natCast, List.length_map]
  refine wp_loop (fun i σ N' => ∃ (s3 s4 : Option D), σ = [some (.str text), some (.ref n), some (.ref a), s3, s4] ∧ i ≤ m ∧ At N' (pt a (.lst (vs.take i)) :: pt n (.lst (ls.map .str)) :: L))
    ⟨_, _, rfl, by omega, by rw [List.take_zero]; exact H2⟩ (fun _ _ _ _ => rfl) ?_ ?_
  · rintro i z σ N3 hz ⟨s3, s4, rfl, hi, H3⟩
    obtain ⟨hlt, rfl⟩ := List.getElem?_eq_some_iff.mp hz
    have hi2 : i < ls.length := by simpa using hlt
    refine ⟨_, rfl, ?_⟩
    simp only [List.getElem_map, List.getElem_range]
    have e1 : ls[i]? = some ls[i] := List.getElem?_eq_getElem hi2
    subst hB
    unfold b3_read_script
    generalize hY : t2_read_script = Y
    walk_at "gos"
    refine wp_getL (d := .str ls[i]) (H3.get (.tail .head)) (strs_get e1 rfl) ?_
    walk_at "gos"
    by_cases him : i = m
    · subst him
      rcases hend with ⟨e, _⟩ | ⟨l, e, ⟨ws, hw, hn⟩, hE⟩
      · omega
      · rw [e1] at e
        cases e
        refine act_wd hw H3 fun N4 H4 => ?_
        rw [hn, Option.getD_none]
        subst hY
        unfold t2_read_script
        walk_at "goi"
        refine wp_raiseV ?_
        walk_at "gos"
        exact hE N4 H4.drop.drop
    · have hiv : i < vs.length := by omega
      have e2 : vs[i]? = some vs[i] := List.getElem?_eq_getElem hiv
      obtain ⟨ws, us, hw, hn, hu⟩ := hv i _ _ e1 e2
      have et : vs.take (i + 1) = vs.take i ++ [vs[i]] := by rw [List.take_succ, e2]; rfl
      refine act_wd hw H3 fun N4 H4 => ?_
      rw [hn, hu, Option.getD_some]
      rw [hu] at et
      walk_at "gos"
      subst hY
      unfold t2_read_script
      generalize hY : t1_read_script = Y
      walk_at "goi"
      subst hY
      unfold t1_read_script
      walk_at "gos"
      refine sl_app (n := a) H4 .head (lt_size (by rw [List.length_take]; omega)) fun N5 H5 => ?_
      walk_at "gos"
      exact ⟨_, _, rfl, by omega, by rw [et]; exact H5⟩
  · rintro σ N3 ⟨s3, s4, rfl, hi, H3⟩
    rw [List.length_map, List.length_range] at hi
    have hme : m = ls.length := by omega
    rw [List.length_map, List.length_range, List.take_of_length_le (by omega)] at H3
    subst hX
    rcases hend with ⟨_, hQ⟩ | ⟨l, e, _⟩
    · walk_at "gos"
      exact hQ N3 H3.drop.drop
    · have := (List.getElem?_eq_some_iff.mp e).1
      omega
end
-- mac2
section
variable {Q : D → NH → Prop} {E : XP} {N : NH} {n k : Nat} {σ : NEnv} {L R R2 : List HP} {d x y z : D} {e : En} {A : NA}
/-! scripts: acts and their words -/
def Big (i : Int) : Prop := 0 ≤ i ∧ i ≤ 281474976710656
theorem numS_len16 {n : Nat} (h : n < 10 ^ 16) : (numS (n : Int)).length ≤ 16 := by
  rw [len_list, num_cs]
  exact TL.numL_len (by decide) h
theorem numS_ne (n : Nat) : 1 ≤ (numS (n : Int)).length := by
  rw [len_list, num_cs]
  have := TL.numL_ne n
  cases hx : TL.numL n with
  | nil => exact absurd hx this
  | cons c r => show 1 ≤ r.length + 1; omega
theorem numM_num {i : Int} (h : Big i) : numM (numS i) = some i := by
  obtain ⟨n, rfl⟩ := Int.eq_ofNat_of_zero_le h.1
  have hn : n ≤ 281474976710656 := by have := h.2; omega
  have hl := numS_len16 (n := n) (by omega)
  have h1 := numS_ne n
  have hd : (numS (n : Int)).cps.toList.all digB = true := by
    rw [num_cs]
    refine List.all_eq_true.mpr fun c hc => ?_
    have := TL.numL_digits n c hc
    exact Bool.and_eq_true_iff.mpr ⟨decide_eq_true (by omega), decide_eq_true (by omega)⟩
  unfold numM digs1
  rw [decide_eq_true h1, decide_eq_true hl, hd, if_pos (by rfl)]
  have hz : (headB (fun c => decide (c = 48)) (numS (n : Int)).cps.toList && decide (1 < (numS (n : Int)).length)) = false := by
    by_cases hn : 1 ≤ n
    · rw [num_cs, numL_head hn, Bool.false_and]
    · have : n = 0 := by omega
      subst this
      have : (numS ((0 : Nat) : Int)).length = 1 := by
        rw [len_list, num_cs, TL.numL_lt (by decide)]; rfl
      rw [this, Bool.and_comm]; rfl
  rw [hz, if_neg (by decide), num_cs, TL.numL_val, if_pos h.2]
theorem nums_map {ns : List Int} (h : ∀ i ∈ ns, Big i) : nums (ns.map numS) = some ns := by
  unfold nums
  rw [if_pos (by
    rw [List.all_map]
    refine List.all_eq_true.mpr fun i hi => ?_
    show (numM (numS i)).isSome = true
    rw [numM_num (h i hi)]; rfl), List.map_map]
  congr 1
  conv => rhs; rw [← List.map_id ns]
  refine List.map_congr_left fun i hi => ?_
  show (numM (numS i)).getD 0 = i
  rw [numM_num (h i hi)]; rfl
theorem nums_none {w : Str} {ws : List Str} (hm : w ∈ ws) (h : numM w = none) : nums ws = none := by
  unfold nums
  rw [if_neg]
  intro q
  have := List.all_eq_true.mp q w hm
  rw [h] at this
  cases this
theorem actW_name {nm vb : Str} {rs : List Str} {ns : List Int} (hn : nameB nm = true) (hv : numM vb = none) (hr : nums rs = some ns) : actW (nm :: vb :: rs) = playF nm vb ns := by
  have h1 : nums (vb :: rs) = none := nums_none List.mem_cons_self hv
  have h2 : backF (vb :: rs) = none := by
    unfold backF
    split
    · exact hv
    · rfl
  unfold actW
  dsimp only
  rw [h1, h2]
  simp [hn, hr]
inductive ActT : D → List Str → Prop
  | put {nm : Str} {a b : Int} : nameB nm = true → Big a → Big b → ActT (.tup [.str "send", .str nm, .tup [.str "put", .int a, .int b]]) [nm, "puts", numS a, numS b]
  | ask {nm : Str} : nameB nm = true → ActT (.tup [.str "send", .str nm, .tup [.str "ask"]]) [nm, "asks"]
  | lie {nm : Str} {a b c : Int} : nameB nm = true → Big a → Big b → Big c → ActT (.tup [.str "lie", .str nm, .int a, .int b, .int c]) [nm, "lies", numS a, numS b, numS c]
  | forge {nm : Str} {a b : Int} : nameB nm = true → Big a → Big b → ActT (.tup [.str "forge", .str nm, .int a, .int b]) [nm, "forges", numS a, numS b]
  | cut {nm : Str} : nameB nm = true → ActT (.tup [.str "cut", .str nm]) [nm, "cuts"]
  | paper {nm : Str} : nameB nm = true → ActT (.tup [.str "paper", .str nm]) [nm, "papers"]
  | gather {nm : Str} : nameB nm = true → ActT (.tup [.str "gather", .str nm]) [nm, "gathers"]
  | block {ns : List Int} : (∀ i ∈ ns, Big i) → ns.length ≤ 4 → ActT (.tup [.str "block", .tup (ns.map .int)]) ("block" :: ns.map numS)
  | back {a : Int} : Big a → ActT (.tup [.str "back", .int a]) ["back", numS a]
theorem nums2 {a b : Int} (ha : Big a) (hb : Big b) : nums [numS a, numS b] = some [a, b] := nums_map (ns := [a, b]) fun i hi => by
  rcases List.mem_cons.mp hi with rfl | hi
  · exact ha
  · rw [List.mem_singleton.mp hi]; exact hb
theorem nums3 {a b c : Int} (ha : Big a) (hb : Big b) (hc : Big c) : nums [numS a, numS b, numS c] = some [a, b, c] := nums_map (ns := [a, b, c]) fun i hi => by
  rcases List.mem_cons.mp hi with rfl | hi
  · exact ha
  · rcases List.mem_cons.mp hi with rfl | hi
    · exact hb
    · rw [List.mem_singleton.mp hi]; exact hc
theorem nums0 : nums [] = some [] := rfl
theorem play_put {nm : Str} {a b : Int} : playF nm "puts" [a, b] = some (.tup [.str "send", .str nm, .tup [.str "put", .int a, .int b]]) := by
  unfold playF
  rw [if_neg (fun q => absurd q.2 (by simp)), if_pos ⟨rfl, rfl⟩]; rfl
theorem play_ask {nm : Str} : playF nm "asks" [] = some (.tup [.str "send", .str nm, .tup [.str "ask"]]) := by
  unfold playF
  rw [if_neg (fun q => absurd q.1 (by decide +kernel)), if_neg (fun q => absurd q.2 (by decide)), if_pos ⟨rfl, rfl⟩]
theorem play_lie {nm : Str} {a b c : Int} : playF nm "lies" [a, b, c] = some (.tup [.str "lie", .str nm, .int a, .int b, .int c]) := by
  unfold playF
  rw [if_neg (fun q => absurd q.2 (by simp)), if_neg (fun q => absurd q.1 (by decide +kernel)), if_neg (fun q => absurd q.2 (by simp)), if_pos ⟨rfl, rfl⟩]; rfl
theorem play_forge {nm : Str} {a b : Int} : playF nm "forges" [a, b] = some (.tup [.str "forge", .str nm, .int a, .int b]) := by
  unfold playF
  rw [if_neg (fun q => absurd q.2 (by simp)), if_neg (fun q => absurd q.1 (by decide +kernel)), if_neg (fun q => absurd q.2 (by simp)), if_neg (fun q => absurd q.1 (by decide +kernel)), if_pos ⟨rfl, rfl⟩]; rfl
theorem play_plain {nm vb w : Str} (hv : vb ∈ plains) (h : L2.cutS vb none (some (-1)) = w) : playF nm vb [] = some (.tup [.str w, .str nm]) := by
  unfold playF
  rw [if_pos ⟨hv, rfl⟩, h]
theorem act_words {a : D} {ws : List Str} (h : ActT a ws) : actW ws = some a := by
  cases h with
  | put hn ha hb => rw [actW_name hn (by decide +kernel) (nums2 ha hb), play_put]
  | ask hn => rw [actW_name hn (by decide +kernel) nums0, play_ask]
  | lie hn ha hb hc => rw [actW_name hn (by decide +kernel) (nums3 ha hb hc), play_lie]
  | forge hn ha hb => rw [actW_name hn (by decide +kernel) (nums2 ha hb), play_forge]
  | cut hn => rw [actW_name hn (by decide +kernel) nums0, play_plain (by decide +kernel) (w := "cut") (by decide +kernel)]
  | paper hn => rw [actW_name hn (by decide +kernel) nums0, play_plain (by decide +kernel) (w := "paper") (by decide +kernel)]
  | gather hn => rw [actW_name hn (by decide +kernel) nums0, play_plain (by decide +kernel) (w := "gather") (by decide +kernel)]
  | block hn hl =>
    unfold actW
    dsimp only
    rw [if_pos rfl, nums_map hn]
  | back ha =>
    have hb : ¬ ("back" : Str) = "block" := by decide +kernel
    unfold actW backF
    dsimp only
    rw [if_neg hb, if_pos rfl, if_pos (by rfl)]
    rw [show (List.headD [numS _] ("" : Str)) = numS _ from rfl, numM_num ha]
end
-- mac2
section
variable {Q : D → NH → Prop} {E : XP} {N : NH} {n k : Nat} {σ : NEnv} {L R R2 : List HP} {d x y z : D} {e : En} {A : NA}
/-! scripts: an act's line is printed -/
structure Wok (w : Str) : Prop where
  sp : 32 ∉ TL.tl w
  nl : 10 ∉ TL.tl w
  len : w.length ≤ 16
instance (w : Str) : Decidable (Wok w) := decidable_of_iff (32 ∉ TL.tl w ∧ 10 ∉ TL.tl w ∧ w.length ≤ 16) ⟨fun h => ⟨h.1, h.2.1, h.2.2⟩, fun h => ⟨h.1, h.2, h.3⟩⟩
theorem wok_name {nm : Str} (h : nameB nm = true) : Wok nm := by
  obtain ⟨h1, h2⟩ := Bool.and_eq_true_iff.mp h
  have hl := of_decide_eq_true (Bool.and_eq_true_iff.mp h1).2
  have ha := List.all_eq_true.mp (Bool.and_eq_true_iff.mp h2).2
  refine ⟨fun q => ?_, fun q => ?_, by omega⟩
  · exact absurd (ha 32 q) (by decide)
  · exact absurd (ha 10 q) (by decide)
theorem wok_num {i : Int} (h : Big i) : Wok (numS i) := by
  obtain ⟨n, rfl⟩ := Int.eq_ofNat_of_zero_le h.1
  have hn : n ≤ 281474976710656 := by have := h.2; omega
  have hd : ∀ c ∈ TL.tl (numS (n : Int)), 48 ≤ c := fun c hc => by
    rw [show TL.tl (numS (n : Int)) = (numS (n : Int)).cps.toList from rfl, num_cs] at hc
    have := TL.numL_digits n c hc
    omega
  exact ⟨fun q => absurd (hd 32 q) (by omega), fun q => absurd (hd 10 q) (by omega), numS_len16 (by omega)⟩
theorem act_wok {a : D} {ws : List Str} (h : ActT a ws) : (∀ w ∈ ws, Wok w) ∧ ws.length ≤ 5 ∧ ws ≠ [] := by
  cases h with
  | put hn ha hb => exact ⟨by simp only [List.mem_cons, List.not_mem_nil, or_false]; rintro w (rfl | rfl | rfl | rfl) <;> first | exact wok_name hn | exact wok_num ha | exact wok_num hb | decide +kernel, by simp, by simp⟩
  | ask hn => exact ⟨by simp only [List.mem_cons, List.not_mem_nil, or_false]; rintro w (rfl | rfl) <;> first | exact wok_name hn | decide +kernel, by simp, by simp⟩
  | lie hn ha hb hc => exact ⟨by simp only [List.mem_cons, List.not_mem_nil, or_false]; rintro w (rfl | rfl | rfl | rfl | rfl) <;> first | exact wok_name hn | exact wok_num ha | exact wok_num hb | exact wok_num hc | decide +kernel, by simp, by simp⟩
  | forge hn ha hb => exact ⟨by simp only [List.mem_cons, List.not_mem_nil, or_false]; rintro w (rfl | rfl | rfl | rfl) <;> first | exact wok_name hn | exact wok_num ha | exact wok_num hb | decide +kernel, by simp, by simp⟩
  | cut hn => exact ⟨by simp only [List.mem_cons, List.not_mem_nil, or_false]; rintro w (rfl | rfl) <;> first | exact wok_name hn | decide +kernel, by simp, by simp⟩
  | paper hn => exact ⟨by simp only [List.mem_cons, List.not_mem_nil, or_false]; rintro w (rfl | rfl) <;> first | exact wok_name hn | decide +kernel, by simp, by simp⟩
  | gather hn => exact ⟨by simp only [List.mem_cons, List.not_mem_nil, or_false]; rintro w (rfl | rfl) <;> first | exact wok_name hn | decide +kernel, by simp, by simp⟩
  | block hn hl =>
    refine ⟨fun w hw => ?_, by rw [List.length_cons, List.length_map]; omega, by simp⟩
    rcases List.mem_cons.mp hw with rfl | hw
    · decide +kernel
    · obtain ⟨i, hi, rfl⟩ := List.mem_map.mp hw
      exact wok_num (hn i hi)
  | back ha => exact ⟨by simp only [List.mem_cons, List.not_mem_nil, or_false]; rintro w (rfl | rfl) <;> first | exact wok_num ha | decide +kernel, by simp, by simp⟩
theorem joinL_mem {S : List Nat} {c : Nat} : ∀ {l : List (List Nat)}, c ∈ TL.joinL S l → c ∈ S ∨ ∃ w ∈ l, c ∈ w
  | [], h => by cases h
  | [p], h => .inr ⟨p, List.mem_cons_self, h⟩
  | p :: q :: r, h => by
    have h : c ∈ p ++ (S ++ TL.joinL S (q :: r)) := h
    rcases List.mem_append.mp h with h | h
    · exact .inr ⟨p, List.mem_cons_self, h⟩
    · rcases List.mem_append.mp h with h | h
      · exact .inl h
      · rcases joinL_mem h with h | ⟨w, hw, h⟩
        · exact .inl h
        · exact .inr ⟨w, List.mem_cons_of_mem _ hw, h⟩
theorem wd_join {ws : List Str} (hne : ws ≠ []) (hl : ws.length ≤ 30) (h : ∀ w ∈ ws, Wok w) : Wd (Txt.join " " ws) ws ∧ 10 ∉ TL.tl (Txt.join " " ws) ∧ (Txt.join " " ws).length ≤ 700 := by
  have h1 := sum_le (l := ws) (m := 16) fun t ht => (h t ht).len
  have h2 := join_len " " ws
  rw [show (" " : Str).length = 1 by decide +kernel] at h2
  refine ⟨⟨TL.split_join sp_tl.1 sp_tl.2 hne fun p hp => (h p hp).sp, hne, fun w hw => by have := (h w hw).len; omega, by omega, by omega⟩, fun q => ?_, by omega⟩
  rw [TL.join_eq, TL.tl_join, sp_tl.1] at q
  rcases joinL_mem q with q | ⟨w, hw, q⟩
  · exact absurd (List.mem_singleton.mp q) (by decide)
  · obtain ⟨v, hv, rfl⟩ := List.mem_map.mp hw
    exact (h v hv).nl q
theorem strB {v : Int} (h : Big v) (hq : Q (.str (numS v)) N) : wpR (fStr [.int v] N) Q E := by
  have hl : v.natAbs.log2 < 1920 := by
    have : v.natAbs.log2 < 64 := by
      by_cases h0 : v.natAbs = 0
      · rw [h0]; decide
      · refine (Nat.log2_lt h0).mpr ?_
        have := h.1
        have := h.2
        omega
    omega
  have e : fStr [.int v] N = .ok (.str (numS v)) N := if_pos hl
  exact wp_ofEq e hq
def strD : D → D := fun d => match d with
  | .int i => .str (numS i)
  | d => d
theorem strD_map (ns : List Int) : (ns.map D.int).map strD = (ns.map numS).map .str := by rw [List.map_map, List.map_map]; rfl
theorem join_sz2 {ws : List Str} (hl : ws.length ≤ 30) (h : ∀ w ∈ ws, Wok w) : (ws.map (·.length)).sum + ws.length * (" " : Str).length ≤ 16777216 := by
  have h1 := sum_le (l := ws) (m := 16) fun t ht => (h t ht).len
  rw [show (" " : Str).length = 1 by decide +kernel]
  omega
end
-- mac2
section
variable {Q : D → NH → Prop} {E : XP} {N : NH} {n k : Nat} {σ : NEnv} {L R R2 : List HP} {d x y z : D} {e : En} {A : NA}
/-! scripts: line_of, print_script -/
theorem comp_str {a : NE} {s0 s1 : Option D} {ns : List Int} (hb : ∀ i ∈ ns, Big i) (hl : ns.length ≤ 30) (h : wpR (a [s0, s1] N) (fun d N => d = .tup (ns.map .int) ∧ At N L) E) (hQ : ∀ k N', At N' (pt k (.lst ((ns.map numS).map .str)) :: L) → Q (.ref k) N') : wpR (nLc (iSeq a) (pName 1) nYes (nCall fStr (nCons (nV 1) nNil)) [1] [s0, s1] N) Q E := by
  refine sl_lcP (fun _ => true) strD (h.mono (fun d N ⟨e, H⟩ => ⟨⟨ns.map .int, fun _ => true⟩, L, by subst e; rfl, fun _ _ => rfl, lt_size (show (ns.map D.int).length ≤ 1000000 by rw [List.length_map]; omega), H, fun y N1 _ H1 => ?_, fun y N1 hy _ H1 => ?_, fun k N2 H2 => ?_⟩) fun _ _ h => h)
  · exact wp_yesL ⟨H1, rfl⟩
  · simp only [wipeN, List.map, List.set_cons_zero, List.set_cons_succ, List.foldl]
    obtain ⟨i, hi, rfl⟩ := List.mem_map.mp hy
    walk_at "gos"
    exact strB (hb i hi) ⟨H1, rfl⟩
  · rw [List.filter_eq_self.mpr fun _ _ => rfl, show ((⟨ns.map D.int, fun _ => true⟩ : NIt).items) = ns.map D.int from rfl, strD_map] at H2
    exact hQ k N2 H2
theorem at1 {x y : D} {l : List D} : atD (x :: y :: l) 1 = some y := by
  unfold atD ixN
  rw [if_pos (by omega), if_pos (by simp only [List.length_cons]; omega)]
  rfl
theorem line_send {nm vb vs : Str} {ns : List Int} (hv : vb ++ ("s" : Str) = vs) (hvl : vb.length ≤ 10) (hb : ∀ i ∈ ns, Big i) (hl : ns.length ≤ 20) (hw : ∀ w ∈ nm :: vs :: ns.map numS, Wok w) (H : At N L) (hQ : ∀ N', At N' L → Q (.str (Txt.join " " (nm :: vs :: ns.map numS))) N') :
    wpR (m_line_of [.tup [.str "send", .str nm, .tup (.str vb :: ns.map .int)]] N) Q E := by
  refine wp_fun1 ?_
  simp only [List.replicate]
  generalize hX : t9_line_of = X
  walk_at "goi"
  subst hX
  unfold t9_line_of
  generalize hX : t8_line_of = X
  walk_at "goi"
  subst hX
  unfold t8_line_of
  walk_at "goi"
  refine wp_addS (le_size (by have : ("s" : Str).length = 1 := by decide +kernel
                              omega)) ?_
  rw [hv]
  walk_at "goi"
  rename_i k1 N1 H1
  refine comp_str (L := pt k1 (.lst [.str nm, .str vs]) :: L) hb (by omega) ?_ fun k2 N2 H2 => ?_
  · walk_at "gos"
    exact ⟨by rw [cut_tl], H1⟩
  · refine sl_catL (n := k1) (m := k2) H2 (.tail .head) .head (le_size (by simp; omega)) fun k3 N3 H3 => ?_
    have e1 : [D.str nm, D.str vs] ++ (ns.map numS).map D.str = (nm :: vs :: ns.map numS).map .str := rfl
    rw [e1] at H3
    walk_at "gos"
    refine wp_join (H3.get .head) (join_sz2 (by simp; omega) hw) ?_
    exact hQ N3 H3.drop.drop.drop
theorem line_other {nm vb vs : Str} {ns : List Int} (h1 : ¬ vb = "block") (h2 : ¬ vb = "back") (h3 : ¬ vb = "send") (hv : vb ++ ("s" : Str) = vs) (hvl : vb.length ≤ 10) (hb : ∀ i ∈ ns, Big i) (hl : ns.length ≤ 20) (hw : ∀ w ∈ nm :: vs :: ns.map numS, Wok w) (H : At N L) (hQ : ∀ N', At N' L → Q (.str (Txt.join " " (nm :: vs :: ns.map numS))) N') :
    wpR (m_line_of [.tup (.str vb :: .str nm :: ns.map .int)] N) Q E := by
  refine wp_fun1 ?_
  simp only [List.replicate]
  generalize hX : t9_line_of = X
  walk_at "gos"
  refine ifF (decide_eq_false h1) ?_
  walk_at "gos"
  subst hX
  unfold t9_line_of
  generalize hX : t8_line_of = X
  walk_at "gos"
  refine ifF (decide_eq_false h2) ?_
  walk_at "gos"
  subst hX
  unfold t8_line_of
  generalize hX : t7_line_of = X
  walk_at "gos"
  refine ifF (decide_eq_false h3) ?_
  walk_at "gos"
  subst hX
  unfold t7_line_of
  walk_at "gos"
  refine wp_getT (d := .str nm) at1 ?_
  walk_at "gos"
  have hsl : vb.length + ("s" : Str).length ≤ 1000000 := by rw [show ("s" : Str).length = 1 by decide +kernel]; omega
  refine wp_addS (le_size hsl) ?_
  rw [hv]
  walk_at "gos"
  rename_i k1 N1 H1
  refine comp_str (L := pt k1 (.lst [.str nm, .str vs]) :: L) hb (by omega) ?_ fun k2 N2 H2 => ?_
  · walk_at "gos"
    refine ⟨?_, H1⟩
    rw [cut_drop (by omega) (by simp only [List.length_cons, List.length_map]; omega)]
    rfl
  · refine sl_catL (n := k1) (m := k2) H2 (.tail .head) .head (le_size (by simp; omega)) fun k3 N3 H3 => ?_
    have e1 : [D.str nm, D.str vs] ++ (ns.map numS).map D.str = (nm :: vs :: ns.map numS).map .str := rfl
    rw [e1] at H3
    walk_at "gos"
    refine wp_join (H3.get .head) (join_sz2 (by simp; omega) hw) ?_
    exact hQ N3 H3.drop.drop.drop
theorem line_ok {a : D} {ws : List Str} (h : ActT a ws) (H : At N L) (hQ : ∀ N', At N' L → Q (.str (Txt.join " " ws)) N') : wpR (m_line_of [a] N) Q E := by
  obtain ⟨hw, hl, hne⟩ := act_wok h
  cases h with
  | @put nm a b hn ha hb => exact line_send (ns := [a, b]) (by decide +kernel) (by decide +kernel) (by simp only [List.mem_cons, List.not_mem_nil, or_false]; rintro i (rfl | rfl) <;> assumption) (by simp) hw H hQ
  | @ask nm hn => exact line_send (ns := []) (by decide +kernel) (by decide +kernel) (fun i h => by cases h) (by simp) hw H hQ
  | @lie nm a b c hn ha hb hc => exact line_other (ns := [a, b, c]) (by decide +kernel) (by decide +kernel) (by decide +kernel) (by decide +kernel) (by decide +kernel) (by simp only [List.mem_cons, List.not_mem_nil, or_false]; rintro i (rfl | rfl | rfl) <;> assumption) (by simp) hw H hQ
  | @forge nm a b hn ha hb => exact line_other (ns := [a, b]) (by decide +kernel) (by decide +kernel) (by decide +kernel) (by decide +kernel) (by decide +kernel) (by simp only [List.mem_cons, List.not_mem_nil, or_false]; rintro i (rfl | rfl) <;> assumption) (by simp) hw H hQ
  | @cut nm hn => exact line_other (ns := []) (by decide +kernel) (by decide +kernel) (by decide +kernel) (by decide +kernel) (by decide +kernel) (fun i h => by cases h) (by simp) hw H hQ
  | @paper nm hn => exact line_other (ns := []) (by decide +kernel) (by decide +kernel) (by decide +kernel) (by decide +kernel) (by decide +kernel) (fun i h => by cases h) (by simp) hw H hQ
  | @gather nm hn => exact line_other (ns := []) (by decide +kernel) (by decide +kernel) (by decide +kernel) (by decide +kernel) (by decide +kernel) (fun i h => by cases h) (by simp) hw H hQ
  | @block ns hb hl4 =>
    refine wp_fun1 ?_
    simp only [List.replicate]
    generalize hX : t9_line_of = X
    walk_at "goi"
    rename_i k1 N1 H1
    refine comp_str (L := pt k1 (.lst [.str "block"]) :: L) hb (by omega) ?_ fun k2 N2 H2 => ?_
    · walk_at "gos"
      exact ⟨rfl, H1⟩
    · refine sl_catL (n := k1) (m := k2) H2 (.tail .head) .head (le_size (by simp; omega)) fun k3 N3 H3 => ?_
      have e1 : [D.str "block"] ++ (ns.map numS).map D.str = (("block" : Str) :: ns.map numS).map D.str := rfl
      rw [e1] at H3
      walk_at "gos"
      refine wp_join (H3.get .head) (join_sz2 (by simp; omega) hw) ?_
      exact hQ N3 H3.drop.drop.drop
  | @back a ha =>
    refine wp_fun1 ?_
    simp only [List.replicate]
    generalize hX : t9_line_of = X
    walk_at "goi"
    subst hX
    unfold t9_line_of
    generalize hX : t8_line_of = X
    walk_at "goi"
    refine strB ha ?_
    have hlen := (wok_num ha).len
    refine wp_addS (le_size (by have : ("back " : Str).length = 5 := by decide +kernel
                                omega)) ?_
    have e1 : ("back " : Str) ++ numS a = Txt.join " " ["back", numS a] := by
      refine TL.ext_tl ?_
      rw [TL.join_eq, TL.tl_join, TL.tl_append]
      rfl
    rw [e1]
    exact hQ N H
end
-- mac2
section
variable {Q : D → NH → Prop} {E : XP} {N : NH} {n k b : Nat} {σ : NEnv} {L R R2 : List HP} {d x y z : D} {e : En} {A : NA}
/-! scripts: print_script, the law's numbers -/
theorem print_script_ok {acts : List D} {wss : List (List Str)} (hl : acts.length = wss.length) (h20 : wss.length ≤ 20) (h : ∀ (j : Nat) a ws, acts[j]? = some a → wss[j]? = some ws → ActT a ws) (H : At N L) (hQ : ∀ N', At N' L → Q (.str (Txt.join "\n" (wss.map (Txt.join " ")))) N') : wpR (m_print_script [.tup acts] N) Q E := by
  refine wp_fun1 ?_
  simp only [List.replicate]
  walk_at "gos"
  refine sl_lcMT (fun j => match wss[j]? with | some ws => .str (Txt.join " " ws) | none => .non) ?_
  walk_at "gos"
  refine ⟨_, _, rfl, H, by omega, fun j x N1 hj H1 => ?_, fun k N1 H1 => ?_⟩
  · have hlt := (List.getElem?_eq_some_iff.mp hj).1
    have hw : wss[j]? = some wss[j] := List.getElem?_eq_getElem (by omega)
    refine ⟨_, rfl, ?_⟩
    unfold e1_print_script
    walk_at "gos"
    rw [hw]
    exact line_ok (h j _ _ hj hw) H1 fun N2 H2 => ⟨rfl, H2⟩
  · rw [range_map (f := fun ws => D.str (Txt.join " " ws)) (l := wss) hl (fun j hj => by rw [List.getElem?_eq_getElem hj])] at H1
    have e : wss.map (fun ws => D.str (Txt.join " " ws)) = (wss.map (Txt.join " ")).map .str := by rw [List.map_map]; rfl
    rw [e] at H1
    have hs := sum_le (l := wss.map (Txt.join " ")) (m := 700) fun t ht => by
      obtain ⟨ws, hws, rfl⟩ := List.mem_map.mp ht
      obtain ⟨j, hj, hje⟩ := List.getElem_of_mem hws
      have ha : acts[j]? = some acts[j] := List.getElem?_eq_getElem (by omega)
      obtain ⟨h1, h2, h3⟩ := act_wok (h j _ _ ha (by rw [List.getElem?_eq_getElem hj, hje]))
      exact (wd_join h3 (by omega) h1).2.2
    rw [List.length_map] at hs
    walk_at "gos"
    refine wp_join (H1.get .head) (by rw [List.length_map, show ("\n" : Str).length = 1 by decide +kernel]; omega) ?_
    exact hQ N1 H1.drop
theorem number1_ok (H : At N L) (hp : Pick L (dr 160 b) R) (hQ : ∀ (i : Int) N', Big i → At N' (dr 160 b :: R) → Q (.int i) N') : wpR (m__law_number_1 [.ref b] N) Q E := by
  refine wp_fun1 ?_
  simp only [List.replicate]
  walk_at "gos"
  refine take_ok (by decide) (by decide) (by decide) H hp fun w1 N1 a1 a2 H1 => ?_
  walk_at "gos"
  refine wp_powI (by decide) ?_
  walk_at "gos"
  refine take_ok (by decide) (by decide) (by decide) H1 .head fun w2 N2 b1 b2 H2 => ?_
  walk_at "gos"
  rename_i k1 N3 H3
  refine take_ok (by decide) (by decide) (by decide) H3 (.tail .head) fun w3 N4 c1 c2 H4 => ?_
  have key : ∃ i : Int, Big i ∧ atD [D.int 0, D.int 1, D.int 281474976710656, D.int w1, D.int (10 ^ (9 : Int).toNat + w2)] w3 = some (.int i) := by
    have : w3 = 0 ∨ w3 = 1 ∨ w3 = 2 ∨ w3 = 3 ∨ w3 = 4 := by omega
    rcases this with rfl | rfl | rfl | rfl | rfl
    · exact ⟨_, ⟨by omega, by omega⟩, rfl⟩
    · exact ⟨_, ⟨by omega, by omega⟩, rfl⟩
    · exact ⟨_, ⟨by omega, by omega⟩, rfl⟩
    · exact ⟨_, ⟨by omega, by omega⟩, rfl⟩
    · have e9 : (10 : Int) ^ (9 : Int).toNat = 1000000000 := by decide
      exact ⟨_, ⟨by rw [e9]; omega, by rw [e9]; omega⟩, rfl⟩
  obtain ⟨i, hi, hat⟩ := key
  walk_at "gos"
  refine wp_getL (d := .int i) (H4.get (.tail .head)) hat ?_
  exact hQ i N4 hi (by walk_at "at")
end
-- mac2
section
variable {Q : D → NH → Prop} {E : XP} {N : NH} {n k b : Nat} {σ : NEnv} {L R R2 : List HP} {d x y z : D} {e : En} {A : NA}
/-! scripts: the law's names -/
def chS (c : Nat) : Str := ⟨#[c]⟩
theorem joinL_one : ∀ cs : List Nat, TL.joinL [] (cs.map fun c => [c]) = cs
  | [] => rfl
  | [_] => rfl
  | a :: b :: r => by
    show [a] ++ ([] ++ TL.joinL [] ((b :: r).map fun c => [c])) = _
    rw [joinL_one (b :: r)]; rfl
theorem tl_chars (cs : List Nat) : TL.tl (Txt.join "" (cs.map chS)) = cs := by
  rw [TL.join_eq, TL.tl_join, show TL.tl ("" : Str) = [] by decide +kernel, List.map_map]
  exact joinL_one cs
theorem name_of {c : Nat} {cs : List Nat} (hc : smallB c = true) (hcs : ∀ x ∈ cs, (smallB x || digB x) = true) (hl : cs.length ≤ 11) : nameB (chS c ++ Txt.join "" (cs.map chS)) = true := by
  have e : (chS c ++ Txt.join "" (cs.map chS)).cps.toList = c :: cs := by
    show TL.tl _ = _
    rw [TL.tl_append, tl_chars]; rfl
  unfold nameB
  rw [len_list, e, List.length_cons, decide_eq_true (by omega), decide_eq_true (by omega)]
  show (true && (smallB c && (c :: cs).all fun c => smallB c || digB c)) = true
  rw [hc, Bool.true_and, Bool.true_and]
  refine List.all_eq_true.mpr fun x hx => ?_
  rcases List.mem_cons.mp hx with rfl | hx
  · rw [hc]; rfl
  · exact hcs x hx
theorem wp_getSi {s : Str} {i : Int} {c : Nat} (h0 : 0 ≤ i) (hc : s.cps.toList[i.toNat]? = some c) (hl : s.length ≤ sizeLine) (h : Q (.str (chS c)) N) : wpR (fGet (.str s) (.int i) N) Q E := wp_get (d := .str ⟨#[c]⟩) (by
  have hlt := (List.getElem?_eq_some_iff.mp hc).1
  unfold getIx
  dsimp only
  rw [if_pos hl]
  unfold atI ixN
  rw [if_pos h0, if_pos (by omega)]
  simpa using hc) h
theorem both_chars : (("abcdefghijklmnopqrstuvwxyz" : Str) ++ ("0123456789" : Str)).cps.toList = List.range' 97 26 ++ List.range' 48 10 := by
  rw [show (("abcdefghijklmnopqrstuvwxyz" : Str) ++ ("0123456789" : Str)).cps.toList = ("abcdefghijklmnopqrstuvwxyz" : Str).cps.toList ++ ("0123456789" : Str).cps.toList from TL.tl_append _ _, small_eq, dig_eq]
theorem both_get {j : Nat} (h : j < 36) : ∃ c, (("abcdefghijklmnopqrstuvwxyz" : Str) ++ ("0123456789" : Str)).cps.toList[j]? = some c ∧ (smallB c || digB c) = true := by
  rw [both_chars]
  by_cases h26 : j < 26
  · refine ⟨97 + j, ?_, ?_⟩
    · rw [List.getElem?_append_left (by simpa using h26), List.getElem?_range' h26, Nat.one_mul]
    · unfold smallB
      rw [decide_eq_true (show 97 ≤ 97 + j by omega), decide_eq_true (show 97 + j ≤ 122 by omega)]; rfl
  · refine ⟨48 + (j - 26), ?_, ?_⟩
    · rw [List.getElem?_append_right (by simp; omega), List.length_range', List.getElem?_range' (by omega), Nat.one_mul]
    · unfold digB
      rw [decide_eq_true (show 48 ≤ 48 + (j - 26) by omega), decide_eq_true (show 48 + (j - 26) ≤ 57 by omega), Bool.or_comm]; rfl
theorem small_get {j : Nat} (h : j < 26) : ∃ c, ("abcdefghijklmnopqrstuvwxyz" : Str).cps.toList[j]? = some c ∧ smallB c = true := by
  rw [small_eq]
  refine ⟨97 + j, by rw [List.getElem?_range' h, Nat.one_mul], ?_⟩
  unfold smallB
  rw [decide_eq_true (show 97 ≤ 97 + j by omega), decide_eq_true (show 97 + j ≤ 122 by omega)]; rfl
end
-- mac2
section
variable {Q : D → NH → Prop} {E : XP} {N : NH} {n k b : Nat} {σ : NEnv} {L R R2 : List HP} {d x y z : D} {e : En} {A : NA}
/-! scripts: the law draws a name -/
theorem name_1_ok (H : At N L) (hp : Pick L (dr 160 b) R) (hQ : ∀ (s : Str) N', nameB s = true → At N' (dr 160 b :: R) → Q (.str s) N') : wpR (m__law_name_1 [.ref b] N) Q E := by
  refine wp_fun1 ?_
  simp only [List.replicate]
  unfold t6__law_name_1
  generalize hI : i1__law_name_1 = I
  generalize hX : t5__law_name_1 = X
  walk_at "gos"
  refine take_ok (by decide) (by decide) (by decide) H hp fun w1 N1 a1 a2 H1 => ?_
  walk_at "gos"
  by_cases hw : w1 = 0
  · refine ifT (decide_eq_true hw) ?_
    subst hI
    unfold i1__law_name_1
    walk_at "gos"
    rename_i k1 N2 H2
    refine take_ok (by decide) (by decide) (by decide) H2 (.tail .head) fun w2 N3 b1 b2 H3 => ?_
    have key : ∃ s : Str, nameB s = true ∧ atD [D.str "block", D.str "back", D.str "b", D.str "puts", D.str "a1b2c3d4e5f6"] w2 = some (.str s) := by
      have : w2 = 0 ∨ w2 = 1 ∨ w2 = 2 ∨ w2 = 3 ∨ w2 = 4 := by omega
      rcases this with rfl | rfl | rfl | rfl | rfl <;> exact ⟨_, by decide +kernel, rfl⟩
    obtain ⟨s, hs, hat⟩ := key
    walk_at "gos"
    refine wp_getL (d := .str s) (H3.get (.tail .head)) hat ?_
    walk_at "gos"
    exact hQ s N3 hs (by walk_at "at")
  · refine ifF (decide_eq_false hw) ?_
    walk_at "gos"
    subst hX
    unfold t5__law_name_1
    generalize hX : t4__law_name_1 = X
    walk_at "gos"
    rename_i k1 N2 H2
    refine take_ok (by decide) (by decide) (by decide) H2 (.tail .head) fun w2 N3 b1 b2 H3 => ?_
    have key : ∃ m : Nat, m ≤ 11 ∧ atD [D.int 0, D.int 1, D.int 2, D.int 5, D.int 11] w2 = some (.int (m : Int)) := by
      have : w2 = 0 ∨ w2 = 1 ∨ w2 = 2 ∨ w2 = 3 ∨ w2 = 4 := by omega
      rcases this with rfl | rfl | rfl | rfl | rfl
      · exact ⟨0, by omega, rfl⟩
      · exact ⟨1, by omega, rfl⟩
      · exact ⟨2, by omega, rfl⟩
      · exact ⟨5, by omega, rfl⟩
      · exact ⟨11, by omega, rfl⟩
    obtain ⟨m, hm, hat⟩ := key
    walk_at "gos"
    refine wp_getL (d := .int (m : Int)) (H3.get (.tail .head)) hat ?_
    walk_at "gos"
    subst hX
    unfold t4__law_name_1
    generalize hX : t3__law_name_1 = X
    walk_at "gos"
    have H3 : At N3 (dr 160 b :: R) := by walk_at "at"
    refine sl_lcR (fun _ d => ∃ c, d = .str (chS c) ∧ (smallB c || digB c) = true) ?_
    walk_at "gos"
    refine ⟨_, _, rfl, by omega, by omega, H3, fun j N4 hj H4 => ?_, fun l k2 N4 hl hle H4 => ?_⟩
    · simp only [wipeN, List.map, List.set_cons_zero, List.set_cons_succ, List.foldl]
      unfold e2__law_name_1
      walk_at "gos"
      refine wp_addS (le_size (by decide +kernel)) ?_
      walk_at "gos"
      refine take_ok (by decide) (by decide) (by decide) H4 .head fun w3 N5 c1 c2 H5 => ?_
      walk_at "gos"
      obtain ⟨c, hc, hcb⟩ := both_get (j := w3.toNat) (by omega)
      exact wp_getSi c1 hc (le_size (by decide +kernel)) ⟨⟨c, rfl, hcb⟩, H5⟩
    · obtain ⟨cs, rfl, hcs⟩ : ∃ cs : List Nat, l = (cs.map chS).map D.str ∧ ∀ x ∈ cs, (smallB x || digB x) = true := by
        clear hl H4
        induction l with
        | nil => exact ⟨[], rfl, fun x h => by cases h⟩
        | cons a r ih =>
          obtain ⟨c, h1, h2⟩ := hle 0 a rfl
          obtain ⟨cs, h3, h4⟩ := ih fun i x h => hle (i + 1) x h
          refine ⟨c :: cs, by rw [h1, h3]; rfl, fun x hx => ?_⟩
          rcases List.mem_cons.mp hx with rfl | hx
          · exact h2
          · exact h4 x hx
      have hcl : cs.length ≤ 11 := by
        rw [List.length_map, List.length_map] at hl
        omega
      walk_at "gos"
      have hsum := sum_le (l := cs.map chS) (m := 1) fun t ht => by
        obtain ⟨c, _, rfl⟩ := List.mem_map.mp ht
        exact Nat.le_refl 1
      rw [List.length_map] at hsum
      refine wp_join (H4.get .head) (by rw [List.length_map, show ("" : Str).length = 0 by decide +kernel]; omega) ?_
      walk_at "gos"
      subst hX
      unfold t3__law_name_1
      walk_at "gos"
      refine take_ok (by decide) (by decide) (by decide) H4 (.tail .head) fun w4 N5 d1 d2 H5 => ?_
      walk_at "gos"
      obtain ⟨c, hc, hcb⟩ := small_get (j := w4.toNat) (by omega)
      refine wp_getSi d1 hc (le_size (by decide +kernel)) ?_
      walk_at "gos"
      have hnm := name_of hcb hcs hcl
      have hjl : (Txt.join "" (cs.map chS)).length ≤ 11 := by rw [len_list, show (Txt.join "" (cs.map chS)).cps.toList = cs from tl_chars cs]; exact hcl
      have h1 : (chS c).length = 1 := rfl
      refine wp_addS (le_size (by omega)) ?_
      walk_at "gos"
      exact hQ _ N5 hnm (by walk_at "at")
end
-- mac2
section
variable {Q : D → NH → Prop} {E : XP} {N : NH} {n k b : Nat} {σ : NEnv} {L R R2 : List HP} {d x y z : D} {e : En} {A : NA}
/-! scripts: the texts of the law's lines -/
theorem len_add (a b : Str) : (a ++ b).length = a.length + b.length := by rw [TL.len_tl, TL.len_tl a, TL.len_tl b, TL.tl_append, List.length_append]
theorem lit1 : TL.tl (" " : Str) = [32] := sp_tl.1
theorem txt_put {nm p q : Str} : nm ++ " puts " ++ p ++ " " ++ q = Txt.join " " [nm, "puts", p, q] := by
  refine TL.ext_tl ?_
  rw [TL.join_eq, TL.tl_join, TL.tl_append, TL.tl_append, TL.tl_append, TL.tl_append, lit1, show TL.tl (" puts " : Str) = [32] ++ TL.tl ("puts" : Str) ++ [32] by decide +kernel]
  simp [TL.joinL]
theorem txt_forge {nm p q : Str} : nm ++ " forges " ++ p ++ " " ++ q = Txt.join " " [nm, "forges", p, q] := by
  refine TL.ext_tl ?_
  rw [TL.join_eq, TL.tl_join, TL.tl_append, TL.tl_append, TL.tl_append, TL.tl_append, lit1, show TL.tl (" forges " : Str) = [32] ++ TL.tl ("forges" : Str) ++ [32] by decide +kernel]
  simp [TL.joinL]
theorem txt_lie {nm p q r : Str} : nm ++ " lies " ++ p ++ " " ++ q ++ " " ++ r = Txt.join " " [nm, "lies", p, q, r] := by
  refine TL.ext_tl ?_
  rw [TL.join_eq, TL.tl_join, TL.tl_append, TL.tl_append, TL.tl_append, TL.tl_append, TL.tl_append, TL.tl_append, lit1, show TL.tl (" lies " : Str) = [32] ++ TL.tl ("lies" : Str) ++ [32] by decide +kernel]
  simp [TL.joinL]
theorem txt_verb {nm w v : Str} (h : TL.tl w = [32] ++ TL.tl v) : nm ++ w = Txt.join " " [nm, v] := by
  refine TL.ext_tl ?_
  rw [TL.join_eq, TL.tl_join, TL.tl_append, h, lit1]
  simp [TL.joinL]
theorem txt_back {p : Str} : ("back " : Str) ++ p = Txt.join " " ["back", p] := by
  refine TL.ext_tl ?_
  rw [TL.join_eq, TL.tl_join, TL.tl_append, show TL.tl ("back " : Str) = TL.tl ("back" : Str) ++ [32] by decide +kernel, lit1]
  simp [TL.joinL]
theorem tl_join0 (ps : List Str) : TL.tl (Txt.join "" ps) = (ps.map TL.tl).flatten := by
  rw [TL.join_eq, TL.tl_join, show TL.tl ("" : Str) = [] by decide +kernel]
  induction ps with
  | nil => rfl
  | cons p r ih =>
    cases r with
    | nil => simp [TL.joinL]
    | cons q r =>
      show TL.tl p ++ ([] ++ TL.joinL [] ((q :: r).map TL.tl)) = _
      rw [ih]; rfl
theorem joinL_cons (S p : List Nat) : ∀ l : List (List Nat), TL.joinL S (p :: l) = p ++ (l.map fun w => S ++ w).flatten
  | [] => by simp [TL.joinL]
  | q :: r => by
    show p ++ (S ++ TL.joinL S (q :: r)) = _
    rw [joinL_cons S q r]
    simp
theorem txt_block {ps : List Str} : ("block" : Str) ++ Txt.join "" (ps.map fun p => (" " : Str) ++ p) = Txt.join " " ("block" :: ps) := by
  refine TL.ext_tl ?_
  rw [TL.tl_append, tl_join0, TL.join_eq, TL.tl_join, List.map_cons, joinL_cons, lit1, List.map_map, List.map_map]
  congr 2
  refine List.map_congr_left fun p _ => ?_
  show TL.tl ((" " : Str) ++ p) = _
  rw [TL.tl_append, lit1]; rfl
end
-- mac2
section
variable {Q : D → NH → Prop} {E : XP} {N : NH} {n k b : Nat} {σ : NEnv} {L R R2 : List HP} {d x y z : D} {e : En} {A : NA}
/-! scripts: the law draws an act -/
theorem lits : (" puts " : Str).length = 6 ∧ (" asks" : Str).length = 5 ∧ (" lies " : Str).length = 6 ∧ (" forges " : Str).length = 8 ∧ (" cuts" : Str).length = 5 ∧ (" papers" : Str).length = 7 ∧ (" gathers" : Str).length = 8 ∧ ("block" : Str).length = 5 ∧ ("back " : Str).length = 5 ∧ (" " : Str).length = 1 := by decide +kernel
local macro_rules | `(tactic| walk_at "go9") => `(tactic| repeat' (first | (walk_at "st") | ((with_reducible apply strB); assumption) | ((with_reducible apply wp_addS); (exact le_size (by simp only [len_add, lits.1, lits.2.1, lits.2.2.1, lits.2.2.2.1, lits.2.2.2.2.1, lits.2.2.2.2.2.1, lits.2.2.2.2.2.2.1, lits.2.2.2.2.2.2.2.1, lits.2.2.2.2.2.2.2.2.1, lits.2.2.2.2.2.2.2.2.2]; omega))) | fail))
theorem act_t4 {nm : Str} {a1 a2 a3 : Int} {ns : List Int} (hn : nameB nm = true) (h1 : Big a1) (h2 : Big a2) (h3 : Big a3) (hns : ∀ i ∈ ns, Big i) (hl : ns.length ≤ 4) {s6 s7 s8 : Option D} (H : At N L) (hp : Pick L (dr 160 b) R)
    (hQ : ∀ (a : D) (ws : List Str) N', ActT a ws → At N' (dr 160 b :: R) → e.rt (.tup [a, .str (Txt.join " " ws)]) N') :
    wpS (t4__law_act [some (.ref b), some (.str nm), some (.int a1), some (.int a2), some (.int a3), some (.tup (ns.map .int)), s6, s7, s8] N) e := by
  have l0 := (wok_name hn).len
  have l1 := (wok_num h1).len
  have l2 := (wok_num h2).len
  have l3 := (wok_num h3).len
  unfold t4__law_act
  generalize hX : t3__law_act = X
  walk_at "go9"
  refine sl_lcP (fun _ => true) (fun d => match d with | .int i => .str ((" " : Str) ++ numS i) | d => d) ?_
  walk_at "gos"
  refine ⟨⟨ns.map .int, fun _ => true⟩, L, rfl, fun _ _ => rfl, lt_size (show (ns.map D.int).length ≤ 1000000 by rw [List.length_map]; omega), H, fun y N1 _ H1 => ?_, fun y N1 hy _ H1 => ?_, fun k2 N2 H2 => ?_⟩
  · exact wp_yesL ⟨H1, rfl⟩
  · simp only [wipeN, List.map, List.set_cons_zero, List.set_cons_succ, List.foldl]
    obtain ⟨i, hi, rfl⟩ := List.mem_map.mp hy
    have hbi := hns i hi
    have l5 := (wok_num hbi).len
    unfold e2__law_act
    walk_at "go9"
    exact ⟨H1, rfl⟩
  rw [List.filter_eq_self.mpr fun _ _ => rfl] at H2
  have e1 : ((⟨ns.map D.int, fun _ => true⟩ : NIt).items).map (fun d => match d with | .int i => D.str ((" " : Str) ++ numS i) | d => d) = ((ns.map numS).map fun p => (" " : Str) ++ p).map .str := by
    show (ns.map D.int).map _ = _
    rw [List.map_map, List.map_map, List.map_map]; rfl
  rw [e1] at H2
  have hsum := sum_le (l := (ns.map numS).map fun p => (" " : Str) ++ p) (m := 17) fun t ht => by
    obtain ⟨p, hp', rfl⟩ := List.mem_map.mp ht
    obtain ⟨i, hi, rfl⟩ := List.mem_map.mp hp'
    have l5 := (wok_num (hns i hi)).len
    rw [len_add, lits.2.2.2.2.2.2.2.2.2]; omega
  rw [List.length_map, List.length_map] at hsum
  have hj := join_len "" ((ns.map numS).map fun p => (" " : Str) ++ p)
  rw [List.length_map, List.length_map, show ("" : Str).length = 0 by decide +kernel] at hj
  walk_at "go9"
  refine wp_join (H2.get .head) (by rw [List.length_map, List.length_map, show ("" : Str).length = 0 by decide +kernel]; omega) ?_
  walk_at "go9"
  rename_i k3 N3 H3
  subst hX
  unfold t3__law_act
  walk_at "gos"
  refine take_ok (by decide) (by decide) (by decide) H3 (.tail (.tail hp)) fun w N4 c1 c2 H4 => ?_
  have fin : ∀ (a : D) (t : Str) (ws : List Str), ActT a ws → t = Txt.join " " ws → e.rt (.tup [a, .str t]) N4 := fun a t ws ha ht => by
    subst ht
    exact hQ a ws N4 ha (by walk_at "at")
  have hw : w = 0 ∨ w = 1 ∨ w = 2 ∨ w = 3 ∨ w = 4 ∨ w = 5 ∨ w = 6 ∨ w = 7 ∨ w = 8 := by omega
  have H5 := H4.get (.tail .head)
  rcases hw with rfl | rfl | rfl | rfl | rfl | rfl | rfl | rfl | rfl
  · refine wp_getL H5 rfl ?_
    exact fin _ _ _ (.put hn h1 h2) txt_put
  · refine wp_getL H5 rfl ?_
    exact fin _ _ _ (.ask hn) (txt_verb (by decide +kernel))
  · refine wp_getL H5 rfl ?_
    exact fin _ _ _ (.lie hn h1 h2 h3) txt_lie
  · refine wp_getL H5 rfl ?_
    exact fin _ _ _ (.forge hn h1 h2) txt_forge
  · refine wp_getL H5 rfl ?_
    exact fin _ _ _ (.cut hn) (txt_verb (by decide +kernel))
  · refine wp_getL H5 rfl ?_
    exact fin _ _ _ (.paper hn) (txt_verb (by decide +kernel))
  · refine wp_getL H5 rfl ?_
    exact fin _ _ _ (.gather hn) (txt_verb (by decide +kernel))
  · refine wp_getL H5 rfl ?_
    exact fin _ _ _ (.block hns hl) txt_block
  · refine wp_getL H5 rfl ?_
    exact fin _ _ _ (.back h1) txt_back
theorem law_act_ok (H : At N L) (hp : Pick L (dr 160 b) R) (hQ : ∀ (a : D) (ws : List Str) N', ActT a ws → At N' (dr 160 b :: R) → Q (.tup [a, .str (Txt.join " " ws)]) N') : wpR (m__law_act [.ref b] N) Q E := by
  refine wp_fun1 ?_
  simp only [List.replicate]
  unfold t8__law_act t7__law_act t6__law_act t5__law_act
  generalize hX : t4__law_act = X
  walk_at "gos"
  refine name_1_ok H hp fun nm N1 hn H1 => ?_
  walk_at "gos"
  refine number1_ok H1 .head fun a1 N2 h1 H2 => ?_
  walk_at "gos"
  refine number1_ok H2 .head fun a2 N3 h2 H3 => ?_
  walk_at "gos"
  refine number1_ok H3 .head fun a3 N4 h3 H4 => ?_
  walk_at "gos"
  refine sl_lcR (fun _ d => ∃ i : Int, d = .int i ∧ Big i) ?_
  walk_at "gos"
  refine take_ok (by decide) (by decide) (by decide) H4 .head fun w N5 c1 c2 H5 => ?_
  walk_at "gos"
  refine ⟨_, _, rfl, by omega, by omega, H5, fun j N6 hj H6 => ?_, fun l k2 N6 hl hle H6 => ?_⟩
  · simp only [wipeN, List.map, List.set_cons_zero, List.set_cons_succ, List.foldl]
    unfold e1__law_act
    walk_at "gos"
    exact number1_ok H6 .head fun i N7 hi H7 => ⟨⟨i, rfl, hi⟩, H7⟩
  · obtain ⟨ns, rfl, hns⟩ : ∃ ns : List Int, l = ns.map D.int ∧ ∀ i ∈ ns, Big i := by
      clear hl H6
      induction l with
      | nil => exact ⟨[], rfl, fun x h => by cases h⟩
      | cons a r ih =>
        obtain ⟨i, q1, q2⟩ := hle 0 a rfl
        obtain ⟨ns, q3, q4⟩ := ih fun i x h => hle (i + 1) x h
        refine ⟨i :: ns, by rw [q1, q3]; rfl, fun x hx => ?_⟩
        rcases List.mem_cons.mp hx with rfl | hx
        · exact q2
        · exact q4 x hx
    rw [List.length_map] at hl
    walk_at "gos"
    subst hX
    exact act_t4 hn h1 h2 h3 hns (by omega) (R := pt k2 (.lst (ns.map D.int)) :: R) H6 (.tail .head) fun a ws N7 ha H7 => hQ a ws N7 ha (by walk_at "at")
end
-- mac2
section
variable {Q : D → NH → Prop} {E : XP} {N : NH} {n k b : Nat} {σ : NEnv} {L R R2 : List HP} {d x y z : D} {e : En} {A : NA}
/-! scripts: texts that are no acts -/
def wsOf (l : Str) : List Str := (TL.spl [32] 0 [] (TL.tl l)).map ofL
def noB (l : Str) : Bool := (decide (l.length ≤ 1000) && decide (10 ∉ TL.tl l)) && (!(wsOf l).isEmpty && ((wsOf l).all (fun w => decide (w.length ≤ 1000)) && (decide ((wsOf l).length ≤ 1000) && (actW (wsOf l)).isNone)))
theorem no_of {l : Str} (h : noB l = true) : NoAct l ∧ 10 ∉ TL.tl l ∧ l.length ≤ 1000 := by
  obtain ⟨h0, h⟩ := Bool.and_eq_true_iff.mp h
  obtain ⟨h1, h2⟩ := Bool.and_eq_true_iff.mp h0
  obtain ⟨h3, h⟩ := Bool.and_eq_true_iff.mp h
  obtain ⟨h4, h⟩ := Bool.and_eq_true_iff.mp h
  obtain ⟨h5, h6⟩ := Bool.and_eq_true_iff.mp h
  have h1 := of_decide_eq_true h1
  refine ⟨⟨wsOf l, ⟨split_ofL sp_tl.1 sp_tl.2, (fun q => by rw [q] at h3; cases h3), fun w hw => of_decide_eq_true (List.all_eq_true.mp h4 w hw), of_decide_eq_true h5, by omega⟩, Option.isNone_iff_eq_none.mp h6⟩, of_decide_eq_true h2, h1⟩
def bad5 : List Str := ["ann puts 3", "ann lies 1 2", "ann forges 1", "back", "ann cuts 1", "ann asks 0"]
def bad6 : List Str := ["ann sells", "ann put 1 2", "block x", "back -1", "blocks 1", "ann puts 1 +2"]
def bad7 : List Str := ["Ann asks", "1ann asks", "abcdefghijklm asks", "a_b asks", " asks", "ann  asks"]
theorem bads_no : (∀ s ∈ bad5, noB s = true) ∧ (∀ s ∈ bad6, noB s = true) ∧ (∀ s ∈ bad7, noB s = true) ∧ noB "ann puts 281474976710657 3" = true ∧ noB "" = true := by decide +kernel
theorem bad3 {w : Int} (h : 0 ≤ w ∧ w < 9) : noB ("ann puts 0" ++ numS w ++ " 3") = true := by
  have : w = 0 ∨ w = 1 ∨ w = 2 ∨ w = 3 ∨ w = 4 ∨ w = 5 ∨ w = 6 ∨ w = 7 ∨ w = 8 := by omega
  rcases this with rfl | rfl | rfl | rfl | rfl | rfl | rfl | rfl | rfl <;> decide +kernel
theorem numM_empty : numM "" = none := by decide +kernel
theorem play_empty {nm : Str} {ns : List Int} : playF nm "" ns = none := by
  unfold playF
  rw [if_neg (fun q => absurd q.1 (by decide +kernel)), if_neg (fun q => absurd q.1 (by decide +kernel)), if_neg (fun q => absurd q.1 (by decide +kernel)), if_neg (fun q => absurd q.1 (by decide +kernel)), if_neg (fun q => absurd q.1 (by decide +kernel))]
theorem actW_front (ws : List Str) : actW ("" :: ws) = none := by
  unfold actW
  dsimp only
  rw [if_neg (by decide +kernel), if_neg (by decide +kernel)]
  dsimp only
  rw [if_pos (.inr (by decide +kernel))]
theorem actW_second (w0 : Str) (rest : List Str) : actW (w0 :: "" :: rest) = none := by
  have h1 : (if w0 = "block" then nums ("" :: rest) else none) = none := by
    rw [nums_none List.mem_cons_self numM_empty]; split <;> rfl
  have h2 : (if w0 = "back" then backF ("" :: rest) else none) = none := by
    have : backF ("" :: rest) = none := by
      unfold backF
      split
      · exact numM_empty
      · rfl
    rw [this]; split <;> rfl
  unfold actW
  dsimp only
  rw [h1, h2]
  dsimp only
  split
  · rfl
  · split
    · rfl
    · exact play_empty
theorem actW_last (w0 : Str) (r : List Str) : actW (w0 :: (r ++ [("" : Str)])) = none := by
  cases r with
  | nil => exact actW_second w0 []
  | cons v r =>
    have hm : ("" : Str) ∈ v :: (r ++ [("" : Str)]) := List.mem_cons_of_mem _ (List.mem_append_right _ List.mem_cons_self)
    have h1 : (if w0 = "block" then nums (v :: (r ++ [("" : Str)])) else none) = none := by
      rw [nums_none hm numM_empty]; split <;> rfl
    have h2 : (if w0 = "back" then backF (v :: (r ++ [("" : Str)])) else none) = none := by
      have : backF (v :: (r ++ [("" : Str)])) = none := by
        unfold backF
        rw [if_neg (by simp)]
      rw [this]; split <;> rfl
    have h3 : nums ((v :: (r ++ [("" : Str)])).drop 1) = none := nums_none (w := "") (List.mem_append_right _ List.mem_cons_self) numM_empty
    rw [List.cons_append]
    unfold actW
    dsimp only
    rw [h1, h2]
    dsimp only
    split
    · rfl
    · rw [h3]
end
-- mac2
section
variable {Q : D → NH → Prop} {E : XP} {N : NH} {n k b : Nat} {σ : NEnv} {L R R2 : List HP} {d x y z : D} {e : En} {A : NA}
/-! scripts: a blank more -/
theorem wok_empty : Wok "" := by decide +kernel
theorem txt_front {ws : List Str} (hne : ws ≠ []) : (" " : Str) ++ Txt.join " " ws = Txt.join " " (("" : Str) :: ws) := by
  cases ws with
  | nil => exact absurd rfl hne
  | cons p r =>
    refine TL.ext_tl ?_
    rw [TL.tl_append, TL.join_eq, TL.join_eq, TL.tl_join, TL.tl_join, List.map_cons, List.map_cons, List.map_cons, joinL_cons, joinL_cons, lit1, show TL.tl ("" : Str) = [] by decide +kernel]
    simp
theorem txt_last {ws : List Str} (hne : ws ≠ []) : Txt.join " " ws ++ (" " : Str) = Txt.join " " (ws ++ [("" : Str)]) := by
  cases ws with
  | nil => exact absurd rfl hne
  | cons p r =>
    refine TL.ext_tl ?_
    rw [TL.tl_append, TL.join_eq, TL.join_eq, TL.tl_join, TL.tl_join, List.cons_append, List.map_cons, List.map_cons, List.map_append, joinL_cons, joinL_cons, lit1, List.map_cons, show TL.tl ("" : Str) = [] by decide +kernel]
    simp
theorem no_front {ws : List Str} (hne : ws ≠ []) (hl : ws.length ≤ 5) (h : ∀ w ∈ ws, Wok w) : NoAct ((" " : Str) ++ Txt.join " " ws) ∧ 10 ∉ TL.tl ((" " : Str) ++ Txt.join " " ws) ∧ ((" " : Str) ++ Txt.join " " ws).length ≤ 1000 := by
  rw [txt_front hne]
  obtain ⟨h1, h2, h3⟩ := wd_join (ws := ("" : Str) :: ws) (by simp) (by rw [List.length_cons]; omega) fun w hw => (List.mem_cons.mp hw).elim (fun q => q ▸ wok_empty) (h w)
  exact ⟨⟨_, h1, actW_front ws⟩, h2, by omega⟩
theorem no_last {ws : List Str} (hne : ws ≠ []) (hl : ws.length ≤ 5) (h : ∀ w ∈ ws, Wok w) : NoAct (Txt.join " " ws ++ (" " : Str)) ∧ 10 ∉ TL.tl (Txt.join " " ws ++ (" " : Str)) ∧ (Txt.join " " ws ++ (" " : Str)).length ≤ 1000 := by
  rw [txt_last hne]
  obtain ⟨h1, h2, h3⟩ := wd_join (ws := ws ++ [("" : Str)]) (by simp) (by rw [List.length_append, List.length_singleton]; omega) fun w hw => (List.mem_append.mp hw).elim (h w) fun q => (List.mem_singleton.mp q) ▸ wok_empty
  refine ⟨⟨_, h1, ?_⟩, h2, by omega⟩
  cases ws with
  | nil => exact absurd rfl hne
  | cons p r => exact actW_last p r
end
-- mac2
section
variable {Q : D → NH → Prop} {E : XP} {N : NH} {n k b : Nat} {σ : NEnv} {L R R2 : List HP} {d x y z : D} {e : En} {A : NA}
/-! scripts: the first blank doubled -/
theorem replace1_at {a b y z : Str} {s : Nat} {S : List Nat} (ey : TL.tl y = s :: S) (h : s ∉ TL.tl a) : Txt.replace1 (a ++ y ++ b) y z = a ++ z ++ b := by
  have hp := TL.partition_app (S := S) ey (b := b) h
  have hl := StrLaws.occ_length_le (a ++ y ++ b) y 0 (a ++ y ++ b).length 1
  have hy : (y.length == 0) = false := by
    rw [TL.len_tl, ey]; rfl
  unfold Txt.partition at hp
  unfold Txt.replace1
  cases hi : Builtin.Str.occurrences (a ++ y ++ b) y 0 (a ++ y ++ b).length 1 with
  | nil =>
    rw [hi] at hp
    have : Str.empty = y := (Prod.mk.inj (Prod.mk.inj hp).2).1
    rw [← this] at ey
    cases ey
  | cons i r =>
    rw [hi] at hp hl
    cases r with
    | cons j r => simp at hl
    | nil =>
      have e1 : Builtin.Str.strSub (a ++ y ++ b) 0 i = a := (Prod.mk.inj hp).1
      have e2 : Builtin.Str.strSub (a ++ y ++ b) (i + y.length) (a ++ y ++ b).length = b := (Prod.mk.inj (Prod.mk.inj hp).2).2
      rw [hy]
      show Builtin.Str.glued z [Builtin.Str.strSub (a ++ y ++ b) 0 i, Builtin.Str.strSub (a ++ y ++ b) (i + y.length) (a ++ y ++ b).length] = _
      rw [e1, e2]
      rfl
theorem txt_two (w0 v : Str) (r : List Str) : Txt.join " " (w0 :: v :: r) = w0 ++ (" " : Str) ++ Txt.join " " (v :: r) := by
  refine TL.ext_tl ?_
  rw [TL.join_eq, TL.tl_join, TL.tl_append, TL.tl_append, TL.join_eq, TL.tl_join, List.append_assoc]
  rfl
theorem no_double {w0 v : Str} {r : List Str} (hl : r.length ≤ 5) (h : ∀ w ∈ w0 :: v :: r, Wok w) : NoAct (Txt.replace1 (Txt.join " " (w0 :: v :: r)) " " "  ") ∧ 10 ∉ TL.tl (Txt.replace1 (Txt.join " " (w0 :: v :: r)) " " "  ") ∧ (Txt.replace1 (Txt.join " " (w0 :: v :: r)) " " "  ").length ≤ 1000 := by
  have e : Txt.replace1 (Txt.join " " (w0 :: v :: r)) " " "  " = Txt.join " " (w0 :: ("" : Str) :: v :: r) := by
    rw [txt_two, replace1_at lit1 (h w0 List.mem_cons_self).sp, txt_two w0 "" (v :: r), ← txt_front (ws := v :: r) (by simp)]
    refine TL.ext_tl ?_
    rw [TL.tl_append, TL.tl_append, TL.tl_append, TL.tl_append, TL.tl_append, lit1, show TL.tl ("  " : Str) = [32, 32] by decide +kernel]
    simp
  rw [e]
  obtain ⟨h1, h2, h3⟩ := wd_join (ws := w0 :: ("" : Str) :: v :: r) (by simp) (by simp; omega) fun w hw => by
    rcases List.mem_cons.mp hw with rfl | hw
    · exact h _ List.mem_cons_self
    · rcases List.mem_cons.mp hw with rfl | hw
      · exact wok_empty
      · exact h _ (List.mem_cons_of_mem _ hw)
  exact ⟨⟨_, h1, actW_second w0 _⟩, h2, by omega⟩
end
-- mac2
section
variable {Q : D → NH → Prop} {E : XP} {N : NH} {n k b : Nat} {σ : NEnv} {L R R2 : List HP} {d x y z : D} {e : En} {A : NA}
/-! scripts: two blanks behind one word -/
theorem no_two {w0 : Str} (h : Wok w0) : NoAct (Txt.join " " [w0] ++ ("  " : Str)) ∧ 10 ∉ TL.tl (Txt.join " " [w0] ++ ("  " : Str)) ∧ (Txt.join " " [w0] ++ ("  " : Str)).length ≤ 1000 := by
  have e : Txt.join " " [w0] ++ ("  " : Str) = Txt.join " " [w0, ("" : Str), ("" : Str)] := by
    refine TL.ext_tl ?_
    rw [TL.tl_append, TL.join_eq, TL.join_eq, TL.tl_join, TL.tl_join, lit1, show TL.tl ("  " : Str) = [32, 32] by decide +kernel]
    simp [TL.joinL, show TL.tl ("" : Str) = [] by decide +kernel]
  rw [e]
  obtain ⟨h1, h2, h3⟩ := wd_join (ws := [w0, ("" : Str), ("" : Str)]) (by simp) (by simp) fun w hw => by
    rcases List.mem_cons.mp hw with rfl | hw
    · exact h
    · rcases List.mem_cons.mp hw with rfl | hw
      · exact wok_empty
      · exact (List.mem_singleton.mp hw) ▸ wok_empty
  exact ⟨⟨_, h1, actW_second w0 _⟩, h2, by omega⟩
end
-- mac2
section
variable {Q : D → NH → Prop} {E : XP} {N : NH} {n k b : Nat} {σ : NEnv} {L R R2 : List HP} {d x y z : D} {e : En} {A : NA}
/-! scripts: the law spoils a line -/
theorem wp_repl1 {m : NE} {y z : Str} (h : wpR (m σ N) (fun d N => ∃ x, d = .str x ∧ x.length + (x.length + 1) * z.length ≤ 16777216 ∧ Q (.str (Txt.replace1 x y z)) N) E) : wpR (NY.nRepl1 y z m σ N) Q E := by
  unfold NY.nRepl1
  with_unfolding_all
    refine wp_bind (h.mono (fun d N h => ?_) fun _ _ h => h)
  obtain ⟨x, e1, hb, q⟩ := h
  subst e1
  dsimp only
  rw [if_pos hb]
  with_unfolding_all exact q
abbrev Sp (t : Str) : Prop := NoAct t ∧ 10 ∉ TL.tl t ∧ t.length ≤ 1000
theorem bad_sp {s : Str} (h : noB s = true) : Sp s := no_of h
theorem get_bad {l : List Str} {w : Int} (hl : l.length = 6) (h0 : 0 ≤ w) (h6 : w < 6) (h : ∀ s ∈ l, noB s = true) : ∃ s : Str, Sp s ∧ atD (l.map D.str) w = some (.str s) := by
  have hw : w.toNat < l.length := by omega
  refine ⟨l[w.toNat], bad_sp (h _ (List.getElem_mem hw)), ?_⟩
  exact NY.atD_map h0 (List.getElem?_eq_getElem hw)
theorem wrong_1_ok {a : D} {ws : List Str} (ha : ActT a ws) (H : At N L) (hp : Pick L (dr 160 b) R) (hQ : ∀ (t : Str) N', Sp t → At N' (dr 160 b :: R) → Q (.str t) N') : wpR (m__law_wrong_1 [.ref b, .str (Txt.join " " ws)] N) Q E := by
  obtain ⟨k1, k2, k3⟩ := act_wok ha
  obtain ⟨hw, hnl, hlen⟩ := wd_join k3 (by omega) k1
  refine wp_fun2 ?_
  simp only [List.replicate]
  unfold t15__law_wrong_1 t14__law_wrong_1 t13__law_wrong_1 t12__law_wrong_1 t11__law_wrong_1 t10__law_wrong_1 t9__law_wrong_1 t8__law_wrong_1 t7__law_wrong_1 t6__law_wrong_1
  generalize hI1 : i1__law_wrong_1 = I1
  generalize hI2 : i2__law_wrong_1 = I2
  generalize hI3 : i3__law_wrong_1 = I3
  generalize hI4 : i4__law_wrong_1 = I4
  generalize hI5 : i5__law_wrong_1 = I5
  walk_at "gos"
  refine take_ok (by decide) (by decide) (by decide) H hp fun w N1 a1 a2 H1 => ?_
  walk_at "gos"
  refine NY.sl_split (s := Txt.join " " ws) (t := " ") ⟨by decide +kernel, le_size (by omega)⟩ hw.spl H1 fun n N2 H2 => ?_
  have hc : w = 0 ∨ w = 1 ∨ w = 2 ∨ w = 3 ∨ w = 4 ∨ w = 5 ∨ w = 6 ∨ w = 7 ∨ w = 8 := by omega
  rcases hc with rfl | rfl | rfl | rfl | rfl | rfl | rfl | rfl | rfl
  · walk_at "goi"
    refine wp_addS (le_size (by rw [lits.2.2.2.2.2.2.2.2.2]; omega)) ?_
    exact hQ _ N2 (no_last k3 k2 k1) H2.drop
  · walk_at "goi"
    refine wp_addS (le_size (by rw [lits.2.2.2.2.2.2.2.2.2]; omega)) ?_
    exact hQ _ N2 (no_front k3 k2 k1) H2.drop
  · walk_at "goi"
    subst hI1
    unfold i1__law_wrong_1
    walk_at "gos"
    refine wp_if ?_
    walk_at "gos"
    cases ws with
    | nil => exact absurd rfl k3
    | cons w0 r =>
      cases r with
      | nil =>
        refine ifF (by simp) ?_
        walk_at "gos"
        refine wp_addS (le_size (by rw [ show ("  " : Str).length = 2 by decide +kernel]; omega)) ?_
        exact hQ _ N2 (no_two (k1 _ List.mem_cons_self)) H2.drop
      | cons v r =>
        refine ifT (decide_eq_true (by simp only [List.length_map, List.length_cons]; omega)) ?_
        refine wp_repl1 ?_
        walk_at "gos"
        refine ⟨by rw [show ("  " : Str).length = 2 by decide +kernel]; omega, ?_⟩
        exact hQ _ N2 (no_double (by simp only [List.length_cons] at k2; omega) k1) H2.drop
  · walk_at "goi"
    subst hI2
    unfold i2__law_wrong_1
    walk_at "gos"
    refine take_ok (by decide) (by decide) (by decide) H2 (.tail .head) fun w3 N3 c1 c2 H3 => ?_
    walk_at "gos"
    have hb : Big w3 := ⟨c1, by omega⟩
    have l0 := (wok_num hb).len
    refine strB hb ?_
    walk_at "gos"
    refine wp_addS (le_size (by rw [show ("ann puts 0" : Str).length = 10 by decide +kernel]; omega)) ?_
    walk_at "gos"
    refine wp_addS (le_size (by rw [len_add, show ("ann puts 0" : Str).length = 10 by decide +kernel, show (" 3" : Str).length = 2 by decide +kernel]; omega)) ?_
    walk_at "gos"
    exact hQ _ N3 (bad_sp (bad3 ⟨c1, c2⟩)) (by walk_at "at")
  · walk_at "goi"
    exact hQ _ N2 (bad_sp bads_no.2.2.2.1) H2.drop
  · walk_at "goi"
    subst hI3
    unfold i3__law_wrong_1
    walk_at "gos"
    rename_i k4 N3 H3
    refine take_ok (by decide) (by decide) (by decide) H3 (.tail (.tail .head)) fun w3 N4 c1 c2 H4 => ?_
    obtain ⟨s, hs, hat⟩ := get_bad (l := bad5) rfl c1 c2 bads_no.1
    walk_at "gos"
    refine wp_getL (d := .str s) (H4.get (.tail .head)) hat ?_
    exact hQ s N4 hs (by walk_at "at")
  · walk_at "goi"
    subst hI4
    unfold i4__law_wrong_1
    walk_at "gos"
    rename_i k4 N3 H3
    refine take_ok (by decide) (by decide) (by decide) H3 (.tail (.tail .head)) fun w3 N4 c1 c2 H4 => ?_
    obtain ⟨s, hs, hat⟩ := get_bad (l := bad6) rfl c1 c2 bads_no.2.1
    walk_at "gos"
    refine wp_getL (d := .str s) (H4.get (.tail .head)) hat ?_
    exact hQ s N4 hs (by walk_at "at")
  · walk_at "goi"
    subst hI5
    unfold i5__law_wrong_1
    walk_at "gos"
    rename_i k4 N3 H3
    refine take_ok (by decide) (by decide) (by decide) H3 (.tail (.tail .head)) fun w3 N4 c1 c2 H4 => ?_
    obtain ⟨s, hs, hat⟩ := get_bad (l := bad7) rfl c1 c2 bads_no.2.2.1
    walk_at "gos"
    refine wp_getL (d := .str s) (H4.get (.tail .head)) hat ?_
    exact hQ s N4 hs (by walk_at "at")
  · walk_at "goi"
    exact hQ _ N2 (bad_sp bads_no.2.2.2.2) H2.drop
end
end OW

set_option Elab.async false
set_option linter.all false
set_option maxRecDepth 100000
set_option maxHeartbeats 4000000
namespace K80
open OW NY PySem PySem.Spec PyProof.Rows L2
abbrev e1_law : NE := (nCall OW.m__law_act (nCons (nV 1) nNil))
abbrev e2_law : NE := (nOp2 fGet (nV 10) (nC (.int 0)))
abbrev e3_law : NE := (nOp2 fGet (nV 10) (nC (.int 1)))
abbrev e4_law : NE := (nOp2 fGet (nV 10) (nC (.int 1)))
abbrev b5_law : NS := (sExpr (nCall OW.m_read_script (nCons (nBM "str" fJoin (nC (.str "\n")) (nCons (nV 6) nNil)) nNil)))
abbrev t6_law : NS := (sRet (nC (.bl false)))
abbrev t7_law : NS := (sSeq (sTryL b5_law 15 42 (gEq 8 5 true))
    t6_law)
abbrev t8_law : NS := (sSeq (sIf (nAndT (nBool (nOp2 fEq (nCall fLen (nCons (nV 6) nNil)) (nC (.int 1)))) (nBool (nOp2 fEq (nV 7) (nC (.str ""))))) (sRet (nC (.bl true))) sPass)
    t7_law)
abbrev t9_law : NS := (sSeq (sAsg (nOp2 fAdd (nOp2 fAdd (nCut (nV 6) nNoPart (nPart (nV 5))) (nLst (nCons (nV 7) nNil))) (nCut (nV 6) (nPart (nV 5)) nNoPart)) (pName 6))
    t8_law)
abbrev t10_law : NS := (sSeq (sAsg (nCall OW.m__law_wrong_1 (nCons (nV 1) (nCons (nOp2 fGet (nOp2 fAdd (nV 6) (nLst (nCons (nC (.str "bob asks")) nNil))) (nV 5)) nNil))) (pName 7))
    t9_law)
abbrev t11_law : NS := (sSeq (sAsg (nLc (iSeq (nV 2)) (pName 10) nYes e4_law [10]) (pName 6))
    t10_law)
abbrev t12_law : NS := (sSeq (sAsg (nCall OW.m__law_take (nCons (nV 1) (nCons (nOp2 fAdd (nCall fLen (nCons (nV 2) nNil)) (nC (.int 1))) nNil))) (pName 5))
    t11_law)
abbrev t13_law : NS := (sSeq (sIf (nOrT (nBool (nOp2 fNe (nCall OW.m_print_script (nCons (nV 3) nNil)) (nV 4))) (nOrT (nBool (nOp2 fNe (nCall OW.m_read_script (nCons (nV 4) nNil)) (nV 3))) (nBool (nOp2 fNe (nCall OW.m_read_script (nCons (nC (.str "")) nNil)) (nTup nNil))))) (sRet (nC (.bl false))) sPass)
    t12_law)
abbrev t14_law : NS := (sSeq (sAsg (nBM "str" fJoin (nC (.str "\n")) (nCons (nLc (iSeq (nV 2)) (pName 10) nYes e3_law [10]) nNil)) (pName 4))
    t13_law)
abbrev t15_law : NS := (sSeq (sAsg (nCall fTuple (nCons (nLc (iSeq (nV 2)) (pName 10) nYes e2_law [10]) nNil)) (pName 3))
    t14_law)
abbrev t16_law : NS := (sSeq (sAsg (nLc (iRng (nCons (nCall OW.m__law_take (nCons (nV 1) (nCons (nC (.int 13)) nNil))) nNil)) (pName 9) nYes e1_law [9]) (pName 2))
    t15_law)
def m_law : NF := nFun 11 (sSeq (sAsg (nCall OW.m__law_draws (nCons (nV 0) (nCons (nC (.int 160)) nNil))) (pName 1))
    t16_law)
end K80

set_option Elab.async false
set_option linter.all false
set_option maxRecDepth 100000
set_option maxHeartbeats 4000000
namespace K80
open OW NY PySem PySem.Spec PyProof.Rows L2
local macro_rules | `(tactic| walk_at "pick") => `(tactic| first | with_reducible exact Pick.head | ((with_reducible apply Pick.tail); walk_at "pick") | fail)
local macro_rules | `(tactic| walk_at "sub") => `(tactic| first | with_reducible exact Sub.refl | ((with_reducible apply Sub.drop); walk_at "sub") | fail)
local macro_rules | `(tactic| walk_at "cov") => `(tactic| first | with_reducible exact Covers.nil | ((with_reducible apply Covers.cons); (walk_at "pick"); walk_at "cov") | ((with_reducible apply Covers.sub); walk_at "sub") | fail)
local macro_rules | `(tactic| walk_at "at") => `(tactic| first | assumption | ((with_reducible apply At.cover); assumption; walk_at "cov") | fail)
local macro_rules | `(tactic| walk_at "hp") => `(tactic| first | assumption | ((with_reducible apply At.get); assumption; walk_at "pick") | fail)
local macro_rules | `(tactic| walk_at "sS1") => `(tactic| first | with_reducible refine wp_seq ?_ | with_reducible refine wp_asg _ ?_ | with_reducible refine wp_ret ?_ | with_reducible refine wp_pass ?_ | with_reducible refine wp_expr ?_ | fail)
local macro_rules | `(tactic| walk_at "sN1") => `(tactic| first | ((with_reducible apply wp_V); rfl) | with_reducible refine wp_C ?_ | with_reducible refine wp_cons ?_ | with_reducible refine wp_op2 ?_ | with_reducible refine wp_nil ?_ | with_reducible refine wp_call ?_ | fail)
local macro_rules | `(tactic| walk_at "sS2") => `(tactic| first | with_reducible refine wp_asgT ?_ | with_reducible refine sl_fldput ?_ | with_reducible refine sl_put ?_ | fail)
local macro_rules | `(tactic| walk_at "sN2") => `(tactic| first | with_reducible refine wp_bool ?_ | with_reducible refine wp_tru ?_ | with_reducible refine wp_tup ?_ | with_reducible refine wp_op1 ?_ | with_reducible refine wp_andT ?_ | with_reducible refine wp_orT ?_ | with_reducible refine wp_notT ?_ | with_reducible refine wp_and ?_ | with_reducible refine wp_or ?_ | with_reducible refine wp_not ?_ | with_reducible refine wp_chLL ?_ | with_reducible refine wp_chLl ?_ | with_reducible refine sl_lst ?_ | with_reducible refine wp_bmL ?_ | with_reducible refine wp_bmS ?_ | with_reducible refine wp_psNil ?_ | with_reducible refine wp_psCons ?_ | with_reducible refine sl_disp ?_ | with_reducible refine wp_noPart ?_ | with_reducible refine wp_part ?_ | with_reducible refine wp_cut ?_ | with_reducible refine wp_isi ?_ | with_reducible refine wp_fld ?_ | with_reducible refine wp_meth ?_ | with_reducible refine wp_methW ?_ | with_reducible refine sl_make ?_ | ((with_reducible apply sl_dK); assumption; intro _ _ _) | ((with_reducible apply sl_dT); assumption; intro _ _ _) | fail)
local macro_rules | `(tactic| walk_at "sB1") => `(tactic| first | with_reducible refine wp_eqS ?_ | with_reducible refine wp_eqI ?_ | with_reducible refine wp_addI ?_ | with_reducible refine wp_getT0 ?_ | ((with_reducible apply wp_getT); rfl) | ((with_reducible apply wp_getL); (walk_at "hp"); rfl) | ((with_reducible apply wp_getTI); (first | assumption | omega); (first | assumption | omega)) | ((with_reducible apply wp_catT); exact le_size (by simp only [List.length_append, List.length_cons, List.length_nil, List.length_map]; omega)) | fail)
local macro_rules | `(tactic| walk_at "sB2") => `(tactic| first | with_reducible refine wp_subI ?_ | ((with_reducible apply wp_mulR); decide) | ((with_reducible apply wp_mulL); decide) | ((with_reducible apply wp_modI); (first | decide | assumption)) | ((with_reducible apply wp_divL); decide) | ((with_reducible apply wp_divI); (first | decide | assumption)) | with_reducible refine wp_ltI ?_ | with_reducible refine wp_leI ?_ | with_reducible refine wp_gtI ?_ | with_reducible refine wp_geI ?_ | with_reducible refine wp_neI ?_ | with_reducible refine wp_eqB ?_ | with_reducible refine wp_neB ?_ | with_reducible refine wp_neS ?_ | with_reducible refine wp_isB ?_ | with_reducible refine wp_isNotB ?_ | with_reducible refine wp_isN0 ?_ | with_reducible refine wp_isNotN0 ?_ | with_reducible refine wp_isNI ?_ | with_reducible refine wp_isNotNI ?_ | with_reducible refine wp_isNS ?_ | with_reducible refine wp_isNotNS ?_ | with_reducible refine wp_isNT ?_ | with_reducible refine wp_isNotNT ?_ | with_reducible refine wp_isNR ?_ | with_reducible refine wp_isNotNR ?_ | fail)
local macro_rules | `(tactic| walk_at "sF") => `(tactic| first | with_reducible refine wp_intI ?_ | with_reducible refine wp_abs ?_ | with_reducible refine wp_lenT ?_ | ((with_reducible apply wp_lenL); walk_at "hp") | ((with_reducible apply sl_list); rfl; assumption; intro _ _ _) | ((with_reducible apply sl_tuple); assumption; walk_at "pick") | fail)
local macro_rules | `(tactic| walk_at "sM") => `(tactic| first | with_reducible refine wp_negI ?_ | with_reducible refine wp_cutT ?_ | ((with_reducible apply sl_pop0); assumption; walk_at "pick"; intro _ _) | fail)
local macro_rules | `(tactic| walk_at "sO1") => `(tactic| first | with_reducible refine ex_bl ?_ | with_reducible refine ex_tru ?_ | with_reducible refine ex_kdT ?_ | with_reducible refine ex_kdC ?_ | with_reducible refine ex_kdI ?_ | with_reducible refine ex_kdB ?_ | with_reducible refine ex_kdS ?_ | with_reducible refine ex_kd0 ?_ | with_reducible refine ex_int ?_ | with_reducible refine ex_str ?_ | with_reducible refine ex_ch ?_ | fail)
local macro_rules | `(tactic| walk_at "sO2") => `(tactic| first | ((with_reducible apply ex_refL); walk_at "hp") | ((with_reducible apply ex_tup); exact rfl) | ((with_reducible apply put_L); assumption; walk_at "pick"; rfl; intro N9 H9; (try simp only [Int.reduceToNat, List.set_cons_zero, List.set_cons_succ] at H9)) | ((with_reducible apply and_size); (first | decide | (simp only [List.length_cons, List.length_nil]; decide))) | ((with_reducible apply ex_fld); (walk_at "hp"); (decide); rfl) | ((with_reducible apply ex_meth); (walk_at "hp"); rfl) | ((with_reducible apply OW.ex_nmeth); assumption; (walk_at "pick"); rfl) | ((with_reducible apply OW.ex_wmeth); assumption; (walk_at "pick"); rfl) | ((with_reducible apply OW.ex_rmethW); assumption; (walk_at "pick"); rfl; rfl) | ((with_reducible apply OW.ex_rmeth); assumption; (walk_at "pick"); rfl) | ((with_reducible apply ex_at); assumption; intro _ _ _) | ((with_reducible apply ex_fldput); assumption; (walk_at "pick"); (decide); (first | decide | exact Nat.le_of_ble_eq_true rfl); intro _ _) | ((with_reducible apply ex_kdL); walk_at "hp") | ((with_reducible apply ex_kdD); walk_at "hp") | fail)
local macro_rules | `(tactic| walk_at "st") => `(tactic| first | ((with_reducible show NY.wpS _ _); walk_at "sS1") | ((with_reducible show NY.wpR ((_ : NEnv → NH → _) _ _) _ _); walk_at "sN1") | dsimp only [List.set_cons_zero, List.set_cons_succ, setAll] | ((with_reducible show NY.wpS _ _); walk_at "sS2") | ((with_reducible show NY.wpR ((_ : NEnv → NH → _) _ _) _ _); walk_at "sN2") | ((with_reducible show NY.wpR ((_ : D → D → NH → _) _ _ _) _ _); (first | walk_at "sB1" | walk_at "sB2" | fail)) | ((with_reducible show NY.wpR ((_ : List D → NH → _) _ _) _ _); walk_at "sF") | ((with_reducible show NY.wpR _ _ _); walk_at "sM") | ((fail_if_success (with_reducible show NY.wpR _ _ _)); (first | walk_at "sO1" | walk_at "sO2" | fail)) | fail)
local macro_rules | `(tactic| walk_at "go") => `(tactic| repeat' (walk_at "st"))
local macro_rules | `(tactic| walk_at "gos") => `(tactic| repeat' (first | with_reducible refine wp_sif ?_ | (walk_at "st") | fail))
local macro_rules | `(tactic| walk_at "ifs") => `(tactic| first | with_reducible refine ifT (by decide +kernel) ?_ | with_reducible refine ifF (by decide +kernel) ?_ | with_reducible refine wp_sif ?_ | (walk_at "st") | with_reducible refine wp_if ?_ | with_reducible refine ifT (by simp only [List.length_cons, List.length_nil]; decide +kernel) ?_ | with_reducible refine ifF (by simp only [List.length_cons, List.length_nil]; decide +kernel) ?_ | fail)
local macro_rules | `(tactic| walk_at "goi") => `(tactic| repeat' (walk_at "ifs"))
local macro_rules | `(tactic| walk_at "box") => `(tactic| (apply OW.box_mk; assumption; walk_at "pick"; walk_at "pick"))
-- mac2
section
variable {Q : D → NH → Prop} {E : XP} {N : NH} {n k b : Nat} {σ : NEnv} {L R R2 : List HP} {d x y z d0 : D} {e : En} {A : NA}
theorem wp_tryL {b : NS} {c f : Nat} {g : D → NS} (h : wpS (b σ N) { e with ex := fun x σ N => ∃ v, x = ⟨c, [(f, v)]⟩ ∧ wpS (g v σ N) e }) : wpS (sTryL b c f g σ N) e := by
  unfold sTryL
  with_unfolding_all
    revert h
    cases b σ N with
    | nx σ1 N1 => exact fun h => h
    | rt d N1 => exact fun h => h
    | bk σ1 N1 => exact fun h => h
    | bad => exact fun h => h
    | exc x σ1 N1 =>
      intro h
      replace h : ∃ v, x = ⟨c, [(f, v)]⟩ ∧ wpS (g v σ1 N1) e := h
      obtain ⟨v, rfl, h⟩ := h
      show wpS (if c = c then (if f = f then g v σ1 N1 else .bad) else .bad) e
      rw [if_pos rfl, if_pos rfl]
      exact h
theorem wp_gEq {i j : Nat} {v t : Int} (hi : i < σ.length) (hij : i ≠ j) (hj : σ[j]? = some (some (.int t))) (h : e.rt (.bl (decide (v = t + 1))) N) : wpS (NY.gEq i j true (.int v) σ N) e := by
  unfold NY.gEq
  rw [hj]
  dsimp only
  rw [if_pos ⟨hi, hij⟩, Bool.and_true]
  with_unfolding_all exact h
theorem name_plain {nm : Str} (h : nameB nm = true) : NY.plain (.str nm) = true := by
  obtain ⟨h1, h2⟩ := Bool.and_eq_true_iff.mp h
  have ha := List.all_eq_true.mp (Bool.and_eq_true_iff.mp h2).2
  show nm.cps.all (· < 0x110000) = true
  rw [Array.all_eq_true']
  intro c hc
  have hx := ha c (by simpa using hc)
  have : c < 200 := by
    unfold smallB digB at hx
    rcases Bool.or_eq_true_iff.mp hx with q | q
    · have := of_decide_eq_true (Bool.and_eq_true_iff.mp q).2
      omega
    · have := of_decide_eq_true (Bool.and_eq_true_iff.mp q).2
      omega
  exact decide_eq_true (by omega)
theorem pl2 {x : D} {r : List D} (h1 : NY.plain x = true) (h2 : NY.plains r = true) : NY.plains (x :: r) = true := Bool.and_eq_true_iff.mpr ⟨h1, h2⟩
theorem lit_plain : NY.plain (.str "send") = true ∧ NY.plain (.str "put") = true ∧ NY.plain (.str "ask") = true ∧ NY.plain (.str "lie") = true ∧ NY.plain (.str "forge") = true ∧ NY.plain (.str "cut") = true ∧ NY.plain (.str "paper") = true ∧ NY.plain (.str "gather") = true ∧ NY.plain (.str "block") = true ∧ NY.plain (.str "back") = true := by decide +kernel
theorem act_plain {a : D} {ws : List Str} (h : ActT a ws) : NY.plain a = true ∧ NY.dep a ≤ 3 := by
  obtain ⟨q1, q2, q3, q4, q5, q6, q7, q8, q9, q10⟩ := lit_plain
  cases h with
  | put hn ha hb => exact ⟨pl2 q1 (pl2 (name_plain hn) (pl2 (pl2 q2 rfl) rfl)), by simp [NY.dep, NY.deps]⟩
  | ask hn => exact ⟨pl2 q1 (pl2 (name_plain hn) (pl2 (pl2 q3 rfl) rfl)), by simp [NY.dep, NY.deps]⟩
  | lie hn ha hb hc => exact ⟨pl2 q4 (pl2 (name_plain hn) rfl), by simp [NY.dep, NY.deps]⟩
  | forge hn ha hb => exact ⟨pl2 q5 (pl2 (name_plain hn) rfl), by simp [NY.dep, NY.deps]⟩
  | cut hn => exact ⟨pl2 q6 (pl2 (name_plain hn) rfl), by simp [NY.dep, NY.deps]⟩
  | paper hn => exact ⟨pl2 q7 (pl2 (name_plain hn) rfl), by simp [NY.dep, NY.deps]⟩
  | gather hn => exact ⟨pl2 q8 (pl2 (name_plain hn) rfl), by simp [NY.dep, NY.deps]⟩
  | @block ns hn hl =>
    obtain ⟨p1, p2⟩ := ints_plain ns
    refine ⟨pl2 q9 (pl2 p1 rfl), ?_⟩
    simp only [NY.dep, NY.deps, p2]
    decide
  | back ha => exact ⟨pl2 q10 rfl, by simp [NY.dep, NY.deps]⟩
abbrev lnT (p : D × List Str) : Str := Txt.join " " p.2
abbrev rwD (p : D × List Str) : D := .tup [p.1, .str (lnT p)]
def Acts (ps : List (D × List Str)) : Prop := ∀ p ∈ ps, ActT p.1 p.2
theorem acts_plain : ∀ {ps : List (D × List Str)}, Acts ps → NY.plains (ps.map (·.1)) = true ∧ NY.deps (ps.map (·.1)) ≤ 3
  | [], _ => ⟨rfl, Nat.zero_le _⟩
  | p :: r, h => by
    obtain ⟨h1, h2⟩ := act_plain (h p List.mem_cons_self)
    obtain ⟨h3, h4⟩ := acts_plain (ps := r) fun q hq => h q (List.mem_cons_of_mem _ hq)
    refine ⟨?_, ?_⟩
    · show (NY.plain p.1 && NY.plains (r.map (·.1))) = true
      rw [h1, h3]; rfl
    · show max (NY.dep p.1) (NY.deps (r.map (·.1))) ≤ 3
      omega
theorem acts_okD {ps : List (D × List Str)} (h : Acts ps) : okD (.tup (ps.map (·.1))) = true := by
  obtain ⟨h1, h2⟩ := acts_plain h
  show (NY.plains (ps.map (·.1)) && decide (NY.deps (ps.map (·.1)) + 1 ≤ 60)) = true
  rw [h1, decide_eq_true (by omega)]; rfl
theorem act_tup {a : D} {ws : List Str} (h : ActT a ws) : ∃ vs, a = .tup vs := by
  cases h <;> exact ⟨_, rfl⟩
theorem act_line {p : D × List Str} (h : ActT p.1 p.2) : ActL (lnT p) p.1 ∧ 10 ∉ TL.tl (lnT p) ∧ (lnT p).length ≤ 700 := by
  obtain ⟨k1, k2, k3⟩ := act_wok h
  obtain ⟨hw, hnl, hlen⟩ := wd_join k3 (by omega) k1
  obtain ⟨vs, hv⟩ := act_tup h
  exact ⟨⟨p.2, vs, hw, act_words h, hv⟩, hnl, hlen⟩
theorem join_empty {ls : List Str} (hne : ls ≠ []) (hnl : ∀ l ∈ ls, 10 ∉ TL.tl l) (h : Txt.join "\n" ls = ("" : Str)) : ls = [("" : Str)] := by
  have := TL.split_join nl_tl.1 nl_tl.2 hne hnl
  rw [h] at this
  rw [← this]
  decide +kernel
theorem no_both {l : Str} {v : D} (h1 : ActL l v) (h2 : NoAct l) : False := by
  obtain ⟨ws, vs, a1, a2, _⟩ := h1
  obtain ⟨ws2, b1, b2⟩ := h2
  have : ws = ws2 := a1.spl.symm.trans b1.spl
  subst this
  rw [a2] at b2
  cases b2
theorem txt_sz {ls : List Str} (hl : ls.length ≤ 30) (h : ∀ l ∈ ls, l.length ≤ 1000) : (ls.map (·.length)).sum ≤ 30000 ∧ (Txt.join "\n" ls).length ≤ 100000 := by
  have h1 := sum_le h
  have h2 := join_len "\n" ls
  rw [show ("\n" : Str).length = 1 by decide +kernel] at h2
  constructor <;> omega
theorem read_good {ps : List (D × List Str)} (h : Acts ps) (h12 : ps.length ≤ 20) (H : At N L) (hQ : ∀ N', At N' L → Q (.tup (ps.map (·.1))) N') : wpR (m_read_script [.str (Txt.join "\n" (ps.map lnT))] N) Q E := by
  by_cases hps : ps = []
  · subst hps
    show wpR (m_read_script [.str (Txt.join "\n" [])] N) Q E
    rw [show Txt.join "\n" [] = "" by decide +kernel]
    exact read_empty (hQ N H)
  have hne : ps.map lnT ≠ [] := fun q => hps (List.map_eq_nil_iff.mp q)
  have hnl : ∀ l ∈ ps.map lnT, 10 ∉ TL.tl l := fun l hl => by
    obtain ⟨p, hp, rfl⟩ := List.mem_map.mp hl
    exact (act_line (h p hp)).2.1
  have hsz := txt_sz (ls := ps.map lnT) (by rw [List.length_map]; omega) fun l hl => by
    obtain ⟨p, hp, rfl⟩ := List.mem_map.mp hl
    have := (act_line (h p hp)).2.2
    omega
  refine read_script_t (ls := ps.map lnT) (m := (ps.map lnT).length) (fun q => ?_) (TL.split_join nl_tl.1 nl_tl.2 hne hnl) hsz.2 (by rw [List.length_map]; omega) (by simp) (fun j l v h1 h2 => ?_) H (.inl ⟨rfl, hQ⟩)
  · have e1 := join_empty hne hnl q
    cases ps with
    | nil => exact hps rfl
    | cons p r =>
      have : lnT p = "" := (List.cons.inj e1).1
      have ha := (act_line (h p List.mem_cons_self)).1
      rw [this] at ha
      exact no_both ha (bad_sp bads_no.2.2.2.2).1
  · rw [List.getElem?_map] at h1 h2
    obtain ⟨p, hp, rfl⟩ := Option.map_eq_some_iff.mp h1
    rw [hp] at h2
    cases h2
    exact (act_line (h p (List.mem_of_getElem? hp))).1
theorem read_bad {ps : List (D × List Str)} {t : Str} {m : Nat} (h : Acts ps) (h12 : ps.length ≤ 20) (hm : m ≤ ps.length) (ht : Sp t) (hx : ¬ (ps = [] ∧ t = "")) (H : At N L) (hE : ∀ N', At N' L → E (bt (.int ((m : Int) + 1))) N') :
    wpR (m_read_script [.str (Txt.join "\n" ((ps.take m).map lnT ++ t :: (ps.drop m).map lnT))] N) Q E := by
  have hne : (ps.take m).map lnT ++ t :: (ps.drop m).map lnT ≠ [] := by simp
  have hall : ∀ l ∈ (ps.take m).map lnT ++ t :: (ps.drop m).map lnT, 10 ∉ TL.tl l ∧ l.length ≤ 1000 := fun l hl => by
    rcases List.mem_append.mp hl with q | q
    · obtain ⟨p, hp, rfl⟩ := List.mem_map.mp q
      have := act_line (h p (List.mem_of_mem_take hp))
      exact ⟨this.2.1, by omega⟩
    · rcases List.mem_cons.mp q with rfl | q
      · exact ht.2
      · obtain ⟨p, hp, rfl⟩ := List.mem_map.mp q
        have := act_line (h p (List.mem_of_mem_drop hp))
        exact ⟨this.2.1, by omega⟩
  have hlen : ((ps.take m).map lnT ++ t :: (ps.drop m).map lnT).length = ps.length + 1 := by simp; omega
  have hsz := txt_sz (ls := (ps.take m).map lnT ++ t :: (ps.drop m).map lnT) (by omega) fun l hl => (hall l hl).2
  have htl : ((ps.take m).map lnT).length = m := by rw [List.length_map, List.length_take]; omega
  refine read_script_t (vs := (ps.take m).map (·.1)) (m := m) (fun q => ?_) (TL.split_join nl_tl.1 nl_tl.2 hne fun l hl => (hall l hl).1) hsz.2 (by omega) (by rw [List.length_map, List.length_take]; omega) (fun j l v h1 h2 => ?_) H (.inr ⟨t, by rw [List.getElem?_append_right (by omega), htl, Nat.sub_self]; rfl, ht.1, hE⟩)
  · have e1 := join_empty hne (fun l hl => (hall l hl).1) q
    have e2 := congrArg List.length e1
    rw [hlen] at e2
    have hp : ps = [] := List.eq_nil_of_length_eq_zero (by simpa using e2)
    subst hp
    refine hx ⟨rfl, ?_⟩
    simpa using e1
  · rw [List.getElem?_map] at h2
    obtain ⟨p, hp, rfl⟩ := Option.map_eq_some_iff.mp h2
    have hj := (List.getElem?_eq_some_iff.mp hp).1
    rw [List.length_take] at hj
    rw [List.getElem?_append_left (by omega), List.getElem?_map, hp] at h1
    cases h1
    exact (act_line (h p (List.mem_of_mem_take (List.mem_of_getElem? hp)))).1
theorem rows_of {l : List D} (h : ∀ (j : Nat) x, l[j]? = some x → ∃ a ws, ActT a ws ∧ x = .tup [a, .str (Txt.join " " ws)]) : ∃ ps, l = ps.map rwD ∧ Acts ps := by
  induction l with
  | nil => exact ⟨[], rfl, fun p h => by cases h⟩
  | cons x r ih =>
    obtain ⟨a, ws, q1, q2⟩ := h 0 x rfl
    obtain ⟨ps, q3, q4⟩ := ih fun j y hy => h (j + 1) y hy
    refine ⟨(a, ws) :: ps, by rw [q2, q3]; rfl, fun p hp => ?_⟩
    rcases List.mem_cons.mp hp with rfl | hp
    · exact q1
    · exact q4 p hp
theorem lc_fst {a : NE} {me : NE} {p : NP} {vs : List Nat} {ps : List (D × List Str)} (f : D × List Str → D) (h20 : ps.length ≤ 20) (h : wpR (a σ N) (fun d N => ∃ (n : Nat) (L R : List HP), d = .ref n ∧ At N L ∧ Pick L (pt n (.lst (ps.map rwD))) R ∧
    (∀ q N2, q ∈ ps → At N2 L → ∃ σ1, p.put (rwD q) (wipeN σ vs) N2 = some σ1 ∧ wpR (me σ1 N2) (fun y N3 => y = f q ∧ At N3 L)) ∧
    ∀ (k : Nat) (N2 : NH), At N2 (pt k (.lst (ps.map f)) :: L) → Q (.ref k) N2) E) : wpR (nLc (iSeq a) p nYes me vs σ N) Q E := by
  refine sl_lcM (fun j => ((ps[j]?).map f).getD .non) (h.mono (fun d N h => ?_) fun _ _ h => h)
  obtain ⟨n, L, R, e1, H, hp, hm, hq⟩ := h
  refine ⟨n, _, L, R, e1, H, hp, by rw [List.length_map]; omega, fun j x N2 hj H2 => ?_, fun k N2 H2 => hq k N2 ?_⟩
  · rw [List.getElem?_map] at hj
    obtain ⟨q, hq2, rfl⟩ := Option.map_eq_some_iff.mp hj
    obtain ⟨σ1, q1, q2⟩ := hm q N2 (List.mem_of_getElem? hq2) H2
    refine ⟨σ1, q1, ?_⟩
    rw [hq2]
    exact q2
  · rw [List.length_map, range_map (f := f) (l := ps) rfl fun j hj => by rw [List.getElem?_eq_getElem hj]; rfl] at H2
    exact H2
theorem law_ok {ns : List Int} (hs : Scr N d0 (ns.map .int)) (hn : ns.length ≤ 63) : wpR (m_law [d0] N) (fun v _ => v = .bl true) := by
  refine wp_fun1 ?_
  simp only [List.replicate]
  unfold t16_law t15_law
  generalize hX : t14_law = X
  walk_at "gos"
  refine draws_ok (c := 160) (by decide) (by decide) hs hn fun b N1 H1 => ?_
  walk_at "gos"
  refine sl_lcR (fun _ d => ∃ a ws, ActT a ws ∧ d = .tup [a, .str (Txt.join " " ws)]) ?_
  walk_at "gos"
  refine take_ok (by decide) (by decide) (by decide) H1 .head fun w0 N2 a1 a2 H2 => ?_
  walk_at "gos"
  refine ⟨_, _, rfl, by omega, by omega, H2, fun j N3 hj H3 => ?_, fun l n2 N3 hl hle H3 => ?_⟩
  · simp only [wipeN, List.map, List.set_cons_zero, List.set_cons_succ, List.foldl]
    unfold e1_law
    walk_at "gos"
    exact law_act_ok H3 .head fun a ws N4 ha H4 => ⟨⟨a, ws, ha, rfl⟩, H4⟩
  obtain ⟨ps, rfl, hps⟩ := rows_of hle
  rw [List.length_map] at hl
  have h20 : ps.length ≤ 12 := by omega
  walk_at "gos"
  refine lc_fst (ps := ps) (·.1) (by omega) ?_
  walk_at "gos"
  refine ⟨n2, _, _, rfl, H3, .head, fun q N4 hq H4 => ⟨_, rfl, ?_⟩, fun k4 N4 H4 => ?_⟩
  · unfold e2_law
    walk_at "gos"
    exact ⟨rfl, H4⟩
  walk_at "gos"
  subst hX
  unfold t14_law
  generalize hX : t13_law = X
  walk_at "gos"
  refine lc_fst (ps := ps) (fun p => .str (lnT p)) (by omega) ?_
  walk_at "gos"
  refine ⟨n2, _, _, rfl, H4, .tail .head, fun q N5 hq H5 => ⟨_, rfl, ?_⟩, fun k5 N5 H5 => ?_⟩
  · unfold e3_law
    walk_at "gos"
    exact ⟨rfl, H5⟩
  have e5 : ps.map (fun p => D.str (lnT p)) = (ps.map lnT).map .str := by rw [List.map_map]; rfl
  rw [e5] at H5
  have hsz := txt_sz (ls := ps.map lnT) (by rw [List.length_map]; omega) fun l hl => by
    obtain ⟨p, hp, rfl⟩ := List.mem_map.mp hl
    have := (act_line (hps p hp)).2.2
    omega
  walk_at "gos"
  refine wp_join (H5.get .head) (by rw [List.length_map, show ("\n" : Str).length = 1 by decide +kernel]; omega) ?_
  walk_at "gos"
  subst hX
  unfold t13_law
  generalize hX : t12_law = X
  walk_at "gos"
  refine print_script_ok (wss := ps.map (·.2)) (by simp) (by rw [List.length_map]; omega) (fun j a ws h1 h2 => ?_) H5 fun N6 H6 => ?_
  · rw [List.getElem?_map] at h1 h2
    obtain ⟨p, hp, rfl⟩ := Option.map_eq_some_iff.mp h1
    rw [hp] at h2
    cases h2
    exact hps p (List.mem_of_getElem? hp)
  have e6 : (ps.map (·.2)).map (Txt.join " ") = ps.map lnT := by rw [List.map_map]; rfl
  rw [e6]
  walk_at "gos"
  refine ifF (by rw [decide_eq_true rfl]; rfl) ?_
  walk_at "gos"
  refine read_good hps (by omega) H6 fun N7 H7 => ?_
  walk_at "gos"
  refine wp_ne (eqN_self (acts_okD hps)) ?_
  walk_at "goi"
  refine read_empty ?_
  walk_at "gos"
  refine wp_ne (eqN_self rfl) ?_
  walk_at "goi"
  subst hX
  unfold t12_law t11_law
  generalize hX : t10_law = X
  walk_at "gos"
  rw [List.length_map]
  refine take_ok (by decide) (by decide) (by omega) H7 (.tail (.tail (.tail .head))) fun at' N8 b1 b2 H8 => ?_
  obtain ⟨m, rfl⟩ := Int.eq_ofNat_of_zero_le b1
  have hm : m ≤ ps.length := by omega
  walk_at "gos"
  refine lc_fst (ps := ps) (fun p => .str (lnT p)) (by omega) ?_
  walk_at "gos"
  refine ⟨n2, _, _, rfl, H8, .tail (.tail (.tail .head)), fun q N9 hq H9 => ⟨_, rfl, ?_⟩, fun k9 N9 H9 => ?_⟩
  · unfold e4_law
    walk_at "gos"
    exact ⟨rfl, H9⟩
  rw [e5] at H9
  walk_at "gos"
  subst hX
  unfold t10_law t9_law
  generalize hX : t8_law = X
  walk_at "gos"
  rename_i k10 N10 H10
  refine sl_catL (n := k9) (m := k10) H10 (.tail .head) .head (le_size (by simp; omega)) fun k11 N11 H11 => ?_
  walk_at "gos"
  have key : ∃ a ws, ActT a ws ∧ atD ((ps.map lnT).map D.str ++ [D.str "bob asks"]) (m : Int) = some (.str (Txt.join " " ws)) := by
    have e1 : (ps.map lnT).map D.str ++ [D.str "bob asks"] = (ps.map lnT ++ [("bob asks" : Str)]).map .str := by rw [List.map_append]; rfl
    rw [e1]
    by_cases hx : m < ps.length
    · refine ⟨ps[m].1, ps[m].2, hps _ (List.getElem_mem hx), NY.atD_map (by omega) ?_⟩
      rw [Int.toNat_natCast, List.getElem?_append_left (by rw [List.length_map]; exact hx), List.getElem?_map, List.getElem?_eq_getElem hx]
      rfl
    · refine ⟨_, [("bob" : Str), ("asks" : Str)], .ask (nm := "bob") (by decide +kernel), NY.atD_map (by omega) ?_⟩
      rw [Int.toNat_natCast, List.getElem?_append_right (by rw [List.length_map]; omega), List.length_map, show m - ps.length = 0 by omega]
      rw [show Txt.join " " [("bob" : Str), ("asks" : Str)] = ("bob asks" : Str) by decide +kernel]
      rfl
  obtain ⟨a0, ws0, ha0, hat⟩ := key
  refine wp_getL (H11.get .head) hat ?_
  walk_at "gos"
  refine wrong_1_ok ha0 H11 (by walk_at "pick") fun t N12 ht H12 => ?_
  walk_at "gos"
  refine sl_cutL (n := k9) H12 (by walk_at "pick") fun k13 N13 H13 => ?_
  have c1 : NY.cutD ((ps.map lnT).map D.str) none (some (m : Int)) = ((ps.take m).map lnT).map .str := by
    rw [NY.cut_take (by omega) (by rw [List.length_map, List.length_map]; omega), Int.toNat_natCast, ← List.map_take, ← List.map_take]
  have c2 : NY.cutD ((ps.map lnT).map D.str) (some (m : Int)) none = ((ps.drop m).map lnT).map .str := by
    rw [cut_drop (by omega) (by rw [List.length_map, List.length_map]; omega), Int.toNat_natCast, ← List.map_drop, ← List.map_drop]
  rw [c1] at H13
  have t1 : ((ps.take m).map lnT).length ≤ 12 := by rw [List.length_map, List.length_take]; omega
  have t2 : ((ps.drop m).map lnT).length ≤ 12 := by rw [List.length_map, List.length_drop]; omega
  walk_at "gos"
  rename_i k14 N14 H14
  refine sl_catL (n := k13) (m := k14) H14 (.tail .head) .head (le_size (by rw [List.length_map]; simp only [List.length_cons, List.length_nil]; omega)) fun k15 N15 H15 => ?_
  walk_at "gos"
  refine sl_cutL (n := k9) H15 (by walk_at "pick") fun k16 N16 H16 => ?_
  rw [c2] at H16
  walk_at "gos"
  refine sl_catL (n := k15) (m := k16) H16 (.tail .head) .head (le_size (by simp only [List.length_append, List.length_map] at t1 t2 ⊢; simp only [List.length_cons, List.length_nil]; omega)) fun k17 N17 H17 => ?_
  have e17 : ((ps.take m).map lnT).map D.str ++ [.str t] ++ ((ps.drop m).map lnT).map .str = ((ps.take m).map lnT ++ t :: (ps.drop m).map lnT).map .str := by simp
  rw [e17] at H17
  have hlen : (((ps.take m).map lnT ++ t :: (ps.drop m).map lnT).map D.str).length = ps.length + 1 := by simp; omega
  have fin : ¬ (ps = [] ∧ t = "") → wpS (t7_law [some d0, some (.ref b), some (.ref n2), some (.tup (ps.map (·.1))), some (.str (Txt.join "\n" (ps.map lnT))), some (.int m), some (.ref k17), some (.str t), none, none, none] N17) ⟨fun _ N => D.non = .bl true, fun v _ => v = .bl true, fun _ _ => False, fun x _ N => False⟩ := fun hx => by
    unfold t7_law
    generalize hX : t6_law = X
    refine wp_seq (wp_tryL ?_)
    unfold b5_law
    walk_at "gos"
    have hall : ∀ l ∈ (ps.take m).map lnT ++ t :: (ps.drop m).map lnT, l.length ≤ 1000 := fun l hl => by
      rcases List.mem_append.mp hl with q | q
      · obtain ⟨p, hp, rfl⟩ := List.mem_map.mp q
        have := act_line (hps p (List.mem_of_mem_take hp))
        omega
      · rcases List.mem_cons.mp q with rfl | q
        · exact ht.2.2
        · obtain ⟨p, hp, rfl⟩ := List.mem_map.mp q
          have := act_line (hps p (List.mem_of_mem_drop hp))
          omega
    rw [List.length_map] at hlen
    have hz := txt_sz (ls := (ps.take m).map lnT ++ t :: (ps.drop m).map lnT) (by omega) hall
    refine wp_join (H17.get .head) ?_ ?_
    · rw [show ("\n" : Str).length = 1 by decide +kernel]
      omega
    walk_at "gos"
    refine read_bad hps (by omega) hm ht hx H17 fun N18 H18 => ?_
    refine ⟨_, rfl, wp_gEq (by simp) (by decide) rfl ?_⟩
    exact congrArg D.bl (decide_eq_true rfl)
  subst hX
  unfold t8_law
  generalize hX : t7_law = X at fin ⊢
  walk_at "gos"
  rw [hlen]
  by_cases hp0 : ps.length = 0
  · have hps0 : ps = [] := List.eq_nil_of_length_eq_zero hp0
    refine ifT (by rw [hp0]; rfl) ?_
    walk_at "gos"
    by_cases ht0 : t = ("" : Str)
    · refine ifT (decide_eq_true ht0) ?_
      walk_at "gos"
    · refine ifF (decide_eq_false ht0) ?_
      walk_at "gos"
      exact fin fun q => ht0 q.2
  · refine ifF (decide_eq_false (by omega)) ?_
    refine ifF rfl ?_
    walk_at "gos"
    exact fin fun q => hp0 (by rw [q.1]; rfl)
end
end K80

set_option Elab.async false
set_option linter.all false
set_option maxRecDepth 100000
set_option maxHeartbeats 4000000
namespace K80
open OW NY PySem PySem.Spec PyProof.Rows L2
def top (i : Nat) : Stmt := PySem.Challenge.pw_onewatcher_k80_texts_of_scripts.main.body.getD i (.Pass ⟨0, 0, 0, 0⟩)
abbrev st__law_mix : Stmt := top 17
abbrev N__law_mix : List Str := ["_law_first", "_law_second", "_law_value"]
abbrev P__law_mix : List Str := ["_law_first", "_law_second"]
theorem sc__law_mix : FnScope N__law_mix P__law_mix (defScope st__law_mix) := ⟨rfl, rfl, rfl, by decide +kernel, rfl, by decide +kernel, by decide +kernel⟩
abbrev st__law_numbers : Stmt := top 18
abbrev N__law_numbers : List Str := ["_law_script", "_law_count", "_law_found", "_law_total", "_law_cell", "_law_k", "_law_number_here"]
abbrev P__law_numbers : List Str := ["_law_script", "_law_count"]
theorem sc__law_numbers : FnScope N__law_numbers P__law_numbers (defScope st__law_numbers) := ⟨rfl, rfl, rfl, by decide +kernel, rfl, by decide +kernel, by decide +kernel⟩
abbrev st__law_draws : Stmt := top 19
abbrev N__law_draws : List Str := ["_law_script", "_law_count"]
abbrev P__law_draws : List Str := ["_law_script", "_law_count"]
theorem sc__law_draws : FnScope N__law_draws P__law_draws (defScope st__law_draws) := ⟨rfl, rfl, rfl, by decide +kernel, rfl, by decide +kernel, by decide +kernel⟩
abbrev st__law_take : Stmt := top 20
abbrev N__law_take : List Str := ["_law_draws_here", "_law_bound", "_law_row", "_law_at", "_law_value"]
abbrev P__law_take : List Str := ["_law_draws_here", "_law_bound"]
theorem sc__law_take : FnScope N__law_take P__law_take (defScope st__law_take) := ⟨rfl, rfl, rfl, by decide +kernel, rfl, by decide +kernel, by decide +kernel⟩
abbrev st__law_name_1 : Stmt := top 21
abbrev N__law_name_1 : List Str := ["_law_draws_here", "_law_small", "_law_size", "_law_rest", "_law_k"]
abbrev P__law_name_1 : List Str := ["_law_draws_here"]
theorem sc__law_name_1 : FnScope N__law_name_1 P__law_name_1 (defScope st__law_name_1) := ⟨rfl, rfl, rfl, by decide +kernel, rfl, by decide +kernel, by decide +kernel⟩
abbrev st__law_number_1 : Stmt := top 22
abbrev N__law_number_1 : List Str := ["_law_draws_here"]
abbrev P__law_number_1 : List Str := ["_law_draws_here"]
theorem sc__law_number_1 : FnScope N__law_number_1 P__law_number_1 (defScope st__law_number_1) := ⟨rfl, rfl, rfl, by decide +kernel, rfl, by decide +kernel, by decide +kernel⟩
abbrev st__law_act : Stmt := top 23
abbrev N__law_act : List Str := ["_law_draws_here", "_law_name_here", "_law_a", "_law_b", "_law_c", "_law_numbers_here", "_law_acts", "_law_k", "_law_n"]
abbrev P__law_act : List Str := ["_law_draws_here"]
theorem sc__law_act : FnScope N__law_act P__law_act (defScope st__law_act) := ⟨rfl, rfl, rfl, by decide +kernel, rfl, by decide +kernel, by decide +kernel⟩
abbrev st_line_of : Stmt := top 14
abbrev N_line_of : List Str := ["act", "number"]
abbrev P_line_of : List Str := ["act"]
theorem sc_line_of : FnScope N_line_of P_line_of (defScope st_line_of) := ⟨rfl, rfl, rfl, by decide +kernel, rfl, by decide +kernel, by decide +kernel⟩
abbrev st_print_script : Stmt := top 15
abbrev N_print_script : List Str := ["acts", "act"]
abbrev P_print_script : List Str := ["acts"]
theorem sc_print_script : FnScope N_print_script P_print_script (defScope st_print_script) := ⟨rfl, rfl, rfl, by decide +kernel, rfl, by decide +kernel, by decide +kernel⟩
abbrev st_number_of : Stmt := top 9
abbrev N_number_of : List Str := ["word", "number", "char"]
abbrev P_number_of : List Str := ["word"]
theorem sc_number_of : FnScope N_number_of P_number_of (defScope st_number_of) := ⟨rfl, rfl, rfl, by decide +kernel, rfl, by decide +kernel, by decide +kernel⟩
abbrev st_numbers_of : Stmt := top 10
abbrev N_numbers_of : List Str := ["words", "numbers", "word", "number"]
abbrev P_numbers_of : List Str := ["words"]
theorem sc_numbers_of : FnScope N_numbers_of P_numbers_of (defScope st_numbers_of) := ⟨rfl, rfl, rfl, by decide +kernel, rfl, by decide +kernel, by decide +kernel⟩
abbrev st_is_name_1 : Stmt := top 8
abbrev N_is_name_1 : List Str := ["word", "char"]
abbrev P_is_name_1 : List Str := ["word"]
theorem sc_is_name_1 : FnScope N_is_name_1 P_is_name_1 (defScope st_is_name_1) := ⟨rfl, rfl, rfl, by decide +kernel, rfl, by decide +kernel, by decide +kernel⟩
abbrev st_player_act : Stmt := top 11
abbrev N_player_act : List Str := ["name", "verb", "numbers"]
abbrev P_player_act : List Str := ["name", "verb", "numbers"]
theorem sc_player_act : FnScope N_player_act P_player_act (defScope st_player_act) := ⟨rfl, rfl, rfl, by decide +kernel, rfl, by decide +kernel, by decide +kernel⟩
abbrev st_act_of : Stmt := top 12
abbrev N_act_of : List Str := ["line", "words", "numbers"]
abbrev P_act_of : List Str := ["line"]
theorem sc_act_of : FnScope N_act_of P_act_of (defScope st_act_of) := ⟨rfl, rfl, rfl, by decide +kernel, rfl, by decide +kernel, by decide +kernel⟩
abbrev st_read_script : Stmt := top 13
abbrev N_read_script : List Str := ["text", "lines", "acts", "k", "act"]
abbrev P_read_script : List Str := ["text"]
theorem sc_read_script : FnScope N_read_script P_read_script (defScope st_read_script) := ⟨rfl, rfl, rfl, by decide +kernel, rfl, by decide +kernel, by decide +kernel⟩
abbrev st__law_wrong_1 : Stmt := top 24
abbrev N__law_wrong_1 : List Str := ["_law_draws_here", "_law_line", "_law_kind", "_law_words"]
abbrev P__law_wrong_1 : List Str := ["_law_draws_here", "_law_line"]
theorem sc__law_wrong_1 : FnScope N__law_wrong_1 P__law_wrong_1 (defScope st__law_wrong_1) := ⟨rfl, rfl, rfl, by decide +kernel, rfl, by decide +kernel, by decide +kernel⟩
abbrev st_law : Stmt := top 25
abbrev N_law : List Str := ["_law_script", "_law_draws_here", "_law_rows", "_law_acts", "_law_text", "_law_at", "_law_lines", "_law_wrong_here", "e", "_law_k", "_law_row"]
abbrev P_law : List Str := ["_law_script"]
theorem sc_law : FnScope N_law P_law (defScope st_law) := ⟨rfl, rfl, rfl, by decide +kernel, rfl, by decide +kernel, by decide +kernel⟩
abbrev st_BadText_init : Stmt := inClass (top 2) 0
theorem bt_text : BtText st_BadText_init := ⟨_, _, _, _, _, _, _, _, _, _, _, _, _, _, _, _, _, rfl, rfl, rfl, rfl, rfl, rfl, rfl, by decide +kernel, fun _ => rfl⟩
theorem bb_abs : bootBuiltins ("abs" : Str) = some (.builtin "abs") := by kernel_rfl
theorem bb_all : bootBuiltins ("all" : Str) = some (.builtin "all") := by kernel_rfl
theorem bb_any : bootBuiltins ("any" : Str) = some (.builtin "any") := by kernel_rfl
theorem bb_int : bootBuiltins ("int" : Str) = some (.type "int") := by kernel_rfl
theorem bb_len : bootBuiltins ("len" : Str) = some (.builtin "len") := by kernel_rfl
theorem bb_str : bootBuiltins ("str" : Str) = some (.type "str") := by kernel_rfl
theorem bb_tuple : bootBuiltins ("tuple" : Str) = some (.type "tuple") := by kernel_rfl
def visB (sc : Scope) (x : Str) : Bool := match sc.names.lookup x with
  | some .local => true
  | some .cell => true
  | some .free => true
  | _ => false
theorem visB_of {sc : Scope} {x : Str} (h : visB sc x = true) : Vis sc x := by
  unfold visB at h
  split at h
  · rename_i e; exact .inl e
  · rename_i e; exact .inr (.inl e)
  · rename_i e; exact .inr (.inr e)
  · cases h
def VarsOk (N : List Str) (sc : Scope) (is : List Nat) : Bool := is.all fun i => match N[i]? with
  | some x => visB sc x && !(x == ("__debug__" : Str)) && !(x == ("__classdict__" : Str))
  | none => true
theorem n_varV {X : Cx} {C : NC} {W : WX} {pos : Pos} {is : List Nat} (hV : VarsOk X.N X.env.scope is = true) (i : Nat) (hi : is.elem i = true) {x : Str} (hN : X.N[i]? = some x) : PE X (.Name x pos) (tE X.K C W (nV i)) := by
  have h := List.all_eq_true.mp hV i (List.elem_iff.mp hi)
  rw [hN] at h
  obtain ⟨h1, h2⟩ := Bool.and_eq_true_iff.mp h
  obtain ⟨h0, h1⟩ := Bool.and_eq_true_iff.mp h1
  exact n_var i hN (visB_of h0) (by simpa using h1) (by simpa using h2)
theorem vs__law_mix : VarsOk N__law_mix (defScope st__law_mix) [0, 1, 2] = true := by kernel_rfl
theorem vs__law_numbers : VarsOk N__law_numbers (defScope st__law_numbers) [0, 1, 2, 3, 4, 5, 6] = true := by kernel_rfl
theorem vs__law_draws : VarsOk N__law_draws (defScope st__law_draws) [0, 1] = true := by kernel_rfl
theorem vs__law_take : VarsOk N__law_take (defScope st__law_take) [0, 1, 2, 3, 4] = true := by kernel_rfl
theorem vs__law_name : VarsOk N__law_name_1 (defScope st__law_name_1) [0, 1, 3] = true := by kernel_rfl
theorem vs__law_number : VarsOk N__law_number_1 (defScope st__law_number_1) [0] = true := by kernel_rfl
theorem vs__law_act : VarsOk N__law_act (defScope st__law_act) [0, 1, 2, 3, 4, 5, 6] = true := by kernel_rfl
theorem vs_line_of : VarsOk N_line_of (defScope st_line_of) [0] = true := by kernel_rfl
theorem vs_number_of : VarsOk N_number_of (defScope st_number_of) [0, 1] = true := by kernel_rfl
theorem vs_numbers_of : VarsOk N_numbers_of (defScope st_numbers_of) [1] = true := by kernel_rfl
theorem vs_is_name : VarsOk N_is_name_1 (defScope st_is_name_1) [0] = true := by kernel_rfl
theorem vs_player_act : VarsOk N_player_act (defScope st_player_act) [0, 1, 2] = true := by kernel_rfl
theorem vs_act_of : VarsOk N_act_of (defScope st_act_of) [0, 1, 2] = true := by kernel_rfl
theorem vs_read_script : VarsOk N_read_script (defScope st_read_script) [0, 1, 2, 3, 4] = true := by kernel_rfl
theorem vs__law_wrong : VarsOk N__law_wrong_1 (defScope st__law_wrong_1) [0, 1, 2, 3] = true := by kernel_rfl
structure Txt (P : Program) (K : PySem.W.Frag) (mg : Str → Option Value) (C : NC) : Prop where
  nd : C.names.Nodup
  nm_line : C.names[42]? = some ("line" : Str)
  b_abs : mg "abs" = none
  b_all : mg "all" = none
  b_any : mg "any" = none
  b_int : mg "int" = none
  b_isinstance : mg "isinstance" = none
  b_len : mg "len" = none
  b_range : mg "range" = none
  b_str : mg "str" = none
  b_tuple : mg "tuple" = none
  v_BadText : XV P K mg "BadText" (C.cls 15)
  w_BadText : XW K mg "BadText" (C.cls 15) "WatchError"
  g_MAX_PART : GD K mg "MAX_PART" (.int 281474976710656)
  g_SMALL : GD K mg "SMALL" (.str "abcdefghijklmnopqrstuvwxyz")
  g_DIGITS : GD K mg "DIGITS" (.str "0123456789")
  g_PLAIN : GD K mg "PLAIN" c_PLAIN
  d__law_mix : DefA K mg "_law_mix" "_law_mix" st__law_mix P__law_mix
  d__law_numbers : DefA K mg "_law_numbers" "_law_numbers" st__law_numbers P__law_numbers
  d__law_take : DefA K mg "_law_take" "_law_take" st__law_take P__law_take
  d__law_name : DefA K mg "_law_name" "_law_name" st__law_name_1 P__law_name_1
  d__law_number : DefA K mg "_law_number" "_law_number" st__law_number_1 P__law_number_1
  d_line_of : DefA K mg "line_of" "line_of" st_line_of P_line_of
  d_number_of : DefA K mg "number_of" "number_of" st_number_of P_number_of
  d_numbers_of : DefA K mg "numbers_of" "numbers_of" st_numbers_of P_numbers_of
  d_is_name : DefA K mg "is_name" "is_name" st_is_name_1 P_is_name_1
  d_player_act : DefA K mg "player_act" "player_act" st_player_act P_player_act
  d_act_of : DefA K mg "act_of" "act_of" st_act_of P_act_of
  d__law_draws : DefA K mg "_law_draws" "_law_draws" st__law_draws P__law_draws
  d__law_act : DefA K mg "_law_act" "_law_act" st__law_act P__law_act
  d_print_script : DefA K mg "print_script" "print_script" st_print_script P_print_script
  d_read_script : DefA K mg "read_script" "read_script" st_read_script P_read_script
  d__law_wrong : DefA K mg "_law_wrong" "_law_wrong" st__law_wrong_1 P__law_wrong_1
  d_law : DefA K mg "law" "law" st_law P_law
section
variable {P : Program} {w : World} {K : PySem.W.Frag} {mg : Str → Option Value} {base : Heap} {C : NC}
theorem ok__law_mix (T : Txt P K mg C) : FunN P w K mg base C 1 "_law_mix" 2 OW.m__law_mix := n_defA T.d__law_mix sc__law_mix rfl fun fa cdv A outer s H E G =>
    (s_cons (s_asg (h1 := rfl) (h2 := rfl) (h3 := rfl) (n_bin op_mod sndMod (n_callTy (hg := rfl) (he := rfl) (hpl := rfl) crInt sndInt T.b_int bb_int (n_cons (hs := rfl) (n_bin opAdd sndAdd (n_bin opAdd sndAdd (n_bin opMul sndMul (n_varV vs__law_mix 0 rfl rfl) n_int) (n_bin opMul sndMul (n_varV vs__law_mix 1 rfl rfl) n_int)) n_int) n_nil)) n_int) (g_name (hi := rfl) 2 sc__law_mix.nd))
    (s_one (s_ret (n_bin op_mod sndMod (n_callTy (hg := rfl) (he := rfl) (hpl := rfl) crInt sndInt T.b_int bb_int (n_cons (hs := rfl) (n_bin opAdd sndAdd (n_bin opAdd sndAdd (n_bin opMul sndMul (n_varV vs__law_mix 2 rfl rfl) n_int) (n_bin opMul sndMul (n_varV vs__law_mix 1 rfl rfl) n_int)) n_int) n_nil)) n_int))))
theorem ok__law_numbers (T : Txt P K mg C) (h__law_mix : FunN P w K mg base C 1 "_law_mix" 2 OW.m__law_mix) : FunN P w K mg base C 2 "_law_numbers" 2 OW.m__law_numbers := n_defA T.d__law_numbers sc__law_numbers rfl fun fa cdv A outer s H E G =>
    (s_cons (s_asg (h1 := rfl) (h2 := rfl) (h3 := rfl) (n_lst n_nil) (g_name (hi := rfl) 2 sc__law_numbers.nd))
    (s_cons (s_asg (h1 := rfl) (h2 := rfl) (h3 := rfl) (n_bin opAdd sndAdd (n_callB (hg := rfl) (he := rfl) (hpl := rfl) crLen sndLen T.b_len bb_len (n_cons (hs := rfl) (n_varV vs__law_numbers 0 rfl rfl) n_nil)) n_int) (g_name (hi := rfl) 3 sc__law_numbers.nd))
    (s_cons (s_for (hf := fun _ => rfl) G.po rfl (n_it (n_cut (n_varV vs__law_numbers 0 rfl rfl) n_noPart (n_part n_int))) (g_name (hi := rfl) 4 sc__law_numbers.nd) (s_cons (s_asg (h1 := rfl) (h2 := rfl) (h3 := rfl) (n_callB (hg := rfl) (he := rfl) (hpl := rfl) call_abs sndAbs T.b_abs bb_abs (n_cons (hs := rfl) (n_varV vs__law_numbers 4 rfl rfl) n_nil)) (g_name (hi := rfl) 6 sc__law_numbers.nd))
    (s_cons (s_asg (h1 := rfl) (h2 := rfl) (h3 := rfl) (n_call (hg := rfl) (he := rfl) (hpl := rfl) h__law_mix G.room G.px rfl (n_cons (hs := rfl) (n_varV vs__law_numbers 3 rfl rfl) (n_cons (hs := rfl) (n_bin op_mod sndMod (n_callTy (hg := rfl) (he := rfl) (hpl := rfl) crInt sndInt T.b_int bb_int (n_cons (hs := rfl) (n_varV vs__law_numbers 6 rfl rfl) n_nil)) n_int) n_nil)) (hm := (nCons_len (nCons_len nNil_len)))) (g_name (hi := rfl) 3 sc__law_numbers.nd))
    (s_one (s_if (n_cmpT opGe sndOrd (n_varV vs__law_numbers 6 rfl rfl) (n_bin op_pow sndPow n_int n_int) (by rfl)) (s_one (s_for (hf := fun _ => rfl) G.po rfl (n_range1 (hg := rfl) (hs := rfl) T.b_range (n_cons (hs := rfl) n_int n_nil) (hl := (nCons_len nNil_len))) (g_name (hi := rfl) 5 sc__law_numbers.nd) (s_one (s_if (n_cmpT opGt sndOrd (n_varV vs__law_numbers 6 rfl rfl) n_int (by rfl)) (s_cons (s_expr (hs := rfl) (n_bm (hbase := rfl) (hfew := rfl) (hline := rfl) (hs := rfl) (hplain := rfl) PySem.F.plainAttrs_list PySem.F.slot_list_append PySem.F.type_list_append mt_append sndAppend (n_varV vs__law_numbers 2 rfl rfl) (n_cons (hs := rfl) (n_bin op_mod sndMod (n_callTy (hg := rfl) (he := rfl) (hpl := rfl) crInt sndInt T.b_int bb_int (n_cons (hs := rfl) (n_varV vs__law_numbers 6 rfl rfl) n_nil)) n_int) n_nil)))
    (s_one (s_asg (h1 := rfl) (h2 := rfl) (h3 := rfl) (n_bin op_fdivW sndDiv (n_varV vs__law_numbers 6 rfl rfl) n_int) (g_name (hi := rfl) 6 sc__law_numbers.nd)))) s_nil)))) (s_one (s_for (hf := fun _ => rfl) G.po rfl (n_range1 (hg := rfl) (hs := rfl) T.b_range (n_cons (hs := rfl) n_int n_nil) (hl := (nCons_len nNil_len))) (g_name (hi := rfl) 5 sc__law_numbers.nd) (s_one (s_expr (hs := rfl) (n_bm (hbase := rfl) (hfew := rfl) (hline := rfl) (hs := rfl) (hplain := rfl) PySem.F.plainAttrs_list PySem.F.slot_list_append PySem.F.type_list_append mt_append sndAppend (n_varV vs__law_numbers 2 rfl rfl) (n_cons (hs := rfl) (n_bin op_mod sndMod (n_callTy (hg := rfl) (he := rfl) (hpl := rfl) crInt sndInt T.b_int bb_int (n_cons (hs := rfl) (n_call (hg := rfl) (he := rfl) (hpl := rfl) h__law_mix G.room G.px rfl (n_cons (hs := rfl) (n_varV vs__law_numbers 6 rfl rfl) (n_cons (hs := rfl) (n_bin opAdd sndAdd (n_varV vs__law_numbers 5 rfl rfl) n_int) n_nil)) (hm := (nCons_len (nCons_len nNil_len)))) n_nil)) n_int) n_nil)))))))))))
    (s_cons (s_for (hf := fun _ => rfl) G.po rfl (n_range1 (hg := rfl) (hs := rfl) T.b_range (n_cons (hs := rfl) (n_varV vs__law_numbers 1 rfl rfl) n_nil) (hl := (nCons_len nNil_len))) (g_name (hi := rfl) 5 sc__law_numbers.nd) (s_one (s_if (n_cmpT opLt sndOrd (n_callB (hg := rfl) (he := rfl) (hpl := rfl) crLen sndLen T.b_len bb_len (n_cons (hs := rfl) (n_varV vs__law_numbers 2 rfl rfl) n_nil)) (n_varV vs__law_numbers 1 rfl rfl) (by rfl)) (s_cons (s_asg (h1 := rfl) (h2 := rfl) (h3 := rfl) (n_call (hg := rfl) (he := rfl) (hpl := rfl) h__law_mix G.room G.px rfl (n_cons (hs := rfl) (n_varV vs__law_numbers 3 rfl rfl) (n_cons (hs := rfl) (n_bin opAdd sndAdd (n_varV vs__law_numbers 5 rfl rfl) n_int) n_nil)) (hm := (nCons_len (nCons_len nNil_len)))) (g_name (hi := rfl) 3 sc__law_numbers.nd))
    (s_one (s_expr (hs := rfl) (n_bm (hbase := rfl) (hfew := rfl) (hline := rfl) (hs := rfl) (hplain := rfl) PySem.F.plainAttrs_list PySem.F.slot_list_append PySem.F.type_list_append mt_append sndAppend (n_varV vs__law_numbers 2 rfl rfl) (n_cons (hs := rfl) (n_bin op_mod sndMod (n_callTy (hg := rfl) (he := rfl) (hpl := rfl) crInt sndInt T.b_int bb_int (n_cons (hs := rfl) (n_varV vs__law_numbers 3 rfl rfl) n_nil)) n_int) n_nil))))) s_nil)))
    (s_one (s_ret (n_cut (n_varV vs__law_numbers 2 rfl rfl) n_noPart (n_part (n_varV vs__law_numbers 1 rfl rfl)))))))))
theorem ok__law_draws (T : Txt P K mg C) (h__law_numbers : FunN P w K mg base C 2 "_law_numbers" 2 OW.m__law_numbers) : FunN P w K mg base C 3 "_law_draws" 2 OW.m__law_draws := n_defA T.d__law_draws sc__law_draws rfl fun fa cdv A outer s H E G =>
    (s_one (s_ret (n_disp (h1 := rfl) (h2 := rfl) (d_cons n_str n_int (d_cons n_str (n_call (hg := rfl) (he := rfl) (hpl := rfl) h__law_numbers G.room G.px rfl (n_cons (hs := rfl) (n_varV vs__law_draws 0 rfl rfl) (n_cons (hs := rfl) (n_varV vs__law_draws 1 rfl rfl) n_nil)) (hm := (nCons_len (nCons_len nNil_len)))) d_nil)))))
theorem ok__law_take (T : Txt P K mg C) : FunN P w K mg base C 1 "_law_take" 2 OW.m__law_take := n_defA T.d__law_take sc__law_take rfl fun fa cdv A outer s H E G =>
    (s_cons (s_asg (h1 := rfl) (h2 := rfl) (h3 := rfl) (n_get G.u1 (n_varV vs__law_take 0 rfl rfl) n_str (fun _ _ => rfl)) (g_name (hi := rfl) 2 sc__law_take.nd))
    (s_cons (s_asg (h1 := rfl) (h2 := rfl) (h3 := rfl) (n_get G.u1 (n_varV vs__law_take 0 rfl rfl) n_str (fun _ _ => rfl)) (g_name (hi := rfl) 3 sc__law_take.nd))
    (s_cons (s_put (h0 := fun _ => rfl) (h1 := rfl) (h2 := rfl) (h3 := rfl) G.u1 (n_bin opAdd sndAdd (n_varV vs__law_take 3 rfl rfl) n_int) (n_varV vs__law_take 0 rfl rfl) n_str)
    (s_cons (s_asg (h1 := rfl) (h2 := rfl) (h3 := rfl) (n_bin opAdd sndAdd (n_get G.u1 (n_varV vs__law_take 2 rfl rfl) (n_bin op_mod sndMod (n_callTy (hg := rfl) (he := rfl) (hpl := rfl) crInt sndInt T.b_int bb_int (n_cons (hs := rfl) (n_varV vs__law_take 3 rfl rfl) n_nil)) (n_callB (hg := rfl) (he := rfl) (hpl := rfl) crLen sndLen T.b_len bb_len (n_cons (hs := rfl) (n_varV vs__law_take 2 rfl rfl) n_nil))) (fun _ _ => rfl)) (n_bin op_fdivW sndDiv (n_varV vs__law_take 3 rfl rfl) (n_callB (hg := rfl) (he := rfl) (hpl := rfl) crLen sndLen T.b_len bb_len (n_cons (hs := rfl) (n_varV vs__law_take 2 rfl rfl) n_nil)))) (g_name (hi := rfl) 4 sc__law_take.nd))
    (s_one (s_ret (n_bin op_mod sndMod (n_callTy (hg := rfl) (he := rfl) (hpl := rfl) crInt sndInt T.b_int bb_int (n_cons (hs := rfl) (n_varV vs__law_take 4 rfl rfl) n_nil)) (n_varV vs__law_take 1 rfl rfl))))))))
theorem ok__law_name (T : Txt P K mg C) (h__law_take : FunN P w K mg base C 1 "_law_take" 2 OW.m__law_take) : FunN P w K mg base C 2 "_law_name" 1 OW.m__law_name_1 := n_defA T.d__law_name sc__law_name_1 rfl fun fa cdv A outer s H E G =>
    (s_cons (s_asg (h1 := rfl) (h2 := rfl) (h3 := rfl) n_str (g_name (hi := rfl) 1 sc__law_name_1.nd))
    (s_cons (s_if (n_cmpT (opEq G.u64) sndEq (n_call (hg := rfl) (he := rfl) (hpl := rfl) h__law_take G.room G.px rfl (n_cons (hs := rfl) (n_varV vs__law_name 0 rfl rfl) (n_cons (hs := rfl) n_int n_nil)) (hm := (nCons_len (nCons_len nNil_len)))) n_int (by rfl)) (s_one (s_ret (n_get G.u1 (n_lst (n_cons (hs := rfl) n_str (n_cons (hs := rfl) n_str (n_cons (hs := rfl) n_str (n_cons (hs := rfl) n_str (n_cons (hs := rfl) n_str n_nil)))))) (n_call (hg := rfl) (he := rfl) (hpl := rfl) h__law_take G.room G.px rfl (n_cons (hs := rfl) (n_varV vs__law_name 0 rfl rfl) (n_cons (hs := rfl) n_int n_nil)) (hm := (nCons_len (nCons_len nNil_len)))) (fun _ _ => rfl)))) s_nil)
    (s_cons (s_asg (h1 := rfl) (h2 := rfl) (h3 := rfl) (n_get G.u1 (n_lst (n_cons (hs := rfl) n_int (n_cons (hs := rfl) n_int (n_cons (hs := rfl) n_int (n_cons (hs := rfl) n_int (n_cons (hs := rfl) n_int n_nil)))))) (n_call (hg := rfl) (he := rfl) (hpl := rfl) h__law_take G.room G.px rfl (n_cons (hs := rfl) (n_varV vs__law_name 0 rfl rfl) (n_cons (hs := rfl) n_int n_nil)) (hm := (nCons_len (nCons_len nNil_len)))) (fun _ _ => rfl)) (g_name (hi := rfl) 2 sc__law_name_1.nd))
    (s_cons (s_asg (h1 := rfl) (h2 := rfl) (h3 := rfl) (n_bm (hbase := rfl) (hfew := rfl) (hline := rfl) (hs := rfl) (hplain := rfl) PySem.F.plainAttrs_str PySem.F.slot_str_join PySem.F.type_str_join mt_join sndJoin n_str (n_cons (hs := rfl) (n_lc (hf := fun _ => rfl) (own := [("_law_k", 4)]) rfl sc__law_name_1.nd (blkOk_by (N := N__law_name_1) (sc := defScope st__law_name_1) (own := [("_law_k", 4)]) (by decide +kernel)) (by decide) (n_range1 (hg := rfl) (hs := rfl) T.b_range (n_cons (hs := rfl) (n_var (hN := rfl) 2) n_nil) (hl := (nCons_len nNil_len))) (fun _ _ _ _ _ => (g_name (hi := rfl) 4 sc__law_name_1.nd)) (fun _ _ _ _ _ => n_noif) (fun _ _ _ _ _ => (n_get G.u1 (n_bin opAdd sndAdd (n_var (hN := rfl) 1) n_str) (n_call (hg := rfl) (he := rfl) (hpl := rfl) h__law_take G.room px0 rfl (n_cons (hs := rfl) (n_var (hN := rfl) 0) (n_cons (hs := rfl) n_int n_nil)) (hm := (nCons_len (nCons_len nNil_len)))) (fun _ _ => rfl)))) n_nil)) (g_name (hi := rfl) 3 sc__law_name_1.nd))
    (s_one (s_ret (n_bin opAdd sndAdd (n_get G.u1 (n_varV vs__law_name 1 rfl rfl) (n_call (hg := rfl) (he := rfl) (hpl := rfl) h__law_take G.room G.px rfl (n_cons (hs := rfl) (n_varV vs__law_name 0 rfl rfl) (n_cons (hs := rfl) n_int n_nil)) (hm := (nCons_len (nCons_len nNil_len)))) (fun _ _ => rfl)) (n_varV vs__law_name 3 rfl rfl))))))))
theorem ok__law_number (T : Txt P K mg C) (h__law_take : FunN P w K mg base C 1 "_law_take" 2 OW.m__law_take) : FunN P w K mg base C 2 "_law_number" 1 OW.m__law_number_1 := n_defA T.d__law_number sc__law_number_1 rfl fun fa cdv A outer s H E G =>
    (s_one (s_ret (n_get G.u1 (n_lst (n_cons (hs := rfl) n_int (n_cons (hs := rfl) n_int (n_cons (hs := rfl) n_int (n_cons (hs := rfl) (n_call (hg := rfl) (he := rfl) (hpl := rfl) h__law_take G.room G.px rfl (n_cons (hs := rfl) (n_varV vs__law_number 0 rfl rfl) (n_cons (hs := rfl) n_int n_nil)) (hm := (nCons_len (nCons_len nNil_len)))) (n_cons (hs := rfl) (n_bin opAdd sndAdd (n_bin op_pow sndPow n_int n_int) (n_call (hg := rfl) (he := rfl) (hpl := rfl) h__law_take G.room G.px rfl (n_cons (hs := rfl) (n_varV vs__law_number 0 rfl rfl) (n_cons (hs := rfl) n_int n_nil)) (hm := (nCons_len (nCons_len nNil_len))))) n_nil)))))) (n_call (hg := rfl) (he := rfl) (hpl := rfl) h__law_take G.room G.px rfl (n_cons (hs := rfl) (n_varV vs__law_number 0 rfl rfl) (n_cons (hs := rfl) n_int n_nil)) (hm := (nCons_len (nCons_len nNil_len)))) (fun _ _ => rfl))))
theorem ok__law_act (T : Txt P K mg C) (h__law_name : FunN P w K mg base C 2 "_law_name" 1 OW.m__law_name_1) (h__law_number : FunN P w K mg base C 2 "_law_number" 1 OW.m__law_number_1) (h__law_take : FunN P w K mg base C 1 "_law_take" 2 OW.m__law_take) : FunN P w K mg base C 3 "_law_act" 1 OW.m__law_act := n_defA T.d__law_act sc__law_act rfl fun fa cdv A outer s H E G =>
    (s_cons (s_asg (h1 := rfl) (h2 := rfl) (h3 := rfl) (n_call (hg := rfl) (he := rfl) (hpl := rfl) h__law_name G.room G.px rfl (n_cons (hs := rfl) (n_varV vs__law_act 0 rfl rfl) n_nil) (hm := (nCons_len nNil_len))) (g_name (hi := rfl) 1 sc__law_act.nd))
    (s_cons (s_asg (h1 := rfl) (h2 := rfl) (h3 := rfl) (n_call (hg := rfl) (he := rfl) (hpl := rfl) h__law_number G.room G.px rfl (n_cons (hs := rfl) (n_varV vs__law_act 0 rfl rfl) n_nil) (hm := (nCons_len nNil_len))) (g_name (hi := rfl) 2 sc__law_act.nd))
    (s_cons (s_asg (h1 := rfl) (h2 := rfl) (h3 := rfl) (n_call (hg := rfl) (he := rfl) (hpl := rfl) h__law_number G.room G.px rfl (n_cons (hs := rfl) (n_varV vs__law_act 0 rfl rfl) n_nil) (hm := (nCons_len nNil_len))) (g_name (hi := rfl) 3 sc__law_act.nd))
    (s_cons (s_asg (h1 := rfl) (h2 := rfl) (h3 := rfl) (n_call (hg := rfl) (he := rfl) (hpl := rfl) h__law_number G.room G.px rfl (n_cons (hs := rfl) (n_varV vs__law_act 0 rfl rfl) n_nil) (hm := (nCons_len nNil_len))) (g_name (hi := rfl) 4 sc__law_act.nd))
    (s_cons (s_asg (h1 := rfl) (h2 := rfl) (h3 := rfl) (n_callTy (hg := rfl) (he := rfl) (hpl := rfl) call_tuple_of sndTuple T.b_tuple bb_tuple (n_cons (hs := rfl) (n_lc (hf := fun _ => rfl) (own := [("_law_k", 7)]) rfl sc__law_act.nd (blkOk_by (N := N__law_act) (sc := defScope st__law_act) (own := [("_law_k", 7)]) (by decide +kernel)) (by decide) (n_range1 (hg := rfl) (hs := rfl) T.b_range (n_cons (hs := rfl) (n_call (hg := rfl) (he := rfl) (hpl := rfl) h__law_take G.room G.px rfl (n_cons (hs := rfl) (n_var (hN := rfl) 0) (n_cons (hs := rfl) n_int n_nil)) (hm := (nCons_len (nCons_len nNil_len)))) n_nil) (hl := (nCons_len nNil_len))) (fun _ _ _ _ _ => (g_name (hi := rfl) 7 sc__law_act.nd)) (fun _ _ _ _ _ => n_noif) (fun _ _ _ _ _ => (n_call (hg := rfl) (he := rfl) (hpl := rfl) h__law_number G.room px0 rfl (n_cons (hs := rfl) (n_var (hN := rfl) 0) n_nil) (hm := (nCons_len nNil_len))))) n_nil)) (g_name (hi := rfl) 5 sc__law_act.nd))
    (s_cons (s_asg (h1 := rfl) (h2 := rfl) (h3 := rfl) (n_lst (n_cons (hs := rfl) (n_tup (n_cons (hs := rfl) (n_tup (n_cons (hs := rfl) n_str (n_cons (hs := rfl) (n_varV vs__law_act 1 rfl rfl) (n_cons (hs := rfl) (n_tup (n_cons (hs := rfl) n_str (n_cons (hs := rfl) (n_varV vs__law_act 2 rfl rfl) (n_cons (hs := rfl) (n_varV vs__law_act 3 rfl rfl) n_nil)))) n_nil)))) (n_cons (hs := rfl) (n_bin opAdd sndAdd (n_bin opAdd sndAdd (n_bin opAdd sndAdd (n_bin opAdd sndAdd (n_varV vs__law_act 1 rfl rfl) n_str) (n_callTy (hg := rfl) (he := rfl) (hpl := rfl) call_str_int sndStr T.b_str bb_str (n_cons (hs := rfl) (n_varV vs__law_act 2 rfl rfl) n_nil))) n_str) (n_callTy (hg := rfl) (he := rfl) (hpl := rfl) call_str_int sndStr T.b_str bb_str (n_cons (hs := rfl) (n_varV vs__law_act 3 rfl rfl) n_nil))) n_nil))) (n_cons (hs := rfl) (n_tup (n_cons (hs := rfl) (n_tup (n_cons (hs := rfl) n_str (n_cons (hs := rfl) (n_varV vs__law_act 1 rfl rfl) (n_cons (hs := rfl) (n_tup (n_cons (hs := rfl) n_str n_nil)) n_nil)))) (n_cons (hs := rfl) (n_bin opAdd sndAdd (n_varV vs__law_act 1 rfl rfl) n_str) n_nil))) (n_cons (hs := rfl) (n_tup (n_cons (hs := rfl) (n_tup (n_cons (hs := rfl) n_str (n_cons (hs := rfl) (n_varV vs__law_act 1 rfl rfl) (n_cons (hs := rfl) (n_varV vs__law_act 2 rfl rfl) (n_cons (hs := rfl) (n_varV vs__law_act 3 rfl rfl) (n_cons (hs := rfl) (n_varV vs__law_act 4 rfl rfl) n_nil)))))) (n_cons (hs := rfl) (n_bin opAdd sndAdd (n_bin opAdd sndAdd (n_bin opAdd sndAdd (n_bin opAdd sndAdd (n_bin opAdd sndAdd (n_bin opAdd sndAdd (n_varV vs__law_act 1 rfl rfl) n_str) (n_callTy (hg := rfl) (he := rfl) (hpl := rfl) call_str_int sndStr T.b_str bb_str (n_cons (hs := rfl) (n_varV vs__law_act 2 rfl rfl) n_nil))) n_str) (n_callTy (hg := rfl) (he := rfl) (hpl := rfl) call_str_int sndStr T.b_str bb_str (n_cons (hs := rfl) (n_varV vs__law_act 3 rfl rfl) n_nil))) n_str) (n_callTy (hg := rfl) (he := rfl) (hpl := rfl) call_str_int sndStr T.b_str bb_str (n_cons (hs := rfl) (n_varV vs__law_act 4 rfl rfl) n_nil))) n_nil))) (n_cons (hs := rfl) (n_tup (n_cons (hs := rfl) (n_tup (n_cons (hs := rfl) n_str (n_cons (hs := rfl) (n_varV vs__law_act 1 rfl rfl) (n_cons (hs := rfl) (n_varV vs__law_act 2 rfl rfl) (n_cons (hs := rfl) (n_varV vs__law_act 3 rfl rfl) n_nil))))) (n_cons (hs := rfl) (n_bin opAdd sndAdd (n_bin opAdd sndAdd (n_bin opAdd sndAdd (n_bin opAdd sndAdd (n_varV vs__law_act 1 rfl rfl) n_str) (n_callTy (hg := rfl) (he := rfl) (hpl := rfl) call_str_int sndStr T.b_str bb_str (n_cons (hs := rfl) (n_varV vs__law_act 2 rfl rfl) n_nil))) n_str) (n_callTy (hg := rfl) (he := rfl) (hpl := rfl) call_str_int sndStr T.b_str bb_str (n_cons (hs := rfl) (n_varV vs__law_act 3 rfl rfl) n_nil))) n_nil))) (n_cons (hs := rfl) (n_tup (n_cons (hs := rfl) (n_tup (n_cons (hs := rfl) n_str (n_cons (hs := rfl) (n_varV vs__law_act 1 rfl rfl) n_nil))) (n_cons (hs := rfl) (n_bin opAdd sndAdd (n_varV vs__law_act 1 rfl rfl) n_str) n_nil))) (n_cons (hs := rfl) (n_tup (n_cons (hs := rfl) (n_tup (n_cons (hs := rfl) n_str (n_cons (hs := rfl) (n_varV vs__law_act 1 rfl rfl) n_nil))) (n_cons (hs := rfl) (n_bin opAdd sndAdd (n_varV vs__law_act 1 rfl rfl) n_str) n_nil))) (n_cons (hs := rfl) (n_tup (n_cons (hs := rfl) (n_tup (n_cons (hs := rfl) n_str (n_cons (hs := rfl) (n_varV vs__law_act 1 rfl rfl) n_nil))) (n_cons (hs := rfl) (n_bin opAdd sndAdd (n_varV vs__law_act 1 rfl rfl) n_str) n_nil))) (n_cons (hs := rfl) (n_tup (n_cons (hs := rfl) (n_tup (n_cons (hs := rfl) n_str (n_cons (hs := rfl) (n_varV vs__law_act 5 rfl rfl) n_nil))) (n_cons (hs := rfl) (n_bin opAdd sndAdd n_str (n_bm (hbase := rfl) (hfew := rfl) (hline := rfl) (hs := rfl) (hplain := rfl) PySem.F.plainAttrs_str PySem.F.slot_str_join PySem.F.type_str_join mt_join sndJoin n_str (n_cons (hs := rfl) (n_lc (hf := fun _ => rfl) (own := [("_law_n", 8)]) rfl sc__law_act.nd (blkOk_by (N := N__law_act) (sc := defScope st__law_act) (own := [("_law_n", 8)]) (by decide +kernel)) (by decide) (n_it (n_var (hN := rfl) 5)) (fun _ _ _ _ _ => (g_name (hi := rfl) 8 sc__law_act.nd)) (fun _ _ _ _ _ => n_noif) (fun _ _ _ _ _ => (n_bin opAdd sndAdd n_str (n_callTy (hg := rfl) (he := rfl) (hpl := rfl) call_str_int sndStr T.b_str bb_str (n_cons (hs := rfl) (n_var (hN := rfl) 8) n_nil))))) n_nil))) n_nil))) (n_cons (hs := rfl) (n_tup (n_cons (hs := rfl) (n_tup (n_cons (hs := rfl) n_str (n_cons (hs := rfl) (n_varV vs__law_act 2 rfl rfl) n_nil))) (n_cons (hs := rfl) (n_bin opAdd sndAdd n_str (n_callTy (hg := rfl) (he := rfl) (hpl := rfl) call_str_int sndStr T.b_str bb_str (n_cons (hs := rfl) (n_varV vs__law_act 2 rfl rfl) n_nil))) n_nil))) n_nil)))))))))) (g_name (hi := rfl) 6 sc__law_act.nd))
    (s_one (s_ret (n_get G.u1 (n_varV vs__law_act 6 rfl rfl) (n_call (hg := rfl) (he := rfl) (hpl := rfl) h__law_take G.room G.px rfl (n_cons (hs := rfl) (n_varV vs__law_act 0 rfl rfl) (n_cons (hs := rfl) n_int n_nil)) (hm := (nCons_len (nCons_len nNil_len)))) (fun _ _ => rfl))))))))))
theorem ok_line_of (T : Txt P K mg C) : FunN P w K mg base C 1 "line_of" 1 OW.m_line_of := n_defA T.d_line_of sc_line_of rfl fun fa cdv A outer s H E G =>
    (s_cons (s_if (n_cmpT (opEq G.u64) sndEq (n_get G.u1 (n_varV vs_line_of 0 rfl rfl) n_int (fun _ _ => rfl)) n_str (by rfl)) (s_one (s_ret (n_bm (hbase := rfl) (hfew := rfl) (hline := rfl) (hs := rfl) (hplain := rfl) PySem.F.plainAttrs_str PySem.F.slot_str_join PySem.F.type_str_join mt_join sndJoin n_str (n_cons (hs := rfl) (n_bin opAdd sndAdd (n_lst (n_cons (hs := rfl) n_str n_nil)) (n_lc (hf := fun _ => rfl) (own := [("number", 1)]) rfl sc_line_of.nd (blkOk_by (N := N_line_of) (sc := defScope st_line_of) (own := [("number", 1)]) (by decide +kernel)) (by decide) (n_it (n_get G.u1 (n_var (hN := rfl) 0) n_int (fun _ _ => rfl))) (fun _ _ _ _ _ => (g_name (hi := rfl) 1 sc_line_of.nd)) (fun _ _ _ _ _ => n_noif) (fun _ _ _ _ _ => (n_callTy (hg := rfl) (he := rfl) (hpl := rfl) call_str_int sndStr T.b_str bb_str (n_cons (hs := rfl) (n_var (hN := rfl) 1) n_nil))))) n_nil)))) s_nil)
    (s_cons (s_if (n_cmpT (opEq G.u64) sndEq (n_get G.u1 (n_varV vs_line_of 0 rfl rfl) n_int (fun _ _ => rfl)) n_str (by rfl)) (s_one (s_ret (n_bin opAdd sndAdd n_str (n_callTy (hg := rfl) (he := rfl) (hpl := rfl) call_str_int sndStr T.b_str bb_str (n_cons (hs := rfl) (n_get G.u1 (n_varV vs_line_of 0 rfl rfl) n_int (fun _ _ => rfl)) n_nil))))) s_nil)
    (s_cons (s_if (n_cmpT (opEq G.u64) sndEq (n_get G.u1 (n_varV vs_line_of 0 rfl rfl) n_int (fun _ _ => rfl)) n_str (by rfl)) (s_one (s_ret (n_bm (hbase := rfl) (hfew := rfl) (hline := rfl) (hs := rfl) (hplain := rfl) PySem.F.plainAttrs_str PySem.F.slot_str_join PySem.F.type_str_join mt_join sndJoin n_str (n_cons (hs := rfl) (n_bin opAdd sndAdd (n_lst (n_cons (hs := rfl) (n_get G.u1 (n_varV vs_line_of 0 rfl rfl) n_int (fun _ _ => rfl)) (n_cons (hs := rfl) (n_bin opAdd sndAdd (n_get G.u1 (n_get G.u1 (n_varV vs_line_of 0 rfl rfl) n_int (fun _ _ => rfl)) n_int (fun _ _ => rfl)) n_str) n_nil))) (n_lc (hf := fun _ => rfl) (own := [("number", 1)]) rfl sc_line_of.nd (blkOk_by (N := N_line_of) (sc := defScope st_line_of) (own := [("number", 1)]) (by decide +kernel)) (by decide) (n_it (n_cut (n_get G.u1 (n_var (hN := rfl) 0) n_int (fun _ _ => rfl)) (n_part n_int) n_noPart)) (fun _ _ _ _ _ => (g_name (hi := rfl) 1 sc_line_of.nd)) (fun _ _ _ _ _ => n_noif) (fun _ _ _ _ _ => (n_callTy (hg := rfl) (he := rfl) (hpl := rfl) call_str_int sndStr T.b_str bb_str (n_cons (hs := rfl) (n_var (hN := rfl) 1) n_nil))))) n_nil)))) s_nil)
    (s_one (s_ret (n_bm (hbase := rfl) (hfew := rfl) (hline := rfl) (hs := rfl) (hplain := rfl) PySem.F.plainAttrs_str PySem.F.slot_str_join PySem.F.type_str_join mt_join sndJoin n_str (n_cons (hs := rfl) (n_bin opAdd sndAdd (n_lst (n_cons (hs := rfl) (n_get G.u1 (n_varV vs_line_of 0 rfl rfl) n_int (fun _ _ => rfl)) (n_cons (hs := rfl) (n_bin opAdd sndAdd (n_get G.u1 (n_varV vs_line_of 0 rfl rfl) n_int (fun _ _ => rfl)) n_str) n_nil))) (n_lc (hf := fun _ => rfl) (own := [("number", 1)]) rfl sc_line_of.nd (blkOk_by (N := N_line_of) (sc := defScope st_line_of) (own := [("number", 1)]) (by decide +kernel)) (by decide) (n_it (n_cut (n_var (hN := rfl) 0) (n_part n_int) n_noPart)) (fun _ _ _ _ _ => (g_name (hi := rfl) 1 sc_line_of.nd)) (fun _ _ _ _ _ => n_noif) (fun _ _ _ _ _ => (n_callTy (hg := rfl) (he := rfl) (hpl := rfl) call_str_int sndStr T.b_str bb_str (n_cons (hs := rfl) (n_var (hN := rfl) 1) n_nil))))) n_nil)))))))
theorem ok_print_script (T : Txt P K mg C) (h_line_of : FunN P w K mg base C 1 "line_of" 1 OW.m_line_of) : FunN P w K mg base C 2 "print_script" 1 OW.m_print_script := n_defA T.d_print_script sc_print_script rfl fun fa cdv A outer s H E G =>
    (s_one (s_ret (n_bm (hbase := rfl) (hfew := rfl) (hline := rfl) (hs := rfl) (hplain := rfl) PySem.F.plainAttrs_str PySem.F.slot_str_join PySem.F.type_str_join mt_join sndJoin n_str (n_cons (hs := rfl) (n_lc (hf := fun _ => rfl) (own := [("act", 1)]) rfl sc_print_script.nd (blkOk_by (N := N_print_script) (sc := defScope st_print_script) (own := [("act", 1)]) (by decide +kernel)) (by decide) (n_it (n_var (hN := rfl) 0)) (fun _ _ _ _ _ => (g_name (hi := rfl) 1 sc_print_script.nd)) (fun _ _ _ _ _ => n_noif) (fun _ _ _ _ _ => (n_call (hg := rfl) (he := rfl) (hpl := rfl) h_line_of G.room px0 rfl (n_cons (hs := rfl) (n_var (hN := rfl) 1) n_nil) (hm := (nCons_len nNil_len))))) n_nil))))
theorem ok_number_of (T : Txt P K mg C) : FunN P w K mg base C 1 "number_of" 1 OW.m_number_of := n_defA T.d_number_of sc_number_of rfl fun fa cdv A outer s H E G =>
    (s_cons (s_if (PW.pt (n_orT (n_notT (n_chainT opLe sndOrd opLe sndOrd n_int (n_callB (hg := rfl) (he := rfl) (hpl := rfl) crLen sndLen T.b_len bb_len (n_cons (hs := rfl) (n_varV vs_number_of 0 rfl rfl) n_nil)) n_int)) (n_orT1 (n_notT (n_tru (he := fun _ => rfl) (n_callB (hg := rfl) (he := rfl) (hpl := rfl) (cr_all rfl) sndAll T.b_all bb_all (n_cons (hs := rfl) (n_lc (hf := fun _ => rfl) (own := [("char", 2)]) rfl sc_number_of.nd (blkOk_by (N := N_number_of) (sc := defScope st_number_of) (own := [("char", 2)]) (by decide +kernel)) (by decide) (n_it (n_var (hN := rfl) 0)) (fun _ _ _ _ _ => (g_name (hi := rfl) 2 sc_number_of.nd)) (fun _ _ _ _ _ => n_noif) (fun _ _ _ _ _ => (n_cmp (opIn G.u65) sndIn (n_var (hN := rfl) 2) (n_gc (hg := rfl) T.g_DIGITS) (by rfl)))) n_nil))))))) (s_one (s_ret n_non)) s_nil)
    (s_cons (s_if (PW.pt (n_andT (n_cmpT (opEq G.u64) sndEq (n_get G.u1 (n_varV vs_number_of 0 rfl rfl) n_int (fun _ _ => rfl)) n_str (by rfl)) (n_andT1 (n_cmpT opGt sndOrd (n_callB (hg := rfl) (he := rfl) (hpl := rfl) crLen sndLen T.b_len bb_len (n_cons (hs := rfl) (n_varV vs_number_of 0 rfl rfl) n_nil)) n_int (by rfl))))) (s_one (s_ret n_non)) s_nil)
    (s_cons (s_asg (h1 := rfl) (h2 := rfl) (h3 := rfl) (n_callTy (hg := rfl) (he := rfl) (hpl := rfl) crInt sndInt T.b_int bb_int (n_cons (hs := rfl) (n_varV vs_number_of 0 rfl rfl) n_nil)) (g_name (hi := rfl) 1 sc_number_of.nd))
    (s_one (s_ret (n_if (n_cmpT opLe sndOrd (n_varV vs_number_of 1 rfl rfl) (n_gc (hg := rfl) T.g_MAX_PART) (by rfl)) (n_varV vs_number_of 1 rfl rfl) n_non))))))
theorem ok_numbers_of (T : Txt P K mg C) (h_number_of : FunN P w K mg base C 1 "number_of" 1 OW.m_number_of) : FunN P w K mg base C 2 "numbers_of" 1 OW.m_numbers_of := n_defA T.d_numbers_of sc_numbers_of rfl fun fa cdv A outer s H E G =>
    (s_cons (s_setLc (hy := rfl) (hyl := rfl) (hsw := rfl) (hf := fun _ => rfl) (i := 1) (own := [("word", 2)]) rfl sc_numbers_of.nd (blkOk_by (N := N_numbers_of) (sc := defScope st_numbers_of) (own := [("word", 2)]) (by decide +kernel)) (by decide) (n_it (n_var (hN := rfl) 0)) (fun _ _ _ _ _ => (g_name (hi := rfl) 2 sc_numbers_of.nd)) (fun _ _ _ _ _ => n_noif) (fun _ _ _ _ _ => (n_call (hg := rfl) (he := rfl) (hpl := rfl) h_number_of G.room px0 rfl (n_cons (hs := rfl) (n_var (hN := rfl) 2) n_nil) (hm := (nCons_len nNil_len)))))
    (s_cons (s_if (n_tru (he := fun _ => rfl) (n_callB (hg := rfl) (he := rfl) (hpl := rfl) (cr_any rfl) sndAny T.b_any bb_any (n_cons (hs := rfl) (n_lc (hf := fun _ => rfl) (own := [("number", 3)]) rfl sc_numbers_of.nd (blkOk_by (N := N_numbers_of) (sc := defScope st_numbers_of) (own := [("number", 3)]) (by decide +kernel)) (by decide) (n_it (n_var (hN := rfl) 1)) (fun _ _ _ _ _ => (g_name (hi := rfl) 3 sc_numbers_of.nd)) (fun _ _ _ _ _ => n_noif) (fun _ _ _ _ _ => (n_cmp opIs sndIs (n_var (hN := rfl) 3) n_non (by rfl)))) n_nil))) (s_one (s_ret n_non)) s_nil)
    (s_one (s_ret (n_varV vs_numbers_of 1 rfl rfl)))))
theorem ok_is_name (T : Txt P K mg C) : FunN P w K mg base C 1 "is_name" 1 OW.m_is_name_1 := n_defA T.d_is_name sc_is_name_1 rfl fun fa cdv A outer s H E G =>
    (s_cons (s_if (PW.pt (n_orT (n_notT (n_chainT opLe sndOrd opLe sndOrd n_int (n_callB (hg := rfl) (he := rfl) (hpl := rfl) crLen sndLen T.b_len bb_len (n_cons (hs := rfl) (n_varV vs_is_name 0 rfl rfl) n_nil)) n_int)) (n_orT1 (n_cmpT (opNotIn G.u65) sndNotIn (n_get G.u1 (n_varV vs_is_name 0 rfl rfl) n_int (fun _ _ => rfl)) (n_gc (hg := rfl) T.g_SMALL) (by rfl))))) (s_one (s_ret n_bl)) s_nil)
    (s_one (s_ret (n_callB (hg := rfl) (he := rfl) (hpl := rfl) (cr_all rfl) sndAll T.b_all bb_all (n_cons (hs := rfl) (n_lc (hf := fun _ => rfl) (own := [("char", 1)]) rfl sc_is_name_1.nd (blkOk_by (N := N_is_name_1) (sc := defScope st_is_name_1) (own := [("char", 1)]) (by decide +kernel)) (by decide) (n_it (n_var (hN := rfl) 0)) (fun _ _ _ _ _ => (g_name (hi := rfl) 1 sc_is_name_1.nd)) (fun _ _ _ _ _ => n_noif) (fun _ _ _ _ _ => (n_or (n_cmp (opIn G.u65) sndIn (n_var (hN := rfl) 1) (n_gc (hg := rfl) T.g_SMALL) (by rfl)) (n_one (n_cmp (opIn G.u65) sndIn (n_var (hN := rfl) 1) (n_gc (hg := rfl) T.g_DIGITS) (by rfl)))))) n_nil)))))
theorem ok_player_act (T : Txt P K mg C) : FunN P w K mg base C 1 "player_act" 3 OW.m_player_act := n_defA T.d_player_act sc_player_act rfl fun fa cdv A outer s H E G =>
    (s_cons (s_if (PW.pt (n_andT (n_cmpT (opIn G.u65) sndIn (n_varV vs_player_act 1 rfl rfl) (n_gc (hg := rfl) T.g_PLAIN) (by rfl)) (n_andT1 (n_cmpT (opEq G.u64) sndEq (n_varV vs_player_act 2 rfl rfl) (n_lst n_nil) (by rfl))))) (s_one (s_ret (n_tup (n_cons (hs := rfl) (n_cut (n_varV vs_player_act 1 rfl rfl) n_noPart (n_part (n_un un_neg sndNeg n_int))) (n_cons (hs := rfl) (n_varV vs_player_act 0 rfl rfl) n_nil))))) s_nil)
    (s_cons (s_if (PW.pt (n_andT (n_cmpT (opEq G.u64) sndEq (n_varV vs_player_act 1 rfl rfl) n_str (by rfl)) (n_andT1 (n_cmpT (opEq G.u64) sndEq (n_callB (hg := rfl) (he := rfl) (hpl := rfl) crLen sndLen T.b_len bb_len (n_cons (hs := rfl) (n_varV vs_player_act 2 rfl rfl) n_nil)) n_int (by rfl))))) (s_one (s_ret (n_tup (n_cons (hs := rfl) n_str (n_cons (hs := rfl) (n_varV vs_player_act 0 rfl rfl) (n_cons (hs := rfl) (n_tup (n_cons (hs := rfl) n_str (n_cons (hs := rfl) (n_get G.u1 (n_varV vs_player_act 2 rfl rfl) n_int (fun _ _ => rfl)) (n_cons (hs := rfl) (n_get G.u1 (n_varV vs_player_act 2 rfl rfl) n_int (fun _ _ => rfl)) n_nil)))) n_nil)))))) s_nil)
    (s_cons (s_if (PW.pt (n_andT (n_cmpT (opEq G.u64) sndEq (n_varV vs_player_act 1 rfl rfl) n_str (by rfl)) (n_andT1 (n_cmpT (opEq G.u64) sndEq (n_varV vs_player_act 2 rfl rfl) (n_lst n_nil) (by rfl))))) (s_one (s_ret (n_tup (n_cons (hs := rfl) n_str (n_cons (hs := rfl) (n_varV vs_player_act 0 rfl rfl) (n_cons (hs := rfl) (n_tup (n_cons (hs := rfl) n_str n_nil)) n_nil)))))) s_nil)
    (s_cons (s_if (PW.pt (n_andT (n_cmpT (opEq G.u64) sndEq (n_varV vs_player_act 1 rfl rfl) n_str (by rfl)) (n_andT1 (n_cmpT (opEq G.u64) sndEq (n_callB (hg := rfl) (he := rfl) (hpl := rfl) crLen sndLen T.b_len bb_len (n_cons (hs := rfl) (n_varV vs_player_act 2 rfl rfl) n_nil)) n_int (by rfl))))) (s_one (s_ret (n_tup (n_cons (hs := rfl) n_str (n_cons (hs := rfl) (n_varV vs_player_act 0 rfl rfl) (n_cons (hs := rfl) (n_get G.u1 (n_varV vs_player_act 2 rfl rfl) n_int (fun _ _ => rfl)) (n_cons (hs := rfl) (n_get G.u1 (n_varV vs_player_act 2 rfl rfl) n_int (fun _ _ => rfl)) (n_cons (hs := rfl) (n_get G.u1 (n_varV vs_player_act 2 rfl rfl) n_int (fun _ _ => rfl)) n_nil)))))))) s_nil)
    (s_cons (s_if (PW.pt (n_andT (n_cmpT (opEq G.u64) sndEq (n_varV vs_player_act 1 rfl rfl) n_str (by rfl)) (n_andT1 (n_cmpT (opEq G.u64) sndEq (n_callB (hg := rfl) (he := rfl) (hpl := rfl) crLen sndLen T.b_len bb_len (n_cons (hs := rfl) (n_varV vs_player_act 2 rfl rfl) n_nil)) n_int (by rfl))))) (s_one (s_ret (n_tup (n_cons (hs := rfl) n_str (n_cons (hs := rfl) (n_varV vs_player_act 0 rfl rfl) (n_cons (hs := rfl) (n_get G.u1 (n_varV vs_player_act 2 rfl rfl) n_int (fun _ _ => rfl)) (n_cons (hs := rfl) (n_get G.u1 (n_varV vs_player_act 2 rfl rfl) n_int (fun _ _ => rfl)) n_nil))))))) s_nil)
    (s_one (s_ret n_non)))))))
theorem ok_act_of (T : Txt P K mg C) (h_numbers_of : FunN P w K mg base C 2 "numbers_of" 1 OW.m_numbers_of) (h_number_of : FunN P w K mg base C 1 "number_of" 1 OW.m_number_of) (h_is_name : FunN P w K mg base C 1 "is_name" 1 OW.m_is_name_1) (h_player_act : FunN P w K mg base C 1 "player_act" 3 OW.m_player_act) : FunN P w K mg base C 3 "act_of" 1 OW.m_act_of := n_defA T.d_act_of sc_act_of rfl fun fa cdv A outer s H E G =>
    (s_cons (s_asg (h1 := rfl) (h2 := rfl) (h3 := rfl) (n_bm (hbase := rfl) (hfew := rfl) (hline := rfl) (hs := rfl) (hplain := rfl) PySem.F.plainAttrs_str PySem.F.slot_str_split PySem.F.type_str_split mt_split sndSplit (n_varV vs_act_of 0 rfl rfl) (n_cons (hs := rfl) n_str n_nil)) (g_name (hi := rfl) 1 sc_act_of.nd))
    (s_cons (s_if (n_cmpT (opEq G.u64) sndEq (n_get G.u1 (n_varV vs_act_of 1 rfl rfl) n_int (fun _ _ => rfl)) n_str (by rfl)) (s_cons (s_asg (h1 := rfl) (h2 := rfl) (h3 := rfl) (n_call (hg := rfl) (he := rfl) (hpl := rfl) h_numbers_of G.room G.px rfl (n_cons (hs := rfl) (n_cut (n_varV vs_act_of 1 rfl rfl) (n_part n_int) n_noPart) n_nil) (hm := (nCons_len nNil_len))) (g_name (hi := rfl) 2 sc_act_of.nd))
    (s_one (s_if (n_cmpT opIsNot sndIsNot (n_varV vs_act_of 2 rfl rfl) n_non (by rfl)) (s_one (s_ret (n_tup (n_cons (hs := rfl) n_str (n_cons (hs := rfl) (n_callTy (hg := rfl) (he := rfl) (hpl := rfl) call_tuple_of sndTuple T.b_tuple bb_tuple (n_cons (hs := rfl) (n_varV vs_act_of 2 rfl rfl) n_nil)) n_nil))))) s_nil))) s_nil)
    (s_cons (s_if (PW.pt (n_andT (n_cmpT (opEq G.u64) sndEq (n_get G.u1 (n_varV vs_act_of 1 rfl rfl) n_int (fun _ _ => rfl)) n_str (by rfl)) (n_andT (n_cmpT (opEq G.u64) sndEq (n_callB (hg := rfl) (he := rfl) (hpl := rfl) crLen sndLen T.b_len bb_len (n_cons (hs := rfl) (n_varV vs_act_of 1 rfl rfl) n_nil)) n_int (by rfl)) (n_andT1 (n_cmpT opIsNot sndIsNot (n_call (hg := rfl) (he := rfl) (hpl := rfl) h_number_of G.room G.px rfl (n_cons (hs := rfl) (n_get G.u1 (n_varV vs_act_of 1 rfl rfl) n_int (fun _ _ => rfl)) n_nil) (hm := (nCons_len nNil_len))) n_non (by rfl)))))) (s_one (s_ret (n_tup (n_cons (hs := rfl) n_str (n_cons (hs := rfl) (n_call (hg := rfl) (he := rfl) (hpl := rfl) h_number_of G.room G.px rfl (n_cons (hs := rfl) (n_get G.u1 (n_varV vs_act_of 1 rfl rfl) n_int (fun _ _ => rfl)) n_nil) (hm := (nCons_len nNil_len))) n_nil))))) s_nil)
    (s_cons (s_if (PW.pt (n_orT (n_cmpT opLt sndOrd (n_callB (hg := rfl) (he := rfl) (hpl := rfl) crLen sndLen T.b_len bb_len (n_cons (hs := rfl) (n_varV vs_act_of 1 rfl rfl) n_nil)) n_int (by rfl)) (n_orT1 (n_notT (n_tru (he := fun _ => rfl) (n_call (hg := rfl) (he := rfl) (hpl := rfl) h_is_name G.room G.px rfl (n_cons (hs := rfl) (n_get G.u1 (n_varV vs_act_of 1 rfl rfl) n_int (fun _ _ => rfl)) n_nil) (hm := (nCons_len nNil_len)))))))) (s_one (s_ret n_non)) s_nil)
    (s_cons (s_asg (h1 := rfl) (h2 := rfl) (h3 := rfl) (n_call (hg := rfl) (he := rfl) (hpl := rfl) h_numbers_of G.room G.px rfl (n_cons (hs := rfl) (n_cut (n_varV vs_act_of 1 rfl rfl) (n_part n_int) n_noPart) n_nil) (hm := (nCons_len nNil_len))) (g_name (hi := rfl) 2 sc_act_of.nd))
    (s_cons (s_if (n_cmpT opIs sndIs (n_varV vs_act_of 2 rfl rfl) n_non (by rfl)) (s_one (s_ret n_non)) s_nil)
    (s_one (s_ret (n_call (hg := rfl) (he := rfl) (hpl := rfl) h_player_act G.room G.px rfl (n_cons (hs := rfl) (n_get G.u1 (n_varV vs_act_of 1 rfl rfl) n_int (fun _ _ => rfl)) (n_cons (hs := rfl) (n_get G.u1 (n_varV vs_act_of 1 rfl rfl) n_int (fun _ _ => rfl)) (n_cons (hs := rfl) (n_varV vs_act_of 2 rfl rfl) n_nil))) (hm := (nCons_len (nCons_len (nCons_len nNil_len)))))))))))))
theorem ok_read_script (T : Txt P K mg C) (h_act_of : FunN P w K mg base C 3 "act_of" 1 OW.m_act_of) : FunN P w K mg base C 4 "read_script" 1 OW.m_read_script := n_defA T.d_read_script sc_read_script rfl fun fa cdv A outer s H E G =>
    (s_cons (s_if (n_cmpT (opEq G.u64) sndEq (n_varV vs_read_script 0 rfl rfl) n_str (by rfl)) (s_one (s_ret (n_tup n_nil))) s_nil)
    (s_cons (s_asg (h1 := rfl) (h2 := rfl) (h3 := rfl) (n_bm (hbase := rfl) (hfew := rfl) (hline := rfl) (hs := rfl) (hplain := rfl) PySem.F.plainAttrs_str PySem.F.slot_str_split PySem.F.type_str_split mt_split sndSplit (n_varV vs_read_script 0 rfl rfl) (n_cons (hs := rfl) n_str n_nil)) (g_name (hi := rfl) 1 sc_read_script.nd))
    (s_cons (s_asg (h1 := rfl) (h2 := rfl) (h3 := rfl) (n_lst n_nil) (g_name (hi := rfl) 2 sc_read_script.nd))
    (s_cons (s_for (hf := fun _ => rfl) G.po rfl (n_range1 (hg := rfl) (hs := rfl) T.b_range (n_cons (hs := rfl) (n_callB (hg := rfl) (he := rfl) (hpl := rfl) crLen sndLen T.b_len bb_len (n_cons (hs := rfl) (n_varV vs_read_script 1 rfl rfl) n_nil)) n_nil) (hl := (nCons_len nNil_len))) (g_name (hi := rfl) 3 sc_read_script.nd) (s_cons (s_asg (h1 := rfl) (h2 := rfl) (h3 := rfl) (n_call (hg := rfl) (he := rfl) (hpl := rfl) h_act_of G.room G.px rfl (n_cons (hs := rfl) (n_get G.u1 (n_varV vs_read_script 1 rfl rfl) (n_varV vs_read_script 3 rfl rfl) (fun _ _ => rfl)) n_nil) (hm := (nCons_len nNil_len))) (g_name (hi := rfl) 4 sc_read_script.nd))
    (s_cons (s_if (n_cmpT opIs sndIs (n_varV vs_read_script 4 rfl rfl) n_non (by rfl)) (s_one (s_raiseV (hc := rfl) (hg := rfl) (he := rfl) (hpl := rfl) G T.v_BadText T.nm_line (n_bin opAdd sndAdd (n_varV vs_read_script 3 rfl rfl) n_int))) s_nil)
    (s_one (s_expr (hs := rfl) (n_bm (hbase := rfl) (hfew := rfl) (hline := rfl) (hs := rfl) (hplain := rfl) PySem.F.plainAttrs_list PySem.F.slot_list_append PySem.F.type_list_append mt_append sndAppend (n_varV vs_read_script 2 rfl rfl) (n_cons (hs := rfl) (n_varV vs_read_script 4 rfl rfl) n_nil)))))))
    (s_one (s_ret (n_callTy (hg := rfl) (he := rfl) (hpl := rfl) call_tuple_of sndTuple T.b_tuple bb_tuple (n_cons (hs := rfl) (n_varV vs_read_script 2 rfl rfl) n_nil))))))))
theorem ok__law_wrong (T : Txt P K mg C) (h__law_take : FunN P w K mg base C 1 "_law_take" 2 OW.m__law_take) : FunN P w K mg base C 2 "_law_wrong" 2 OW.m__law_wrong_1 := n_defA T.d__law_wrong sc__law_wrong_1 rfl fun fa cdv A outer s H E G =>
    (s_cons (s_asg (h1 := rfl) (h2 := rfl) (h3 := rfl) (n_call (hg := rfl) (he := rfl) (hpl := rfl) h__law_take G.room G.px rfl (n_cons (hs := rfl) (n_varV vs__law_wrong 0 rfl rfl) (n_cons (hs := rfl) n_int n_nil)) (hm := (nCons_len (nCons_len nNil_len)))) (g_name (hi := rfl) 2 sc__law_wrong_1.nd))
    (s_cons (s_asg (h1 := rfl) (h2 := rfl) (h3 := rfl) (n_bm (hbase := rfl) (hfew := rfl) (hline := rfl) (hs := rfl) (hplain := rfl) PySem.F.plainAttrs_str PySem.F.slot_str_split PySem.F.type_str_split mt_split sndSplit (n_varV vs__law_wrong 1 rfl rfl) (n_cons (hs := rfl) n_str n_nil)) (g_name (hi := rfl) 3 sc__law_wrong_1.nd))
    (s_cons (s_if (n_cmpT (opEq G.u64) sndEq (n_varV vs__law_wrong 2 rfl rfl) n_int (by rfl)) (s_one (s_ret (n_bin opAdd sndAdd (n_varV vs__law_wrong 1 rfl rfl) n_str))) s_nil)
    (s_cons (s_if (n_cmpT (opEq G.u64) sndEq (n_varV vs__law_wrong 2 rfl rfl) n_int (by rfl)) (s_one (s_ret (n_bin opAdd sndAdd n_str (n_varV vs__law_wrong 1 rfl rfl)))) s_nil)
    (s_cons (s_if (n_cmpT (opEq G.u64) sndEq (n_varV vs__law_wrong 2 rfl rfl) n_int (by rfl)) (s_one (s_ret (n_ifRepl1 (hst := rfl) (hbase := rfl) (hline := rfl) opGt sndOrd (n_callB (hg := rfl) (he := rfl) (hpl := rfl) crLen sndLen T.b_len bb_len (n_cons (hs := rfl) (n_varV vs__law_wrong 3 rfl rfl) n_nil)) (by rfl) (n_varV vs__law_wrong 1 rfl rfl) (n_bin opAdd sndAdd (n_varV vs__law_wrong 1 rfl rfl) n_str)))) s_nil)
    (s_cons (s_if (n_cmpT (opEq G.u64) sndEq (n_varV vs__law_wrong 2 rfl rfl) n_int (by rfl)) (s_one (s_ret (n_bin opAdd sndAdd (n_bin opAdd sndAdd n_str (n_callTy (hg := rfl) (he := rfl) (hpl := rfl) call_str_int sndStr T.b_str bb_str (n_cons (hs := rfl) (n_call (hg := rfl) (he := rfl) (hpl := rfl) h__law_take G.room G.px rfl (n_cons (hs := rfl) (n_varV vs__law_wrong 0 rfl rfl) (n_cons (hs := rfl) n_int n_nil)) (hm := (nCons_len (nCons_len nNil_len)))) n_nil))) n_str))) s_nil)
    (s_cons (s_if (n_cmpT (opEq G.u64) sndEq (n_varV vs__law_wrong 2 rfl rfl) n_int (by rfl)) (s_one (s_ret n_str)) s_nil)
    (s_cons (s_if (n_cmpT (opEq G.u64) sndEq (n_varV vs__law_wrong 2 rfl rfl) n_int (by rfl)) (s_one (s_ret (n_get G.u1 (n_lst (n_cons (hs := rfl) n_str (n_cons (hs := rfl) n_str (n_cons (hs := rfl) n_str (n_cons (hs := rfl) n_str (n_cons (hs := rfl) n_str (n_cons (hs := rfl) n_str n_nil))))))) (n_call (hg := rfl) (he := rfl) (hpl := rfl) h__law_take G.room G.px rfl (n_cons (hs := rfl) (n_varV vs__law_wrong 0 rfl rfl) (n_cons (hs := rfl) n_int n_nil)) (hm := (nCons_len (nCons_len nNil_len)))) (fun _ _ => rfl)))) s_nil)
    (s_cons (s_if (n_cmpT (opEq G.u64) sndEq (n_varV vs__law_wrong 2 rfl rfl) n_int (by rfl)) (s_one (s_ret (n_get G.u1 (n_lst (n_cons (hs := rfl) n_str (n_cons (hs := rfl) n_str (n_cons (hs := rfl) n_str (n_cons (hs := rfl) n_str (n_cons (hs := rfl) n_str (n_cons (hs := rfl) n_str n_nil))))))) (n_call (hg := rfl) (he := rfl) (hpl := rfl) h__law_take G.room G.px rfl (n_cons (hs := rfl) (n_varV vs__law_wrong 0 rfl rfl) (n_cons (hs := rfl) n_int n_nil)) (hm := (nCons_len (nCons_len nNil_len)))) (fun _ _ => rfl)))) s_nil)
    (s_cons (s_if (n_cmpT (opEq G.u64) sndEq (n_varV vs__law_wrong 2 rfl rfl) n_int (by rfl)) (s_one (s_ret (n_get G.u1 (n_lst (n_cons (hs := rfl) n_str (n_cons (hs := rfl) n_str (n_cons (hs := rfl) n_str (n_cons (hs := rfl) n_str (n_cons (hs := rfl) n_str (n_cons (hs := rfl) n_str n_nil))))))) (n_call (hg := rfl) (he := rfl) (hpl := rfl) h__law_take G.room G.px rfl (n_cons (hs := rfl) (n_varV vs__law_wrong 0 rfl rfl) (n_cons (hs := rfl) n_int n_nil)) (hm := (nCons_len (nCons_len nNil_len)))) (fun _ _ => rfl)))) s_nil)
    (s_one (s_ret n_str))))))))))))
theorem ok_law (T : Txt P K mg C) (h__law_draws : FunN P w K mg base C 3 "_law_draws" 2 OW.m__law_draws) (h__law_take : FunN P w K mg base C 1 "_law_take" 2 OW.m__law_take) (h__law_act : FunN P w K mg base C 3 "_law_act" 1 OW.m__law_act) (h_print_script : FunN P w K mg base C 2 "print_script" 1 OW.m_print_script) (h_read_script : FunN P w K mg base C 4 "read_script" 1 OW.m_read_script) (h__law_wrong : FunN P w K mg base C 2 "_law_wrong" 2 OW.m__law_wrong_1) {f : Addr} {fd : FuncData} (F : L2.Fun K "law" "law" st_law f fd) : FnOk P w K mg base (L2.CX P w) 5 f fd P_law (spN K C 1 m_law) := n_fun F sc_law rfl fun cdv A outer s H E G =>
    (s_cons (s_asg (n_call h__law_draws G.room G.px rfl (n_cons (n_var 0) (n_cons n_int n_nil)) (hm := (nCons_len (nCons_len nNil_len)))) (g_name 1 sc_law.nd))
    (s_cons (s_setLc (i := 2) (own := [("_law_k", 9)]) rfl sc_law.nd (blkOk_by (N := N_law) (sc := defScope st_law) (own := [("_law_k", 9)]) (by decide +kernel)) (by decide) (n_range1 T.b_range (n_cons (n_call h__law_take G.room G.px rfl (n_cons (n_var 1) (n_cons n_int n_nil)) (hm := (nCons_len (nCons_len nNil_len)))) n_nil) (hl := (nCons_len nNil_len))) (fun _ _ _ _ _ => (g_name 9 sc_law.nd)) (fun _ _ _ _ _ => n_noif) (fun _ _ _ _ _ => (n_call h__law_act G.room px0 rfl (n_cons (n_var 1) n_nil) (hm := (nCons_len nNil_len)))))
    (s_cons (s_asg (n_callTy call_tuple_of sndTuple T.b_tuple bb_tuple (n_cons (n_lc (own := [("_law_row", 10)]) rfl sc_law.nd (blkOk_by (N := N_law) (sc := defScope st_law) (own := [("_law_row", 10)]) (by decide +kernel)) (by decide) (n_it (n_var 2)) (fun _ _ _ _ _ => (g_name 10 sc_law.nd)) (fun _ _ _ _ _ => n_noif) (fun _ _ _ _ _ => (n_get G.u1 (n_var 10) n_int (fun _ _ => rfl)))) n_nil)) (g_name 3 sc_law.nd))
    (s_cons (s_asg (n_bm PySem.F.plainAttrs_str PySem.F.slot_str_join PySem.F.type_str_join mt_join sndJoin n_str (n_cons (n_lc (own := [("_law_row", 10)]) rfl sc_law.nd (blkOk_by (N := N_law) (sc := defScope st_law) (own := [("_law_row", 10)]) (by decide +kernel)) (by decide) (n_it (n_var 2)) (fun _ _ _ _ _ => (g_name 10 sc_law.nd)) (fun _ _ _ _ _ => n_noif) (fun _ _ _ _ _ => (n_get G.u1 (n_var 10) n_int (fun _ _ => rfl)))) n_nil)) (g_name 4 sc_law.nd))
    (s_cons (s_if (PW.pt (n_orT (n_cmpT (opNe G.u64) sndNe (n_call h_print_script G.room G.px rfl (n_cons (n_var 3) n_nil) (hm := (nCons_len nNil_len))) (n_var 4) (by rfl)) (n_orT (n_cmpT (opNe G.u64) sndNe (n_call h_read_script G.room G.px rfl (n_cons (n_var 4) n_nil) (hm := (nCons_len nNil_len))) (n_var 3) (by rfl)) (n_orT1 (n_cmpT (opNe G.u64) sndNe (n_call h_read_script G.room G.px rfl (n_cons n_str n_nil) (hm := (nCons_len nNil_len))) (n_tup n_nil) (by rfl)))))) (s_one (s_ret n_bl)) s_nil)
    (s_cons (s_asg (n_call h__law_take G.room G.px rfl (n_cons (n_var 1) (n_cons (n_bin opAdd sndAdd (n_callB crLen sndLen T.b_len bb_len (n_cons (n_var 2) n_nil)) n_int) n_nil)) (hm := (nCons_len (nCons_len nNil_len)))) (g_name 5 sc_law.nd))
    (s_cons (s_setLc (i := 6) (own := [("_law_row", 10)]) rfl sc_law.nd (blkOk_by (N := N_law) (sc := defScope st_law) (own := [("_law_row", 10)]) (by decide +kernel)) (by decide) (n_it (n_var 2)) (fun _ _ _ _ _ => (g_name 10 sc_law.nd)) (fun _ _ _ _ _ => n_noif) (fun _ _ _ _ _ => (n_get G.u1 (n_var 10) n_int (fun _ _ => rfl))))
    (s_cons (s_asg (n_call h__law_wrong G.room G.px rfl (n_cons (n_var 1) (n_cons (n_get G.u1 (n_bin opAdd sndAdd (n_var 6) (n_lst (n_cons n_str n_nil))) (n_var 5) (fun _ _ => rfl)) n_nil)) (hm := (nCons_len (nCons_len nNil_len)))) (g_name 7 sc_law.nd))
    (s_cons (s_asg (n_bin opAdd sndAdd (n_bin opAdd sndAdd (n_cut (n_var 6) n_noPart (n_part (n_var 5))) (n_lst (n_cons (n_var 7) n_nil))) (n_cut (n_var 6) (n_part (n_var 5)) n_noPart)) (g_name 6 sc_law.nd))
    (s_cons (s_if (PW.pt (n_andT (n_cmpT (opEq G.u64) sndEq (n_callB crLen sndLen T.b_len bb_len (n_cons (n_var 6) n_nil)) n_int (by rfl)) (n_andT1 (n_cmpT (opEq G.u64) sndEq (n_var 7) n_str (by rfl))))) (s_one (s_ret n_bl)) s_nil)
    (s_cons (s_tryLE (i := 8) (j := 5) G T.w_BadText T.nm_line T.b_isinstance sc_law.nd rfl rfl (fun W1 pn1 xe1 G => (s_one (s_expr (n_call h_read_script G.room G.px rfl (n_cons (n_bm PySem.F.plainAttrs_str PySem.F.slot_str_join PySem.F.type_str_join mt_join sndJoin n_str (n_cons (n_var 6) n_nil)) n_nil) (hm := (nCons_len nNil_len)))))))
    (s_one (s_ret n_bl)))))))))))))
theorem ok_all (T : Txt P K mg C) {f : Addr} {fd : FuncData} (F : L2.Fun K "law" "law" st_law f fd) : FnOk P w K mg base (L2.CX P w) 5 f fd P_law (spN K C 1 m_law) := by
  have h__law_mix := ok__law_mix (P := P) (w := w) (base := base) T
  have h__law_numbers := ok__law_numbers (P := P) (w := w) (base := base) T h__law_mix
  have h__law_draws := ok__law_draws (P := P) (w := w) (base := base) T h__law_numbers
  have h__law_take := ok__law_take (P := P) (w := w) (base := base) T
  have h__law_name := ok__law_name (P := P) (w := w) (base := base) T h__law_take
  have h__law_number := ok__law_number (P := P) (w := w) (base := base) T h__law_take
  have h__law_act := ok__law_act (P := P) (w := w) (base := base) T h__law_name h__law_number h__law_take
  have h_line_of := ok_line_of (P := P) (w := w) (base := base) T
  have h_print_script := ok_print_script (P := P) (w := w) (base := base) T h_line_of
  have h_number_of := ok_number_of (P := P) (w := w) (base := base) T
  have h_numbers_of := ok_numbers_of (P := P) (w := w) (base := base) T h_number_of
  have h_is_name := ok_is_name (P := P) (w := w) (base := base) T
  have h_player_act := ok_player_act (P := P) (w := w) (base := base) T
  have h_act_of := ok_act_of (P := P) (w := w) (base := base) T h_numbers_of h_number_of h_is_name h_player_act
  have h_read_script := ok_read_script (P := P) (w := w) (base := base) T h_act_of
  have h__law_wrong := ok__law_wrong (P := P) (w := w) (base := base) T h__law_take
  exact ok_law (P := P) (w := w) (base := base) T h__law_draws h__law_take h__law_act h_print_script h_read_script h__law_wrong F
end
end K80

set_option Elab.async false
set_option linter.all false
set_option maxRecDepth 100000
set_option maxHeartbeats 4000000
namespace K80
open OW NY PySem PySem.Spec PyProof.Rows L2
theorem all_mk {l : PySem.W.OpenLaw} {q : Program} {loose : List Str} {mean : ExcName → Option Value} {w : World} {K : PySem.W.Frag} {h : Heap} {mg mb : Str → Option Value} {fa : Addr} (X : K.In h) (TP : Top q (PySem.W.looseW q loose) mean mg mb h) (G : h.Ns mainGlobals mg) (hfa : mg "law" = some (.ref fa))
    {f__law_mix : Addr} {od__law_mix an__law_mix : Option Addr} {sl__law_mix : Array (Option Value)} {oc__law_mix kV__law_mix dc__law_mix pm__law_mix cd__law_mix ct__law_mix : Value}
    {f__law_numbers : Addr} {od__law_numbers an__law_numbers : Option Addr} {sl__law_numbers : Array (Option Value)} {oc__law_numbers kV__law_numbers dc__law_numbers pm__law_numbers cd__law_numbers ct__law_numbers : Value}
    {f__law_draws : Addr} {od__law_draws an__law_draws : Option Addr} {sl__law_draws : Array (Option Value)} {oc__law_draws kV__law_draws dc__law_draws pm__law_draws cd__law_draws ct__law_draws : Value}
    {f__law_take : Addr} {od__law_take an__law_take : Option Addr} {sl__law_take : Array (Option Value)} {oc__law_take kV__law_take dc__law_take pm__law_take cd__law_take ct__law_take : Value}
    {f__law_name_1 : Addr} {od__law_name_1 an__law_name_1 : Option Addr} {sl__law_name_1 : Array (Option Value)} {oc__law_name_1 kV__law_name_1 dc__law_name_1 pm__law_name_1 cd__law_name_1 ct__law_name_1 : Value}
    {f__law_number_1 : Addr} {od__law_number_1 an__law_number_1 : Option Addr} {sl__law_number_1 : Array (Option Value)} {oc__law_number_1 kV__law_number_1 dc__law_number_1 pm__law_number_1 cd__law_number_1 ct__law_number_1 : Value}
    {f__law_act : Addr} {od__law_act an__law_act : Option Addr} {sl__law_act : Array (Option Value)} {oc__law_act kV__law_act dc__law_act pm__law_act cd__law_act ct__law_act : Value}
    {f_line_of : Addr} {od_line_of an_line_of : Option Addr} {sl_line_of : Array (Option Value)} {oc_line_of kV_line_of dc_line_of pm_line_of cd_line_of ct_line_of : Value}
    {f_print_script : Addr} {od_print_script an_print_script : Option Addr} {sl_print_script : Array (Option Value)} {oc_print_script kV_print_script dc_print_script pm_print_script cd_print_script ct_print_script : Value}
    {f_number_of : Addr} {od_number_of an_number_of : Option Addr} {sl_number_of : Array (Option Value)} {oc_number_of kV_number_of dc_number_of pm_number_of cd_number_of ct_number_of : Value}
    {f_numbers_of : Addr} {od_numbers_of an_numbers_of : Option Addr} {sl_numbers_of : Array (Option Value)} {oc_numbers_of kV_numbers_of dc_numbers_of pm_numbers_of cd_numbers_of ct_numbers_of : Value}
    {f_is_name_1 : Addr} {od_is_name_1 an_is_name_1 : Option Addr} {sl_is_name_1 : Array (Option Value)} {oc_is_name_1 kV_is_name_1 dc_is_name_1 pm_is_name_1 cd_is_name_1 ct_is_name_1 : Value}
    {f_player_act : Addr} {od_player_act an_player_act : Option Addr} {sl_player_act : Array (Option Value)} {oc_player_act kV_player_act dc_player_act pm_player_act cd_player_act ct_player_act : Value}
    {f_act_of : Addr} {od_act_of an_act_of : Option Addr} {sl_act_of : Array (Option Value)} {oc_act_of kV_act_of dc_act_of pm_act_of cd_act_of ct_act_of : Value}
    {f_read_script : Addr} {od_read_script an_read_script : Option Addr} {sl_read_script : Array (Option Value)} {oc_read_script kV_read_script dc_read_script pm_read_script cd_read_script ct_read_script : Value}
    {f__law_wrong_1 : Addr} {od__law_wrong_1 an__law_wrong_1 : Option Addr} {sl__law_wrong_1 : Array (Option Value)} {oc__law_wrong_1 kV__law_wrong_1 dc__law_wrong_1 pm__law_wrong_1 cd__law_wrong_1 ct__law_wrong_1 : Value}
    {f_law : Addr} {od_law an_law : Option Addr} {sl_law : Array (Option Value)} {oc_law kV_law dc_law pm_law cd_law ct_law : Value}
    {Y_WatchError : Addr}
    {X_BadText : Addr}
    {vnm vq : Str} {vN : Addr} {vbs : List Value} {vsn : List Str} {vsub : List Value} {vab : Bool} {vcol : Option Bool} {vdd : Option Addr} {vm0 vm1 vm2 vm3 vm5 : Option Value} {vfI vcda vcc : Addr} {voc vdoc vpm vct vcl vccl : Value} {vod van vcld vcdd : Option Addr} {vosl vcsl vccs : Array (Option Value)} {vvs : Array Value} {vfile : Str} {vtf : Tok}
    {t_MAX_PART : Tok}
    {t_SMALL : Tok}
    {t_DIGITS : Tok}
    {q_PLAIN : Addr} {qu_PLAIN : List Value} {qn_PLAIN : Nat} {qs_PLAIN : Array (Option Value)}
    (a__law_mix : PySem.W.nsIn K mainGlobals "_law_mix" = some (some (.ref f__law_mix)))
    (l__law_mix : K.lookup f__law_mix = some ⟨oc__law_mix, od__law_mix, .func (PySem.W.fnOf "_law_mix" "_law_mix" (defArgs st__law_mix) (defBody st__law_mix) (defScope st__law_mix) .none kV__law_mix dc__law_mix pm__law_mix an__law_mix cd__law_mix ct__law_mix), sl__law_mix⟩)
    (c__law_mix : PySem.W.codeIn K cd__law_mix "_law_mix" = true)
    (k__law_mix : PySem.W.keepIn K (.ref f__law_mix) = true)
    (a__law_numbers : PySem.W.nsIn K mainGlobals "_law_numbers" = some (some (.ref f__law_numbers)))
    (l__law_numbers : K.lookup f__law_numbers = some ⟨oc__law_numbers, od__law_numbers, .func (PySem.W.fnOf "_law_numbers" "_law_numbers" (defArgs st__law_numbers) (defBody st__law_numbers) (defScope st__law_numbers) .none kV__law_numbers dc__law_numbers pm__law_numbers an__law_numbers cd__law_numbers ct__law_numbers), sl__law_numbers⟩)
    (c__law_numbers : PySem.W.codeIn K cd__law_numbers "_law_numbers" = true)
    (k__law_numbers : PySem.W.keepIn K (.ref f__law_numbers) = true)
    (a__law_draws : PySem.W.nsIn K mainGlobals "_law_draws" = some (some (.ref f__law_draws)))
    (l__law_draws : K.lookup f__law_draws = some ⟨oc__law_draws, od__law_draws, .func (PySem.W.fnOf "_law_draws" "_law_draws" (defArgs st__law_draws) (defBody st__law_draws) (defScope st__law_draws) .none kV__law_draws dc__law_draws pm__law_draws an__law_draws cd__law_draws ct__law_draws), sl__law_draws⟩)
    (c__law_draws : PySem.W.codeIn K cd__law_draws "_law_draws" = true)
    (k__law_draws : PySem.W.keepIn K (.ref f__law_draws) = true)
    (a__law_take : PySem.W.nsIn K mainGlobals "_law_take" = some (some (.ref f__law_take)))
    (l__law_take : K.lookup f__law_take = some ⟨oc__law_take, od__law_take, .func (PySem.W.fnOf "_law_take" "_law_take" (defArgs st__law_take) (defBody st__law_take) (defScope st__law_take) .none kV__law_take dc__law_take pm__law_take an__law_take cd__law_take ct__law_take), sl__law_take⟩)
    (c__law_take : PySem.W.codeIn K cd__law_take "_law_take" = true)
    (k__law_take : PySem.W.keepIn K (.ref f__law_take) = true)
    (a__law_name : PySem.W.nsIn K mainGlobals "_law_name" = some (some (.ref f__law_name_1)))
    (l__law_name_1 : K.lookup f__law_name_1 = some ⟨oc__law_name_1, od__law_name_1, .func (PySem.W.fnOf "_law_name" "_law_name" (defArgs st__law_name_1) (defBody st__law_name_1) (defScope st__law_name_1) .none kV__law_name_1 dc__law_name_1 pm__law_name_1 an__law_name_1 cd__law_name_1 ct__law_name_1), sl__law_name_1⟩)
    (c__law_name_1 : PySem.W.codeIn K cd__law_name_1 "_law_name" = true)
    (k__law_name_1 : PySem.W.keepIn K (.ref f__law_name_1) = true)
    (a__law_number : PySem.W.nsIn K mainGlobals "_law_number" = some (some (.ref f__law_number_1)))
    (l__law_number_1 : K.lookup f__law_number_1 = some ⟨oc__law_number_1, od__law_number_1, .func (PySem.W.fnOf "_law_number" "_law_number" (defArgs st__law_number_1) (defBody st__law_number_1) (defScope st__law_number_1) .none kV__law_number_1 dc__law_number_1 pm__law_number_1 an__law_number_1 cd__law_number_1 ct__law_number_1), sl__law_number_1⟩)
    (c__law_number_1 : PySem.W.codeIn K cd__law_number_1 "_law_number" = true)
    (k__law_number_1 : PySem.W.keepIn K (.ref f__law_number_1) = true)
    (a__law_act : PySem.W.nsIn K mainGlobals "_law_act" = some (some (.ref f__law_act)))
    (l__law_act : K.lookup f__law_act = some ⟨oc__law_act, od__law_act, .func (PySem.W.fnOf "_law_act" "_law_act" (defArgs st__law_act) (defBody st__law_act) (defScope st__law_act) .none kV__law_act dc__law_act pm__law_act an__law_act cd__law_act ct__law_act), sl__law_act⟩)
    (c__law_act : PySem.W.codeIn K cd__law_act "_law_act" = true)
    (k__law_act : PySem.W.keepIn K (.ref f__law_act) = true)
    (a_line_of : PySem.W.nsIn K mainGlobals "line_of" = some (some (.ref f_line_of)))
    (l_line_of : K.lookup f_line_of = some ⟨oc_line_of, od_line_of, .func (PySem.W.fnOf "line_of" "line_of" (defArgs st_line_of) (defBody st_line_of) (defScope st_line_of) .none kV_line_of dc_line_of pm_line_of an_line_of cd_line_of ct_line_of), sl_line_of⟩)
    (c_line_of : PySem.W.codeIn K cd_line_of "line_of" = true)
    (k_line_of : PySem.W.keepIn K (.ref f_line_of) = true)
    (a_print_script : PySem.W.nsIn K mainGlobals "print_script" = some (some (.ref f_print_script)))
    (l_print_script : K.lookup f_print_script = some ⟨oc_print_script, od_print_script, .func (PySem.W.fnOf "print_script" "print_script" (defArgs st_print_script) (defBody st_print_script) (defScope st_print_script) .none kV_print_script dc_print_script pm_print_script an_print_script cd_print_script ct_print_script), sl_print_script⟩)
    (c_print_script : PySem.W.codeIn K cd_print_script "print_script" = true)
    (k_print_script : PySem.W.keepIn K (.ref f_print_script) = true)
    (a_number_of : PySem.W.nsIn K mainGlobals "number_of" = some (some (.ref f_number_of)))
    (l_number_of : K.lookup f_number_of = some ⟨oc_number_of, od_number_of, .func (PySem.W.fnOf "number_of" "number_of" (defArgs st_number_of) (defBody st_number_of) (defScope st_number_of) .none kV_number_of dc_number_of pm_number_of an_number_of cd_number_of ct_number_of), sl_number_of⟩)
    (c_number_of : PySem.W.codeIn K cd_number_of "number_of" = true)
    (k_number_of : PySem.W.keepIn K (.ref f_number_of) = true)
    (a_numbers_of : PySem.W.nsIn K mainGlobals "numbers_of" = some (some (.ref f_numbers_of)))
    (l_numbers_of : K.lookup f_numbers_of = some ⟨oc_numbers_of, od_numbers_of, .func (PySem.W.fnOf "numbers_of" "numbers_of" (defArgs st_numbers_of) (defBody st_numbers_of) (defScope st_numbers_of) .none kV_numbers_of dc_numbers_of pm_numbers_of an_numbers_of cd_numbers_of ct_numbers_of), sl_numbers_of⟩)
    (c_numbers_of : PySem.W.codeIn K cd_numbers_of "numbers_of" = true)
    (k_numbers_of : PySem.W.keepIn K (.ref f_numbers_of) = true)
    (a_is_name : PySem.W.nsIn K mainGlobals "is_name" = some (some (.ref f_is_name_1)))
    (l_is_name_1 : K.lookup f_is_name_1 = some ⟨oc_is_name_1, od_is_name_1, .func (PySem.W.fnOf "is_name" "is_name" (defArgs st_is_name_1) (defBody st_is_name_1) (defScope st_is_name_1) .none kV_is_name_1 dc_is_name_1 pm_is_name_1 an_is_name_1 cd_is_name_1 ct_is_name_1), sl_is_name_1⟩)
    (c_is_name_1 : PySem.W.codeIn K cd_is_name_1 "is_name" = true)
    (k_is_name_1 : PySem.W.keepIn K (.ref f_is_name_1) = true)
    (a_player_act : PySem.W.nsIn K mainGlobals "player_act" = some (some (.ref f_player_act)))
    (l_player_act : K.lookup f_player_act = some ⟨oc_player_act, od_player_act, .func (PySem.W.fnOf "player_act" "player_act" (defArgs st_player_act) (defBody st_player_act) (defScope st_player_act) .none kV_player_act dc_player_act pm_player_act an_player_act cd_player_act ct_player_act), sl_player_act⟩)
    (c_player_act : PySem.W.codeIn K cd_player_act "player_act" = true)
    (k_player_act : PySem.W.keepIn K (.ref f_player_act) = true)
    (a_act_of : PySem.W.nsIn K mainGlobals "act_of" = some (some (.ref f_act_of)))
    (l_act_of : K.lookup f_act_of = some ⟨oc_act_of, od_act_of, .func (PySem.W.fnOf "act_of" "act_of" (defArgs st_act_of) (defBody st_act_of) (defScope st_act_of) .none kV_act_of dc_act_of pm_act_of an_act_of cd_act_of ct_act_of), sl_act_of⟩)
    (c_act_of : PySem.W.codeIn K cd_act_of "act_of" = true)
    (k_act_of : PySem.W.keepIn K (.ref f_act_of) = true)
    (a_read_script : PySem.W.nsIn K mainGlobals "read_script" = some (some (.ref f_read_script)))
    (l_read_script : K.lookup f_read_script = some ⟨oc_read_script, od_read_script, .func (PySem.W.fnOf "read_script" "read_script" (defArgs st_read_script) (defBody st_read_script) (defScope st_read_script) .none kV_read_script dc_read_script pm_read_script an_read_script cd_read_script ct_read_script), sl_read_script⟩)
    (c_read_script : PySem.W.codeIn K cd_read_script "read_script" = true)
    (k_read_script : PySem.W.keepIn K (.ref f_read_script) = true)
    (a__law_wrong : PySem.W.nsIn K mainGlobals "_law_wrong" = some (some (.ref f__law_wrong_1)))
    (l__law_wrong_1 : K.lookup f__law_wrong_1 = some ⟨oc__law_wrong_1, od__law_wrong_1, .func (PySem.W.fnOf "_law_wrong" "_law_wrong" (defArgs st__law_wrong_1) (defBody st__law_wrong_1) (defScope st__law_wrong_1) .none kV__law_wrong_1 dc__law_wrong_1 pm__law_wrong_1 an__law_wrong_1 cd__law_wrong_1 ct__law_wrong_1), sl__law_wrong_1⟩)
    (c__law_wrong_1 : PySem.W.codeIn K cd__law_wrong_1 "_law_wrong" = true)
    (k__law_wrong_1 : PySem.W.keepIn K (.ref f__law_wrong_1) = true)
    (a_law : PySem.W.nsIn K mainGlobals "law" = some (some (.ref f_law)))
    (l_law : K.lookup f_law = some ⟨oc_law, od_law, .func (PySem.W.fnOf "law" "law" (defArgs st_law) (defBody st_law) (defScope st_law) .none kV_law dc_law pm_law an_law cd_law ct_law), sl_law⟩)
    (c_law : PySem.W.codeIn K cd_law "law" = true)
    (k_law : PySem.W.keepIn K (.ref f_law) = true)
    (yg_WatchError : PySem.W.nsIn K mainGlobals "WatchError" = some (some (.ref Y_WatchError)))
    (xg_BadText : PySem.W.nsIn K mainGlobals "BadText" = some (some (.ref X_BadText)))
    (xs_BadText : PySem.W.subIn K (.ref X_BadText) (.type "BaseException") = some true)
    (xt_BadText : PySem.W.typeIn K (.ref X_BadText) = some (.type "type"))
    (xk_BadText : PySem.W.keepIn K (.ref X_BadText) = true)
    (vL : K.lookup X_BadText = some (PySem.excClassObj vnm vq X_BadText vN vbs [.ref Y_WatchError, .type "ValueError", .type "Exception", .type "BaseException", .type "object"] true vsn vsub vab vcol vdd vm0 vm1 vm2 vm3 vm5 "ValueError.__new__"))
    (vsa : PySem.W.findIn K (.ref X_BadText) "__setattr__" = some (some (.builtin "object.__setattr__")))
    (viC : PySem.W.findIn K (.ref X_BadText) "__init__" = some (some (.ref vfI)))
    (vtC : PySem.W.typeIn K (.ref vfI) = some (.type "function"))
    (vq_su : PySem.W.ks_superIn K X_BadText X_BadText "__init__" = some (some (.builtin "ValueError.__init__")))
    (vsv : PySem.W.subIn K (.ref X_BadText) (.type "ValueError") = some true)
    (vsC : PySem.W.mroIn K X_BadText (.ref X_BadText) = some true)
    (vtp : PySem.W.nsIn K cStatics "thirdparty.any" = some none)
    (vq_top : (l.prog.main.scope.names.lookup ("super" : Str)).isSome = false)
    (vlB : K.lookup vfI = some ⟨voc, vod, .func (PySem.W.ksFn "__init__" "BadText.__init__" (defArgs st_BadText_init) (defBody st_BadText_init) (defScope st_BadText_init) .none .none vdoc vpm van (.ref vcda) vct vcc), vosl⟩)
    (vcB : PySem.W.codeIn K (.ref vcda) "BadText.__init__" = true)
    (vlC : K.lookup vcc = some ⟨vcl, vcld, .cell (some (.ref X_BadText)), vcsl⟩)
    (vlD : K.lookup vcda = some ⟨vccl, vcdd, .fields vvs, vccs⟩)
    (vr_v : vvs[2]? = some (.str vfile vtf))
    (vq_file : ((l.prog.main.file : Str) == vfile) = true)
    (vsup : PySem.W.nsIn K mainGlobals "super" = some none)
    (vnl : PySem.W.findIn K (.ref X_BadText) "line" = some none)
    (xh_BadText : PySem.W.hasDictIn K X_BadText = true)
    (xz_BadText : PySem.W.subIn K (.ref X_BadText) (.ref X_BadText) = some true)
    (xa_BadText : PySem.W.findIn K (.ref X_BadText) "__getattribute__" = some (some (.builtin "BaseException.__getattribute__")))
    (xb_BadText : PySem.W.findIn K (.ref X_BadText) "__getattr__" = some none)
    (xc_BadText : PySem.W.findIn K (.ref X_BadText) "__class__" = some (some (.builtin "object.__class__")))
    (xd_BadText : PySem.W.specialIn K (.builtin "object.__class__") "__get__" = some (some (.builtin "getset_descriptor.__get__")))
    (xe_BadText : PySem.W.takesIn K (.builtin "object.__class__") = some true)
    (xm_BadText : PySem.W.mroIn K X_BadText (.type "object") = some true)
    (xy_BadText : PySem.W.kitOne K (.ref X_BadText) (.ref Y_WatchError) = some true)
    (z_abs : PySem.W.nsIn K mainGlobals "abs" = some none)
    (z_all : PySem.W.nsIn K mainGlobals "all" = some none)
    (z_any : PySem.W.nsIn K mainGlobals "any" = some none)
    (z_int : PySem.W.nsIn K mainGlobals "int" = some none)
    (z_isinstance : PySem.W.nsIn K mainGlobals "isinstance" = some none)
    (z_len : PySem.W.nsIn K mainGlobals "len" = some none)
    (z_range : PySem.W.nsIn K mainGlobals "range" = some none)
    (z_str : PySem.W.nsIn K mainGlobals "str" = some none)
    (z_tuple : PySem.W.nsIn K mainGlobals "tuple" = some none)
    (g_MAX_PART : PySem.W.nsIn K mainGlobals "MAX_PART" = some (some (.int (281474976710656) t_MAX_PART)))
    (g_SMALL : PySem.W.nsIn K mainGlobals "SMALL" = some (some (.str ("abcdefghijklmnopqrstuvwxyz") t_SMALL)))
    (g_DIGITS : PySem.W.nsIn K mainGlobals "DIGITS" = some (some (.str ("0123456789") t_DIGITS)))
    (g_PLAIN : PySem.W.nsIn K mainGlobals "PLAIN" = some (some (.ref q_PLAIN)))
    (gl_PLAIN : K.lookup q_PLAIN = some ⟨.type "tuple", none, .seq qu_PLAIN.toArray qn_PLAIN, qs_PLAIN⟩)
    (gr_PLAIN : relC [.str "cuts", .str "papers", .str "gathers"] qu_PLAIN)
    (gz_PLAIN : qu_PLAIN.length ≤ 1000)
    : ∃ (C : NC) (cs : List (Addr × Addr)) (fd : FuncData), C.names.Nodup ∧ C.tabs = cs.map (fun p => p.2) ∧ (∀ p ∈ cs, h.get? p.2 = some { cls := Value.none, data := Data.fields #[] }) ∧ (∀ p ∈ cs, K.lookup p.2 = none) ∧ (∀ p ∈ cs, PySem.W.CodeHd h p.1 p.2) ∧
      (∀ (s : Shared) (u : Value), BindsTo s fd { pos := [u] } [("_law_script", u)]) ∧ ∀ (base : Heap), K.In base → base.Ns mainGlobals mg → (∀ p ∈ cs, LamX.TabB base mg p.1 p.2) → FnOk l.prog w K mg base (L2.CX l.prog w) 5 fa fd ["_law_script"] (spN K C 1 m_law) := by
  have e := hfa.symm.trans (PySem.W.mg_of X G a_law)
  cases e
  let C : NC := ⟨fun i => ([0, 0, 0, 0, 0, 0, 0, 0, 0, 0, 0, 0, 0, 0, 0, X_BadText] : List Addr).getD i 0, OW.allNames, []⟩
  have T : Txt l.prog K mg C := ⟨(by decide +kernel : OW.allNames.Nodup),
    rfl,
    PySem.W.mg_none_of X G z_abs,
    PySem.W.mg_none_of X G z_all,
    PySem.W.mg_none_of X G z_any,
    PySem.W.mg_none_of X G z_int,
    PySem.W.mg_none_of X G z_isinstance,
    PySem.W.mg_none_of X G z_len,
    PySem.W.mg_none_of X G z_range,
    PySem.W.mg_none_of X G z_str,
    PySem.W.mg_none_of X G z_tuple,
    ⟨PySem.W.mg_of X G xg_BadText, ⟨_, bt_mk bt_text vL vsa vnl viC vtC vq_su vsv vsC vtp vq_top vlB vcB vlC vlD vr_v vq_file⟩, xk_BadText, xs_BadText, xt_BadText, PySem.W.mg_none_of X G vsup⟩,
    ⟨⟨PySem.W.mg_of X G xg_BadText, xs_BadText, xt_BadText, xh_BadText, xz_BadText⟩, ⟨⟨xa_BadText, xb_BadText, xs_BadText, xh_BadText, xc_BadText, xd_BadText, xe_BadText, xm_BadText⟩, Y_WatchError, PySem.W.mg_of X G yg_WatchError, xy_BadText⟩, ⟨xa_BadText, xb_BadText, xs_BadText, xh_BadText⟩, vnl⟩,
    GD.int (PySem.W.mg_of X G g_MAX_PART),
    GD.str (PySem.W.mg_of X G g_SMALL),
    GD.str (PySem.W.mg_of X G g_DIGITS),
    GD.ctup (PySem.W.mg_of X G g_PLAIN) gl_PLAIN gr_PLAIN gz_PLAIN,
    ⟨_, _, PySem.W.mg_of X G a__law_mix, (fun_mk (st := st__law_mix) l__law_mix c__law_mix k__law_mix), ((fun_mk (st := st__law_mix) l__law_mix c__law_mix k__law_mix).binds (ps := P__law_mix) fun _ _ _ _ _ _ us hl => match us, hl with | [_, _], _ => rfl)⟩,
    ⟨_, _, PySem.W.mg_of X G a__law_numbers, (fun_mk (st := st__law_numbers) l__law_numbers c__law_numbers k__law_numbers), ((fun_mk (st := st__law_numbers) l__law_numbers c__law_numbers k__law_numbers).binds (ps := P__law_numbers) fun _ _ _ _ _ _ us hl => match us, hl with | [_, _], _ => rfl)⟩,
    ⟨_, _, PySem.W.mg_of X G a__law_take, (fun_mk (st := st__law_take) l__law_take c__law_take k__law_take), ((fun_mk (st := st__law_take) l__law_take c__law_take k__law_take).binds (ps := P__law_take) fun _ _ _ _ _ _ us hl => match us, hl with | [_, _], _ => rfl)⟩,
    ⟨_, _, PySem.W.mg_of X G a__law_name, (fun_mk (st := st__law_name_1) l__law_name_1 c__law_name_1 k__law_name_1), ((fun_mk (st := st__law_name_1) l__law_name_1 c__law_name_1 k__law_name_1).binds (ps := P__law_name_1) fun _ _ _ _ _ _ us hl => match us, hl with | [_], _ => rfl)⟩,
    ⟨_, _, PySem.W.mg_of X G a__law_number, (fun_mk (st := st__law_number_1) l__law_number_1 c__law_number_1 k__law_number_1), ((fun_mk (st := st__law_number_1) l__law_number_1 c__law_number_1 k__law_number_1).binds (ps := P__law_number_1) fun _ _ _ _ _ _ us hl => match us, hl with | [_], _ => rfl)⟩,
    ⟨_, _, PySem.W.mg_of X G a_line_of, (fun_mk (st := st_line_of) l_line_of c_line_of k_line_of), ((fun_mk (st := st_line_of) l_line_of c_line_of k_line_of).binds (ps := P_line_of) fun _ _ _ _ _ _ us hl => match us, hl with | [_], _ => rfl)⟩,
    ⟨_, _, PySem.W.mg_of X G a_number_of, (fun_mk (st := st_number_of) l_number_of c_number_of k_number_of), ((fun_mk (st := st_number_of) l_number_of c_number_of k_number_of).binds (ps := P_number_of) fun _ _ _ _ _ _ us hl => match us, hl with | [_], _ => rfl)⟩,
    ⟨_, _, PySem.W.mg_of X G a_numbers_of, (fun_mk (st := st_numbers_of) l_numbers_of c_numbers_of k_numbers_of), ((fun_mk (st := st_numbers_of) l_numbers_of c_numbers_of k_numbers_of).binds (ps := P_numbers_of) fun _ _ _ _ _ _ us hl => match us, hl with | [_], _ => rfl)⟩,
    ⟨_, _, PySem.W.mg_of X G a_is_name, (fun_mk (st := st_is_name_1) l_is_name_1 c_is_name_1 k_is_name_1), ((fun_mk (st := st_is_name_1) l_is_name_1 c_is_name_1 k_is_name_1).binds (ps := P_is_name_1) fun _ _ _ _ _ _ us hl => match us, hl with | [_], _ => rfl)⟩,
    ⟨_, _, PySem.W.mg_of X G a_player_act, (fun_mk (st := st_player_act) l_player_act c_player_act k_player_act), ((fun_mk (st := st_player_act) l_player_act c_player_act k_player_act).binds (ps := P_player_act) fun _ _ _ _ _ _ us hl => match us, hl with | [_, _, _], _ => rfl)⟩,
    ⟨_, _, PySem.W.mg_of X G a_act_of, (fun_mk (st := st_act_of) l_act_of c_act_of k_act_of), ((fun_mk (st := st_act_of) l_act_of c_act_of k_act_of).binds (ps := P_act_of) fun _ _ _ _ _ _ us hl => match us, hl with | [_], _ => rfl)⟩,
    ⟨_, _, PySem.W.mg_of X G a__law_draws, (fun_mk (st := st__law_draws) l__law_draws c__law_draws k__law_draws), ((fun_mk (st := st__law_draws) l__law_draws c__law_draws k__law_draws).binds (ps := P__law_draws) fun _ _ _ _ _ _ us hl => match us, hl with | [_, _], _ => rfl)⟩,
    ⟨_, _, PySem.W.mg_of X G a__law_act, (fun_mk (st := st__law_act) l__law_act c__law_act k__law_act), ((fun_mk (st := st__law_act) l__law_act c__law_act k__law_act).binds (ps := P__law_act) fun _ _ _ _ _ _ us hl => match us, hl with | [_], _ => rfl)⟩,
    ⟨_, _, PySem.W.mg_of X G a_print_script, (fun_mk (st := st_print_script) l_print_script c_print_script k_print_script), ((fun_mk (st := st_print_script) l_print_script c_print_script k_print_script).binds (ps := P_print_script) fun _ _ _ _ _ _ us hl => match us, hl with | [_], _ => rfl)⟩,
    ⟨_, _, PySem.W.mg_of X G a_read_script, (fun_mk (st := st_read_script) l_read_script c_read_script k_read_script), ((fun_mk (st := st_read_script) l_read_script c_read_script k_read_script).binds (ps := P_read_script) fun _ _ _ _ _ _ us hl => match us, hl with | [_], _ => rfl)⟩,
    ⟨_, _, PySem.W.mg_of X G a__law_wrong, (fun_mk (st := st__law_wrong_1) l__law_wrong_1 c__law_wrong_1 k__law_wrong_1), ((fun_mk (st := st__law_wrong_1) l__law_wrong_1 c__law_wrong_1 k__law_wrong_1).binds (ps := P__law_wrong_1) fun _ _ _ _ _ _ us hl => match us, hl with | [_, _], _ => rfl)⟩,
    ⟨_, _, PySem.W.mg_of X G a_law, (fun_mk (st := st_law) l_law c_law k_law), ((fun_mk (st := st_law) l_law c_law k_law).binds (ps := P_law) fun _ _ _ _ _ _ us hl => match us, hl with | [_], _ => rfl)⟩⟩
  refine ⟨C, [], PySem.W.fnOf "law" "law" (defArgs st_law) (defBody st_law) (defScope st_law) .none kV_law dc_law pm_law an_law cd_law ct_law, T.nd, rfl, (fun _ z => (nomatch z)), (fun _ z => (nomatch z)), (fun _ z => (nomatch z)), fun s v => .of_eq rfl, fun base _ _ TB => ?_⟩
  exact ok_all T (fun_mk (st := st_law) l_law c_law k_law)
end K80

set_option Elab.async false
set_option linter.all false
set_option maxRecDepth 100000
set_option maxHeartbeats 4000000
open K80 OW NY PySem PySem.Spec PyProof.Rows L2
open PySem PySem.W PyProof.Rows in
set_option maxRecDepth 100000 in
set_option maxHeartbeats 0 in
theorem PySem.Challenge.cw_onewatcher_k80_texts_of_scripts_holds : PySem.Challenge.rw_onewatcher_k80_texts_of_scripts.Holds := by
  refine HDX.hd ?_
  k_fill
  refine NY.n_walkT (l := PySem.Challenge.rw_onewatcher_k80_texts_of_scripts) (x := "_law_script") 5 m_law rfl rfl ⟨rfl, by decide, by decide⟩ (fun w h Y => PySem.W.kIn_of Y) ?nyF ?nyM
  case nyM => exact fun ns hn _ N d h => wp_law (K80.law_ok h hn)
  case nyF =>
    intro w mg mb fa h mean Y KX TP G hmg
    refine' all_mk KX TP G hmg ?a__law_mix ?l__law_mix ?c__law_mix ?k__law_mix ?a__law_numbers ?l__law_numbers ?c__law_numbers ?k__law_numbers ?a__law_draws ?l__law_draws ?c__law_draws ?k__law_draws ?a__law_take ?l__law_take ?c__law_take ?k__law_take ?a__law_name ?l__law_name_1 ?c__law_name_1 ?k__law_name_1 ?a__law_number ?l__law_number_1 ?c__law_number_1 ?k__law_number_1 ?a__law_act ?l__law_act ?c__law_act ?k__law_act ?a_line_of ?l_line_of ?c_line_of ?k_line_of ?a_print_script ?l_print_script ?c_print_script ?k_print_script ?a_number_of ?l_number_of ?c_number_of ?k_number_of ?a_numbers_of ?l_numbers_of ?c_numbers_of ?k_numbers_of ?a_is_name ?l_is_name_1 ?c_is_name_1 ?k_is_name_1 ?a_player_act ?l_player_act ?c_player_act ?k_player_act ?a_act_of ?l_act_of ?c_act_of ?k_act_of ?a_read_script ?l_read_script ?c_read_script ?k_read_script ?a__law_wrong ?l__law_wrong_1 ?c__law_wrong_1 ?k__law_wrong_1 ?a_law ?l_law ?c_law ?k_law ?yg_WatchError ?xg_BadText ?xs_BadText ?xt_BadText ?xk_BadText ?vL ?vsa ?viC ?vtC ?vq_su ?vsv ?vsC ?vtp ?vq_top ?vlB ?vcB ?vlC ?vlD ?vr_v ?vq_file ?vsup ?vnl ?xh_BadText ?xz_BadText ?xa_BadText ?xb_BadText ?xc_BadText ?xd_BadText ?xe_BadText ?xm_BadText ?xy_BadText ?z_abs ?z_all ?z_any ?z_int ?z_isinstance ?z_len ?z_range ?z_str ?z_tuple ?g_MAX_PART ?g_SMALL ?g_DIGITS ?g_PLAIN ?gl_PLAIN ?gr_PLAIN ?gz_PLAIN
    (case a__law_mix => k_is)
    (case l__law_mix => k_is)
    (case c__law_mix => k_is)
    (case k__law_mix => k_is)
    (case a__law_numbers => k_is)
    (case l__law_numbers => k_is)
    (case c__law_numbers => k_is)
    (case k__law_numbers => k_is)
    (case a__law_draws => k_is)
    (case l__law_draws => k_is)
    (case c__law_draws => k_is)
    (case k__law_draws => k_is)
    (case a__law_take => k_is)
    (case l__law_take => k_is)
    (case c__law_take => k_is)
    (case k__law_take => k_is)
    (case a__law_name => k_is)
    (case l__law_name_1 => k_is)
    (case c__law_name_1 => k_is)
    (case k__law_name_1 => k_is)
    (case a__law_number => k_is)
    (case l__law_number_1 => k_is)
    (case c__law_number_1 => k_is)
    (case k__law_number_1 => k_is)
    (case a__law_act => k_is)
    (case l__law_act => k_is)
    (case c__law_act => k_is)
    (case k__law_act => k_is)
    (case a_line_of => k_is)
    (case l_line_of => k_is)
    (case c_line_of => k_is)
    (case k_line_of => k_is)
    (case a_print_script => k_is)
    (case l_print_script => k_is)
    (case c_print_script => k_is)
    (case k_print_script => k_is)
    (case a_number_of => k_is)
    (case l_number_of => k_is)
    (case c_number_of => k_is)
    (case k_number_of => k_is)
    (case a_numbers_of => k_is)
    (case l_numbers_of => k_is)
    (case c_numbers_of => k_is)
    (case k_numbers_of => k_is)
    (case a_is_name => k_is)
    (case l_is_name_1 => k_is)
    (case c_is_name_1 => k_is)
    (case k_is_name_1 => k_is)
    (case a_player_act => k_is)
    (case l_player_act => k_is)
    (case c_player_act => k_is)
    (case k_player_act => k_is)
    (case a_act_of => k_is)
    (case l_act_of => k_is)
    (case c_act_of => k_is)
    (case k_act_of => k_is)
    (case a_read_script => k_is)
    (case l_read_script => k_is)
    (case c_read_script => k_is)
    (case k_read_script => k_is)
    (case a__law_wrong => k_is)
    (case l__law_wrong_1 => k_is)
    (case c__law_wrong_1 => k_is)
    (case k__law_wrong_1 => k_is)
    (case a_law => k_is)
    (case l_law => k_is)
    (case c_law => k_is)
    (case k_law => k_is)
    (case yg_WatchError => k_is)
    (case xg_BadText => k_is)
    (case xs_BadText => k_is)
    (case xt_BadText => k_is)
    (case xk_BadText => k_is)
    (case vL => k_is)
    (case vsa => k_is)
    (case viC => k_is)
    (case vtC => k_is)
    (case vq_su => kernel_rfl)
    (case vsv => k_is)
    (case vsC => k_is)
    (case vtp => k_is)
    (case vq_top => kernel_rfl)
    (case vlB => k_is)
    (case vcB => k_is)
    (case vlC => k_is)
    (case vlD => k_is)
    (case vr_v => exact rfl)
    (case vq_file => kernel_rfl)
    (case vsup => k_is)
    (case vnl => k_is)
    (case xh_BadText => k_is)
    (case xz_BadText => k_is)
    (case xa_BadText => k_is)
    (case xb_BadText => k_is)
    (case xc_BadText => k_is)
    (case xd_BadText => k_is)
    (case xe_BadText => k_is)
    (case xm_BadText => k_is)
    (case xy_BadText => kernel_rfl)
    (case z_abs => k_is)
    (case z_all => k_is)
    (case z_any => k_is)
    (case z_int => k_is)
    (case z_isinstance => k_is)
    (case z_len => k_is)
    (case z_range => k_is)
    (case z_str => k_is)
    (case z_tuple => k_is)
    (case g_MAX_PART => k_is)
    (case g_SMALL => k_is)
    (case g_DIGITS => k_is)
    (case g_PLAIN => k_is)
    (case gl_PLAIN => k_is)
    (case gr_PLAIN => exact ⟨_, _, rfl, _, _, rfl, _, _, rfl, rfl⟩)
    (case gz_PLAIN => decide)

