import PyProof.Rows.All
import Wide.All
import OpenK.AllK
import Wide.FinOn
import HandS.ForMost
import HandS.Defaults
import KE.KExcInit
import KE.KExcSuper
import KE.KSuper
import KE.KStateDown
import HandS.Head0
import HandS.Head1
import HandS.Head2
import HandS.HeadHook1
import HandS.HeadHook2
import HandS.HeadHook3
import HandS.HeadHook4
import PySem.Challenge.RW_settledplay_k07_whole_texts_of_worlds
import HandS.Wide
import HandS.Walk
import HandS.IsInst
import HandS.Style
import HandS.Strs
import HandS.Star
import HandS.TupAny
import HandS.FStr
import HandS.Property
import HandS.SlotsOwn
import HandS.Lambda
import HandS.ForExc
import HandS.ExcOwn
import HandS.TryMany
import HandS.SetBool
import HandS.Deep
import HandS.CallSlots
import HandS.IterNext
import HandS.OwnIter
import KE.KCallOwn
import KE.KFmtOwn
import PyProof.InstNe
import HandS.Zip
import KE.GoesMore
import HandS.StrMore
import HandS.StrSplit
import HandS.SetKeys
import HandS.Small
import HandS.RaiseMore
import KE.DataFind
import PyProof.StrBlock2
import PyProof.StrWalks
import PyProof.CollectWalk
import KE.KExcLine
import HandS.ExcField
import HandS.EndTab
import HandS.TupMul
import HandS.WordsDict
import PyProof.MeetsDict
import PyProof.NeKinds
import HandS.Text
import HandS.DictComp
import PyProof.RulesMatchSingle
import HandS.MakeKw
import HandS.SetFor
import HandS.Conv
import HandS.SortKw
import KE.DatumOrd
import HandS.MakeKwOnly
import PyProof.DictDisplay
import PyProof.MeetsSeq2
import PyProof.DictWalks
import HandS.OwnEq
import KE.GoesEnumKw
import HandS.NoneIn
import KE.GoesEnum
set_option Elab.async false
set_option linter.all false
set_option maxRecDepth 100000
set_option maxHeartbeats 4000000
set_option Elab.async false
namespace Hx
open PySem PySem.Spec PyProof.Rows L2
def obAt (K : PySem.W.Frag) (a : Addr) : Obj := (K.lookup a).getD default
def adr : Value → Addr
  | .ref a => a
  | _ => 0
def tok : Value → Tok
  | .int _ t => t
  | .str _ t => t
  | _ => 0
def txt : Value → Str
  | .str x _ => x
  | _ => Str.empty
def fdOf : Obj → FuncData
  | ⟨_, _, .func fd, _⟩ => fd
  | _ => default
def fdAt (K : PySem.W.Frag) (a : Addr) : FuncData := fdOf (obAt K a)
def itsOf : Obj → Array Value
  | ⟨_, _, .seq i _, _⟩ => i
  | ⟨_, _, .fields i, _⟩ => i
  | _ => #[]
def itAt (K : PySem.W.Frag) (a : Addr) : Array Value := itsOf (obAt K a)
/-- the value of a name in a dict of the written part -/
def nsV (K : PySem.W.Frag) (d : Addr) (x : Str) : Value := match PySem.W.nsIn K d x with
  | some (some v) => v
  | _ => .none
def inV (K : PySem.W.Frag) (C : Addr) (x : Str) : Value := match PySem.W.findIn K (.ref C) x with
  | some (some v) => v
  | _ => .none
/-- what a property holds -/
def recV (K : PySem.W.Frag) (p : Addr) : List Value := match PySem.W.recIn K p "property" with
  | some l => l
  | none => []
def gA (K : PySem.W.Frag) (x : Str) : Addr := adr (nsV K mainGlobals x)
def mA (K : PySem.W.Frag) (C : Addr) (x : Str) : Addr := adr (inV K C x)
def pA (K : PySem.W.Frag) (p : Addr) : Addr := adr ((recV K p).headD .none)
theorem lk_some {K : PySem.W.Frag} {a : Addr} (h : (K.lookup a).isSome = true) : K.lookup a = some (obAt K a) := by
  unfold obAt
  cases e : K.lookup a with
  | none =>
    rw [e] at h
    cases h
  | some o => rfl
structure DefE where
  at_ : PySem.W.Frag → Addr
  name : Str
  qual : Str
  params : Arguments
  body : List Stmt
  scope : Scope
abbrev FnE : Type := Option (Str × Str × Arguments × FuncBody × Scope × Addr × Addr)
def fnE : Option Obj → FnE
  | some ⟨_, _, .func fd, _⟩ => some (fd.name, fd.qualname, fd.params, fd.body, fd.scope, fd.globals, fd.builtins)
  | _ => none
def DefE.val (d : DefE) : FnE := some (d.name, d.qual, d.params, .stmts d.body, d.scope, mainGlobals, builtinsNs)
theorem lk_fn {K : PySem.W.Frag} {d : DefE} {a : Addr} {C : List (Str × Addr)} {X Y Z : Value} (e : fnE (K.lookup (d.at_ K)) = d.val) (ha : d.at_ K = a) (hC : (fdAt K a).closure = C) (hX : (fdAt K a).defaults = X) (hY : (fdAt K a).kwdefaults = Y) (hZ : (fdAt K a).code = Z) :
    K.lookup a = some ⟨(obAt K a).cls, (obAt K a).dict, .func (PySem.W.fnX d.name d.qual d.params d.body d.scope C X Y (fdAt K a).doc (fdAt K a).pyModule (fdAt K a).annotations Z (fdAt K a).closureTuple), (obAt K a).slots⟩ := by
  subst ha hC hX hY hZ
  have lk : K.lookup (d.at_ K) = some (obAt K (d.at_ K)) := lk_some (by
    cases q : K.lookup (d.at_ K) with
    | none =>
      rw [q] at e
      cases e
    | some o => rfl)
  rw [lk] at e ⊢
  unfold fdAt
  clear lk
  generalize obAt K (d.at_ K) = ob at e ⊢
  obtain ⟨oc, od, dt, osl⟩ := ob
  cases dt with
  | func fd =>
    obtain ⟨n1, n2, n3, n4, n5, n6, n7, n8, n9, n10, n11, n12, n13, n14, n15⟩ := fd
    have e2 : (some (n1, n2, n3, n4, n5, n6, n15) : FnE) = some (d.name, d.qual, d.params, .stmts d.body, d.scope, mainGlobals, builtinsNs) := e
    simp only [Option.some.injEq, Prod.mk.injEq] at e2
    obtain ⟨h1, h2, h3, h4, h5, h6, h7⟩ := e2
    subst h1 h2 h3 h4 h5 h6 h7
    rfl
  | _ => cases e
/-- a written dict: its keys are texts of the world's hash -/
def dicO (K : PySem.W.Frag) (a : Addr) : Option (List (Option (Str × Int))) := match K.lookup a with
  | some ⟨.type c, none, .dict es _, sl⟩ => (match decide (c = "dict") && sl.isEmpty with
    | true => some (es.toList.map He.keyOf)
    | false => none)
  | _ => none
def isFields : Obj → Bool
  | ⟨_, _, .fields _, _⟩ => true
  | _ => false
theorem lk_fields {K : PySem.W.Frag} {a : Addr} (h : ((K.lookup a).isSome && isFields (obAt K a)) = true) : K.lookup a = some ⟨(obAt K a).cls, (obAt K a).dict, .fields (itAt K a), (obAt K a).slots⟩ := by
  obtain ⟨h1, h2⟩ := Bool.and_eq_true_iff.mp h
  rw [lk_some h1]
  unfold itAt
  generalize obAt K a = ob at h2 ⊢
  obtain ⟨oc, od, dt, osl⟩ := ob
  cases dt with
  | fields vs => rfl
  | _ => cases h2
def isCell (v : Value) : Obj → Bool
  | ⟨_, _, .cell (some u), _⟩ => decide (u = v)
  | _ => false
theorem lk_cell {K : PySem.W.Frag} {a : Addr} {v : Value} (h : ((K.lookup a).isSome && isCell v (obAt K a)) = true) : K.lookup a = some ⟨(obAt K a).cls, (obAt K a).dict, .cell (some v), (obAt K a).slots⟩ := by
  obtain ⟨h1, h2⟩ := Bool.and_eq_true_iff.mp h
  rw [lk_some h1]
  generalize obAt K a = ob at h2 ⊢
  obtain ⟨oc, od, dt, osl⟩ := ob
  cases dt with
  | cell u =>
    cases u with
    | some u =>
      have e : u = v := of_decide_eq_true h2
      rw [e]
    | none => cases h2
  | _ => cases h2
abbrev Tab : Type := (PySem.W.Frag → Addr) × List Str
abbrev AlY : Type := List FnE × List (Option (List (Option (Str × Int)))) × Bool
def obsK (fn : List DefE) (ts : List Tab) (ex : PySem.W.Frag → Bool) (K : PySem.W.Frag) : AlY := (fn.map fun d => fnE (K.lookup (d.at_ K)), ts.map fun t => dicO K (t.1 K), ex K)
def valY (fn : List DefE) (ts : List Tab) (w : World) : AlY := (fn.map DefE.val, ts.map fun t => some (He.keysIn w.params t.2), true)
def Says (fn : List DefE) (ts : List Tab) (ex : PySem.W.Frag → Bool) (w : World) (K : PySem.W.Frag) : Prop := obsK fn ts ex K = valY fn ts w
def obsY (as : (Addr → Option Obj) → List Addr) (fn : List DefE) (ts : List Tab) (ex : PySem.W.Frag → Bool) (g : Addr → Option Obj) : AlY := obsK fn ts ex (He.frT g (as g))
def hookY (as : (Addr → Option Obj) → List Addr) (fn : List DefE) (ts : List Tab) (ex : PySem.W.Frag → Bool) : PySem.W.Hook where
  α := AlY
  obs := fun s => obsY as fn ts ex s.heap.get?
  val := fun w => valY fn ts w
  says := fun w h => ∃ K : PySem.W.Frag, K.In h ∧ Says fn ts ex w K
  of := fun _ _ e => ⟨_, He.frT_in, e⟩
  keeps := fun _ _ _ ⟨K, hK, c⟩ k => ⟨K, PySem.W.Frag.In.keeps hK k, c⟩
theorem obsY_eq {as : (Addr → Option Obj) → List Addr} {fn : List DefE} {ts : List Tab} {ex : PySem.W.Frag → Bool} {g : Addr → Option Obj} {s : Shared} (h : ∀ a, g a = s.heap.get? a) : obsY as fn ts ex g = (hookY as fn ts ex).obs s := by
  have e : g = s.heap.get? := funext h
  rw [e] <;> rfl
section
variable {fn : List DefE} {ts : List Tab} {ex : PySem.W.Frag → Bool} {w : World} {K : PySem.W.Frag}
theorem Says.exT (c : Says fn ts ex w K) : ex K = true := congrArg (fun z : AlY => z.2.2) c
theorem Says.fnT (c : Says fn ts ex w K) (i : Nat) {d : DefE} (h : fn[i]? = some d := by rfl) : fnE (K.lookup (d.at_ K)) = d.val := by
  have e : (fn.map fun d => fnE (K.lookup (d.at_ K))) = fn.map DefE.val := congrArg (fun z : AlY => z.1) c
  have e2 : (fn.map fun d => fnE (K.lookup (d.at_ K)))[i]? = (fn.map DefE.val)[i]? := by rw [e]
  rw [List.getElem?_map, List.getElem?_map, h] at e2
  exact Option.some.inj e2
end
def isClsO : Obj → Bool
  | ⟨_, _, .cls _, _⟩ => true
  | _ => false
def clsAt (g : Addr → Option Obj) (a : Addr) : Bool := match g a with
  | some o => isClsO o
  | none => false
def nsAt (g : Addr → Option Obj) (a : Addr) : List Addr := match g a with
  | some ⟨_, _, .cls cd, _⟩ => [cd.ns]
  | _ => []
def objRefs (g : Addr → Option Obj) (a : Addr) : List Addr := match g a with
  | some o => (match isClsO o with
    | true => []
    | false => He.refsD o)
  | none => []
/-- the module's dict, the statics, the classes, their dicts, all else that these name, and what that names, n deep -/
def more (g : Addr → Option Obj) : Nat → List Addr → List Addr
  | 0, _ => []
  | n + 1, l => let m := l.flatMap (objRefs g); m ++ more g n m
def asY (n : Nat) (g : Addr → Option Obj) : List Addr :=
  let top := (objRefs g mainGlobals)
  let cl := top.filter (clsAt g)
  let nss := cl.flatMap (nsAt g)
  let inn := nss.flatMap (objRefs g)
  let one := top.filter fun a => !clsAt g a
  [mainGlobals, cStatics] ++ (cl ++ (nss ++ (one ++ (inn ++ more g n (one ++ inn)))))
section
open PySem.W PySem.Calls HandSHeadRun
theorem run_join {r : OpenRow} {q : Program} {H : Hook} {ob : SharedT → H.α} {M : Nat} {loose : List PySem.Str} {w : World}
    (h1 : ∀ os : OsState, (endF (stepQ (denQ tabQ) r.prog w) M r.prog w os).map (fun s => (looksF r.prog (boot_heap w.params) s.abs, seenQ q loose (importedModules r.prog.main.body) (fun s => xlAt q [] s && recOk r.toRowW.records s) s.abs)) = some (true, openGood q loose))
    (h2 : ∀ os : OsState, (endF (stepQ (denQ tabQ) r.prog w) M r.prog w os).map ob = some (H.val w)) : RunEq r q H ob M loose w := fun os => by
  have a := h1 os
  have b := h2 os
  cases e : endF (stepQ (denQ tabQ) r.prog w) M r.prog w os with
  | none =>
    rw [e] at a
    cases a
  | some s =>
    rw [e] at a b
    have a2 := Option.some.inj a
    have b2 := Option.some.inj b
    obtain ⟨a3, a4⟩ := Prod.mk.inj a2
    show some (_, _, _) = _
    rw [a3, a4, b2]
theorem ob_join3 {α β γ : Type} {x : Option SharedT} {f : SharedT → α × β × γ} {a : α} {b : β} {g : γ} (h1 : x.map (fun s => ((f s).1, (f s).2.1)) = some (a, b)) (h2 : x.map (fun s => (f s).2.2) = some g) : x.map f = some (a, b, g) := by
  cases x with
  | none => cases h1
  | some s =>
    have a2 := Option.some.inj h1
    have b2 := Option.some.inj h2
    show some (f s) = _
    rw [← b2, ← (Prod.mk.inj a2).1, ← (Prod.mk.inj a2).2]
end
end Hx
namespace K07
open PySem PySem.Spec PyProof.Rows L2
def topS (i : Nat) : Stmt := PySem.Challenge.pw_settledplay_k07_whole_texts_of_worlds.main.body.getD i (.Pass ⟨0, 0, 0, 0⟩)
abbrev s__wall : Stmt := topS 0
abbrev s_is_whole : Stmt := topS 7
abbrev s_is_short : Stmt := topS 8
abbrev s_is_from : Stmt := topS 9
abbrev s_is_tick : Stmt := topS 10
abbrev s_is_luck_in : Stmt := topS 13
abbrev s_is_luck : Stmt := topS 14
abbrev s_is_number : Stmt := topS 17
abbrev s_is_name_in : Stmt := topS 26
abbrev s_are_numbers_in : Stmt := topS 27
abbrev s_is_thing_in : Stmt := topS 28
abbrev s_are_things_in : Stmt := topS 29
abbrev s_KnownParts_init : Stmt := inClass (topS 30) 1
abbrev s_parts_told : Stmt := topS 31
abbrev s_World_init : Stmt := inClass (topS 32) 1
abbrev s_World_tick : Stmt := inClass (topS 32) 2
abbrev s_World_next_id : Stmt := inClass (topS 32) 3
abbrev s_World_luck : Stmt := inClass (topS 32) 4
abbrev s_World_things : Stmt := inClass (topS 32) 5
abbrev s_World_ids : Stmt := inClass (topS 32) 6
abbrev s_World_kind_of : Stmt := inClass (topS 32) 7
abbrev s_World_numbers : Stmt := inClass (topS 32) 8
abbrev s_World_contains : Stmt := inClass (topS 32) 9
abbrev s_World_len : Stmt := inClass (topS 32) 10
abbrev s_World_eq : Stmt := inClass (topS 32) 12
abbrev s_World_str : Stmt := inClass (topS 32) 13
abbrev s_made_world : Stmt := topS 33
abbrev s_thing_at : Stmt := topS 34
abbrev s_thing_text : Stmt := topS 35
abbrev s_text_of_world : Stmt := topS 36
abbrev s_integer_in : Stmt := topS 37
abbrev s_thing_in : Stmt := topS 38
abbrev s_world_in : Stmt := topS 39
abbrev s_require_any_world : Stmt := topS 40
abbrev s_known_thing : Stmt := topS 41
abbrev s_world_text : Stmt := topS 42
abbrev s_read_world : Stmt := topS 43
abbrev s_l_dice : Stmt := topS 45
abbrev s_l_roll : Stmt := topS 46
abbrev s_l_pick : Stmt := topS 47
abbrev s_l_near : Stmt := topS 48
abbrev s_l_wd_plain : Stmt := topS 49
abbrev s_l_world_drawn : Stmt := topS 50
abbrev s_l_written : Stmt := topS 51
abbrev s_l_integer : Stmt := topS 52
abbrev s_l_read_thing : Stmt := topS 53
abbrev s_l_read : Stmt := topS 54
abbrev s_l_near_texts : Stmt := topS 55
abbrev s_l_told : Stmt := topS 56
abbrev s_l_right : Stmt := topS 57
abbrev s_law : Stmt := topS 58
section
abbrev PA_0 (K : PySem.W.Frag) : Prop :=
  (PySem.W.nsIn K mainGlobals "KnownParts" = some (some (.ref (Hx.gA K "KnownParts")))) ∧
  (PySem.W.nsIn K mainGlobals "World" = some (some (.ref (Hx.gA K "World")))) ∧
  (PySem.W.nsIn K mainGlobals "_wall" = some (some (.ref (Hx.gA K "_wall")))) ∧
  ((Hx.fdAt K (Hx.gA K "_wall")).closure = []) ∧
  ((Hx.fdAt K (Hx.gA K "_wall")).defaults = .none) ∧
  (PySem.W.codeIn K (Hx.fdAt K (Hx.gA K "_wall")).code "_wall" = true) ∧
  (PySem.W.keepIn K (.ref (Hx.gA K "_wall")) = true) ∧
  (PySem.W.nsIn K mainGlobals "is_whole" = some (some (.ref (Hx.gA K "is_whole")))) ∧
  ((Hx.fdAt K (Hx.gA K "is_whole")).closure = []) ∧
  ((Hx.fdAt K (Hx.gA K "is_whole")).defaults = .none) ∧
  (PySem.W.codeIn K (Hx.fdAt K (Hx.gA K "is_whole")).code "is_whole" = true) ∧
  (PySem.W.keepIn K (.ref (Hx.gA K "is_whole")) = true) ∧
  (PySem.W.nsIn K mainGlobals "is_short" = some (some (.ref (Hx.gA K "is_short")))) ∧
  ((Hx.fdAt K (Hx.gA K "is_short")).closure = []) ∧
  ((Hx.fdAt K (Hx.gA K "is_short")).defaults = .none) ∧
  (PySem.W.codeIn K (Hx.fdAt K (Hx.gA K "is_short")).code "is_short" = true) ∧
  (PySem.W.keepIn K (.ref (Hx.gA K "is_short")) = true) ∧
  (PySem.W.nsIn K mainGlobals "is_from" = some (some (.ref (Hx.gA K "is_from")))) ∧
  ((Hx.fdAt K (Hx.gA K "is_from")).closure = []) ∧
  ((Hx.fdAt K (Hx.gA K "is_from")).defaults = .none) ∧
  (PySem.W.codeIn K (Hx.fdAt K (Hx.gA K "is_from")).code "is_from" = true) ∧
  (PySem.W.keepIn K (.ref (Hx.gA K "is_from")) = true) ∧
  (PySem.W.nsIn K mainGlobals "is_tick" = some (some (.ref (Hx.gA K "is_tick")))) ∧
  ((Hx.fdAt K (Hx.gA K "is_tick")).closure = [])
abbrev PA_1 (K : PySem.W.Frag) : Prop :=
  ((Hx.fdAt K (Hx.gA K "is_tick")).defaults = .none) ∧
  (PySem.W.codeIn K (Hx.fdAt K (Hx.gA K "is_tick")).code "is_tick" = true) ∧
  (PySem.W.keepIn K (.ref (Hx.gA K "is_tick")) = true) ∧
  (PySem.W.nsIn K mainGlobals "is_luck_in" = some (some (.ref (Hx.gA K "is_luck_in")))) ∧
  ((Hx.fdAt K (Hx.gA K "is_luck_in")).closure = []) ∧
  ((Hx.fdAt K (Hx.gA K "is_luck_in")).defaults = .none) ∧
  (PySem.W.codeIn K (Hx.fdAt K (Hx.gA K "is_luck_in")).code "is_luck_in" = true) ∧
  (PySem.W.keepIn K (.ref (Hx.gA K "is_luck_in")) = true) ∧
  (PySem.W.nsIn K mainGlobals "is_luck" = some (some (.ref (Hx.gA K "is_luck")))) ∧
  ((Hx.fdAt K (Hx.gA K "is_luck")).closure = []) ∧
  ((Hx.fdAt K (Hx.gA K "is_luck")).defaults = .none) ∧
  (PySem.W.codeIn K (Hx.fdAt K (Hx.gA K "is_luck")).code "is_luck" = true) ∧
  (PySem.W.keepIn K (.ref (Hx.gA K "is_luck")) = true) ∧
  (PySem.W.nsIn K mainGlobals "is_number" = some (some (.ref (Hx.gA K "is_number")))) ∧
  ((Hx.fdAt K (Hx.gA K "is_number")).closure = []) ∧
  ((Hx.fdAt K (Hx.gA K "is_number")).defaults = .none) ∧
  (PySem.W.codeIn K (Hx.fdAt K (Hx.gA K "is_number")).code "is_number" = true) ∧
  (PySem.W.keepIn K (.ref (Hx.gA K "is_number")) = true) ∧
  (PySem.W.nsIn K mainGlobals "is_name_in" = some (some (.ref (Hx.gA K "is_name_in")))) ∧
  ((Hx.fdAt K (Hx.gA K "is_name_in")).closure = []) ∧
  ((Hx.fdAt K (Hx.gA K "is_name_in")).defaults = .none) ∧
  (PySem.W.codeIn K (Hx.fdAt K (Hx.gA K "is_name_in")).code "is_name_in" = true) ∧
  (PySem.W.keepIn K (.ref (Hx.gA K "is_name_in")) = true) ∧
  (PySem.W.nsIn K mainGlobals "are_numbers_in" = some (some (.ref (Hx.gA K "are_numbers_in"))))
abbrev PA_2 (K : PySem.W.Frag) : Prop :=
  ((Hx.fdAt K (Hx.gA K "are_numbers_in")).closure = []) ∧
  ((Hx.fdAt K (Hx.gA K "are_numbers_in")).defaults = .none) ∧
  (PySem.W.codeIn K (Hx.fdAt K (Hx.gA K "are_numbers_in")).code "are_numbers_in" = true) ∧
  (PySem.W.keepIn K (.ref (Hx.gA K "are_numbers_in")) = true) ∧
  (PySem.W.nsIn K mainGlobals "is_thing_in" = some (some (.ref (Hx.gA K "is_thing_in")))) ∧
  ((Hx.fdAt K (Hx.gA K "is_thing_in")).closure = []) ∧
  ((Hx.fdAt K (Hx.gA K "is_thing_in")).defaults = .none) ∧
  (PySem.W.codeIn K (Hx.fdAt K (Hx.gA K "is_thing_in")).code "is_thing_in" = true) ∧
  (PySem.W.keepIn K (.ref (Hx.gA K "is_thing_in")) = true) ∧
  (PySem.W.nsIn K mainGlobals "are_things_in" = some (some (.ref (Hx.gA K "are_things_in")))) ∧
  ((Hx.fdAt K (Hx.gA K "are_things_in")).closure = []) ∧
  ((Hx.fdAt K (Hx.gA K "are_things_in")).defaults = .none) ∧
  (PySem.W.codeIn K (Hx.fdAt K (Hx.gA K "are_things_in")).code "are_things_in" = true) ∧
  (PySem.W.keepIn K (.ref (Hx.gA K "are_things_in")) = true) ∧
  (PySem.W.findIn K (.ref (Hx.gA K "KnownParts")) "__init__" = some (some (.ref (Hx.mA K (Hx.gA K "KnownParts") "__init__")))) ∧
  (PySem.W.isFn K (.ref (Hx.mA K (Hx.gA K "KnownParts") "__init__")) = true) ∧
  ((Hx.fdAt K (Hx.mA K (Hx.gA K "KnownParts") "__init__")).closure = []) ∧
  ((Hx.fdAt K (Hx.mA K (Hx.gA K "KnownParts") "__init__")).defaults = .none) ∧
  (PySem.W.codeIn K (Hx.fdAt K (Hx.mA K (Hx.gA K "KnownParts") "__init__")).code "KnownParts.__init__" = true) ∧
  (PySem.W.keepIn K (.ref (Hx.mA K (Hx.gA K "KnownParts") "__init__")) = true) ∧
  (PySem.W.nsIn K mainGlobals "parts_told" = some (some (.ref (Hx.gA K "parts_told")))) ∧
  ((Hx.fdAt K (Hx.gA K "parts_told")).closure = []) ∧
  ((Hx.fdAt K (Hx.gA K "parts_told")).defaults = .none) ∧
  (PySem.W.codeIn K (Hx.fdAt K (Hx.gA K "parts_told")).code "parts_told" = true)
abbrev PA_3 (K : PySem.W.Frag) : Prop :=
  (PySem.W.keepIn K (.ref (Hx.gA K "parts_told")) = true) ∧
  (PySem.W.findIn K (.ref (Hx.gA K "World")) "__init__" = some (some (.ref (Hx.mA K (Hx.gA K "World") "__init__")))) ∧
  (PySem.W.isFn K (.ref (Hx.mA K (Hx.gA K "World") "__init__")) = true) ∧
  ((Hx.fdAt K (Hx.mA K (Hx.gA K "World") "__init__")).closure = []) ∧
  ((Hx.fdAt K (Hx.mA K (Hx.gA K "World") "__init__")).defaults = .none) ∧
  (PySem.W.codeIn K (Hx.fdAt K (Hx.mA K (Hx.gA K "World") "__init__")).code "World.__init__" = true) ∧
  (PySem.W.keepIn K (.ref (Hx.mA K (Hx.gA K "World") "__init__")) = true) ∧
  (PySem.W.findIn K (.ref (Hx.gA K "World")) "tick" = some (some (.ref (Hx.mA K (Hx.gA K "World") "tick")))) ∧
  (PySem.W.specialIn K (.ref (Hx.mA K (Hx.gA K "World") "tick")) "__get__" = some (some (.builtin "property.__get__"))) ∧
  (PySem.W.takesIn K (.ref (Hx.mA K (Hx.gA K "World") "tick")) = some true) ∧
  (PySem.W.recIn K (Hx.mA K (Hx.gA K "World") "tick") "property" = some (.ref (Hx.pA K (Hx.mA K (Hx.gA K "World") "tick")) :: (Hx.recV K (Hx.mA K (Hx.gA K "World") "tick")).tail)) ∧
  ((Hx.fdAt K (Hx.pA K (Hx.mA K (Hx.gA K "World") "tick"))).closure = []) ∧
  ((Hx.fdAt K (Hx.pA K (Hx.mA K (Hx.gA K "World") "tick"))).defaults = .none) ∧
  (PySem.W.codeIn K (Hx.fdAt K (Hx.pA K (Hx.mA K (Hx.gA K "World") "tick"))).code "World.tick" = true) ∧
  (PySem.W.keepIn K (.ref (Hx.pA K (Hx.mA K (Hx.gA K "World") "tick"))) = true) ∧
  (PySem.W.findIn K (.ref (Hx.gA K "World")) "next_id" = some (some (.ref (Hx.mA K (Hx.gA K "World") "next_id")))) ∧
  (PySem.W.specialIn K (.ref (Hx.mA K (Hx.gA K "World") "next_id")) "__get__" = some (some (.builtin "property.__get__"))) ∧
  (PySem.W.takesIn K (.ref (Hx.mA K (Hx.gA K "World") "next_id")) = some true) ∧
  (PySem.W.recIn K (Hx.mA K (Hx.gA K "World") "next_id") "property" = some (.ref (Hx.pA K (Hx.mA K (Hx.gA K "World") "next_id")) :: (Hx.recV K (Hx.mA K (Hx.gA K "World") "next_id")).tail)) ∧
  ((Hx.fdAt K (Hx.pA K (Hx.mA K (Hx.gA K "World") "next_id"))).closure = []) ∧
  ((Hx.fdAt K (Hx.pA K (Hx.mA K (Hx.gA K "World") "next_id"))).defaults = .none) ∧
  (PySem.W.codeIn K (Hx.fdAt K (Hx.pA K (Hx.mA K (Hx.gA K "World") "next_id"))).code "World.next_id" = true) ∧
  (PySem.W.keepIn K (.ref (Hx.pA K (Hx.mA K (Hx.gA K "World") "next_id"))) = true) ∧
  (PySem.W.findIn K (.ref (Hx.gA K "World")) "luck" = some (some (.ref (Hx.mA K (Hx.gA K "World") "luck"))))
abbrev PA_4 (K : PySem.W.Frag) : Prop :=
  (PySem.W.specialIn K (.ref (Hx.mA K (Hx.gA K "World") "luck")) "__get__" = some (some (.builtin "property.__get__"))) ∧
  (PySem.W.takesIn K (.ref (Hx.mA K (Hx.gA K "World") "luck")) = some true) ∧
  (PySem.W.recIn K (Hx.mA K (Hx.gA K "World") "luck") "property" = some (.ref (Hx.pA K (Hx.mA K (Hx.gA K "World") "luck")) :: (Hx.recV K (Hx.mA K (Hx.gA K "World") "luck")).tail)) ∧
  ((Hx.fdAt K (Hx.pA K (Hx.mA K (Hx.gA K "World") "luck"))).closure = []) ∧
  ((Hx.fdAt K (Hx.pA K (Hx.mA K (Hx.gA K "World") "luck"))).defaults = .none) ∧
  (PySem.W.codeIn K (Hx.fdAt K (Hx.pA K (Hx.mA K (Hx.gA K "World") "luck"))).code "World.luck" = true) ∧
  (PySem.W.keepIn K (.ref (Hx.pA K (Hx.mA K (Hx.gA K "World") "luck"))) = true) ∧
  (PySem.W.findIn K (.ref (Hx.gA K "World")) "things" = some (some (.ref (Hx.mA K (Hx.gA K "World") "things")))) ∧
  (PySem.W.specialIn K (.ref (Hx.mA K (Hx.gA K "World") "things")) "__get__" = some (some (.builtin "property.__get__"))) ∧
  (PySem.W.takesIn K (.ref (Hx.mA K (Hx.gA K "World") "things")) = some true) ∧
  (PySem.W.recIn K (Hx.mA K (Hx.gA K "World") "things") "property" = some (.ref (Hx.pA K (Hx.mA K (Hx.gA K "World") "things")) :: (Hx.recV K (Hx.mA K (Hx.gA K "World") "things")).tail)) ∧
  ((Hx.fdAt K (Hx.pA K (Hx.mA K (Hx.gA K "World") "things"))).closure = []) ∧
  ((Hx.fdAt K (Hx.pA K (Hx.mA K (Hx.gA K "World") "things"))).defaults = .none) ∧
  (PySem.W.codeIn K (Hx.fdAt K (Hx.pA K (Hx.mA K (Hx.gA K "World") "things"))).code "World.things" = true) ∧
  (PySem.W.keepIn K (.ref (Hx.pA K (Hx.mA K (Hx.gA K "World") "things"))) = true) ∧
  (PySem.W.findIn K (.ref (Hx.gA K "World")) "ids" = some (some (.ref (Hx.mA K (Hx.gA K "World") "ids")))) ∧
  (PySem.W.isFn K (.ref (Hx.mA K (Hx.gA K "World") "ids")) = true) ∧
  ((Hx.fdAt K (Hx.mA K (Hx.gA K "World") "ids")).closure = []) ∧
  ((Hx.fdAt K (Hx.mA K (Hx.gA K "World") "ids")).defaults = .none) ∧
  (PySem.W.codeIn K (Hx.fdAt K (Hx.mA K (Hx.gA K "World") "ids")).code "World.ids" = true) ∧
  (PySem.W.keepIn K (.ref (Hx.mA K (Hx.gA K "World") "ids")) = true) ∧
  (PySem.W.findIn K (.ref (Hx.gA K "World")) "kind_of" = some (some (.ref (Hx.mA K (Hx.gA K "World") "kind_of")))) ∧
  (PySem.W.isFn K (.ref (Hx.mA K (Hx.gA K "World") "kind_of")) = true) ∧
  ((Hx.fdAt K (Hx.mA K (Hx.gA K "World") "kind_of")).closure = [])
abbrev PA_5 (K : PySem.W.Frag) : Prop :=
  ((Hx.fdAt K (Hx.mA K (Hx.gA K "World") "kind_of")).defaults = .none) ∧
  (PySem.W.codeIn K (Hx.fdAt K (Hx.mA K (Hx.gA K "World") "kind_of")).code "World.kind_of" = true) ∧
  (PySem.W.keepIn K (.ref (Hx.mA K (Hx.gA K "World") "kind_of")) = true) ∧
  (PySem.W.findIn K (.ref (Hx.gA K "World")) "numbers" = some (some (.ref (Hx.mA K (Hx.gA K "World") "numbers")))) ∧
  (PySem.W.isFn K (.ref (Hx.mA K (Hx.gA K "World") "numbers")) = true) ∧
  ((Hx.fdAt K (Hx.mA K (Hx.gA K "World") "numbers")).closure = []) ∧
  ((Hx.fdAt K (Hx.mA K (Hx.gA K "World") "numbers")).defaults = .none) ∧
  (PySem.W.codeIn K (Hx.fdAt K (Hx.mA K (Hx.gA K "World") "numbers")).code "World.numbers" = true) ∧
  (PySem.W.keepIn K (.ref (Hx.mA K (Hx.gA K "World") "numbers")) = true) ∧
  (PySem.W.findIn K (.ref (Hx.gA K "World")) "__contains__" = some (some (.ref (Hx.mA K (Hx.gA K "World") "__contains__")))) ∧
  (PySem.W.isFn K (.ref (Hx.mA K (Hx.gA K "World") "__contains__")) = true) ∧
  ((Hx.fdAt K (Hx.mA K (Hx.gA K "World") "__contains__")).closure = []) ∧
  ((Hx.fdAt K (Hx.mA K (Hx.gA K "World") "__contains__")).defaults = .none) ∧
  (PySem.W.codeIn K (Hx.fdAt K (Hx.mA K (Hx.gA K "World") "__contains__")).code "World.__contains__" = true) ∧
  (PySem.W.keepIn K (.ref (Hx.mA K (Hx.gA K "World") "__contains__")) = true) ∧
  (PySem.W.findIn K (.ref (Hx.gA K "World")) "__len__" = some (some (.ref (Hx.mA K (Hx.gA K "World") "__len__")))) ∧
  (PySem.W.isFn K (.ref (Hx.mA K (Hx.gA K "World") "__len__")) = true) ∧
  ((Hx.fdAt K (Hx.mA K (Hx.gA K "World") "__len__")).closure = []) ∧
  ((Hx.fdAt K (Hx.mA K (Hx.gA K "World") "__len__")).defaults = .none) ∧
  (PySem.W.codeIn K (Hx.fdAt K (Hx.mA K (Hx.gA K "World") "__len__")).code "World.__len__" = true) ∧
  (PySem.W.keepIn K (.ref (Hx.mA K (Hx.gA K "World") "__len__")) = true) ∧
  (PySem.W.findIn K (.ref (Hx.gA K "World")) "__eq__" = some (some (.ref (Hx.mA K (Hx.gA K "World") "__eq__")))) ∧
  (PySem.W.isFn K (.ref (Hx.mA K (Hx.gA K "World") "__eq__")) = true) ∧
  ((Hx.fdAt K (Hx.mA K (Hx.gA K "World") "__eq__")).closure = [])
abbrev PA_6 (K : PySem.W.Frag) : Prop :=
  ((Hx.fdAt K (Hx.mA K (Hx.gA K "World") "__eq__")).defaults = .none) ∧
  (PySem.W.codeIn K (Hx.fdAt K (Hx.mA K (Hx.gA K "World") "__eq__")).code "World.__eq__" = true) ∧
  (PySem.W.keepIn K (.ref (Hx.mA K (Hx.gA K "World") "__eq__")) = true) ∧
  (PySem.W.findIn K (.ref (Hx.gA K "World")) "__str__" = some (some (.ref (Hx.mA K (Hx.gA K "World") "__str__")))) ∧
  (PySem.W.isFn K (.ref (Hx.mA K (Hx.gA K "World") "__str__")) = true) ∧
  ((Hx.fdAt K (Hx.mA K (Hx.gA K "World") "__str__")).closure = []) ∧
  ((Hx.fdAt K (Hx.mA K (Hx.gA K "World") "__str__")).defaults = .none) ∧
  (PySem.W.codeIn K (Hx.fdAt K (Hx.mA K (Hx.gA K "World") "__str__")).code "World.__str__" = true) ∧
  (PySem.W.keepIn K (.ref (Hx.mA K (Hx.gA K "World") "__str__")) = true) ∧
  (PySem.W.nsIn K mainGlobals "made_world" = some (some (.ref (Hx.gA K "made_world")))) ∧
  ((Hx.fdAt K (Hx.gA K "made_world")).closure = []) ∧
  ((Hx.fdAt K (Hx.gA K "made_world")).defaults = .none) ∧
  (PySem.W.codeIn K (Hx.fdAt K (Hx.gA K "made_world")).code "made_world" = true) ∧
  (PySem.W.keepIn K (.ref (Hx.gA K "made_world")) = true) ∧
  (PySem.W.nsIn K mainGlobals "thing_at" = some (some (.ref (Hx.gA K "thing_at")))) ∧
  ((Hx.fdAt K (Hx.gA K "thing_at")).closure = []) ∧
  ((Hx.fdAt K (Hx.gA K "thing_at")).defaults = .none) ∧
  (PySem.W.codeIn K (Hx.fdAt K (Hx.gA K "thing_at")).code "thing_at" = true) ∧
  (PySem.W.keepIn K (.ref (Hx.gA K "thing_at")) = true) ∧
  (PySem.W.nsIn K mainGlobals "thing_text" = some (some (.ref (Hx.gA K "thing_text")))) ∧
  ((Hx.fdAt K (Hx.gA K "thing_text")).closure = []) ∧
  ((Hx.fdAt K (Hx.gA K "thing_text")).defaults = .none) ∧
  (PySem.W.codeIn K (Hx.fdAt K (Hx.gA K "thing_text")).code "thing_text" = true) ∧
  (PySem.W.keepIn K (.ref (Hx.gA K "thing_text")) = true)
abbrev PA_7 (K : PySem.W.Frag) : Prop :=
  (PySem.W.nsIn K mainGlobals "text_of_world" = some (some (.ref (Hx.gA K "text_of_world")))) ∧
  ((Hx.fdAt K (Hx.gA K "text_of_world")).closure = []) ∧
  ((Hx.fdAt K (Hx.gA K "text_of_world")).defaults = .none) ∧
  (PySem.W.codeIn K (Hx.fdAt K (Hx.gA K "text_of_world")).code "text_of_world" = true) ∧
  (PySem.W.keepIn K (.ref (Hx.gA K "text_of_world")) = true) ∧
  (PySem.W.nsIn K mainGlobals "integer_in" = some (some (.ref (Hx.gA K "integer_in")))) ∧
  ((Hx.fdAt K (Hx.gA K "integer_in")).closure = []) ∧
  ((Hx.fdAt K (Hx.gA K "integer_in")).defaults = .none) ∧
  (PySem.W.codeIn K (Hx.fdAt K (Hx.gA K "integer_in")).code "integer_in" = true) ∧
  (PySem.W.keepIn K (.ref (Hx.gA K "integer_in")) = true) ∧
  (PySem.W.nsIn K mainGlobals "thing_in" = some (some (.ref (Hx.gA K "thing_in")))) ∧
  ((Hx.fdAt K (Hx.gA K "thing_in")).closure = []) ∧
  ((Hx.fdAt K (Hx.gA K "thing_in")).defaults = .none) ∧
  (PySem.W.codeIn K (Hx.fdAt K (Hx.gA K "thing_in")).code "thing_in" = true) ∧
  (PySem.W.keepIn K (.ref (Hx.gA K "thing_in")) = true) ∧
  (PySem.W.nsIn K mainGlobals "world_in" = some (some (.ref (Hx.gA K "world_in")))) ∧
  ((Hx.fdAt K (Hx.gA K "world_in")).closure = []) ∧
  ((Hx.fdAt K (Hx.gA K "world_in")).defaults = .none) ∧
  (PySem.W.codeIn K (Hx.fdAt K (Hx.gA K "world_in")).code "world_in" = true) ∧
  (PySem.W.keepIn K (.ref (Hx.gA K "world_in")) = true) ∧
  (PySem.W.nsIn K mainGlobals "require_any_world" = some (some (.ref (Hx.gA K "require_any_world")))) ∧
  ((Hx.fdAt K (Hx.gA K "require_any_world")).closure = []) ∧
  ((Hx.fdAt K (Hx.gA K "require_any_world")).defaults = .none) ∧
  (PySem.W.codeIn K (Hx.fdAt K (Hx.gA K "require_any_world")).code "require_any_world" = true)
abbrev PA_8 (K : PySem.W.Frag) : Prop :=
  (PySem.W.keepIn K (.ref (Hx.gA K "require_any_world")) = true) ∧
  (PySem.W.nsIn K mainGlobals "known_thing" = some (some (.ref (Hx.gA K "known_thing")))) ∧
  ((Hx.fdAt K (Hx.gA K "known_thing")).closure = []) ∧
  ((Hx.fdAt K (Hx.gA K "known_thing")).defaults = .none) ∧
  (PySem.W.codeIn K (Hx.fdAt K (Hx.gA K "known_thing")).code "known_thing" = true) ∧
  (PySem.W.keepIn K (.ref (Hx.gA K "known_thing")) = true) ∧
  (PySem.W.nsIn K mainGlobals "world_text" = some (some (.ref (Hx.gA K "world_text")))) ∧
  ((Hx.fdAt K (Hx.gA K "world_text")).closure = []) ∧
  ((Hx.fdAt K (Hx.gA K "world_text")).defaults = .none) ∧
  (PySem.W.codeIn K (Hx.fdAt K (Hx.gA K "world_text")).code "world_text" = true) ∧
  (PySem.W.keepIn K (.ref (Hx.gA K "world_text")) = true) ∧
  (PySem.W.nsIn K mainGlobals "read_world" = some (some (.ref (Hx.gA K "read_world")))) ∧
  ((Hx.fdAt K (Hx.gA K "read_world")).closure = []) ∧
  ((Hx.fdAt K (Hx.gA K "read_world")).defaults = .none) ∧
  (PySem.W.codeIn K (Hx.fdAt K (Hx.gA K "read_world")).code "read_world" = true) ∧
  (PySem.W.keepIn K (.ref (Hx.gA K "read_world")) = true) ∧
  (PySem.W.nsIn K mainGlobals "_law_dice" = some (some (.ref (Hx.gA K "_law_dice")))) ∧
  ((Hx.fdAt K (Hx.gA K "_law_dice")).closure = []) ∧
  ((Hx.fdAt K (Hx.gA K "_law_dice")).defaults = .none) ∧
  (PySem.W.codeIn K (Hx.fdAt K (Hx.gA K "_law_dice")).code "_law_dice" = true) ∧
  (PySem.W.keepIn K (.ref (Hx.gA K "_law_dice")) = true) ∧
  (PySem.W.nsIn K mainGlobals "_law_roll" = some (some (.ref (Hx.gA K "_law_roll")))) ∧
  ((Hx.fdAt K (Hx.gA K "_law_roll")).closure = []) ∧
  ((Hx.fdAt K (Hx.gA K "_law_roll")).defaults = .none)
abbrev PA_9 (K : PySem.W.Frag) : Prop :=
  (PySem.W.codeIn K (Hx.fdAt K (Hx.gA K "_law_roll")).code "_law_roll" = true) ∧
  (PySem.W.keepIn K (.ref (Hx.gA K "_law_roll")) = true) ∧
  (PySem.W.nsIn K mainGlobals "_law_pick" = some (some (.ref (Hx.gA K "_law_pick")))) ∧
  ((Hx.fdAt K (Hx.gA K "_law_pick")).closure = []) ∧
  ((Hx.fdAt K (Hx.gA K "_law_pick")).defaults = .none) ∧
  (PySem.W.codeIn K (Hx.fdAt K (Hx.gA K "_law_pick")).code "_law_pick" = true) ∧
  (PySem.W.keepIn K (.ref (Hx.gA K "_law_pick")) = true) ∧
  (PySem.W.nsIn K mainGlobals "_law_near" = some (some (.ref (Hx.gA K "_law_near")))) ∧
  ((Hx.fdAt K (Hx.gA K "_law_near")).closure = []) ∧
  ((Hx.fdAt K (Hx.gA K "_law_near")).defaults = .none) ∧
  (PySem.W.codeIn K (Hx.fdAt K (Hx.gA K "_law_near")).code "_law_near" = true) ∧
  (PySem.W.keepIn K (.ref (Hx.gA K "_law_near")) = true) ∧
  (PySem.W.nsIn K mainGlobals "_law_wd_plain" = some (some (.ref (Hx.gA K "_law_wd_plain")))) ∧
  ((Hx.fdAt K (Hx.gA K "_law_wd_plain")).closure = []) ∧
  ((Hx.fdAt K (Hx.gA K "_law_wd_plain")).defaults = .none) ∧
  (PySem.W.codeIn K (Hx.fdAt K (Hx.gA K "_law_wd_plain")).code "_law_wd_plain" = true) ∧
  (PySem.W.keepIn K (.ref (Hx.gA K "_law_wd_plain")) = true) ∧
  (PySem.W.nsIn K mainGlobals "_law_world_drawn" = some (some (.ref (Hx.gA K "_law_world_drawn")))) ∧
  ((Hx.fdAt K (Hx.gA K "_law_world_drawn")).closure = []) ∧
  ((Hx.fdAt K (Hx.gA K "_law_world_drawn")).defaults = .none) ∧
  (PySem.W.codeIn K (Hx.fdAt K (Hx.gA K "_law_world_drawn")).code "_law_world_drawn" = true) ∧
  (PySem.W.keepIn K (.ref (Hx.gA K "_law_world_drawn")) = true) ∧
  (PySem.W.nsIn K mainGlobals "_law_written" = some (some (.ref (Hx.gA K "_law_written")))) ∧
  ((Hx.fdAt K (Hx.gA K "_law_written")).closure = [])
abbrev PA_10 (K : PySem.W.Frag) : Prop :=
  ((Hx.fdAt K (Hx.gA K "_law_written")).defaults = .none) ∧
  (PySem.W.codeIn K (Hx.fdAt K (Hx.gA K "_law_written")).code "_law_written" = true) ∧
  (PySem.W.keepIn K (.ref (Hx.gA K "_law_written")) = true) ∧
  (PySem.W.nsIn K mainGlobals "_law_integer" = some (some (.ref (Hx.gA K "_law_integer")))) ∧
  ((Hx.fdAt K (Hx.gA K "_law_integer")).closure = []) ∧
  ((Hx.fdAt K (Hx.gA K "_law_integer")).defaults = .none) ∧
  (PySem.W.codeIn K (Hx.fdAt K (Hx.gA K "_law_integer")).code "_law_integer" = true) ∧
  (PySem.W.keepIn K (.ref (Hx.gA K "_law_integer")) = true) ∧
  (PySem.W.nsIn K mainGlobals "_law_read_thing" = some (some (.ref (Hx.gA K "_law_read_thing")))) ∧
  ((Hx.fdAt K (Hx.gA K "_law_read_thing")).closure = []) ∧
  ((Hx.fdAt K (Hx.gA K "_law_read_thing")).defaults = .none) ∧
  (PySem.W.codeIn K (Hx.fdAt K (Hx.gA K "_law_read_thing")).code "_law_read_thing" = true) ∧
  (PySem.W.keepIn K (.ref (Hx.gA K "_law_read_thing")) = true) ∧
  (PySem.W.nsIn K mainGlobals "_law_read" = some (some (.ref (Hx.gA K "_law_read")))) ∧
  ((Hx.fdAt K (Hx.gA K "_law_read")).closure = []) ∧
  ((Hx.fdAt K (Hx.gA K "_law_read")).defaults = .none) ∧
  (PySem.W.codeIn K (Hx.fdAt K (Hx.gA K "_law_read")).code "_law_read" = true) ∧
  (PySem.W.keepIn K (.ref (Hx.gA K "_law_read")) = true) ∧
  (PySem.W.nsIn K mainGlobals "_law_near_texts" = some (some (.ref (Hx.gA K "_law_near_texts")))) ∧
  ((Hx.fdAt K (Hx.gA K "_law_near_texts")).closure = []) ∧
  ((Hx.fdAt K (Hx.gA K "_law_near_texts")).defaults = .none) ∧
  (PySem.W.codeIn K (Hx.fdAt K (Hx.gA K "_law_near_texts")).code "_law_near_texts" = true) ∧
  (PySem.W.keepIn K (.ref (Hx.gA K "_law_near_texts")) = true) ∧
  (PySem.W.nsIn K mainGlobals "_law_told" = some (some (.ref (Hx.gA K "_law_told"))))
abbrev PA_11 (K : PySem.W.Frag) : Prop :=
  ((Hx.fdAt K (Hx.gA K "_law_told")).closure = []) ∧
  ((Hx.fdAt K (Hx.gA K "_law_told")).defaults = .none) ∧
  (PySem.W.codeIn K (Hx.fdAt K (Hx.gA K "_law_told")).code "_law_told" = true) ∧
  (PySem.W.keepIn K (.ref (Hx.gA K "_law_told")) = true) ∧
  (PySem.W.nsIn K mainGlobals "_law_right" = some (some (.ref (Hx.gA K "_law_right")))) ∧
  ((Hx.fdAt K (Hx.gA K "_law_right")).closure = []) ∧
  ((Hx.fdAt K (Hx.gA K "_law_right")).defaults = .none) ∧
  (PySem.W.codeIn K (Hx.fdAt K (Hx.gA K "_law_right")).code "_law_right" = true) ∧
  (PySem.W.keepIn K (.ref (Hx.gA K "_law_right")) = true) ∧
  (PySem.W.nsIn K mainGlobals "law" = some (some (.ref (Hx.gA K "law")))) ∧
  ((Hx.fdAt K (Hx.gA K "law")).closure = []) ∧
  ((Hx.fdAt K (Hx.gA K "law")).defaults = .none) ∧
  (PySem.W.codeIn K (Hx.fdAt K (Hx.gA K "law")).code "law" = true) ∧
  (PySem.W.keepIn K (.ref (Hx.gA K "law")) = true) ∧
  (PySem.W.nsIn K PySem.cStatics "thirdparty.any" = some none) ∧
  (PySem.W.nsIn K mainGlobals "super" = some none) ∧
  (PySem.W.nsIn K mainGlobals "PlayError" = some (some (.ref (Hx.gA K "PlayError")))) ∧
  (PySem.W.keepIn K (.ref (Hx.gA K "PlayError")) = true) ∧
  (PySem.W.subIn K (.ref (Hx.gA K "PlayError")) (.type "BaseException") = some true) ∧
  (PySem.W.typeIn K (.ref (Hx.gA K "PlayError")) = some (.type "type")) ∧
  (PySem.W.isClsIn K (Hx.gA K "PlayError") = true) ∧
  (PySem.W.excIn K (Hx.gA K "PlayError") [.type "ValueError", .type "Exception", .type "BaseException", .type "object"] "ValueError.__new__" = true) ∧
  (PySem.W.nsIn K mainGlobals "InvalidWorld" = some (some (.ref (Hx.gA K "InvalidWorld")))) ∧
  (PySem.W.keepIn K (.ref (Hx.gA K "InvalidWorld")) = true)
abbrev PA_12 (K : PySem.W.Frag) : Prop :=
  (PySem.W.subIn K (.ref (Hx.gA K "InvalidWorld")) (.type "BaseException") = some true) ∧
  (PySem.W.typeIn K (.ref (Hx.gA K "InvalidWorld")) = some (.type "type")) ∧
  (PySem.W.isClsIn K (Hx.gA K "InvalidWorld") = true) ∧
  (PySem.W.excIn K (Hx.gA K "InvalidWorld") [.type "ValueError", .type "Exception", .type "BaseException", .type "object"] "ValueError.__new__" = true) ∧
  (PySem.W.nsIn K mainGlobals "UnknownName" = some (some (.ref (Hx.gA K "UnknownName")))) ∧
  (PySem.W.keepIn K (.ref (Hx.gA K "UnknownName")) = true) ∧
  (PySem.W.subIn K (.ref (Hx.gA K "UnknownName")) (.type "BaseException") = some true) ∧
  (PySem.W.typeIn K (.ref (Hx.gA K "UnknownName")) = some (.type "type")) ∧
  (PySem.W.isClsIn K (Hx.gA K "UnknownName") = true) ∧
  (PySem.W.subIn K (.ref (Hx.gA K "UnknownName")) (.type "KeyError") = some true) ∧
  (PySem.W.excInitIn K (Hx.gA K "UnknownName") [.type "KeyError", .type "LookupError", .type "Exception", .type "BaseException", .type "object"] "LookupError.__new__" = true) ∧
  (PySem.W.excOver K (Hx.gA K "UnknownName") [.type "KeyError", .type "LookupError", .type "Exception", .type "BaseException", .type "object"] = true) ∧
  (PySem.W.findIn K (.ref (Hx.gA K "UnknownName")) "__setattr__" = some (some (.builtin "object.__setattr__"))) ∧
  (PySem.W.takerIn K (Hx.gA K "UnknownName") "wanted" = some none) ∧
  (PySem.W.findIn K (.ref (Hx.gA K "UnknownName")) "wanted" = some none) ∧
  (PySem.W.findIn K (.ref (Hx.gA K "UnknownName")) "__init__" = some (some (.ref (Hx.mA K (Hx.gA K "UnknownName") "__init__")))) ∧
  (PySem.W.typeIn K (.ref (Hx.mA K (Hx.gA K "UnknownName") "__init__")) = some (.type "function")) ∧
  (PySem.W.hasDictIn K (Hx.gA K "UnknownName") = true) ∧
  (PySem.W.mroIn K (Hx.gA K "UnknownName") (.ref (Hx.gA K "UnknownName")) = some true) ∧
  (PySem.W.ks_superIn K (Hx.gA K "UnknownName") (Hx.gA K "UnknownName") "__init__" = some (some (.builtin "KeyError.__init__"))) ∧
  (PySem.W.findIn K (.ref (Hx.gA K "UnknownName")) "__getattribute__" = some (some (.builtin "BaseException.__getattribute__"))) ∧
  (PySem.W.findIn K (.ref (Hx.gA K "UnknownName")) "__getattr__" = some none) ∧
  ((Hx.fdAt K (Hx.mA K (Hx.gA K "UnknownName") "__init__")).closure = ([("__class__", (((Hx.fdAt K (Hx.mA K (Hx.gA K "UnknownName") "__init__")).closure.headD ("", 0)).2))] : List (Str × Addr))) ∧
  ((Hx.fdAt K (Hx.mA K (Hx.gA K "UnknownName") "__init__")).defaults = .none)
abbrev PA_13 (K : PySem.W.Frag) : Prop :=
  ((Hx.fdAt K (Hx.mA K (Hx.gA K "UnknownName") "__init__")).code = .ref (Hx.adr (Hx.fdAt K (Hx.mA K (Hx.gA K "UnknownName") "__init__")).code)) ∧
  (PySem.W.codeIn K (.ref (Hx.adr (Hx.fdAt K (Hx.mA K (Hx.gA K "UnknownName") "__init__")).code)) "UnknownName.__init__" = true) ∧
  (((K.lookup (((Hx.fdAt K (Hx.mA K (Hx.gA K "UnknownName") "__init__")).closure.headD ("", 0)).2)).isSome && Hx.isCell (.ref (Hx.gA K "UnknownName")) (Hx.obAt K (((Hx.fdAt K (Hx.mA K (Hx.gA K "UnknownName") "__init__")).closure.headD ("", 0)).2))) = true) ∧
  (((K.lookup (Hx.adr (Hx.fdAt K (Hx.mA K (Hx.gA K "UnknownName") "__init__")).code)).isSome && Hx.isFields (Hx.obAt K (Hx.adr (Hx.fdAt K (Hx.mA K (Hx.gA K "UnknownName") "__init__")).code))) = true) ∧
  ((Hx.itAt K (Hx.adr (Hx.fdAt K (Hx.mA K (Hx.gA K "UnknownName") "__init__")).code))[2]? = some (.str (Hx.txt ((Hx.itAt K (Hx.adr (Hx.fdAt K (Hx.mA K (Hx.gA K "UnknownName") "__init__")).code)).toList.getD 2 .none)) (Hx.tok ((Hx.itAt K (Hx.adr (Hx.fdAt K (Hx.mA K (Hx.gA K "UnknownName") "__init__")).code)).toList.getD 2 .none)))) ∧
  (((PySem.Challenge.rw_settledplay_k07_whole_texts_of_worlds.prog.main.file : Str) == (Hx.txt ((Hx.itAt K (Hx.adr (Hx.fdAt K (Hx.mA K (Hx.gA K "UnknownName") "__init__")).code)).toList.getD 2 .none))) = true) ∧
  (PySem.W.subIn K (.ref (Hx.gA K "PlayError")) (.ref (Hx.gA K "PlayError")) = some true) ∧
  (PySem.W.subIn K (.ref (Hx.gA K "PlayError")) (.ref (Hx.gA K "InvalidWorld")) = some false) ∧
  (PySem.W.subIn K (.ref (Hx.gA K "PlayError")) (.ref (Hx.gA K "UnknownName")) = some false) ∧
  (PySem.W.subIn K (.ref (Hx.gA K "InvalidWorld")) (.ref (Hx.gA K "PlayError")) = some true) ∧
  (PySem.W.subIn K (.ref (Hx.gA K "InvalidWorld")) (.ref (Hx.gA K "InvalidWorld")) = some true) ∧
  (PySem.W.subIn K (.ref (Hx.gA K "InvalidWorld")) (.ref (Hx.gA K "UnknownName")) = some false) ∧
  (PySem.W.subIn K (.ref (Hx.gA K "UnknownName")) (.ref (Hx.gA K "PlayError")) = some false) ∧
  (PySem.W.subIn K (.ref (Hx.gA K "UnknownName")) (.ref (Hx.gA K "InvalidWorld")) = some false) ∧
  (PySem.W.subIn K (.ref (Hx.gA K "UnknownName")) (.ref (Hx.gA K "UnknownName")) = some true) ∧
  (PySem.W.nsIn K mainGlobals "abs" = some none) ∧
  (PySem.W.nsIn K mainGlobals "all" = some none) ∧
  (PySem.W.nsIn K mainGlobals "bool" = some none) ∧
  (PySem.W.nsIn K mainGlobals "int" = some none) ∧
  (PySem.W.nsIn K mainGlobals "isinstance" = some none) ∧
  (PySem.W.nsIn K mainGlobals "len" = some none) ∧
  (PySem.W.nsIn K mainGlobals "list" = some none) ∧
  (PySem.W.nsIn K mainGlobals "max" = some none) ∧
  (PySem.W.nsIn K mainGlobals "min" = some none)
abbrev PA_14 (K : PySem.W.Frag) : Prop :=
  (PySem.W.nsIn K mainGlobals "range" = some none) ∧
  (PySem.W.nsIn K mainGlobals "str" = some none) ∧
  (PySem.W.nsIn K mainGlobals "tuple" = some none) ∧
  (PySem.W.nsIn K mainGlobals "zip" = some none) ∧
  (PySem.W.nsIn K mainGlobals "GREATEST" = some (some (.int (10 ^ 60) (Hx.tok (Hx.nsV K mainGlobals "GREATEST"))))) ∧
  (PySem.W.nsIn K mainGlobals "MODULUS" = some (some (.int 999999937 (Hx.tok (Hx.nsV K mainGlobals "MODULUS"))))) ∧
  (PySem.W.nsIn K mainGlobals "MOST" = some (some (.int 1000000000 (Hx.tok (Hx.nsV K mainGlobals "MOST"))))) ∧
  (PySem.W.nsIn K mainGlobals "MAX_THINGS" = some (some (.int 12 (Hx.tok (Hx.nsV K mainGlobals "MAX_THINGS"))))) ∧
  (PySem.W.nsIn K mainGlobals "MOST_NUMBERS" = some (some (.int 8 (Hx.tok (Hx.nsV K mainGlobals "MOST_NUMBERS"))))) ∧
  (PySem.W.nsIn K mainGlobals "MOST_NAME" = some (some (.int 8 (Hx.tok (Hx.nsV K mainGlobals "MOST_NAME"))))) ∧
  (PySem.W.nsIn K mainGlobals "MOST_FIGURES" = some (some (.int 4000 (Hx.tok (Hx.nsV K mainGlobals "MOST_FIGURES"))))) ∧
  (PySem.W.nsIn K mainGlobals "THING_PARTS" = some (some (.int 3 (Hx.tok (Hx.nsV K mainGlobals "THING_PARTS"))))) ∧
  (PySem.W.nsIn K mainGlobals "LETTERS" = some (some (.str "abcdefghijklmnopqrstuvwxyz" (Hx.tok (Hx.nsV K mainGlobals "LETTERS"))))) ∧
  (PySem.W.nsIn K mainGlobals "FIGURES" = some (some (.str "0123456789" (Hx.tok (Hx.nsV K mainGlobals "FIGURES"))))) ∧
  (PySem.W.plainGet K (Hx.gA K "KnownParts") Str.empty = true) ∧
  (PySem.W.isClsIn K (Hx.gA K "KnownParts") = true) ∧
  (PySem.W.plainOver K (Hx.gA K "KnownParts") = true) ∧
  (PySem.W.findIn K (.ref (Hx.gA K "KnownParts")) "__setattr__" = some (some (.builtin "object.__setattr__"))) ∧
  (PySem.W.makesIn K (Hx.gA K "KnownParts") = true) ∧
  (PySem.W.keepIn K (.ref (Hx.gA K "KnownParts")) = true) ∧
  (PySem.W.findIn K (.ref (Hx.gA K "KnownParts")) "__class__" = some (some (.builtin "object.__class__"))) ∧
  (PySem.W.specialIn K (.builtin "object.__class__") "__get__" = some (some (.builtin "getset_descriptor.__get__"))) ∧
  (PySem.W.takesIn K (.builtin "object.__class__") = some true) ∧
  (PySem.W.mroIn K (Hx.gA K "KnownParts") (.type "object") = some true)
abbrev PA_15 (K : PySem.W.Frag) : Prop :=
  (PySem.W.typeIn K (.ref (Hx.gA K "KnownParts")) = some (.type "type")) ∧
  (PySem.W.findIn K (.ref (Hx.gA K "KnownParts")) "own_luck" = some (some (.ref (Hx.mA K (Hx.gA K "KnownParts") "own_luck")))) ∧
  (PySem.W.specialIn K (.ref (Hx.mA K (Hx.gA K "KnownParts") "own_luck")) "__get__" = some (some (.builtin "member_descriptor.__get__"))) ∧
  (PySem.W.takesIn K (.ref (Hx.mA K (Hx.gA K "KnownParts") "own_luck")) = some true) ∧
  (PySem.W.typeIn K (.ref (Hx.mA K (Hx.gA K "KnownParts") "own_luck")) = some (.type "member_descriptor")) ∧
  (PySem.W.slotIn K (Hx.mA K (Hx.gA K "KnownParts") "own_luck") (Hx.gA K "KnownParts") = some 0) ∧
  (PySem.W.findIn K (.ref (Hx.gA K "KnownParts")) "own_next_id" = some (some (.ref (Hx.mA K (Hx.gA K "KnownParts") "own_next_id")))) ∧
  (PySem.W.specialIn K (.ref (Hx.mA K (Hx.gA K "KnownParts") "own_next_id")) "__get__" = some (some (.builtin "member_descriptor.__get__"))) ∧
  (PySem.W.takesIn K (.ref (Hx.mA K (Hx.gA K "KnownParts") "own_next_id")) = some true) ∧
  (PySem.W.typeIn K (.ref (Hx.mA K (Hx.gA K "KnownParts") "own_next_id")) = some (.type "member_descriptor")) ∧
  (PySem.W.slotIn K (Hx.mA K (Hx.gA K "KnownParts") "own_next_id") (Hx.gA K "KnownParts") = some 1) ∧
  (PySem.W.findIn K (.ref (Hx.gA K "KnownParts")) "own_things" = some (some (.ref (Hx.mA K (Hx.gA K "KnownParts") "own_things")))) ∧
  (PySem.W.specialIn K (.ref (Hx.mA K (Hx.gA K "KnownParts") "own_things")) "__get__" = some (some (.builtin "member_descriptor.__get__"))) ∧
  (PySem.W.takesIn K (.ref (Hx.mA K (Hx.gA K "KnownParts") "own_things")) = some true) ∧
  (PySem.W.typeIn K (.ref (Hx.mA K (Hx.gA K "KnownParts") "own_things")) = some (.type "member_descriptor")) ∧
  (PySem.W.slotIn K (Hx.mA K (Hx.gA K "KnownParts") "own_things") (Hx.gA K "KnownParts") = some 2) ∧
  (PySem.W.findIn K (.ref (Hx.gA K "KnownParts")) "own_tick" = some (some (.ref (Hx.mA K (Hx.gA K "KnownParts") "own_tick")))) ∧
  (PySem.W.specialIn K (.ref (Hx.mA K (Hx.gA K "KnownParts") "own_tick")) "__get__" = some (some (.builtin "member_descriptor.__get__"))) ∧
  (PySem.W.takesIn K (.ref (Hx.mA K (Hx.gA K "KnownParts") "own_tick")) = some true) ∧
  (PySem.W.typeIn K (.ref (Hx.mA K (Hx.gA K "KnownParts") "own_tick")) = some (.type "member_descriptor")) ∧
  (PySem.W.slotIn K (Hx.mA K (Hx.gA K "KnownParts") "own_tick") (Hx.gA K "KnownParts") = some 3) ∧
  (PySem.W.subIn K (.type "NoneType") (.ref (Hx.gA K "KnownParts")) = some false) ∧
  (PySem.W.subIn K (.type "bool") (.ref (Hx.gA K "KnownParts")) = some false) ∧
  (PySem.W.subIn K (.type "int") (.ref (Hx.gA K "KnownParts")) = some false)
abbrev PA_16 (K : PySem.W.Frag) : Prop :=
  (PySem.W.subIn K (.type "str") (.ref (Hx.gA K "KnownParts")) = some false) ∧
  (PySem.W.subIn K (.type "tuple") (.ref (Hx.gA K "KnownParts")) = some false) ∧
  (PySem.W.subIn K (.type "list") (.ref (Hx.gA K "KnownParts")) = some false) ∧
  (PySem.W.subIn K (.type "dict") (.ref (Hx.gA K "KnownParts")) = some false) ∧
  (PySem.W.subIn K (.ref (Hx.gA K "World")) (.ref (Hx.gA K "KnownParts")) = some false) ∧
  (PySem.W.subIn K (.ref (Hx.gA K "KnownParts")) (.type "NoneType") = some false) ∧
  (PySem.W.subIn K (.ref (Hx.gA K "KnownParts")) (.type "bool") = some false) ∧
  (PySem.W.subIn K (.ref (Hx.gA K "KnownParts")) (.type "int") = some false) ∧
  (PySem.W.subIn K (.ref (Hx.gA K "KnownParts")) (.type "str") = some false) ∧
  (PySem.W.subIn K (.ref (Hx.gA K "KnownParts")) (.type "tuple") = some false) ∧
  (PySem.W.subIn K (.ref (Hx.gA K "KnownParts")) (.type "list") = some false) ∧
  (PySem.W.subIn K (.ref (Hx.gA K "KnownParts")) (.type "dict") = some false) ∧
  (((Value.ref (Hx.gA K "World")) == Value.ref (Hx.gA K "KnownParts")) = false) ∧
  (PySem.W.plainGet K (Hx.gA K "World") Str.empty = true) ∧
  (PySem.W.isClsIn K (Hx.gA K "World") = true) ∧
  (PySem.W.plainOver K (Hx.gA K "World") = true) ∧
  (PySem.W.findIn K (.ref (Hx.gA K "World")) "__setattr__" = some (some (.builtin "object.__setattr__"))) ∧
  (PySem.W.makesIn K (Hx.gA K "World") = true) ∧
  (PySem.W.keepIn K (.ref (Hx.gA K "World")) = true) ∧
  (PySem.W.findIn K (.ref (Hx.gA K "World")) "__class__" = some (some (.builtin "object.__class__"))) ∧
  (PySem.W.specialIn K (.builtin "object.__class__") "__get__" = some (some (.builtin "getset_descriptor.__get__"))) ∧
  (PySem.W.takesIn K (.builtin "object.__class__") = some true) ∧
  (PySem.W.mroIn K (Hx.gA K "World") (.type "object") = some true) ∧
  (PySem.W.typeIn K (.ref (Hx.gA K "World")) = some (.type "type"))
abbrev PA_17 (K : PySem.W.Frag) : Prop :=
  (PySem.W.findIn K (.ref (Hx.gA K "World")) "own_ids" = some (some (.ref (Hx.mA K (Hx.gA K "World") "own_ids")))) ∧
  (PySem.W.specialIn K (.ref (Hx.mA K (Hx.gA K "World") "own_ids")) "__get__" = some (some (.builtin "member_descriptor.__get__"))) ∧
  (PySem.W.takesIn K (.ref (Hx.mA K (Hx.gA K "World") "own_ids")) = some true) ∧
  (PySem.W.typeIn K (.ref (Hx.mA K (Hx.gA K "World") "own_ids")) = some (.type "member_descriptor")) ∧
  (PySem.W.slotIn K (Hx.mA K (Hx.gA K "World") "own_ids") (Hx.gA K "World") = some 0) ∧
  (PySem.W.findIn K (.ref (Hx.gA K "World")) "own_luck" = some (some (.ref (Hx.mA K (Hx.gA K "World") "own_luck")))) ∧
  (PySem.W.specialIn K (.ref (Hx.mA K (Hx.gA K "World") "own_luck")) "__get__" = some (some (.builtin "member_descriptor.__get__"))) ∧
  (PySem.W.takesIn K (.ref (Hx.mA K (Hx.gA K "World") "own_luck")) = some true) ∧
  (PySem.W.typeIn K (.ref (Hx.mA K (Hx.gA K "World") "own_luck")) = some (.type "member_descriptor")) ∧
  (PySem.W.slotIn K (Hx.mA K (Hx.gA K "World") "own_luck") (Hx.gA K "World") = some 1) ∧
  (PySem.W.findIn K (.ref (Hx.gA K "World")) "own_next_id" = some (some (.ref (Hx.mA K (Hx.gA K "World") "own_next_id")))) ∧
  (PySem.W.specialIn K (.ref (Hx.mA K (Hx.gA K "World") "own_next_id")) "__get__" = some (some (.builtin "member_descriptor.__get__"))) ∧
  (PySem.W.takesIn K (.ref (Hx.mA K (Hx.gA K "World") "own_next_id")) = some true) ∧
  (PySem.W.typeIn K (.ref (Hx.mA K (Hx.gA K "World") "own_next_id")) = some (.type "member_descriptor")) ∧
  (PySem.W.slotIn K (Hx.mA K (Hx.gA K "World") "own_next_id") (Hx.gA K "World") = some 2) ∧
  (PySem.W.findIn K (.ref (Hx.gA K "World")) "own_things" = some (some (.ref (Hx.mA K (Hx.gA K "World") "own_things")))) ∧
  (PySem.W.specialIn K (.ref (Hx.mA K (Hx.gA K "World") "own_things")) "__get__" = some (some (.builtin "member_descriptor.__get__"))) ∧
  (PySem.W.takesIn K (.ref (Hx.mA K (Hx.gA K "World") "own_things")) = some true) ∧
  (PySem.W.typeIn K (.ref (Hx.mA K (Hx.gA K "World") "own_things")) = some (.type "member_descriptor")) ∧
  (PySem.W.slotIn K (Hx.mA K (Hx.gA K "World") "own_things") (Hx.gA K "World") = some 3) ∧
  (PySem.W.findIn K (.ref (Hx.gA K "World")) "own_tick" = some (some (.ref (Hx.mA K (Hx.gA K "World") "own_tick")))) ∧
  (PySem.W.specialIn K (.ref (Hx.mA K (Hx.gA K "World") "own_tick")) "__get__" = some (some (.builtin "member_descriptor.__get__"))) ∧
  (PySem.W.takesIn K (.ref (Hx.mA K (Hx.gA K "World") "own_tick")) = some true) ∧
  (PySem.W.typeIn K (.ref (Hx.mA K (Hx.gA K "World") "own_tick")) = some (.type "member_descriptor"))
abbrev PA_18 (K : PySem.W.Frag) : Prop :=
  (PySem.W.slotIn K (Hx.mA K (Hx.gA K "World") "own_tick") (Hx.gA K "World") = some 4) ∧
  (PySem.W.subIn K (.type "NoneType") (.ref (Hx.gA K "World")) = some false) ∧
  (PySem.W.subIn K (.type "bool") (.ref (Hx.gA K "World")) = some false) ∧
  (PySem.W.subIn K (.type "int") (.ref (Hx.gA K "World")) = some false) ∧
  (PySem.W.subIn K (.type "str") (.ref (Hx.gA K "World")) = some false) ∧
  (PySem.W.subIn K (.type "tuple") (.ref (Hx.gA K "World")) = some false) ∧
  (PySem.W.subIn K (.type "list") (.ref (Hx.gA K "World")) = some false) ∧
  (PySem.W.subIn K (.type "dict") (.ref (Hx.gA K "World")) = some false) ∧
  (PySem.W.subIn K (.ref (Hx.gA K "KnownParts")) (.ref (Hx.gA K "World")) = some false) ∧
  (PySem.W.subIn K (.ref (Hx.gA K "World")) (.type "NoneType") = some false) ∧
  (PySem.W.subIn K (.ref (Hx.gA K "World")) (.type "bool") = some false) ∧
  (PySem.W.subIn K (.ref (Hx.gA K "World")) (.type "int") = some false) ∧
  (PySem.W.subIn K (.ref (Hx.gA K "World")) (.type "str") = some false) ∧
  (PySem.W.subIn K (.ref (Hx.gA K "World")) (.type "tuple") = some false) ∧
  (PySem.W.subIn K (.ref (Hx.gA K "World")) (.type "list") = some false) ∧
  (PySem.W.subIn K (.ref (Hx.gA K "World")) (.type "dict") = some false) ∧
  (((Value.ref (Hx.gA K "KnownParts")) == Value.ref (Hx.gA K "World")) = false) ∧
  (PySem.W.notFirst K (Hx.gA K "World") (.type "NoneType") = true) ∧
  (PySem.W.notFirst K (Hx.gA K "World") (.type "bool") = true) ∧
  (PySem.W.notFirst K (Hx.gA K "World") (.type "int") = true) ∧
  (PySem.W.notFirst K (Hx.gA K "World") (.type "str") = true) ∧
  (PySem.W.notFirst K (Hx.gA K "World") (.type "tuple") = true) ∧
  (PySem.W.notFirst K (Hx.gA K "World") (.type "list") = true) ∧
  (PySem.W.notFirst K (Hx.gA K "World") (.type "dict") = true)
abbrev PA_19 (K : PySem.W.Frag) : Prop :=
  (PySem.W.notFirst K (Hx.gA K "World") (.ref (Hx.gA K "KnownParts")) = true) ∧
  (PySem.W.notFirst K (Hx.gA K "World") (.ref (Hx.gA K "World")) = true) ∧
  (PySem.W.findIn K (.ref (Hx.gA K "World")) "__ne__" = some (some (.builtin "object.__ne__")))
def exg_0 (K : PySem.W.Frag) : Bool := (decide (PA_0 K) && (decide (PA_1 K) && (decide (PA_2 K) && (decide (PA_3 K) && (decide (PA_4 K) && (decide (PA_5 K) && (decide (PA_6 K) && (decide (PA_7 K) && (decide (PA_8 K) && (decide (PA_9 K) && (decide (PA_10 K) && (decide (PA_11 K) && (decide (PA_12 K) && (decide (PA_13 K) && (decide (PA_14 K) && (decide (PA_15 K) && (decide (PA_16 K) && (decide (PA_17 K) && (decide (PA_18 K) && decide (PA_19 K))))))))))))))))))))
def exK (K : PySem.W.Frag) : Bool := exg_0 K
def hd_0 : Hx.DefE := ⟨fun K => (Hx.gA K "_wall"), "_wall", "_wall", (defArgs s__wall), (defBody s__wall), (defScope s__wall)⟩
def hd_1 : Hx.DefE := ⟨fun K => (Hx.gA K "is_whole"), "is_whole", "is_whole", (defArgs s_is_whole), (defBody s_is_whole), (defScope s_is_whole)⟩
def hd_2 : Hx.DefE := ⟨fun K => (Hx.gA K "is_short"), "is_short", "is_short", (defArgs s_is_short), (defBody s_is_short), (defScope s_is_short)⟩
def hd_3 : Hx.DefE := ⟨fun K => (Hx.gA K "is_from"), "is_from", "is_from", (defArgs s_is_from), (defBody s_is_from), (defScope s_is_from)⟩
def hd_4 : Hx.DefE := ⟨fun K => (Hx.gA K "is_tick"), "is_tick", "is_tick", (defArgs s_is_tick), (defBody s_is_tick), (defScope s_is_tick)⟩
def hd_5 : Hx.DefE := ⟨fun K => (Hx.gA K "is_luck_in"), "is_luck_in", "is_luck_in", (defArgs s_is_luck_in), (defBody s_is_luck_in), (defScope s_is_luck_in)⟩
def hd_6 : Hx.DefE := ⟨fun K => (Hx.gA K "is_luck"), "is_luck", "is_luck", (defArgs s_is_luck), (defBody s_is_luck), (defScope s_is_luck)⟩
def hd_7 : Hx.DefE := ⟨fun K => (Hx.gA K "is_number"), "is_number", "is_number", (defArgs s_is_number), (defBody s_is_number), (defScope s_is_number)⟩
def hd_8 : Hx.DefE := ⟨fun K => (Hx.gA K "is_name_in"), "is_name_in", "is_name_in", (defArgs s_is_name_in), (defBody s_is_name_in), (defScope s_is_name_in)⟩
def hd_9 : Hx.DefE := ⟨fun K => (Hx.gA K "are_numbers_in"), "are_numbers_in", "are_numbers_in", (defArgs s_are_numbers_in), (defBody s_are_numbers_in), (defScope s_are_numbers_in)⟩
def hd_10 : Hx.DefE := ⟨fun K => (Hx.gA K "is_thing_in"), "is_thing_in", "is_thing_in", (defArgs s_is_thing_in), (defBody s_is_thing_in), (defScope s_is_thing_in)⟩
def hd_11 : Hx.DefE := ⟨fun K => (Hx.gA K "are_things_in"), "are_things_in", "are_things_in", (defArgs s_are_things_in), (defBody s_are_things_in), (defScope s_are_things_in)⟩
def hd_12 : Hx.DefE := ⟨fun K => (Hx.mA K (Hx.gA K "KnownParts") "__init__"), "__init__", "KnownParts.__init__", (defArgs s_KnownParts_init), (defBody s_KnownParts_init), (defScope s_KnownParts_init)⟩
def hd_13 : Hx.DefE := ⟨fun K => (Hx.gA K "parts_told"), "parts_told", "parts_told", (defArgs s_parts_told), (defBody s_parts_told), (defScope s_parts_told)⟩
def hd_14 : Hx.DefE := ⟨fun K => (Hx.mA K (Hx.gA K "World") "__init__"), "__init__", "World.__init__", (defArgs s_World_init), (defBody s_World_init), (defScope s_World_init)⟩
def hd_15 : Hx.DefE := ⟨fun K => (Hx.pA K (Hx.mA K (Hx.gA K "World") "tick")), "tick", "World.tick", (defArgs s_World_tick), (defBody s_World_tick), (defScope s_World_tick)⟩
def hd_16 : Hx.DefE := ⟨fun K => (Hx.pA K (Hx.mA K (Hx.gA K "World") "next_id")), "next_id", "World.next_id", (defArgs s_World_next_id), (defBody s_World_next_id), (defScope s_World_next_id)⟩
def hd_17 : Hx.DefE := ⟨fun K => (Hx.pA K (Hx.mA K (Hx.gA K "World") "luck")), "luck", "World.luck", (defArgs s_World_luck), (defBody s_World_luck), (defScope s_World_luck)⟩
def hd_18 : Hx.DefE := ⟨fun K => (Hx.pA K (Hx.mA K (Hx.gA K "World") "things")), "things", "World.things", (defArgs s_World_things), (defBody s_World_things), (defScope s_World_things)⟩
def hd_19 : Hx.DefE := ⟨fun K => (Hx.mA K (Hx.gA K "World") "ids"), "ids", "World.ids", (defArgs s_World_ids), (defBody s_World_ids), (defScope s_World_ids)⟩
def hd_20 : Hx.DefE := ⟨fun K => (Hx.mA K (Hx.gA K "World") "kind_of"), "kind_of", "World.kind_of", (defArgs s_World_kind_of), (defBody s_World_kind_of), (defScope s_World_kind_of)⟩
def hd_21 : Hx.DefE := ⟨fun K => (Hx.mA K (Hx.gA K "World") "numbers"), "numbers", "World.numbers", (defArgs s_World_numbers), (defBody s_World_numbers), (defScope s_World_numbers)⟩
def hd_22 : Hx.DefE := ⟨fun K => (Hx.mA K (Hx.gA K "World") "__contains__"), "__contains__", "World.__contains__", (defArgs s_World_contains), (defBody s_World_contains), (defScope s_World_contains)⟩
def hd_23 : Hx.DefE := ⟨fun K => (Hx.mA K (Hx.gA K "World") "__len__"), "__len__", "World.__len__", (defArgs s_World_len), (defBody s_World_len), (defScope s_World_len)⟩
def hd_24 : Hx.DefE := ⟨fun K => (Hx.mA K (Hx.gA K "World") "__eq__"), "__eq__", "World.__eq__", (defArgs s_World_eq), (defBody s_World_eq), (defScope s_World_eq)⟩
def hd_25 : Hx.DefE := ⟨fun K => (Hx.mA K (Hx.gA K "World") "__str__"), "__str__", "World.__str__", (defArgs s_World_str), (defBody s_World_str), (defScope s_World_str)⟩
def hd_26 : Hx.DefE := ⟨fun K => (Hx.gA K "made_world"), "made_world", "made_world", (defArgs s_made_world), (defBody s_made_world), (defScope s_made_world)⟩
def hd_27 : Hx.DefE := ⟨fun K => (Hx.gA K "thing_at"), "thing_at", "thing_at", (defArgs s_thing_at), (defBody s_thing_at), (defScope s_thing_at)⟩
def hd_28 : Hx.DefE := ⟨fun K => (Hx.gA K "thing_text"), "thing_text", "thing_text", (defArgs s_thing_text), (defBody s_thing_text), (defScope s_thing_text)⟩
def hd_29 : Hx.DefE := ⟨fun K => (Hx.gA K "text_of_world"), "text_of_world", "text_of_world", (defArgs s_text_of_world), (defBody s_text_of_world), (defScope s_text_of_world)⟩
def hd_30 : Hx.DefE := ⟨fun K => (Hx.gA K "integer_in"), "integer_in", "integer_in", (defArgs s_integer_in), (defBody s_integer_in), (defScope s_integer_in)⟩
def hd_31 : Hx.DefE := ⟨fun K => (Hx.gA K "thing_in"), "thing_in", "thing_in", (defArgs s_thing_in), (defBody s_thing_in), (defScope s_thing_in)⟩
def hd_32 : Hx.DefE := ⟨fun K => (Hx.gA K "world_in"), "world_in", "world_in", (defArgs s_world_in), (defBody s_world_in), (defScope s_world_in)⟩
def hd_33 : Hx.DefE := ⟨fun K => (Hx.gA K "require_any_world"), "require_any_world", "require_any_world", (defArgs s_require_any_world), (defBody s_require_any_world), (defScope s_require_any_world)⟩
def hd_34 : Hx.DefE := ⟨fun K => (Hx.gA K "known_thing"), "known_thing", "known_thing", (defArgs s_known_thing), (defBody s_known_thing), (defScope s_known_thing)⟩
def hd_35 : Hx.DefE := ⟨fun K => (Hx.gA K "world_text"), "world_text", "world_text", (defArgs s_world_text), (defBody s_world_text), (defScope s_world_text)⟩
def hd_36 : Hx.DefE := ⟨fun K => (Hx.gA K "read_world"), "read_world", "read_world", (defArgs s_read_world), (defBody s_read_world), (defScope s_read_world)⟩
def hd_37 : Hx.DefE := ⟨fun K => (Hx.gA K "_law_dice"), "_law_dice", "_law_dice", (defArgs s_l_dice), (defBody s_l_dice), (defScope s_l_dice)⟩
def hd_38 : Hx.DefE := ⟨fun K => (Hx.gA K "_law_roll"), "_law_roll", "_law_roll", (defArgs s_l_roll), (defBody s_l_roll), (defScope s_l_roll)⟩
def hd_39 : Hx.DefE := ⟨fun K => (Hx.gA K "_law_pick"), "_law_pick", "_law_pick", (defArgs s_l_pick), (defBody s_l_pick), (defScope s_l_pick)⟩
def hd_40 : Hx.DefE := ⟨fun K => (Hx.gA K "_law_near"), "_law_near", "_law_near", (defArgs s_l_near), (defBody s_l_near), (defScope s_l_near)⟩
def hd_41 : Hx.DefE := ⟨fun K => (Hx.gA K "_law_wd_plain"), "_law_wd_plain", "_law_wd_plain", (defArgs s_l_wd_plain), (defBody s_l_wd_plain), (defScope s_l_wd_plain)⟩
def hd_42 : Hx.DefE := ⟨fun K => (Hx.gA K "_law_world_drawn"), "_law_world_drawn", "_law_world_drawn", (defArgs s_l_world_drawn), (defBody s_l_world_drawn), (defScope s_l_world_drawn)⟩
def hd_43 : Hx.DefE := ⟨fun K => (Hx.gA K "_law_written"), "_law_written", "_law_written", (defArgs s_l_written), (defBody s_l_written), (defScope s_l_written)⟩
def hd_44 : Hx.DefE := ⟨fun K => (Hx.gA K "_law_integer"), "_law_integer", "_law_integer", (defArgs s_l_integer), (defBody s_l_integer), (defScope s_l_integer)⟩
def hd_45 : Hx.DefE := ⟨fun K => (Hx.gA K "_law_read_thing"), "_law_read_thing", "_law_read_thing", (defArgs s_l_read_thing), (defBody s_l_read_thing), (defScope s_l_read_thing)⟩
def hd_46 : Hx.DefE := ⟨fun K => (Hx.gA K "_law_read"), "_law_read", "_law_read", (defArgs s_l_read), (defBody s_l_read), (defScope s_l_read)⟩
def hd_47 : Hx.DefE := ⟨fun K => (Hx.gA K "_law_near_texts"), "_law_near_texts", "_law_near_texts", (defArgs s_l_near_texts), (defBody s_l_near_texts), (defScope s_l_near_texts)⟩
def hd_48 : Hx.DefE := ⟨fun K => (Hx.gA K "_law_told"), "_law_told", "_law_told", (defArgs s_l_told), (defBody s_l_told), (defScope s_l_told)⟩
def hd_49 : Hx.DefE := ⟨fun K => (Hx.gA K "_law_right"), "_law_right", "_law_right", (defArgs s_l_right), (defBody s_l_right), (defScope s_l_right)⟩
def hd_50 : Hx.DefE := ⟨fun K => (Hx.gA K "law"), "law", "law", (defArgs s_law), (defBody s_law), (defScope s_law)⟩
def hd_51 : Hx.DefE := ⟨fun K => (Hx.mA K (Hx.gA K "UnknownName") "__init__"), "__init__", "UnknownName.__init__", (defArgs (inClass (topS 4) 0)), (defBody (inClass (topS 4) 0)), (defScope (inClass (topS 4) 0))⟩
def hfn0 : List Hx.DefE := [hd_0, hd_1, hd_2, hd_3, hd_4, hd_5, hd_6, hd_7, hd_8, hd_9, hd_10, hd_11, hd_12, hd_13, hd_14, hd_15, hd_16, hd_17, hd_18, hd_19, hd_20, hd_21, hd_22, hd_23, hd_24, hd_25, hd_26, hd_27, hd_28, hd_29, hd_30, hd_31, hd_32, hd_33, hd_34, hd_35, hd_36, hd_37, hd_38, hd_39]
def hfn1 : List Hx.DefE := [hd_40, hd_41, hd_42, hd_43, hd_44, hd_45, hd_46, hd_47, hd_48, hd_49, hd_50, hd_51]
def hfn : List Hx.DefE := hfn0 ++ (hfn1)
def hts : List Hx.Tab := []
def loose0 : List PySem.Str := ["_wall", "PlayError", "InvalidWorld", "UnknownName", "GREATEST", "is_whole", "is_short", "is_from", "is_tick", "MODULUS", "is_luck_in", "is_luck", "MOST", "is_number", "MAX_THINGS", "MOST_NUMBERS", "MOST_NAME", "MOST_FIGURES", "THING_PARTS", "LETTERS", "FIGURES", "is_name_in", "are_numbers_in", "is_thing_in"]
def loose1 : List PySem.Str := ["are_things_in", "KnownParts", "parts_told", "World", "made_world", "thing_at", "thing_text", "text_of_world", "integer_in", "thing_in", "world_in", "require_any_world", "known_thing", "world_text", "read_world", "_law_dice", "_law_roll", "_law_pick", "_law_near", "_law_wd_plain", "_law_world_drawn", "_law_written", "_law_integer", "_law_read_thing"]
def loose2 : List PySem.Str := ["_law_read", "_law_near_texts", "_law_told", "_law_right"]
def loose : List PySem.Str := loose0 ++ (loose1 ++ (loose2))
abbrev hR : PySem.W.OpenRow := PySem.W.OpenLaw.row PySem.Challenge.rw_settledplay_k07_whole_texts_of_worlds
def hq : Program := PySem.W.view hR.prog [58]
abbrev hk : PySem.W.Hook := Hx.hookY (Hx.asY 2) hfn hts exK
def ob (s : PySem.W.SharedT) : Hx.AlY := Hx.obsY (Hx.asY 2) hfn hts exK (HandSHeadRun.getT s)
theorem ob_eq (s : PySem.W.SharedT) : ob s = hk.obs s.abs := Hx.obsY_eq (HandSHeadRun.getT_eq s)
set_option maxHeartbeats 0 in
section
open PySem.W PySem.Calls HandSHeadRun
set_option maxHeartbeats 0 in
theorem run1_false (w : World) (os : OsState) : (endF (stepQ (denQ tabQ) hR.prog (w.withFollow "special-get-raises" false)) 20000 hR.prog (w.withFollow "special-get-raises" false) os).map (fun s => (looksF hR.prog (boot_heap (w.withFollow "special-get-raises" false).params) s.abs, seenQ hq loose (importedModules hR.prog.main.body) (fun s => xlAt hq [] s && recOk hR.toRowW.records s) s.abs)) = some (true, openGood hq loose) := by
  kernel_rfl
end
section
open PySem.W PySem.Calls HandSHeadRun
set_option maxHeartbeats 0 in
theorem run3_false (w : World) (os : OsState) : (endF (stepQ (denQ tabQ) hR.prog (w.withFollow "special-get-raises" false)) 20000 hR.prog (w.withFollow "special-get-raises" false) os).map (fun s => ((ob s).1, (ob s).2.1)) = some ((hk.val (w.withFollow "special-get-raises" false)).1, (hk.val (w.withFollow "special-get-raises" false)).2.1) := by
  kernel_rfl
end
section
open PySem.W PySem.Calls HandSHeadRun
set_option maxHeartbeats 0 in
theorem run4_false (w : World) (os : OsState) : (endF (stepQ (denQ tabQ) hR.prog (w.withFollow "special-get-raises" false)) 20000 hR.prog (w.withFollow "special-get-raises" false) os).map (fun s => (ob s).2.2) = some (hk.val (w.withFollow "special-get-raises" false)).2.2 := by
  kernel_rfl
end
section
open PySem.W PySem.Calls HandSHeadRun
set_option maxHeartbeats 0 in
theorem run2_false (w : World) (os : OsState) : (endF (stepQ (denQ tabQ) hR.prog (w.withFollow "special-get-raises" false)) 20000 hR.prog (w.withFollow "special-get-raises" false) os).map ob = some (hk.val (w.withFollow "special-get-raises" false)) := Hx.ob_join3 (run3_false w os) (run4_false w os)
end
theorem run_false (w : World) : HandSHeadRun.RunEq hR hq hk ob 20000 loose (w.withFollow "special-get-raises" false) := Hx.run_join (run1_false w) (run2_false w)
section
open PySem.W PySem.Calls HandSHeadRun
set_option maxHeartbeats 0 in
theorem run1_true (w : World) (os : OsState) : (endF (stepQ (denQ tabQ) hR.prog (w.withFollow "special-get-raises" true)) 20000 hR.prog (w.withFollow "special-get-raises" true) os).map (fun s => (looksF hR.prog (boot_heap (w.withFollow "special-get-raises" true).params) s.abs, seenQ hq loose (importedModules hR.prog.main.body) (fun s => xlAt hq [] s && recOk hR.toRowW.records s) s.abs)) = some (true, openGood hq loose) := by
  kernel_rfl
end
section
open PySem.W PySem.Calls HandSHeadRun
set_option maxHeartbeats 0 in
theorem run3_true (w : World) (os : OsState) : (endF (stepQ (denQ tabQ) hR.prog (w.withFollow "special-get-raises" true)) 20000 hR.prog (w.withFollow "special-get-raises" true) os).map (fun s => ((ob s).1, (ob s).2.1)) = some ((hk.val (w.withFollow "special-get-raises" true)).1, (hk.val (w.withFollow "special-get-raises" true)).2.1) := by
  kernel_rfl
end
section
open PySem.W PySem.Calls HandSHeadRun
set_option maxHeartbeats 0 in
theorem run4_true (w : World) (os : OsState) : (endF (stepQ (denQ tabQ) hR.prog (w.withFollow "special-get-raises" true)) 20000 hR.prog (w.withFollow "special-get-raises" true) os).map (fun s => (ob s).2.2) = some (hk.val (w.withFollow "special-get-raises" true)).2.2 := by
  kernel_rfl
end
section
open PySem.W PySem.Calls HandSHeadRun
set_option maxHeartbeats 0 in
theorem run2_true (w : World) (os : OsState) : (endF (stepQ (denQ tabQ) hR.prog (w.withFollow "special-get-raises" true)) 20000 hR.prog (w.withFollow "special-get-raises" true) os).map ob = some (hk.val (w.withFollow "special-get-raises" true)) := Hx.ob_join3 (run3_true w os) (run4_true w os)
end
theorem run_true (w : World) : HandSHeadRun.RunEq hR hq hk ob 20000 loose (w.withFollow "special-get-raises" true) := Hx.run_join (run1_true w) (run2_true w)
theorem run (w : World) : HandSHeadRun.RunEq hR hq hk ob 20000 loose w := PySem.W.byRow2 "special-get-raises" (P := fun w => HandSHeadRun.RunEq hR hq hk ob 20000 loose w) run_false run_true w
end
section
open PySem.W PySem.Calls
abbrev hd0 := HandSHeadRun.topDef hR.prog 58
theorem z_e : opening hR.prog = plainProg hR.prog.main.scope.names := by kernel_rfl
theorem z_f : ∀ s, fenceModules? hR.prog s = some s := fun s => by kernel_rfl
theorem z_def : defOf hq hR.name = some (hd0, []) := by kernel_rfl
theorem z_p : hR.prog.theDef hR.name = some (hd0.params, hd0.body, hd0.scope) := by kernel_rfl
theorem z_k : kwWritten? hd0.params.kwonlyargs hd0.params.kw_defaults = some [] := by kernel_rfl
theorem z_ok : (chainsOk hq && (opensWell hR.prog && (frees hR.toRowW && hR.within.isEmpty))) = true := by decide +kernel
theorem z_t : hR.prog.tablesWhole = true := by decide +kernel
theorem z_b : hR.prog.bare := ⟨rfl, rfl, rfl, rfl, rfl, z_t⟩
theorem z_d : hd0.params.defaults = [] := by kernel_rfl
theorem z_n : hd0.name = ("law" : PySem.Str) := by kernel_rfl
end
end K07
namespace VL
open PySem PySem.Spec PyProof.Rows L2 LamX
/-- a value as data: lists that change stand in the store (ptr) -/
inductive D where
  | non | bl (b : Bool) | int (i : Int) | str (z : Str) | ty (n : String)
  | tup (xs : List D) | lst (xs : List D) | ins (C : String) (fs : List D)
  | ptr (k : Nat) | cls (C : String) | fn (f : String)
  /-- a dict that is never changed -/
  | dct (ks : List Key) (vs : List D)
  /-- a dict of one bool, that is never changed -/
  | bdct (b : Bool) (d : D)
  /-- the law's script: a list that is only measured and read by place -/
  | scr (xs : List D)
inductive Cell where
  | lst (xs : List D) | dct (ks : List Key) (xs : List D)
  /-- a dict that is read from now on, an instance that changes -/
  | fdct (ks : List Key) (xs : List D) | ins (C : String) (fs : List D)
abbrev Mem := List Cell
structure Exn where
  cls : String
  arg : Option (Str × D)
inductive Out (α : Type) where
  | ok (a : α) (μ : Mem) | exn (e : Exn) (μ : Mem) | stuck
def M (α : Type) := Mem → Out α
def M.pure {α : Type} (a : α) : M α := fun μ => .ok a μ
def M.bind {α β : Type} (m : M α) (k : α → M β) : M β := fun μ => match m μ with
  | .ok a μ' => k a μ'
  | .exn e μ' => .exn e μ'
  | .stuck => .stuck
instance : Monad M where
  pure := M.pure
  bind := M.bind
def stuck {α : Type} : M α := fun _ => .stuck
def throw {α : Type} (e : Exn) : M α := fun μ => .exn e μ
/-- a place of the store: the object's address, its dict's (a list: its own again); a dict that is locked for a while: the object, the values -/
structure Ent where
  fst : Addr
  snd : Addr
  lk : Option (Obj × List V)
structure Phi where
  st : List (Option (Ent))
  /-- lists in the making (a comprehension's): not the store's, not to be seen -/
  hid : List Addr
def ownS (φ : Phi) (b : Addr) : Prop := ∃ (k : Nat) (e : Ent), φ.st[k]? = some (some e) ∧ (b = e.1 ∨ b = e.2)
def own (φ : Phi) (b : Addr) : Prop := ownS φ b ∨ b ∈ φ.hid
/-- what is fixed: the written part, classes, functions, code tables -/
structure IniC where
  x : Addr
  dx : Addr
  C : String
  n : Nat
structure Cn where
  K : PySem.W.Frag
  cl : String → Addr
  fn : String → Addr
  T : List (Addr × Str)
  /-- within an __init__: the instance, its dict, the class, the number of slots; behind the slots the fields stand -/
  ini : Option IniC
/-- a slot of the def -/
def Cn.lo (c : Cn) (i : Nat) : Prop := ∀ I, c.ini = some I → i < I.n
def H0 : Hp := fun _ => none
/-- a dict of one bool -/
def BDO (a : Addr) (b : Bool) (v : V) : HO := .ext fun h => (a == sysModules) = false ∧ ∃ (P : Program) (w : World) (u : Value) (ep : Nat), RelV v u ∧ h.DictAt (PpSet.boolK P w) a [(b, u)] ep
mutual
def Rep (c : Cn) (φ : Phi) (H : Hp) : D → V → Prop
  | .non, v => v = .non
  | .bl b, v => v = .bl b
  | .int i, v => v = .int i
  | .str z, v => v = .str z
  | .ty n, v => v = .ty n
  | .tup ds, v => ∃ a vs, v = .ref a ∧ ((Rd H a (.tup vs) ∧ ¬ own φ a) ∨ SqT c.K H0 a vs) ∧ RepL c φ H ds vs
  | .lst ds, v => ∃ a vs, v = .ref a ∧ Rd H a (.lst vs) ∧ ¬ own φ a ∧ RepL c φ H ds vs
  | .ins C fs, v => ∃ a dx vs ws, v = .ref a ∧ SlX.Slt H a (c.cl C) dx ws ∧ H dx ≠ none ∧ ¬ own φ a ∧ ¬ own φ dx ∧ (∀ (i : Nat) (v : V), vs[i]? = some v → ws[i]? = some (some v)) ∧ RepL c φ H fs vs
  | .ptr k, v => ∃ e, φ.st[k]? = some (some e) ∧ v = .ref e.1
  | .cls C, v => v = .ref (c.cl C)
  | .dct ks ds, v => ∃ a vs, v = .ref a ∧ (∃ o, H a = some (.frz o (.dK (ks.zip vs)))) ∧ ¬ own φ a ∧ ks.length = vs.length ∧ RepL c φ H ds vs
  | .bdct b d, v => ∃ a u, v = .ref a ∧ (∃ o, H a = some (.frz o (BDO a b u))) ∧ ¬ own φ a ∧ Rep c φ H d u
  | .fn f, v => v = .ref (c.fn f)
  | .scr ds, v => ∃ a vs, v = .ref a ∧ ((Rd H a (.lst vs) ∧ ¬ own φ a) ∨ SqL c.K H0 a vs) ∧ RepL c φ H ds vs
def RepL (c : Cn) (φ : Phi) (H : Hp) : List D → List V → Prop
  | [], vs => vs = []
  | d :: ds, vs => ∃ v r, vs = v :: r ∧ Rep c φ H d v ∧ RepL c φ H ds r
end
/-- an environment: the slots -/
abbrev Env := List (Option D)
structure Ini (c : Cn) (φ : Phi) (H : Hp) (I : IniC) (ρ : Env) (σ : L2.St) : Prop where
  len : σ.length = I.n
  self : σ[0]? = some (some (.ref I.x))
  hx : I.x ∈ φ.hid
  hd : I.dx ∈ φ.hid
  ne : I.dx ≠ I.x
  fs : ∃ vs, SlX.Slt H I.x (c.cl I.C) I.dx vs ∧ ∀ (j : Nat) (d : D), ρ[I.n + j]? = some (some d) → ∃ v, vs[j]? = some (some v) ∧ Rep c φ H d v
structure RepE (c : Cn) (φ : Phi) (H : Hp) (ρ : Env) (σ : L2.St) : Prop where
  len : σ.length ≤ ρ.length
  len0 : c.ini = none → ρ.length = σ.length
  at_ : ∀ (i : Nat) (d : D), c.lo i → ρ[i]? = some (some d) → ∃ v, σ[i]? = some (some v) ∧ Rep c φ H d v
  ini : ∀ I, c.ini = some I → Ini c φ H I ρ σ
def CellOk (c : Cn) (φ : Phi) (H : Hp) (e : Ent) : Cell → Prop
  | .lst ds => e.2 = e.1 ∧ ∃ vs, H e.1 = some (.lst vs) ∧ RepL c φ H ds vs
  | .dct ks ds => e.2 = e.1 ∧ ∃ vs, H e.1 = some (.dK (ks.zip vs)) ∧ ks.length = vs.length ∧ RepL c φ H ds vs
  | .fdct ks ds => e.2 = e.1 ∧ ∃ o vs, e.lk = some (o, vs) ∧ H e.1 = some (.frz o (.dK (ks.zip vs))) ∧ ks.length = vs.length ∧ RepL c φ H ds vs
  | .ins C fs => e.2 ≠ e.1 ∧ H e.2 ≠ none ∧ ∃ vs ws, SlX.Slt H e.1 (c.cl C) e.2 ws ∧ (∀ (i : Nat) (v : V), vs[i]? = some v → ws[i]? = some (some v)) ∧ RepL c φ H fs vs
/-- the code tables, and the code they name, are not the store's -/
def TabsO (T : List (Addr × Str)) (φ : Phi) (H : Hp) : Prop := ∀ p ∈ T, ∃ ps : Array Value, H p.1 = some (.tbl ps) ∧ ¬ own φ p.1 ∧ TriplesOk ps.toList ∧ ∀ (pos : Pos) (cv : Value), codeAmong pos ps.toList = some cv → ∃ k, cv = .ref k ∧ H k = some (CodeO k p.2) ∧ ¬ own φ k
structure WOk (c : Cn) (φ : Phi) (μ : Mem) (H : Hp) : Prop where
  len : φ.st.length = μ.length
  cell : ∀ (k : Nat) (e : Ent), φ.st[k]? = some (some e) → ∃ x, μ[k]? = some x ∧ CellOk c φ H e x
  hid : ∀ b ∈ φ.hid, H b ≠ none ∧ ¬ ownS φ b
  inj : ∀ (i j : Nat) (e e' : Ent), φ.st[i]? = some (some e) → φ.st[j]? = some (some e') → i ≠ j → e.1 ≠ e'.1 ∧ e.1 ≠ e'.2 ∧ e.2 ≠ e'.1 ∧ e.2 ≠ e'.2
  tabs : TabsO c.T φ H
structure Keep (φ : Phi) (H : Hp) (φ' : Phi) (H' : Hp) : Prop where
  pre : ∀ (k : Nat) (e : Ent), φ.st[k]? = some (some e) → φ'.st[k]? = some (some e)
  kp : ∀ b o, ¬ own φ b → H b = some o → (∀ ps, o ≠ .tbl ps) → H' b = some o
  tb : ∀ b ps, ¬ own φ b → H b = some (.tbl ps) → ∃ more, H' b = some (.tbl (ps ++ more))
  fr : ∀ b, own φ' b → ¬ own φ b → H b = none
structure Later (φ : Phi) (H : Hp) (φ' : Phi) (H' : Hp) : Prop extends Keep φ H φ' H' where
  len : φ.st.length ≤ φ'.st.length
  hid : φ'.hid = φ.hid
  hk : ∀ b ∈ φ.hid, H' b = H b
/-- behind a statement: within an __init__ the instance may have been written -/
structure LaterS (c : Cn) (φ : Phi) (H : Hp) (φ' : Phi) (H' : Hp) : Prop extends Keep φ H φ' H' where
  len : φ.st.length ≤ φ'.st.length
  hid : φ'.hid = φ.hid
  hk : ∀ b ∈ φ.hid, (∀ I, c.ini = some I → b ≠ I.x ∧ b ≠ I.dx) → H' b = H b
section
variable {c : Cn} {φ φ' φ'' : Phi} {H H' H'' : Hp} {μ μ' : Mem}
theorem Later.toS (L : Later φ H φ' H') : LaterS c φ H φ' H' := ⟨L.toKeep, L.len, L.hid, fun b h _ => L.hk b h⟩
theorem LaterS.to (L : LaterS c φ H φ' H') (h : c.ini = none) : Later φ H φ' H' := ⟨L.toKeep, L.len, L.hid, fun b hb => L.hk b hb fun I e => by rw [h] at e; cases e⟩
theorem Later.refl : Later φ H φ H := ⟨⟨fun _ _ h => h, fun _ _ _ h _ => h, fun _ ps _ h => ⟨#[], by rw [h]; simp⟩, fun b h n => absurd h n⟩, Nat.le_refl _, rfl, fun _ _ => rfl⟩
theorem Keep.some (L : Keep φ H φ' H') {b : Addr} (n : ¬ own φ b) (h : H b ≠ none) : H' b ≠ none := fun z => by
  cases q : H b with
  | none => exact h q
  | some o =>
    cases o with
    | tbl ps =>
      obtain ⟨m, e⟩ := L.tb b ps n q
      rw [z] at e; cases e
    | _ =>
      have e := L.kp b _ n q (by intro ps z; cases z)
      rw [z] at e; cases e
theorem Keep.nown (L : Keep φ H φ' H') {b : Addr} (n : ¬ own φ b) (h : H b ≠ none) : ¬ own φ' b := fun z => h (L.fr b z n)
theorem Keep.trans (L : Keep φ H φ' H') (L' : Keep φ' H' φ'' H'') : Keep φ H φ'' H'' where
  pre := fun k e h => L'.pre k e (L.pre k e h)
  kp := fun b o n h t => L'.kp b o (L.nown n (by rw [h]; simp)) (L.kp b o n h t) t
  tb := fun b ps n h => by
    obtain ⟨m1, e1⟩ := L.tb b ps n h
    obtain ⟨m2, e2⟩ := L'.tb b _ (L.nown n (by rw [h]; simp)) e1
    exact ⟨m1 ++ m2, by rw [e2, Array.append_assoc]⟩
  fr := fun b h n => by
    by_cases q : own φ' b
    · exact L.fr b q n
    · have e := L'.fr b h q
      cases z : H b with
      | none => rfl
      | some o => exact absurd e (L.some n (by rw [z]; simp))
theorem Later.trans (L : Later φ H φ' H') (L' : Later φ' H' φ'' H'') : Later φ H φ'' H'' :=
  ⟨L.toKeep.trans L'.toKeep, Nat.le_trans L.len L'.len, L'.hid.trans L.hid, fun b h => (L'.hk b (by rw [L.hid]; exact h)).trans (L.hk b h)⟩
theorem LaterS.trans (L : LaterS c φ H φ' H') (L' : LaterS c φ' H' φ'' H'') : LaterS c φ H φ'' H'' :=
  ⟨L.toKeep.trans L'.toKeep, Nat.le_trans L.len L'.len, L'.hid.trans L.hid, fun b h q => (L'.hk b (by rw [L.hid]; exact h) q).trans (L.hk b h q)⟩
theorem LaterS.refl : LaterS c φ H φ H := Later.refl.toS
theorem Keep.rd (L : Keep φ H φ' H') {a : Addr} {u : HO} (n : ¬ own φ a) (h : Rd H a u) (hu : ∀ ps, u ≠ .tbl ps) : Rd H' a u ∧ ¬ own φ' a := by
  rcases h with h | ⟨o, h⟩
  · exact ⟨.inl (L.kp a _ n h hu), L.nown n (by rw [h]; simp)⟩
  · exact ⟨.inr ⟨o, L.kp a _ n h (by intro ps z; cases z)⟩, L.nown n (by rw [h]; simp)⟩
theorem slt_ne {a C dx : Addr} {vs : List (Option V)} (h : SlX.Slt H a C dx vs) : H a ≠ none := by
  rcases h with ⟨h, _⟩ | ⟨h, _⟩ <;> (rw [h]; simp)
theorem Keep.slt (L : Keep φ H φ' H') {a C dx : Addr} {vs : List (Option V)} (h : SlX.Slt H a C dx vs) (n : ¬ own φ a) (m : ¬ own φ dx) : SlX.Slt H' a C dx vs := by
  rcases h with ⟨h, e⟩ | ⟨h, e⟩
  · exact .inl ⟨L.kp a _ n h (by intro ps z; cases z), e⟩
  · exact .inr ⟨L.kp a _ n h (by unfold SlX.SlO; intro ps z; cases z), L.kp dx _ m e (by intro ps z; cases z)⟩
mutual
theorem Rep.later (L : Keep φ H φ' H') : ∀ (d : D) (v : V), Rep c φ H d v → Rep c φ' H' d v
  | .non, _, h => by simpa only [Rep] using h
  | .bl _, _, h => by simpa only [Rep] using h
  | .int _, _, h => by simpa only [Rep] using h
  | .str _, _, h => by simpa only [Rep] using h
  | .ty _, _, h => by simpa only [Rep] using h
  | .cls _, _, h => by simpa only [Rep] using h
  | .fn _, _, h => by simpa only [Rep] using h
  | .tup ds, v, h => by
    simp only [Rep] at h ⊢
    obtain ⟨a, vs, e, h, r⟩ := h
    refine ⟨a, vs, e, ?_, RepL.later L ds vs r⟩
    rcases h with ⟨h, n⟩ | h
    · exact .inl (L.rd n h (by intro ps z; cases z))
    · exact .inr h
  | .scr ds, v, h => by
    simp only [Rep] at h ⊢
    obtain ⟨a, vs, e, h, r⟩ := h
    refine ⟨a, vs, e, ?_, RepL.later L ds vs r⟩
    rcases h with ⟨h, n⟩ | h
    · exact .inl (L.rd n h (by intro ps z; cases z))
    · exact .inr h
  | .lst ds, v, h => by
    simp only [Rep] at h ⊢
    obtain ⟨a, vs, e, h, n, r⟩ := h
    obtain ⟨h1, h2⟩ := L.rd n h (by intro ps z; cases z)
    exact ⟨a, vs, e, h1, h2, RepL.later L ds vs r⟩
  | .bdct b d, v, h => by
    simp only [Rep] at h ⊢
    obtain ⟨a, u, e, ⟨o, h⟩, n, r⟩ := h
    exact ⟨a, u, e, ⟨o, L.kp _ _ n h (by intro ps z; cases z)⟩, L.nown n (by rw [h]; simp), Rep.later L d u r⟩
  | .dct ks ds, v, h => by
    simp only [Rep] at h ⊢
    obtain ⟨a, vs, e, ⟨o, h⟩, n, hl, r⟩ := h
    exact ⟨a, vs, e, ⟨o, L.kp a _ n h (by intro ps z; cases z)⟩, L.nown n (by rw [h]; simp), hl, RepL.later L ds vs r⟩
  | .ins C fs, v, h => by
    simp only [Rep] at h ⊢
    obtain ⟨a, dx, vs, ws, e, hs, hd, n, m, ew, r⟩ := h
    exact ⟨a, dx, vs, ws, e, L.slt hs n m, L.some m hd, L.nown n (slt_ne hs), L.nown m hd, ew, RepL.later L fs vs r⟩
  | .ptr k, v, h => by
    simp only [Rep] at h ⊢
    obtain ⟨e, h, r⟩ := h
    exact ⟨e, L.pre k e h, r⟩
theorem RepL.later (L : Keep φ H φ' H') : ∀ (ds : List D) (vs : List V), RepL c φ H ds vs → RepL c φ' H' ds vs
  | [], vs, h => by simpa only [RepL] using h
  | d :: ds, vs, h => by
    simp only [RepL] at h ⊢
    obtain ⟨v, r, e, h1, h2⟩ := h
    exact ⟨v, r, e, Rep.later L d v h1, RepL.later L ds r h2⟩
end
theorem Ini.later {I : IniC} {ρ : Env} {σ : L2.St} (h : Ini c φ H I ρ σ) (K : Keep φ H φ' H') (h1 : H' I.x = H I.x) (h2 : H' I.dx = H I.dx) (hh : ∀ b ∈ φ.hid, b ∈ φ'.hid) : Ini c φ' H' I ρ σ := by
  obtain ⟨vs, hs, hf⟩ := h.fs
  refine ⟨h.len, h.self, hh _ h.hx, hh _ h.hd, h.ne, vs, ?_, fun j d e => ?_⟩
  · rcases hs with ⟨q, e⟩ | ⟨q, e⟩
    · exact .inl ⟨h1.trans q, e⟩
    · exact .inr ⟨h1.trans q, h2.trans e⟩
  · obtain ⟨v, e2, r⟩ := hf j d e
    exact ⟨v, e2, r.later K⟩
theorem RepE.later {ρ : Env} {σ : L2.St} (h : RepE c φ H ρ σ) (L : Later φ H φ' H') : RepE c φ' H' ρ σ := ⟨h.len, h.len0, fun i d q e => by
  obtain ⟨v, e2, r⟩ := h.at_ i d q e
  exact ⟨v, e2, r.later L.toKeep⟩, fun I e => (h.ini I e).later L.toKeep (L.hk _ (h.ini I e).hx) (L.hk _ (h.ini I e).hd) fun b hb => by rw [L.hid]; exact hb⟩
theorem RepE.put {ρ : Env} {σ : L2.St} (h : RepE c φ H ρ σ) (i : Nat) (q : c.lo i) {o : Option D} {u : Option V} (r : ∀ d, o = some d → ∃ v, u = some v ∧ Rep c φ H d v) (h0 : c.ini ≠ none → i ≠ 0) : RepE c φ H (ρ.set i o) (σ.set i u) := by
  refine ⟨by rw [List.length_set, List.length_set]; exact h.len, fun e => by rw [List.length_set, List.length_set]; exact h.len0 e, fun j d' q' e => ?_, fun I e => ?_⟩
  · by_cases hj : i = j
    · subst hj
      by_cases hl : i < ρ.length
      · rw [List.getElem?_set_self hl] at e
        cases e
        obtain ⟨v, rfl, rv⟩ := r d' rfl
        have hs : i < σ.length := by
          cases hI : c.ini with
          | none => rw [← h.len0 hI]; exact hl
          | some I => rw [(h.ini I hI).len]; exact q I hI
        exact ⟨v, List.getElem?_set_self hs, rv⟩
      · rw [List.getElem?_eq_none (by rw [List.length_set]; omega)] at e
        cases e
    · rw [List.getElem?_set_ne hj] at e ⊢
      exact h.at_ j d' q' e
  · have hI := h.ini I e
    have hq := q I e
    obtain ⟨vs, hs, hf⟩ := hI.fs
    refine ⟨by rw [List.length_set]; exact hI.len, ?_, hI.hx, hI.hd, hI.ne, vs, hs, fun j d' e2 => ?_⟩
    · rw [List.getElem?_set_ne (h0 (by rw [e]; simp))]
      exact hI.self
    · rw [List.getElem?_set_ne (by omega)] at e2
      exact hf j d' e2
theorem RepE.set {ρ : Env} {σ : L2.St} (h : RepE c φ H ρ σ) (i : Nat) (q : c.lo i) (h0 : c.ini ≠ none → i ≠ 0) {d : D} {v : V} (r : Rep c φ H d v) : RepE c φ H (ρ.set i (some d)) (σ.set i (some v)) := h.put i q (fun d' e => by cases e; exact ⟨v, rfl, r⟩) h0
theorem RepL.len : ∀ {ds : List D} {vs : List V}, RepL c φ H ds vs → ds.length = vs.length
  | [], vs, h => by simp only [RepL] at h; subst h; rfl
  | d :: ds, vs, h => by
    simp only [RepL] at h
    obtain ⟨v, r, e, _, h2⟩ := h
    subst e
    simp [h2.len]
theorem RepL.get : ∀ {ds : List D} {vs : List V} {i : Nat} {d : D}, RepL c φ H ds vs → ds[i]? = some d → ∃ v, vs[i]? = some v ∧ Rep c φ H d v
  | [], vs, i, d, h, e => by simp at e
  | d :: ds, vs, 0, d', h, e => by
    simp only [RepL] at h
    obtain ⟨v, r, rfl, h1, _⟩ := h
    simp at e
    subst e
    exact ⟨v, rfl, h1⟩
  | d :: ds, vs, i + 1, d', h, e => by
    simp only [RepL] at h
    obtain ⟨v, r, rfl, _, h2⟩ := h
    simpa using h2.get (i := i) (by simpa using e)
theorem RepL.app : ∀ {ds es : List D} {vs ws : List V}, RepL c φ H ds vs → RepL c φ H es ws → RepL c φ H (ds ++ es) (vs ++ ws)
  | [], es, vs, ws, h, g => by
    simp only [RepL] at h
    subst h
    exact g
  | d :: ds, es, vs, ws, h, g => by
    simp only [RepL, List.cons_append] at h ⊢
    obtain ⟨v, r, rfl, h1, h2⟩ := h
    exact ⟨v, r ++ ws, rfl, h1, h2.app g⟩
theorem RepL.one {d : D} {v : V} (h : Rep c φ H d v) : RepL c φ H [d] [v] := by
  simp only [RepL]
  exact ⟨v, [], rfl, h, rfl⟩
theorem RepL.drop : ∀ {ds : List D} {vs : List V} (n : Nat), RepL c φ H ds vs → RepL c φ H (ds.drop n) (vs.drop n)
  | ds, vs, 0, h => h
  | [], vs, n + 1, h => by simp only [RepL] at h; subst h; simp [RepL]
  | d :: ds, vs, n + 1, h => by
    simp only [RepL] at h
    obtain ⟨v, r, rfl, _, h2⟩ := h
    simpa using h2.drop n
theorem RepL.take : ∀ {ds : List D} {vs : List V} (n : Nat), RepL c φ H ds vs → RepL c φ H (ds.take n) (vs.take n)
  | ds, vs, 0, h => by simp [RepL]
  | [], vs, n + 1, h => by simp only [RepL] at h; subst h; simp [RepL]
  | d :: ds, vs, n + 1, h => by
    simp only [RepL] at h
    obtain ⟨v, r, rfl, h1, h2⟩ := h
    simp only [List.take_succ_cons, RepL]
    exact ⟨v, r.take n, rfl, h1, h2.take n⟩
theorem RepL.set : ∀ {ds : List D} {vs : List V} (n : Nat) {d : D} {v : V}, RepL c φ H ds vs → Rep c φ H d v → RepL c φ H (ds.set n d) (vs.set n v)
  | [], vs, n, d, v, h, r => by simp only [RepL] at h; subst h; simp [RepL]
  | e :: ds, vs, 0, d, v, h, r => by
    simp only [RepL] at h
    obtain ⟨w, q, rfl, h1, h2⟩ := h
    simp only [List.set_cons_zero, RepL]
    exact ⟨v, q, rfl, r, h2⟩
  | e :: ds, vs, n + 1, d, v, h, r => by
    simp only [RepL] at h
    obtain ⟨w, q, rfl, h1, h2⟩ := h
    simp only [List.set_cons_succ, RepL]
    exact ⟨w, q.set n v, rfl, h1, h2.set n r⟩
/-- a cell whose own objects stay -/
theorem CellOk.later {e : Ent} {x : Cell} (h : CellOk c φ H e x) (L : Keep φ H φ' H') (h1 : H' e.1 = H e.1) (h2 : H' e.2 = H e.2) : CellOk c φ' H' e x := by
  cases x with
  | lst ds =>
    obtain ⟨a, vs, b, r⟩ := h
    exact ⟨a, vs, h1.trans b, r.later L⟩
  | dct ks ds =>
    obtain ⟨a, vs, b, l, r⟩ := h
    exact ⟨a, vs, h1.trans b, l, r.later L⟩
  | fdct ks ds =>
    obtain ⟨a, o, vs, q, b, l, r⟩ := h
    exact ⟨a, o, vs, q, h1.trans b, l, r.later L⟩
  | ins C fs =>
    obtain ⟨a, n, vs, ws, s, g, r⟩ := h
    refine ⟨a, by rw [h2]; exact n, vs, ws, ?_, g, r.later L⟩
    rcases s with ⟨q, z⟩ | ⟨q, z⟩
    · exact .inl ⟨h1.trans q, z⟩
    · exact .inr ⟨h1.trans q, h2.trans z⟩
theorem CellOk.there {e : Ent} {x : Cell} (h : CellOk c φ H e x) : H e.1 ≠ none ∧ H e.2 ≠ none := by
  cases x with
  | lst ds =>
    obtain ⟨a, vs, b, r⟩ := h
    rw [a]
    exact ⟨by rw [b]; simp, by rw [b]; simp⟩
  | dct ks ds =>
    obtain ⟨a, vs, b, l, r⟩ := h
    rw [a]
    exact ⟨by rw [b]; simp, by rw [b]; simp⟩
  | fdct ks ds =>
    obtain ⟨a, o, vs, q, b, l, r⟩ := h
    rw [a]
    exact ⟨by rw [b]; simp, by rw [b]; simp⟩
  | ins C fs =>
    obtain ⟨a, n, vs, ws, s, g, r⟩ := h
    exact ⟨slt_ne s, n⟩
theorem WOk.there (w : WOk c φ μ H) {b : Addr} (h : own φ b) : H b ≠ none := by
  rcases h with ⟨k, e, h, z⟩ | h
  · obtain ⟨x, _, q⟩ := w.cell k e h
    rcases z with rfl | rfl
    · exact q.there.1
    · exact q.there.2
  · exact (w.hid b h).1
theorem WOk.new (w : WOk c φ μ H) {p : Addr} (h : H p = none) : ¬ own φ p := fun z => w.there z h
/-- a new object, not the store's -/
theorem Later.laid (w : WOk c φ μ H) {p : Addr} {o : HO} (h : H p = none) : Later φ H φ (upd H p o) :=
  ⟨⟨fun _ _ q => q, fun b u _ q _ => by rw [upd_ne (ne_of_none q h)]; exact q, fun b ps _ q => ⟨#[], by rw [upd_ne (ne_of_none q h), q]; simp⟩, fun b z n => absurd z n⟩, Nat.le_refl _, rfl, fun b q => upd_ne fun z => (w.hid b q).1 (by rw [z]; exact h)⟩
theorem TabsO.keep {T : List (Addr × Str)} (t : TabsO T φ H) (e : ∀ b o, ¬ own φ b → H b = some o → H' b = some o) (n : ∀ b, own φ' b → ¬ own φ b → H b = none) : TabsO T φ' H' := fun p hp => by
  obtain ⟨ps, h1, h2, h3, h4⟩ := t p hp
  refine ⟨ps, e _ _ h2 h1, fun z => ?_, h3, fun pos cv hc => ?_⟩
  · have := n _ z h2
    rw [h1] at this; cases this
  · obtain ⟨k, rfl, h5, h6⟩ := h4 pos cv hc
    refine ⟨k, rfl, e _ _ h6 h5, fun z => ?_⟩
    have := n _ z h6
    rw [h5] at this; cases this
theorem WOk.laid (w : WOk c φ μ H) {p : Addr} {o : HO} (h : H p = none) : WOk c φ μ (upd H p o) where
  len := w.len
  cell := fun k e q => by
    obtain ⟨x, q1, q2⟩ := w.cell k e q
    have t := q2.there
    exact ⟨x, q1, q2.later (Later.laid w h).toKeep (upd_ne fun z => t.1 (by rw [z]; exact h)) (upd_ne fun z => t.2 (by rw [z]; exact h))⟩
  hid := fun b q => ⟨by rw [upd_ne fun z => (w.hid b q).1 (by rw [z]; exact h)]; exact (w.hid b q).1, (w.hid b q).2⟩
  inj := w.inj
  tabs := w.tabs.keep (fun b u _ q => by rw [upd_ne (ne_of_none q h)]; exact q) fun b z n => absurd z n
end
end VL
namespace VL
open PySem PySem.Spec PyProof.Rows L2 LamX
def RepX (c : Cn) (φ : Phi) (H : Hp) (e : Exn) (k : Value) (d : Option Addr) : Prop := k = .ref (c.cl e.cls) ∧ match e.arg with
  | none => d = none
  | some (f, x) => ∃ dx v, d = some dx ∧ H dx = some (.xd [(f, v)]) ∧ ¬ own φ dx ∧ Rep c φ H x v
abbrev XW := Value → Option Addr → Hp → Prop
def wpM {α β : Type} (c : Cn) (R : Phi → Hp → α → β → Prop) (m : M α) (φ : Phi) (μ : Mem) (H : Hp) (Q : β → Hp → Prop) (E : XW) : Prop :=
  match m μ with
  | .ok a μ' => ∀ φ' H' b, Later φ H φ' H' → WOk c φ' μ' H' → R φ' H' a b → Q b H'
  | .exn e μ' => ∀ φ' H' k d, Later φ H φ' H' → WOk c φ' μ' H' → RepX c φ' H' e k d → E k d H'
  | .stuck => False
section
variable {α β γ δ : Type} {c : Cn} {φ φ' : Phi} {H H' : Hp} {μ μ' : Mem} {E : XW}
theorem wp_mono {R : Phi → Hp → α → β → Prop} {m : M α} {Q Q' : β → Hp → Prop} (h : wpM c R m φ μ H Q E) (i : ∀ b H', Q b H' → Q' b H') : wpM c R m φ μ H Q' E := by
  unfold wpM at h ⊢
  split at h
  · exact fun φ' H' b L w r => i _ _ (h φ' H' b L w r)
  · exact h
  · exact h
theorem wp_bind {R : Phi → Hp → α → β → Prop} {R' : Phi → Hp → γ → δ → Prop} {m : M α} {k : α → M γ} {Q : δ → Hp → Prop} (h : wpM c R' (m >>= k) φ μ H Q E) :
    wpM c R m φ μ H (fun b H1 => ∃ φ1 μ1 a, Later φ H φ1 H1 ∧ WOk c φ1 μ1 H1 ∧ R φ1 H1 a b ∧ wpM c R' (k a) φ1 μ1 H1 Q E) E := by
  have e : (m >>= k) μ = M.bind m k μ := rfl
  unfold wpM at h ⊢
  rw [e] at h
  unfold M.bind at h
  cases hm : m μ with
  | ok a μ1 =>
    rw [hm] at h
    refine fun φ1 H1 b L w r => ⟨φ1, μ1, a, L, w, r, ?_⟩
    show wpM c R' (k a) φ1 μ1 H1 Q E
    unfold wpM
    simp only [] at h
    cases hk : k a μ1 with
    | ok x μ2 =>
      rw [hk] at h
      exact fun φ2 H2 b2 L2 w2 r2 => h φ2 H2 b2 (L.trans L2) w2 r2
    | exn x μ2 =>
      rw [hk] at h
      exact fun φ2 H2 k2 d2 L2 w2 r2 => h φ2 H2 k2 d2 (L.trans L2) w2 r2
    | stuck =>
      rw [hk] at h
      exact h
  | exn x μ1 =>
    rw [hm] at h
    exact h
  | stuck =>
    rw [hm] at h
    exact h
theorem wp_pure {R : Phi → Hp → α → β → Prop} {a : α} {b : β} {Q : β → Hp → Prop} (h : wpM c R (pure a) φ μ H Q E) (w : WOk c φ μ H) (r : R φ H a b) : Q b H := h φ H b .refl w r
/-- a pure answer at a grown heap -/
theorem wp_pureL {R : Phi → Hp → α → β → Prop} {a : α} {b : β} {Q : β → Hp → Prop} (h : wpM c R (pure a) φ μ H Q E) (L : Later φ H φ' H') (w : WOk c φ' μ H') (r : R φ' H' a b) : Q b H' := h φ' H' b L w r
theorem wp_stuck {R : Phi → Hp → α → β → Prop} {Q : β → Hp → Prop} {P : Prop} (h : wpM c R (stuck : M α) φ μ H Q E) : P := False.elim h
/-- a guard -/
def ask (p : Bool) : M Unit := if p then pure () else stuck
theorem wp_ask {R : Phi → Hp → γ → δ → Prop} {p : Bool} {k : Unit → M γ} {Q : δ → Hp → Prop} (h : wpM c R (ask p >>= k) φ μ H Q E) : p = true ∧ wpM c R (k ()) φ μ H Q E := by
  cases p
  · exact False.elim h
  · exact ⟨rfl, h⟩
end
def wEx (W : WX) (σ : L2.St) : XW := fun k d H => W k d σ H
/-- the state: a store, an environment -/
def tV (c : Cn) (W : WX) (f : Env → M D) : TE := fun σ H Q => ∃ φ μ ρ, WOk c φ μ H ∧ RepE c φ H ρ σ ∧ wpM c (Rep c) (f ρ) φ μ H Q (wEx W σ)
def tL (c : Cn) (W : WX) (f : Env → M (List D)) : TA := fun σ H Q => ∃ φ μ ρ, WOk c φ μ H ∧ RepE c φ H ρ σ ∧ wpM c (RepL c) (f ρ) φ μ H Q (wEx W σ)
def RB : Phi → Hp → Bool → Bool → Prop := fun _ _ a b => b = a
def tT (c : Cn) (W : WX) (f : Env → M Bool) : TT := fun σ H Q => ∃ φ μ ρ, WOk c φ μ H ∧ RepE c φ H ρ σ ∧ wpM c RB (f ρ) φ μ H Q (wEx W σ)
inductive Flow where
  | nx (ρ : Env) | rt (d : D) | bk (ρ : Env) | ct (ρ : Env) | xc (ρ : Env) (e : Exn)
def wpS (c : Cn) (m : M Flow) (φ : Phi) (μ : Mem) (H : Hp) (D : Ends) (W : WX) : Prop :=
  match m μ with
  | .ok (.nx ρ) μ' => ∀ φ' H' σ', LaterS c φ H φ' H' → WOk c φ' μ' H' → RepE c φ' H' ρ σ' → D.nx σ' H'
  | .ok (.rt d) μ' => ∀ φ' H' v, LaterS c φ H φ' H' → WOk c φ' μ' H' → Rep c φ' H' d v → D.rt v H'
  | .ok (.bk ρ) μ' => ∀ φ' H' σ', LaterS c φ H φ' H' → WOk c φ' μ' H' → RepE c φ' H' ρ σ' → D.bk σ' H'
  | .ok (.ct ρ) μ' => ∀ φ' H' σ', LaterS c φ H φ' H' → WOk c φ' μ' H' → RepE c φ' H' ρ σ' → D.ct σ' H'
  | .ok (.xc ρ e) μ' => ∀ φ' H' σ' k d, LaterS c φ H φ' H' → WOk c φ' μ' H' → RepE c φ' H' ρ σ' → RepX c φ' H' e k d → W k d σ' H'
  | .exn _ _ => False
  | .stuck => False
def tS (c : Cn) (W : WX) (s : Env → M Flow) : TS := fun D σ H => ∃ φ μ ρ, WOk c φ μ H ∧ RepE c φ H ρ σ ∧ wpS c (s ρ) φ μ H D W
structure VE (X : Cx) (c : Cn) (W : WX) (e : Expr) (f : Env → M D) : Prop where
  pe : PE X e (tV c W f)
structure VL (X : Cx) (c : Cn) (W : WX) (es : List Expr) (f : Env → M (List D)) : Prop where
  pa : PA X es (tL c W f)
structure VT (X : Cx) (c : Cn) (W : WX) (e : Expr) (f : Env → M Bool) : Prop where
  pt : PT X e (tT c W f)
structure VW (X : Cx) (c : Cn) (W : WX) (e : Expr) (f : Env → M Bool) : Prop where
  pw : PW X e (tT c W f)
structure VS (X : Cx) (c : Cn) (W : WX) (st : Stmt) (s : Env → M Flow) : Prop where
  ps : PS X st (tS c W s)
structure VB (X : Cx) (c : Cn) (W : WX) (st : List Stmt) (s : Env → M Flow) : Prop where
  ps : PSs X st (tS c W s)
theorem PE.weak {X : Cx} {e : Expr} {t t' : TE} (h : PE X e t) (i : ∀ σ H Q, t' σ H Q → t σ H Q) : PE X e t' := ⟨fun pins s σ H Q I q => h.run pins s σ H Q I (i _ _ _ q)⟩
theorem PA.weak {X : Cx} {e : List Expr} {t t' : TA} (h : PA X e t) (i : ∀ σ H Q, t' σ H Q → t σ H Q) : PA X e t' := ⟨fun pos pins s σ H Q I q => h.run pos pins s σ H Q I (i _ _ _ q)⟩
theorem PT.weak {X : Cx} {e : Expr} {t t' : TT} (h : PT X e t) (i : ∀ σ H Q, t' σ H Q → t σ H Q) : PT X e t' := ⟨fun pins s σ H Q I q => h.run pins s σ H Q I (i _ _ _ q)⟩
theorem PW.weak {X : Cx} {e : Expr} {t t' : TT} (h : PW X e t) (i : ∀ σ H Q, t' σ H Q → t σ H Q) : PW X e t' := ⟨fun wh pins s σ H Q I q => h.run wh pins s σ H Q I (i _ _ _ q)⟩
theorem PS.weak {X : Cx} {e : Stmt} {t t' : TS} (h : PS X e t) (i : ∀ D σ H, t' D σ H → t D σ H) : PS X e t' := ⟨fun pins s σ H D I q => h.run pins s σ H D I (i _ _ _ q)⟩
theorem PSs.weak {X : Cx} {e : List Stmt} {t t' : TS} (h : PSs X e t) (i : ∀ D σ H, t' D σ H → t D σ H) : PSs X e t' := ⟨fun pins s σ H D I q => h.run pins s σ H D I (i _ _ _ q)⟩
section
variable {X : Cx} {c : Cn} {W : WX} {φ : Phi} {H : Hp} {μ : Mem} {e a b : Expr} {es : List Expr} {f g : Env → M D} {pos : Pos}
def rd (i : Nat) (ρ : Env) : M D := match ρ[i]? with
  | some (some d) => pure d
  | _ => stuck
theorem ve_var {i : Nat} {x : Str} (hq : c.lo i) (hN : X.N[i]? = some x) (hv : Vis X.env.scope x) (hd : (x == ("__debug__" : Str)) = false := by decide) (hcd : (x == ("__classdict__" : Str)) = false := by decide) : VE X c W (.Name x pos) (rd i) :=
  ⟨PE.weak (pe_var hN hv hd hcd) fun σ H Q h => by
    obtain ⟨φ, μ, ρ, w, he, h⟩ := h
    unfold rd at h
    split at h
    · rename_i d hi
      obtain ⟨v, e, r⟩ := he.at_ i d hq hi
      exact ⟨v, e, wp_pure h w r⟩
    · exact wp_stuck h⟩
theorem ve_tC {v : V} {d : D} (h : PE X e (tC v)) (r : ∀ φ H, Rep c φ H d v) : VE X c W e (fun _ => pure d) :=
  ⟨PE.weak h fun σ H Q h => by
    obtain ⟨φ, μ, ρ, w, he, h⟩ := h
    exact wp_pure h w (r φ H)⟩
theorem ve_int {i j pos} : VE X c W (.Constant (.int i) j pos) (fun _ => pure (.int i)) := ve_tC pe_int fun _ _ => by simp only [Rep]
theorem ve_bl {i j pos} : VE X c W (.Constant (.bool i) j pos) (fun _ => pure (.bl i)) := ve_tC pe_bl fun _ _ => by simp only [Rep]
theorem ve_non {j pos} : VE X c W (.Constant .none j pos) (fun _ => pure .non) := ve_tC pe_non fun _ _ => by simp only [Rep]
theorem ve_str {i j pos} : VE X c W (.Constant (.str i) j pos) (fun _ => pure (.str i)) := ve_tC pe_str fun _ _ => by simp only [Rep]
theorem ve_glob {x : Str} {v : V} {d : D} {u : Value} (hg : Gl X x) (hm : X.mg x = some u) (r : RelV v u) (rd : ∀ φ H, Rep c φ H d v) (hd : (x == ("__debug__" : Str)) = false := by decide) : VE X c W (.Name x pos) (fun _ => pure d) := ve_tC (pe_glob hg hm r hd) rd
theorem ve_bltn {x : Str} {n : String} (hg : Gl X x) (hm : X.mg x = none) (hv : bootBuiltins x = some (.type n)) (hn : x ≠ "__name__" := by decide) (hd : (x == ("__debug__" : Str)) = false := by decide) : VE X c W (.Name x pos) (fun _ => pure (.ty n)) :=
  ve_tC (pe_bltn (v := .ty n) hg hm hv rfl hn hd) fun _ _ => by simp only [Rep]
/-- f on values is g on data -/
def OpV (X : Cx) (c : Cn) (f : Value → Value → Sem Value) (g : D → D → M D) : Prop :=
  ∃ r, OpR X f r ∧ ∀ φ μ H x y vx vy Q E, WOk c φ μ H → Rep c φ H x vx → Rep c φ H y vy → wpM c (Rep c) (g x y) φ μ H Q E → r vx vy H Q
theorem two {W : WX} {f g : Env → M D} {k : D → D → M D} {r : V → V → Hp → VK → Prop} (hr : ∀ φ μ H x y vx vy Q E, WOk c φ μ H → Rep c φ H x vx → Rep c φ H y vy → wpM c (Rep c) (k x y) φ μ H Q E → r vx vy H Q) (σ : L2.St) (H : Hp) (Q : VK)
    (h : tV c W (fun ρ => f ρ >>= fun x => g ρ >>= fun y => k x y) σ H Q) : tOp r (tV c W f) (tV c W g) σ H Q := by
  obtain ⟨φ, μ, ρ, w, he, h⟩ := h
  refine ⟨φ, μ, ρ, w, he, wp_mono (wp_bind h) fun x H1 z => ?_⟩
  obtain ⟨φ1, μ1, d1, L1, w1, r1, h1⟩ := z
  refine ⟨φ1, μ1, ρ, w1, he.later L1, wp_mono (wp_bind h1) fun y H2 z => ?_⟩
  obtain ⟨φ2, μ2, d2, L2, w2, r2, h2⟩ := z
  exact hr φ2 μ2 H2 d1 d2 x y Q _ w2 (r1.later L2.toKeep) r2 h2
theorem ve_op {op : Operator} {k : D → D → M D} (ho : OpV X c (binaryOp op) k) (ha : VE X c W a f) (hb : VE X c W b g) : VE X c W (.BinOp a op b pos) (fun ρ => f ρ >>= fun x => g ρ >>= fun y => k x y) := by
  obtain ⟨r, h1, h2⟩ := ho
  exact ⟨PE.weak (pe_op h1 ha.pe hb.pe) (two h2)⟩
theorem ve_cmp {op : CmpOp} {k : D → D → M D} (ho : OpV X c (compareOp op) k) (ha : VE X c W a f) (hb : VE X c W b g) (hm : behindInMarks op b = false) : VE X c W (.Compare a [op] [b] pos) (fun ρ => f ρ >>= fun x => g ρ >>= fun y => k x y) := by
  obtain ⟨r, h1, h2⟩ := ho
  exact ⟨PE.weak (pe_cmpR h1 ha.pe hb.pe hm) (two h2)⟩
def asB : D → M Bool
  | .bl b => pure b
  | _ => stuck
theorem rep_bl {b : Bool} {v : V} (h : Rep c φ H (.bl b) v) : v = .bl b := by simpa only [Rep] using h
/-- a value that is a bool, as a test -/
theorem tT_of (σ : L2.St) (H : Hp) (Q : Bool → Hp → Prop) (h : tT c W (fun ρ => f ρ >>= asB) σ H Q) : tV c W f σ H (fun x H1 => ∃ k, x = .bl k ∧ Q k H1) := by
  obtain ⟨φ, μ, ρ, w, he, h⟩ := h
  refine ⟨φ, μ, ρ, w, he, wp_mono (wp_bind h) fun x H1 z => ?_⟩
  obtain ⟨φ1, μ1, d, L, w1, r, h1⟩ := z
  cases d with
  | bl b => exact ⟨b, rep_bl r, wp_pure (b := b) h1 w1 rfl⟩
  | _ => exact wp_stuck h1
theorem vt_val (h : VE X c W e f) (he : ∀ whole, isTrue e X.env whole = (do let v ← whole; standAt e.pos; holding [v] (truthy v)) := by intro _; rfl) : VT X c W e (fun ρ => f ρ >>= asB) :=
  ⟨PT.weak (pt_val h.pe he) fun σ H Q q => tT_of σ H Q q⟩
theorem vt_cmp {op : CmpOp} {k : D → D → M D} (ho : OpV X c (compareOp op) k) (ha : VE X c W a f) (hb : VE X c W b g) (hm : behindInMarks op b = false) : VT X c W (.Compare a [op] [b] pos) (fun ρ => (f ρ >>= fun x => g ρ >>= fun y => k x y) >>= asB) := by
  obtain ⟨r, h1, h2⟩ := ho
  exact ⟨PT.weak (pt_cmpR h1 ha.pe hb.pe hm) fun σ H Q q => two (W := W) (f := f) (g := g) h2 σ H _ (tT_of σ H Q q)⟩
def isN : D → Bool
  | .non => true
  | _ => false
theorem rep_isN : ∀ {d : D} {v : V}, Rep c φ H d v → decide (v = .non) = isN d
  | .non, v, h => by simp only [Rep] at h; subst h; rfl
  | .bl _, v, h => by simp only [Rep] at h; subst h; rfl
  | .int _, v, h => by simp only [Rep] at h; subst h; rfl
  | .str _, v, h => by simp only [Rep] at h; subst h; rfl
  | .ty _, v, h => by simp only [Rep] at h; subst h; rfl
  | .cls _, v, h => by simp only [Rep] at h; subst h; rfl
  | .fn _, v, h => by simp only [Rep] at h; subst h; rfl
  | .tup _, v, h => by simp only [Rep] at h; obtain ⟨a, vs, rfl, _⟩ := h; rfl
  | .lst _, v, h => by simp only [Rep] at h; obtain ⟨a, vs, rfl, _⟩ := h; rfl
  | .ins _ _, v, h => by simp only [Rep] at h; obtain ⟨a, dx, vs, ws, rfl, _⟩ := h; rfl
  | .ptr _, v, h => by simp only [Rep] at h; obtain ⟨e, _, rfl⟩ := h; rfl
  | .dct _ _, v, h => by simp only [Rep] at h; obtain ⟨a, vs, rfl, _⟩ := h; rfl
  | .bdct _ _, v, h => by simp only [Rep] at h; obtain ⟨a, vs, rfl, _⟩ := h; rfl
  | .scr _, v, h => by simp only [Rep] at h; obtain ⟨a, vs, rfl, _⟩ := h; rfl
theorem one {W : WX} {f : Env → M D} {k : D → M D} {r : V → Hp → VK → Prop} (hr : ∀ φ μ H x vx Q E, WOk c φ μ H → Rep c φ H x vx → wpM c (Rep c) (k x) φ μ H Q E → r vx H Q) (σ : L2.St) (H : Hp) (Q : VK)
    (h : tV c W (fun ρ => f ρ >>= k) σ H Q) : tV c W f σ H (fun x H1 => r x H1 Q) := by
  obtain ⟨φ, μ, ρ, w, he, h⟩ := h
  refine ⟨φ, μ, ρ, w, he, wp_mono (wp_bind h) fun x H1 z => ?_⟩
  obtain ⟨φ1, μ1, d1, L1, w1, r1, h1⟩ := z
  exact hr φ1 μ1 H1 d1 x Q _ w1 r1 h1
theorem ve_isN {j p2} (ha : VE X c W a f) : VE X c W (.Compare a [.Is] [.Constant .none j p2] pos) (fun ρ => f ρ >>= fun x => pure (.bl (isN x))) :=
  ⟨PE.weak (pe_cmp (pc_isN ha.pe) rfl) fun σ H Q q => one (r := fun x H Q => Q (.bl (decide (x = .non))) H) (fun φ μ H x vx Q E w r h => by
    rw [rep_isN r]
    exact wp_pure h w (by simp only [Rep])) σ H Q q⟩
theorem vt_isN {j p2} (ha : VE X c W a f) : VT X c W (.Compare a [.Is] [.Constant .none j p2] pos) (fun ρ => f ρ >>= fun x => pure (isN x)) :=
  ⟨PT.weak (pt_cmp (pc_isN ha.pe) rfl) fun σ H Q h => by
    obtain ⟨φ, μ, ρ, w, he, h⟩ := h
    refine ⟨φ, μ, ρ, w, he, wp_mono (wp_bind h) fun x H1 z => ?_⟩
    obtain ⟨φ1, μ1, d1, L1, w1, r1, h1⟩ := z
    refine ⟨_, rfl, ?_⟩
    rw [rep_isN r1]
    exact wp_pure h1 w1 rfl⟩
theorem vt_notN {j p2} (ha : VE X c W a f) : VT X c W (.Compare a [.IsNot] [.Constant .none j p2] pos) (fun ρ => f ρ >>= fun x => pure (!isN x)) :=
  ⟨PT.weak (pt_cmp (pc_notN ha.pe) rfl) fun σ H Q h => by
    obtain ⟨φ, μ, ρ, w, he, h⟩ := h
    refine ⟨φ, μ, ρ, w, he, wp_mono (wp_bind h) fun x H1 z => ?_⟩
    obtain ⟨φ1, μ1, d1, L1, w1, r1, h1⟩ := z
    refine ⟨_, rfl, ?_⟩
    rw [rep_isN r1]
    exact wp_pure h1 w1 rfl⟩
variable {ft gt : Env → M Bool} {rest : List Expr}
def tAnd (a b : M Bool) : M Bool := a >>= fun k => if k then b else pure false
def tOr (a b : M Bool) : M Bool := a >>= fun k => if k then pure true else b
theorem vt_of (h : VW X c W e ft) : VT X c W e ft := ⟨h.pw.pt⟩
theorem vw_or1 (ha : VT X c W a ft) : VW X c W (.BoolOp .Or [a] pos) ft := ⟨pw_or1 ha.pt⟩
theorem tBind {W : WX} {f g : Env → M Bool} {k : Env → Bool → M Bool} {z : Bool → TT} (hz : ∀ b ρ σ φ μ H Q, WOk c φ μ H → RepE c φ H ρ σ → wpM c RB (k ρ b) φ μ H Q (wEx W σ) → z b σ H Q) (σ : L2.St) (H : Hp) (Q : Bool → Hp → Prop)
    (h : tT c W (fun ρ => f ρ >>= k ρ) σ H Q) : tT c W f σ H (fun b H1 => z b σ H1 Q) := by
  obtain ⟨φ, μ, ρ, w, he, h⟩ := h
  refine ⟨φ, μ, ρ, w, he, wp_mono (wp_bind h) fun x H1 y => ?_⟩
  obtain ⟨φ1, μ1, d1, L1, w1, r1, h1⟩ := y
  obtain rfl : x = d1 := r1
  exact hz x ρ σ φ1 μ1 H1 Q w1 (he.later L1) h1
theorem vw_or (ha : VT X c W a ft) (hb : VW X c W (.BoolOp .Or (b :: rest) pos) gt) : VW X c W (.BoolOp .Or (a :: b :: rest) pos) (fun ρ => tOr (ft ρ) (gt ρ)) :=
  ⟨PW.weak (pw_or ha.pt hb.pw) fun σ H Q q => tBind (g := gt) (z := fun b σ H Q => if b = true then Q true H else tT c W gt σ H Q) (fun b ρ σ φ μ H Q w he h => by
    cases b
    · exact ⟨φ, μ, ρ, w, he, h⟩
    · exact wp_pure (b := true) h w rfl) σ H Q q⟩
theorem vt_not (ha : VT X c W a ft) : VT X c W (.UnaryOp .Not a pos) (fun ρ => ft ρ >>= fun b => pure (!b)) :=
  ⟨PT.weak (pt_not ha.pt) fun σ H Q q => tBind (g := ft) (z := fun b σ H Q => Q (!b) H) (fun b ρ σ φ μ H Q w he h => wp_pure (b := !b) h w rfl) σ H Q q⟩
theorem tBindV {W : WX} {f : Env → M Bool} {k : Env → Bool → M D} {z : Bool → TE} (hz : ∀ b ρ σ φ μ H Q, WOk c φ μ H → RepE c φ H ρ σ → wpM c (Rep c) (k ρ b) φ μ H Q (wEx W σ) → z b σ H Q) (σ : L2.St) (H : Hp) (Q : VK)
    (h : tV c W (fun ρ => f ρ >>= k ρ) σ H Q) : tT c W f σ H (fun b H1 => z b σ H1 Q) := by
  obtain ⟨φ, μ, ρ, w, he, h⟩ := h
  refine ⟨φ, μ, ρ, w, he, wp_mono (wp_bind h) fun x H1 y => ?_⟩
  obtain ⟨φ1, μ1, d1, L1, w1, r1, h1⟩ := y
  obtain rfl : x = d1 := r1
  exact hz x ρ σ φ1 μ1 H1 Q w1 (he.later L1) h1
theorem ve_if {t : Expr} (ht : VT X c W t ft) (ha : VE X c W a f) (hb : VE X c W b g) : VE X c W (.IfExp t a b pos) (fun ρ => ft ρ >>= fun k => if k then f ρ else g ρ) :=
  ⟨PE.weak (pe_ifExp ht.pt ha.pe hb.pe) fun σ H Q q => tBindV (z := fun b σ H Q => if b = true then tV c W f σ H Q else tV c W g σ H Q) (fun b ρ σ φ μ H Q w he h => by
    cases b
    · exact ⟨φ, μ, ρ, w, he, h⟩
    · exact ⟨φ, μ, ρ, w, he, h⟩) σ H Q q⟩
/-- and, or, not as values: bools, but for the last -/
theorem tBindD {W : WX} {f : Env → M D} {k : Env → D → M D} {z : D → V → TE} (hz : ∀ d v ρ σ φ μ H Q, WOk c φ μ H → RepE c φ H ρ σ → Rep c φ H d v → wpM c (Rep c) (k ρ d) φ μ H Q (wEx W σ) → z d v σ H Q) (σ : L2.St) (H : Hp) (Q : VK)
    (h : tV c W (fun ρ => f ρ >>= k ρ) σ H Q) : tV c W f σ H (fun v H1 => ∃ d, z d v σ H1 Q) := by
  obtain ⟨φ, μ, ρ, w, he, h⟩ := h
  refine ⟨φ, μ, ρ, w, he, wp_mono (wp_bind h) fun x H1 y => ?_⟩
  obtain ⟨φ1, μ1, d1, L1, w1, r1, h1⟩ := y
  exact ⟨d1, hz d1 x ρ σ φ1 μ1 H1 Q w1 (he.later L1) r1 h1⟩
def andD (a b : M D) : M D := a >>= fun d => match d with
  | .bl true => b
  | .bl false => pure (.bl false)
  | _ => stuck
def orD (a b : M D) : M D := a >>= fun d => match d with
  | .bl true => pure (.bl true)
  | .bl false => b
  | _ => stuck
theorem tV_wk {W : WX} {f : Env → M D} {σ : L2.St} {H : Hp} {Q Q' : VK} (h : tV c W f σ H Q) (i : ∀ v H', Q v H' → Q' v H') : tV c W f σ H Q' := by
  obtain ⟨φ, μ, ρ, w, he, h⟩ := h
  exact ⟨φ, μ, ρ, w, he, wp_mono h i⟩
theorem ve_one {op} (h : VE X c W a f) : VE X c W (.BoolOp op [a] pos) f := ⟨pe_one h.pe⟩
theorem ve_and (ha : VE X c W a f) (hb : VE X c W (.BoolOp .And (b :: rest) pos) g) : VE X c W (.BoolOp .And (a :: b :: rest) pos) (fun ρ => andD (f ρ) (g ρ)) :=
  ⟨PE.weak (pe_and ha.pe hb.pe) fun σ H Q q => tV_wk (tBindD (z := fun d v σ H Q => ∃ k, v = .bl k ∧ if k = true then tV c W g σ H Q else Q (.bl false) H) (fun d v ρ σ φ μ H Q w he r h => by
    cases d with
    | bl k =>
      cases k
      · exact ⟨false, rep_bl r, show Q (.bl false) H from wp_pure (b := V.bl false) h w (by simp only [Rep])⟩
      · exact ⟨true, rep_bl r, φ, μ, ρ, w, he, h⟩
    | _ => exact wp_stuck h) σ H Q q) fun v H' ⟨d, z⟩ => z⟩
def notD : D → M D
  | .bl b => pure (.bl (!b))
  | _ => stuck
theorem ve_not (ha : VE X c W a f) : VE X c W (.UnaryOp .Not a pos) (fun ρ => f ρ >>= notD) :=
  ⟨PE.weak (pe_not ha.pe) fun σ H Q q => one (r := fun x H Q => ∃ k, x = .bl k ∧ Q (.bl (!k)) H) (fun φ μ H x vx Q E w r h => by
    cases x with
    | bl b => exact ⟨b, rep_bl r, wp_pure h w (by simp only [Rep])⟩
    | _ => exact wp_stuck h) σ H Q q⟩
variable {fl gl : Env → M (List D)}
theorem vl_nil : VL X c W [] (fun _ => pure []) := ⟨PA.weak pa_nil fun σ H Q h => by
  obtain ⟨φ, μ, ρ, w, he, h⟩ := h
  exact wp_pure (b := []) h w (by simp only [RepL])⟩
theorem vl_cons (ha : VE X c W e f) (hr : VL X c W es fl) (hs : starEach (e :: es) X.env = (false, eval e X.env) :: starEach es X.env := by rfl) : VL X c W (e :: es) (fun ρ => f ρ >>= fun x => fl ρ >>= fun r => pure (x :: r)) :=
  ⟨PA.weak (pa_cons ha.pe hr.pa hs) fun σ H Q h => by
    obtain ⟨φ, μ, ρ, w, he, h⟩ := h
    refine ⟨φ, μ, ρ, w, he, wp_mono (wp_bind h) fun x H1 y => ?_⟩
    obtain ⟨φ1, μ1, d1, L1, w1, r1, h1⟩ := y
    refine ⟨φ1, μ1, ρ, w1, he.later L1, wp_mono (wp_bind h1) fun xs H2 y => ?_⟩
    obtain ⟨φ2, μ2, d2, L2, w2, r2, h2⟩ := y
    exact wp_pure (b := x :: xs) h2 w2 (by simp only [RepL]; exact ⟨x, xs, rfl, r1.later L2.toKeep, r2⟩)⟩
/-- a display's length is within the line -/
def small (n : Nat) : Bool := decide (n ≤ sizeLine)
def mkTup (r : List D) : M D := ask (small r.length) >>= fun _ => pure (.tup r)
def mkLst (r : List D) : M D := ask (small r.length) >>= fun _ => pure (.lst r)
theorem ve_tup {x1} (h : VL X c W es fl) : VE X c W (.Tuple es x1 pos) (fun ρ => fl ρ >>= mkTup) :=
  ⟨PE.weak (pe_tup h.pa) fun σ H Q h => by
    obtain ⟨φ, μ, ρ, w, he, h⟩ := h
    refine ⟨φ, μ, ρ, w, he, wp_mono (wp_bind h) fun xs H1 y => ?_⟩
    obtain ⟨φ1, μ1, ds, L1, w1, r1, h1⟩ := y
    obtain ⟨hs, h1⟩ := wp_ask h1
    have hs := of_decide_eq_true hs
    refine ⟨r1.len ▸ hs, fun p np => wp_pureL h1 (Later.laid w1 np) (w1.laid np) ?_⟩
    simp only [Rep]
    exact ⟨p, xs, rfl, .inl ⟨.inl upd_same, w1.new np⟩, r1.later (Later.laid w1 np).toKeep⟩⟩
/-- a list that is never changed -/
theorem ve_lst (h : VL X c W es fl) : VE X c W (.List es pos) (fun ρ => fl ρ >>= mkLst) :=
  ⟨PE.weak (pe_lst h.pa) fun σ H Q h => by
    obtain ⟨φ, μ, ρ, w, he, h⟩ := h
    refine ⟨φ, μ, ρ, w, he, wp_mono (wp_bind h) fun xs H1 y => ?_⟩
    obtain ⟨φ1, μ1, ds, L1, w1, r1, h1⟩ := y
    obtain ⟨hs, h1⟩ := wp_ask h1
    have hs := of_decide_eq_true hs
    refine ⟨r1.len ▸ hs, fun p np => wp_pureL h1 (Later.laid w1 np) (w1.laid np) ?_⟩
    simp only [Rep]
    exact ⟨p, xs, rfl, .inl upd_same, w1.new np, r1.later (Later.laid w1 np).toKeep⟩⟩
end
end VL
namespace VL
open PySem PySem.Spec PyProof.Rows L2 LamX
section
variable {X : Cx} {c : Cn} {W : WX} {φ : Phi} {H : Hp} {μ : Mem}
def readL : D → M (List D)
  | .lst xs => pure xs
  | .ptr k => fun μ => match μ[k]? with
    | some (.lst xs) => .ok xs μ
    | _ => .stuck
  | _ => stuck
theorem sqtK {K : PySem.W.Frag} {a : Addr} {vs : List V} (h : SqT K H0 a vs) : SqT K H a vs := by
  rcases h with (h | ⟨o, h⟩) | h
  · cases h
  · cases h
  · exact .inr h
theorem sqlK {K : PySem.W.Frag} {a : Addr} {vs : List V} (h : SqL K H0 a vs) : SqL K H a vs := by
  rcases h with (h | ⟨o, h⟩) | h
  · cases h
  · cases h
  · exact .inr h
theorem rep_tup {xs : List D} {v : V} (h : Rep c φ H (.tup xs) v) : ∃ a vs, v = .ref a ∧ SqT c.K H a vs ∧ RepL c φ H xs vs := by
  simp only [Rep] at h
  obtain ⟨a, vs, e, h, r⟩ := h
  refine ⟨a, vs, e, ?_, r⟩
  rcases h with ⟨h, _⟩ | h
  · exact .inl h
  · exact sqtK h
theorem rep_lst {xs : List D} {v : V} (h : Rep c φ H (.lst xs) v) : ∃ a vs, v = .ref a ∧ Rd H a (.lst vs) ∧ RepL c φ H xs vs := by
  simp only [Rep] at h
  obtain ⟨a, vs, e, h, _, r⟩ := h
  exact ⟨a, vs, e, h, r⟩
theorem rep_scr {xs : List D} {v : V} (h : Rep c φ H (.scr xs) v) : ∃ a vs, v = .ref a ∧ SqL c.K H a vs ∧ RepL c φ H xs vs := by
  simp only [Rep] at h
  obtain ⟨a, vs, e, h, r⟩ := h
  refine ⟨a, vs, e, ?_, r⟩
  rcases h with ⟨h, _⟩ | h
  · exact .inl h
  · exact sqlK h
theorem rep_int {i : Int} {v : V} (h : Rep c φ H (.int i) v) : v = .int i := by simpa only [Rep] using h
theorem rep_str {i : Str} {v : V} (h : Rep c φ H (.str i) v) : v = .str i := by simpa only [Rep] using h
theorem rep_non {v : V} (h : Rep c φ H .non v) : v = .non := by simpa only [Rep] using h
theorem of_int {i : Int} : Rep c φ H (.int i) (.int i) := by simp only [Rep]
theorem of_str {i : Str} : Rep c φ H (.str i) (.str i) := by simp only [Rep]
theorem of_bl {i : Bool} : Rep c φ H (.bl i) (.bl i) := by simp only [Rep]
theorem of_non : Rep c φ H .non .non := by simp only [Rep]
/-- what a bind of readL gives -/
theorem wp_readL {α β : Type} {R : Phi → Hp → α → β → Prop} {d : D} {v : V} {k : List D → M α} {Q : β → Hp → Prop} {E : XW} (h : wpM c R (readL d >>= k) φ μ H Q E) (w : WOk c φ μ H) (r : Rep c φ H d v) :
    ∃ xs a vs, v = .ref a ∧ Rd H a (.lst vs) ∧ RepL c φ H xs vs ∧ wpM c R (k xs) φ μ H Q E := by
  cases d with
  | lst xs =>
    obtain ⟨a, vs, e, hs, rl⟩ := rep_lst r
    exact ⟨xs, a, vs, e, hs, rl, h⟩
  | ptr i =>
    simp only [Rep] at r
    obtain ⟨e, hi, rfl⟩ := r
    obtain ⟨x, hx, hc⟩ := w.cell i e hi
    cases x with
    | lst xs =>
      obtain ⟨_, vs, hv, rl⟩ := hc
      refine ⟨xs, e.1, vs, rfl, .inl hv, rl, ?_⟩
      have e1 : (readL (.ptr i) >>= k) μ = k xs μ := by
        show M.bind (readL (.ptr i)) k μ = _
        unfold M.bind readL
        simp only [hx]
      unfold wpM at h ⊢
      rw [e1] at h
      exact h
    | dct C fs =>
      have e1 : (readL (.ptr i) >>= k) μ = .stuck := by
        show M.bind (readL (.ptr i)) k μ = _
        unfold M.bind readL
        simp only [hx]
      unfold wpM at h
      rw [e1] at h
      exact h.elim
    | fdct C fs =>
      have e1 : (readL (.ptr i) >>= k) μ = .stuck := by
        show M.bind (readL (.ptr i)) k μ = _
        unfold M.bind readL
        simp only [hx]
      unfold wpM at h
      rw [e1] at h
      exact h.elim
    | ins C fs =>
      have e1 : (readL (.ptr i) >>= k) μ = .stuck := by
        show M.bind (readL (.ptr i)) k μ = _
        unfold M.bind readL
        simp only [hx]
      unfold wpM at h
      rw [e1] at h
      exact h.elim
  | _ => exact wp_stuck (α := α) (R := R) h
mutual
def toP : D → Option PyData
  | .non => some .none
  | .bl b => some (.bool b)
  | .int i => some (.int i)
  | .str z => some (.str z)
  | .tup xs => (toPs xs).map .tuple
  | .lst xs => (toPs xs).map .list
  | _ => none
def toPs : List D → Option (List PyData)
  | [] => some []
  | d :: ds => match toP d, toPs ds with
    | some p, some ps => some (p :: ps)
    | _, _ => none
end
mutual
theorem toP_dp : ∀ (d : D) (v : V) (p : PyData), Rep c φ H d v → toP d = some p → Dp c.K H v p
  | .non, v, p, r, e => by simp only [toP] at e; cases e; rw [rep_non r]; exact .non
  | .bl _, v, p, r, e => by simp only [toP] at e; cases e; rw [rep_bl r]; exact .bl _
  | .int _, v, p, r, e => by simp only [toP] at e; cases e; rw [rep_int r]; exact .int _
  | .str _, v, p, r, e => by simp only [toP] at e; cases e; rw [rep_str r]; exact .str _
  | .tup xs, v, p, r, e => by
    simp only [toP, Option.map_eq_some_iff] at e
    obtain ⟨ps, e, rfl⟩ := e
    obtain ⟨a, vs, rfl, hs, rl⟩ := rep_tup r
    exact .tup hs (toPs_dp xs vs ps rl e)
  | .lst xs, v, p, r, e => by
    simp only [toP, Option.map_eq_some_iff] at e
    obtain ⟨ps, e, rfl⟩ := e
    obtain ⟨a, vs, rfl, hs, rl⟩ := rep_lst r
    exact .lst (.inl hs) (toPs_dp xs vs ps rl e)
  | .ty _, v, p, r, e => by simp [toP] at e
  | .cls _, v, p, r, e => by simp [toP] at e
  | .fn _, v, p, r, e => by simp [toP] at e
  | .ins _ _, v, p, r, e => by simp [toP] at e
  | .ptr _, v, p, r, e => by simp [toP] at e
  | .dct _ _, v, p, r, e => by simp [toP] at e
  | .bdct _ _, v, p, r, e => by simp [toP] at e
  | .scr _, v, p, r, e => by simp [toP] at e
theorem toPs_dp : ∀ (ds : List D) (vs : List V) (ps : List PyData), RepL c φ H ds vs → toPs ds = some ps → DpAll c.K H vs ps
  | [], vs, ps, r, e => by
    simp only [toPs] at e; cases e
    simp only [RepL] at r; subst r
    exact .nil
  | d :: ds, vs, ps, r, e => by
    simp only [RepL] at r
    obtain ⟨v, rest, rfl, r1, r2⟩ := r
    simp only [toPs] at e
    split at e
    · rename_i p ps' h1 h2
      cases e
      exact .cons (toP_dp d v p r1 h1) (toPs_dp ds rest ps' r2 h2)
    · cases e
end
/-- data of a value, a list of the store's among them -/
def datum (d : D) : M PyData := match d with
  | .ptr k => readL (.ptr k) >>= fun xs => match toP (.lst xs) with
    | some p => pure p
    | none => stuck
  | d => match toP d with
    | some p => pure p
    | none => stuck
theorem wp_datum {α β : Type} {R : Phi → Hp → α → β → Prop} {d : D} {v : V} {k : PyData → M α} {Q : β → Hp → Prop} {E : XW} (h : wpM c R (datum d >>= k) φ μ H Q E) (w : WOk c φ μ H) (r : Rep c φ H d v) :
    ∃ p, Dp c.K H v p ∧ wpM c R (k p) φ μ H Q E := by
  by_cases hp : ∃ i, d = .ptr i
  · obtain ⟨i, rfl⟩ := hp
    have e : (datum (.ptr i) >>= k) μ = (readL (.ptr i) >>= fun xs => (match toP (.lst xs) with | some p => pure p | none => stuck) >>= k) μ := by
      show M.bind (M.bind _ _) k μ = M.bind _ (fun xs => M.bind _ k) μ
      unfold M.bind
      cases readL (.ptr i) μ <;> rfl
    have h2 : wpM c R (readL (.ptr i) >>= fun xs => (match toP (.lst xs) with | some p => pure p | none => stuck) >>= k) φ μ H Q E := by
      unfold wpM at h ⊢
      rw [e] at h
      exact h
    obtain ⟨xs, a, vs, rfl, hs, rl, h3⟩ := wp_readL h2 w r
    cases hx : toP (.lst xs) with
    | none => rw [hx] at h3; exact wp_stuck (α := α) (R := R) h3
    | some p =>
      rw [hx] at h3
      refine ⟨p, ?_, h3⟩
      simp only [toP, Option.map_eq_some_iff] at hx
      obtain ⟨ps, hx, rfl⟩ := hx
      exact .lst (.inl hs) (toPs_dp xs vs ps rl hx)
  · have e : datum d = match toP d with | some p => pure p | none => stuck := by
      cases d <;> first | rfl | exact absurd ⟨_, rfl⟩ hp
    rw [e] at h
    cases hx : toP d with
    | none => rw [hx] at h; exact wp_stuck (α := α) (R := R) h
    | some p =>
      rw [hx] at h
      exact ⟨p, toP_dp d v p r hx, h⟩
theorem OpV.mk {f : Value → Value → Sem Value} {g : D → D → M D} {r : R2} (h : OpR X f r) (i : ∀ φ μ H x y vx vy Q E, WOk c φ μ H → Rep c φ H x vx → Rep c φ H y vy → wpM c (Rep c) (g x y) φ μ H Q E → r vx vy H Q) : OpV X c f g := ⟨r, h, i⟩
def dAdd : D → D → M D
  | .int i, .int j => pure (.int (i + j))
  | .str a, .str b => ask (small (a.length + b.length)) >>= fun _ => pure (.str (a ++ b))
  | .tup a, .tup b => ask (small (a.length + b.length)) >>= fun _ => pure (.tup (a ++ b))
  | x, y => readL x >>= fun a => readL y >>= fun b => ask (small (a.length + b.length)) >>= fun _ => pure (.lst (a ++ b))
def rCatL (_ : PySem.W.Frag) : R2 := fun x y H Q => ∃ l b xs zs, x = .ref l ∧ y = .ref b ∧ Rd H l (.lst xs) ∧ Rd H b (.lst zs) ∧ xs.length + zs.length ≤ sizeLine ∧ ∀ p, H p = none → Q (.ref p) (upd H p (.lst (xs ++ zs)))
theorem op_catL : OpR X (binaryOp .Add) (rCatL X.K) := by
  intro pins s σ H x y v u Q I rx ry h
  obtain ⟨l, b, xs, zs, rfl, rfl, hH, hB, hz, q⟩ := h
  cases rx
  cases ry
  obtain ⟨z, its, n, r, e⟩ := hH.ok I.hok
  obtain ⟨z2, its2, n2, r2, e2⟩ := hB.ok I.hok
  have hl := r.length
  have hl2 := r2.length
  refine PySem.P.add_list e e2 ?_ (by rw [List.size_toArray, List.size_toArray]; omega)
  have ea : its.toArray ++ its2.toArray = (its ++ its2).toArray := by simp
  rw [ea]
  exact ⟨.ref _, _, I.lnew (t' := s.toks) (r.append r2) (by rw [List.length_append]; omega), rfl, q _ I.fresh⟩
theorem tup_new (w : WOk c φ μ H) {p : Addr} {vs : List V} {ds : List D} (np : H p = none) (r : RepL c φ H ds vs) : Rep c φ (upd H p (.tup vs)) (.tup ds) (.ref p) := by
  simp only [Rep]
  exact ⟨p, vs, rfl, .inl ⟨.inl upd_same, w.new np⟩, r.later (Later.laid w np).toKeep⟩
theorem lst_new (w : WOk c φ μ H) {p : Addr} {vs : List V} {ds : List D} (np : H p = none) (r : RepL c φ H ds vs) : Rep c φ (upd H p (.lst vs)) (.lst ds) (.ref p) := by
  simp only [Rep]
  exact ⟨p, vs, rfl, .inl upd_same, w.new np, r.later (Later.laid w np).toKeep⟩
theorem opv_add (hK : X.K = c.K) : OpV X c (binaryOp .Add) dAdd := by
  refine .mk (((op_add.or op_add_str).or op_catA).or op_catL) fun φ μ H x y vx vy Q E w r1 r2 h => ?_
  rw [hK]
  have lists : ∀ (h : wpM c (Rep c) (readL x >>= fun a => readL y >>= fun b => ask (small (a.length + b.length)) >>= fun _ => pure (.lst (a ++ b))) φ μ H Q E), rCatL c.K vx vy H Q := fun h => by
    obtain ⟨xs, a, vs, rfl, hs, rl, h⟩ := wp_readL h w r1
    obtain ⟨ys, b, ws, rfl, hs2, rl2, h⟩ := wp_readL h w r2
    obtain ⟨hz, h⟩ := wp_ask h
    have hz := of_decide_eq_true hz
    rw [rl.len, rl2.len] at hz
    exact ⟨a, b, vs, ws, rfl, rfl, hs, hs2, hz, fun p np => wp_pureL h (Later.laid w np) (w.laid np) (lst_new w np (rl.app rl2))⟩
  unfold dAdd at h
  split at h
  · rw [rep_int r1, rep_int r2]
    exact .inl (.inl (.inl ⟨_, _, rfl, rfl, wp_pure h w of_int⟩))
  · obtain ⟨hz, h⟩ := wp_ask h
    rw [rep_str r1, rep_str r2]
    exact .inl (.inl (.inr ⟨_, _, rfl, rfl, of_decide_eq_true hz, wp_pure h w of_str⟩))
  · obtain ⟨hz, h⟩ := wp_ask h
    have hz := of_decide_eq_true hz
    obtain ⟨a, vs, rfl, hs, rl⟩ := rep_tup r1
    obtain ⟨b, ws, rfl, hs2, rl2⟩ := rep_tup r2
    rw [rl.len, rl2.len] at hz
    refine .inl (.inr ⟨a, b, vs, ws, rfl, rfl, hs, hs2, hz, fun e => ?_, fun _ e => ?_, fun _ _ p np => wp_pureL h (Later.laid w np) (w.laid np) (tup_new w np (rl.app rl2))⟩)
    · subst e
      have := rl.len
      obtain rfl : (_ : List D) = [] := List.eq_nil_of_length_eq_zero this
      exact wp_pure h w r2
    · subst e
      have := rl2.len
      obtain rfl : (_ : List D) = [] := List.eq_nil_of_length_eq_zero this
      rw [List.append_nil] at h
      exact wp_pure h w r1
  · exact .inr (lists h)
def intOp (ok : Int → Int → Bool) (g : Int → Int → D) : D → D → M D
  | .int i, .int j => ask (ok i j) >>= fun _ => pure (g i j)
  | _, _ => stuck
def intOp0 (g : Int → Int → D) : D → D → M D
  | .int i, .int j => pure (g i j)
  | _, _ => stuck
theorem opv_int {f : Value → Value → Sem Value} {C : Int → Int → Prop} {g : Int → Int → V} {g' : Int → Int → D} {ok : Int → Int → Bool} (h : OpR X f (rI C g)) (hc : ∀ i j, ok i j = true → C i j) (hg : ∀ φ H i j, Rep c φ H (g' i j) (g i j)) : OpV X c f (intOp ok g') := by
  refine .mk h fun φ μ H x y vx vy Q E w r1 r2 h => ?_
  unfold intOp at h
  split at h
  · obtain ⟨hz, h⟩ := wp_ask h
    rw [rep_int r1, rep_int r2]
    exact ⟨_, _, rfl, rfl, hc _ _ hz, wp_pure h w (hg _ _ _ _)⟩
  · exact wp_stuck h
theorem opv_int0 {f : Value → Value → Sem Value} {g : Int → Int → V} {g' : Int → Int → D} (h : OpR X f (rI0 g)) (hg : ∀ φ H i j, Rep c φ H (g' i j) (g i j)) : OpV X c f (intOp0 g') := by
  refine .mk h fun φ μ H x y vx vy Q E w r1 r2 h => ?_
  unfold intOp0 at h
  split at h
  · rw [rep_int r1, rep_int r2]
    exact ⟨_, _, rfl, rfl, wp_pure h w (hg _ _ _ _)⟩
  · exact wp_stuck h
abbrev dSub := intOp0 fun i j => .int (i - j)
abbrev dMul := intOp (fun i j => decide (i.natAbs.log2 + j.natAbs.log2 < 1000000)) fun i j => .int (i * j)
abbrev dDiv := intOp (fun _ j => decide (0 < j ∧ j.natAbs.log2 < 9000)) fun i j => .int (i / j)
abbrev dMod := intOp (fun _ j => decide (0 < j)) fun i j => .int (i % j)
abbrev dPow := intOp (fun i j => decide (0 ≤ j ∧ j ≤ 1000000 ∧ i.natAbs < 2 ^ 64)) fun i j => .int (i ^ j.toNat)
theorem opv_sub : OpV X c (binaryOp .Sub) dSub := opv_int0 op_sub fun _ _ _ _ => of_int
theorem opv_mul : OpV X c (binaryOp .Mult) dMul := opv_int op_mulW (fun i j h => @of_decide_eq_true (i.natAbs.log2 + j.natAbs.log2 < 1000000) _ h) fun _ _ _ _ => of_int
theorem opv_div : OpV X c (binaryOp .FloorDiv) dDiv := opv_int op_fdivW (fun i j h => @of_decide_eq_true (0 < j ∧ j.natAbs.log2 < 9000) _ h) fun _ _ _ _ => of_int
theorem opv_mod : OpV X c (binaryOp .Mod) dMod := opv_int op_mod (fun _ _ h => of_decide_eq_true h) fun _ _ _ _ => of_int
theorem opv_pow : OpV X c (binaryOp .Pow) dPow := opv_int op_pow (fun i j h => @of_decide_eq_true (0 ≤ j ∧ j ≤ 1000000 ∧ i.natAbs < 2 ^ 64) _ h) fun _ _ _ _ => of_int
/-- orders: ints, texts -/
def cmpD (fi : Int → Int → Bool) (fs : Str → Str → Bool) : D → D → M D
  | .int i, .int j => pure (.bl (fi i j))
  | .str i, .str j => pure (.bl (fs i j))
  | _, _ => stuck
theorem opv_cmp {f : Value → Value → Sem Value} {fi : Int → Int → Bool} {fs : Str → Str → Bool} (h : OpR X f (rI0 fun i j => .bl (fi i j))) (h2 : OpR X f (fun x y H Q => ∃ i j, x = .str i ∧ y = .str j ∧ Q (.bl (fs i j)) H)) : OpV X c f (cmpD fi fs) := by
  refine .mk (h.or h2) fun φ μ H x y vx vy Q E w r1 r2 h => ?_
  unfold cmpD at h
  split at h
  · rw [rep_int r1, rep_int r2]
    exact .inl ⟨_, _, rfl, rfl, wp_pure h w of_bl⟩
  · rw [rep_str r1, rep_str r2]
    exact .inr ⟨_, _, rfl, rfl, wp_pure h w of_bl⟩
  · exact wp_stuck h
abbrev dLt := cmpD (fun i j => decide (i < j)) fun a b => decide (a.cps.toList < b.cps.toList)
abbrev dLe := cmpD (fun i j => decide (i ≤ j)) fun a b => !decide (b.cps.toList < a.cps.toList)
abbrev dGt := cmpD (fun i j => decide (j < i)) fun a b => decide (b.cps.toList < a.cps.toList)
abbrev dGe := cmpD (fun i j => decide (j ≤ i)) fun a b => !decide (a.cps.toList < b.cps.toList)
theorem opv_lt : OpV X c (compareOp .Lt) dLt := opv_cmp op_lt op_lt_str
theorem opv_le : OpV X c (compareOp .LtE) dLe := opv_cmp op_le op_le_str
theorem opv_gt : OpV X c (compareOp .Gt) dGt := opv_cmp op_gt op_gt_str
theorem opv_ge : OpV X c (compareOp .GtE) dGe := opv_cmp op_ge op_ge_str
/-- == : texts as texts, all else as data -/
def eqB : D → D → M Bool
  | .str a, .str b => pure (decide (a = b))
  | .int a, .int b => pure (decide (a = b))
  | x, y => datum x >>= fun p => datum y >>= fun q => ask (SeqAt.shaped p && SeqAt.shaped q) >>= fun _ => pure (PyData.eqv p q)
def dEq (x y : D) : M D := eqB x y >>= fun b => pure (.bl b)
def dNe (x y : D) : M D := eqB x y >>= fun b => pure (.bl (!b))
theorem wp_eqB {x y : D} {vx vy : V} {k : Bool → M D} {Q : VK} {E : XW} (w : WOk c φ μ H) (r1 : Rep c φ H x vx) (r2 : Rep c φ H y vy) (h : wpM c (Rep c) (eqB x y >>= k) φ μ H Q E) :
    ∃ b, wpM c (Rep c) (k b) φ μ H Q E ∧ ((scal vx vy = true ∧ decide (vx = vy) = b) ∨ ∃ d e, Dp c.K H vx d ∧ Dp c.K H vy e ∧ SeqAt.shaped d = true ∧ SeqAt.shaped e = true ∧ PyData.eqv d e = b) := by
  unfold eqB at h
  split at h
  · rw [rep_str r1, rep_str r2]
    refine ⟨_, h, .inl ⟨rfl, ?_⟩⟩
    simp
  · rw [rep_int r1, rep_int r2]
    refine ⟨_, h, .inl ⟨rfl, ?_⟩⟩
    simp
  · have h : wpM c (Rep c) (datum x >>= fun p => datum y >>= fun q => ask (SeqAt.shaped p && SeqAt.shaped q) >>= fun _ => k (PyData.eqv p q)) φ μ H Q E := by
      have e : ∀ {m : M PyData} {n : M PyData}, ((m >>= fun p => n >>= fun q => ask (SeqAt.shaped p && SeqAt.shaped q) >>= fun _ => pure (PyData.eqv p q)) >>= k) μ = (m >>= fun p => n >>= fun q => ask (SeqAt.shaped p && SeqAt.shaped q) >>= fun _ => k (PyData.eqv p q)) μ := fun {m n} => by
        show M.bind (M.bind m fun p => M.bind n fun q => M.bind (ask _) fun _ => M.pure _) k μ = M.bind m (fun p => M.bind n fun q => M.bind (ask _) fun _ => k _) μ
        unfold M.bind M.pure
        cases m μ with
        | ok p μ1 =>
          simp only
          cases n μ1 with
          | ok q μ2 =>
            simp only
            cases ask (SeqAt.shaped p && SeqAt.shaped q) μ2 <;> rfl
          | exn _ _ => rfl
          | stuck => rfl
        | exn _ _ => rfl
        | stuck => rfl
      unfold wpM at h ⊢
      rw [e] at h
      exact h
    obtain ⟨p, d1, h⟩ := wp_datum h w r1
    obtain ⟨q, d2, h⟩ := wp_datum h w r2
    obtain ⟨hs, h⟩ := wp_ask h
    rw [Bool.and_eq_true] at hs
    exact ⟨_, h, .inr ⟨p, q, d1, d2, hs.1, hs.2, rfl⟩⟩
theorem opv_eq (hK : X.K = c.K) (hu : X.A.units + 64 < cLine) : OpV X c (compareOp .Eq) dEq := by
  refine .mk (op_eq.or (op_eqD hu)) fun φ μ H x y vx vy Q E w r1 r2 h => ?_
  rw [hK]
  obtain ⟨b, h, z⟩ := wp_eqB w r1 r2 h
  have q := wp_pure h w of_bl
  rcases z with ⟨z1, z2⟩ | ⟨d, e, h1, h2, h3, h4, z⟩
  · exact .inl ⟨z1, by rw [z2]; exact q⟩
  · exact .inr ⟨d, e, h1, h2, h3, h4, by rw [z]; exact q⟩
theorem opv_ne (hK : X.K = c.K) (hu : X.A.units + 64 < cLine) : OpV X c (compareOp .NotEq) dNe := by
  refine .mk (op_ne.or (op_neD hu)) fun φ μ H x y vx vy Q E w r1 r2 h => ?_
  rw [hK]
  obtain ⟨b, h, z⟩ := wp_eqB w r1 r2 h
  have q := wp_pure h w of_bl
  rcases z with ⟨z1, z2⟩ | ⟨d, e, h1, h2, h3, h4, z⟩
  · exact .inl ⟨z1, by rw [z2]; exact q⟩
  · exact .inr ⟨d, e, h1, h2, h3, h4, by rw [z]; exact q⟩
end
end VL
namespace VL
open PySem PySem.Spec PyProof.Rows L2 LamX
/-- an expression within a statement: what it raises is the statement's -/
def liftS {α : Type} (ρ : Env) (m : M α) (k : α → M Flow) : M Flow := fun μ => match m μ with
  | .ok a μ' => k a μ'
  | .exn e μ' => .ok (.xc ρ e) μ'
  | .stuck => .stuck
/-- a store: it raises nothing -/
def liftT {α : Type} (m : M Env) (k : Env → M α) : M α := fun μ => match m μ with
  | .ok a μ' => k a μ'
  | _ => .stuck
def seqM (m : M Flow) (k : Env → M Flow) : M Flow := m >>= fun fl => match fl with
  | .nx ρ => k ρ
  | fl => pure fl
section
variable {X : Cx} {c : Cn} {W : WX} {φ φ' : Phi} {H H' : Hp} {μ μ' : Mem} {ρ : Env} {σ : L2.St} {D0 : Ends}
theorem wpS_later {m : M Flow} (h : wpS c m φ μ H D0 W) (L : LaterS c φ H φ' H') {m' : M Flow} (e : m' μ' = m μ) : wpS c m' φ' μ' H' D0 W := by
  unfold wpS at h ⊢
  rw [e]
  cases hm : m μ with
  | ok a μ1 =>
    rw [hm] at h
    cases a with
    | nx ρ => exact fun p q s L1 => h p q s (L.trans L1)
    | rt d => exact fun p q s L1 => h p q s (L.trans L1)
    | bk ρ => exact fun p q s L1 => h p q s (L.trans L1)
    | ct ρ => exact fun p q s L1 => h p q s (L.trans L1)
    | xc ρ e => exact fun p q s k d L1 => h p q s k d (L.trans L1)
  | exn e μ1 => rw [hm] at h; exact h
  | stuck => rw [hm] at h; exact h
theorem wpS_lift {α β : Type} {R : Phi → Hp → α → β → Prop} {m : M α} {k : α → M Flow} (h : wpS c (liftS ρ m k) φ μ H D0 W) (he : RepE c φ H ρ σ) :
    wpM c R m φ μ H (fun b H1 => ∃ φ1 μ1 a, Later φ H φ1 H1 ∧ WOk c φ1 μ1 H1 ∧ R φ1 H1 a b ∧ wpS c (k a) φ1 μ1 H1 D0 W) (wEx W σ) := by
  unfold wpM
  cases hm : m μ with
  | ok a μ1 => exact fun φ1 H1 b L w r => ⟨φ1, μ1, a, L, w, r, wpS_later h L.toS (by unfold liftS; rw [hm])⟩
  | exn e μ1 =>
    intro φ1 H1 k1 d L w r
    unfold wpS liftS at h
    rw [hm] at h
    exact h φ1 H1 σ k1 d L.toS w (he.later L) r
  | stuck =>
    unfold wpS liftS at h
    rw [hm] at h
    exact h
/-- m a store: what it leaves, then the rest -/
def wpT (c : Cn) (m : M Env) (φ : Phi) (μ : Mem) (H : Hp) (R : L2.St → Hp → Prop) : Prop := match m μ with
  | .ok ρ μ' => ∀ φ' H' σ', Later φ H φ' H' → WOk c φ' μ' H' → RepE c φ' H' ρ σ' → R σ' H'
  | _ => False
theorem wpT_mono {m : M Env} {R R' : L2.St → Hp → Prop} (h : wpT c m φ μ H R) (i : ∀ σ H, R σ H → R' σ H) : wpT c m φ μ H R' := by
  unfold wpT at h ⊢
  split at h
  · exact fun p q s L w r => i _ _ (h p q s L w r)
  · exact h
theorem wpS_liftT {m : M Env} {k : Env → M Flow} (h : wpS c (liftT m k) φ μ H D0 W) :
    wpT c m φ μ H (fun σ1 H1 => ∃ φ1 μ1 ρ1, Later φ H φ1 H1 ∧ WOk c φ1 μ1 H1 ∧ RepE c φ1 H1 ρ1 σ1 ∧ wpS c (k ρ1) φ1 μ1 H1 D0 W) := by
  unfold wpT
  cases hm : m μ with
  | ok a μ1 => exact fun φ1 H1 b L w r => ⟨φ1, μ1, a, L, w, r, wpS_later h L.toS (by unfold liftT; rw [hm])⟩
  | exn e μ1 => unfold wpS liftT at h; rw [hm] at h; exact h
  | stuck => unfold wpS liftT at h; rw [hm] at h; exact h
theorem wpT_liftT {m : M Env} {k : Env → M Env} {R : L2.St → Hp → Prop} (h : wpT c (liftT m k) φ μ H R) :
    wpT c m φ μ H (fun σ1 H1 => ∃ φ1 μ1 ρ1, Later φ H φ1 H1 ∧ WOk c φ1 μ1 H1 ∧ RepE c φ1 H1 ρ1 σ1 ∧ wpT c (k ρ1) φ1 μ1 H1 R) := by
  unfold wpT liftT at h
  unfold wpT
  cases hm : m μ with
  | ok a μ1 =>
    rw [hm] at h
    refine fun φ1 H1 b L w r => ⟨φ1, μ1, a, L, w, r, ?_⟩
    simp only at h
    cases hk : k a μ1 with
    | ok ρ2 μ2 =>
      rw [hk] at h
      exact fun φ2 H2 σ2 L2 w2 he2 => h φ2 H2 σ2 (L.trans L2) w2 he2
    | exn _ _ => rw [hk] at h; exact h
    | stuck => rw [hk] at h; exact h
  | exn e μ1 => rw [hm] at h; exact h
  | stuck => rw [hm] at h; exact h
theorem wpS_nx (h : wpS c (pure (.nx ρ)) φ μ H D0 W) (w : WOk c φ μ H) (he : RepE c φ H ρ σ) : D0.nx σ H := h φ H σ .refl w he
theorem wpS_rt {d : D} {v : V} (h : wpS c (pure (.rt d)) φ μ H D0 W) (w : WOk c φ μ H) (r : Rep c φ H d v) : D0.rt v H := h φ H v .refl w r
theorem wpS_bind {m : M Flow} {k : Flow → M Flow} {D1 : Ends} (h : wpS c (m >>= k) φ μ H D0 W)
    (hn : ∀ φ1 μ1 H1 ρ1 σ1, LaterS c φ H φ1 H1 → WOk c φ1 μ1 H1 → RepE c φ1 H1 ρ1 σ1 → wpS c (k (.nx ρ1)) φ1 μ1 H1 D0 W → D1.nx σ1 H1)
    (hr : ∀ φ1 μ1 H1 d v, LaterS c φ H φ1 H1 → WOk c φ1 μ1 H1 → Rep c φ1 H1 d v → wpS c (k (.rt d)) φ1 μ1 H1 D0 W → D1.rt v H1)
    (hb : ∀ φ1 μ1 H1 ρ1 σ1, LaterS c φ H φ1 H1 → WOk c φ1 μ1 H1 → RepE c φ1 H1 ρ1 σ1 → wpS c (k (.bk ρ1)) φ1 μ1 H1 D0 W → D1.bk σ1 H1)
    (hc : ∀ φ1 μ1 H1 ρ1 σ1, LaterS c φ H φ1 H1 → WOk c φ1 μ1 H1 → RepE c φ1 H1 ρ1 σ1 → wpS c (k (.ct ρ1)) φ1 μ1 H1 D0 W → D1.ct σ1 H1)
    (hx : ∀ φ1 μ1 H1 ρ1 σ1 e k1 d, LaterS c φ H φ1 H1 → WOk c φ1 μ1 H1 → RepE c φ1 H1 ρ1 σ1 → RepX c φ1 H1 e k1 d → wpS c (k (.xc ρ1 e)) φ1 μ1 H1 D0 W → W k1 d σ1 H1) : wpS c m φ μ H D1 W := by
  have e : ∀ a μ1, m μ = .ok a μ1 → (m >>= k) μ = k a μ1 := fun a μ1 q => by
    show M.bind m k μ = _
    unfold M.bind
    rw [q]
  have e2 : ∀ x μ1, m μ = .exn x μ1 → (m >>= k) μ = .exn x μ1 := fun a μ1 q => by
    show M.bind m k μ = _
    unfold M.bind
    rw [q]
  have e3 : m μ = .stuck → (m >>= k) μ = .stuck := fun q => by
    show M.bind m k μ = _
    unfold M.bind
    rw [q]
  have later : ∀ a μ1 φ1 H1, m μ = .ok a μ1 → LaterS c φ H φ1 H1 → wpS c (k a) φ1 μ1 H1 D0 W := fun a μ1 φ1 H1 q L => wpS_later h L (e a μ1 q).symm
  unfold wpS
  cases hm : m μ with
  | ok a μ1 =>
    cases a with
    | nx ρ => exact fun φ1 H1 s L w r => hn φ1 μ1 H1 ρ s L w r (later _ _ _ _ hm L)
    | rt d => exact fun φ1 H1 v L w r => hr φ1 μ1 H1 d v L w r (later _ _ _ _ hm L)
    | bk ρ => exact fun φ1 H1 s L w r => hb φ1 μ1 H1 ρ s L w r (later _ _ _ _ hm L)
    | ct ρ => exact fun φ1 H1 s L w r => hc φ1 μ1 H1 ρ s L w r (later _ _ _ _ hm L)
    | xc ρ x => exact fun φ1 H1 s k1 d L w r rx => hx φ1 μ1 H1 ρ s x k1 d L w r rx (later _ _ _ _ hm L)
  | exn x μ1 => unfold wpS at h; rw [e2 x μ1 hm] at h; exact h
  | stuck => unfold wpS at h; rw [e3 hm] at h; exact h
variable {st : Stmt} {rest : List Stmt} {e : Expr} {f : Env → M D} {s u : Env → M Flow} {pos : Pos}
theorem vb_nil : VB X c W [] (fun ρ => pure (.nx ρ)) := ⟨PSs.weak pss_nil fun D σ H h => by
  obtain ⟨φ, μ, ρ, w, he, h⟩ := h
  exact wpS_nx h w he⟩
theorem vb_one (h : VS X c W st s) : VB X c W [st] s := ⟨pss_one h.ps⟩
theorem vb_cons (h1 : VS X c W st s) (h2 : VB X c W rest u) : VB X c W (st :: rest) (fun ρ => seqM (s ρ) u) := ⟨PSs.weak (pss_cons h1.ps h2.ps) fun D σ H h => by
  obtain ⟨φ, μ, ρ, w, he, h⟩ := h
  refine ⟨φ, μ, ρ, w, he, wpS_bind h ?_ ?_ ?_ ?_ ?_⟩
  · exact fun φ1 μ1 H1 ρ1 σ1 L w1 r h1 => ⟨φ1, μ1, ρ1, w1, r, h1⟩
  · exact fun φ1 μ1 H1 d v L w1 r h1 => h1 φ1 H1 v .refl w1 r
  · exact fun φ1 μ1 H1 ρ1 σ1 L w1 r h1 => h1 φ1 H1 σ1 .refl w1 r
  · exact fun φ1 μ1 H1 ρ1 σ1 L w1 r h1 => h1 φ1 H1 σ1 .refl w1 r
  · exact fun φ1 μ1 H1 ρ1 σ1 e k1 d L w1 r rx h1 => h1 φ1 H1 σ1 k1 d .refl w1 r rx⟩
theorem vs_expr (h : VE X c W e f) (hs : swapsWith e none pos.line X.env = pure false := by rfl) : VS X c W (.Expr e pos) (fun ρ => liftS ρ (f ρ) fun _ => pure (.nx ρ)) := ⟨PS.weak (ps_expr h.pe hs) fun D σ H h => by
  obtain ⟨φ, μ, ρ, w, he, h⟩ := h
  refine ⟨φ, μ, ρ, w, he, wp_mono (wpS_lift (R := Rep c) h he) fun v H1 z => ?_⟩
  obtain ⟨φ1, μ1, d, L, w1, r, h1⟩ := z
  exact wpS_nx h1 w1 (he.later L)⟩
theorem vs_ret (h : VE X c W e f) : VS X c W (.Return (some e) pos) (fun ρ => liftS ρ (f ρ) fun d => pure (.rt d)) := ⟨PS.weak (ps_ret h.pe) fun D σ H h => by
  obtain ⟨φ, μ, ρ, w, he, h⟩ := h
  refine ⟨φ, μ, ρ, w, he, wp_mono (wpS_lift (R := Rep c) h he) fun v H1 z => ?_⟩
  obtain ⟨φ1, μ1, d, L, w1, r, h1⟩ := z
  exact wpS_rt h1 w1 r⟩
theorem vs_if {t : Expr} {a b : List Stmt} {ft : Env → M Bool} (ht : VT X c W t ft) (ha : VB X c W a s) (hb : VB X c W b u) : VS X c W (.If t a b pos) (fun ρ => liftS ρ (ft ρ) fun k => if k then s ρ else u ρ) := ⟨PS.weak (ps_if ht.pt ha.ps hb.ps) fun D σ H h => by
  obtain ⟨φ, μ, ρ, w, he, h⟩ := h
  refine ⟨φ, μ, ρ, w, he, wp_mono (wpS_lift (R := RB) h he) fun v H1 z => ?_⟩
  obtain ⟨φ1, μ1, d, L, w1, r, h1⟩ := z
  obtain rfl : v = d := r
  cases v
  · exact ⟨φ1, μ1, ρ, w1, he.later L, h1⟩
  · exact ⟨φ1, μ1, ρ, w1, he.later L, h1⟩⟩
/-- but for the slots is all is as it was -/
def Only (is : List Nat) (σ σ' : L2.St) : Prop := σ'.length = σ.length ∧ ∀ i, i ∉ is → σ'[i]? = σ[i]?
theorem Only.refl {is : List Nat} : Only is σ σ := ⟨rfl, fun _ _ => rfl⟩
theorem Only.set {i : Nat} {v : Option V} : Only [i] σ (σ.set i v) := ⟨List.length_set, fun j h => List.getElem?_set_ne fun z => h (by simp [z])⟩
theorem Only.trans {is js : List Nat} {σ1 σ2 : L2.St} (a : Only is σ σ1) (b : Only js σ1 σ2) : Only (is ++ js) σ σ2 := ⟨b.1.trans a.1, fun i h => (b.2 i fun z => h (List.mem_append.mpr (.inr z))).trans (a.2 i fun z => h (List.mem_append.mpr (.inl z)))⟩
theorem Only.wipe {vs : List Nat} : ∀ {is : List Nat} {σ1 : L2.St}, Only is σ σ1 → (∀ i ∈ is, i ∈ vs) → wipe σ1 vs = wipe σ vs := fun {is σ1} h hs => by
  have get : ∀ (vs : List Nat) (σ : L2.St) (i : Nat), (L2.wipe σ vs)[i]? = if i ∈ vs ∧ i < σ.length then some none else σ[i]? := by
    intro vs
    induction vs with
    | nil => intro σ i; simp [L2.wipe]
    | cons v vs ih =>
      intro σ i
      unfold L2.wipe
      by_cases hv : v = i
      · subst hv
        by_cases hl : v < σ.length
        · rw [List.getElem?_set_self (by rw [wipe_length]; exact hl), if_pos ⟨List.mem_cons_self, hl⟩]
        · rw [List.getElem?_eq_none (by rw [List.length_set, wipe_length]; omega), if_neg (fun z => hl z.2), List.getElem?_eq_none (by omega)]
      · rw [List.getElem?_set_ne hv, ih]
        have : (i ∈ v :: vs) ↔ i ∈ vs := by
          rw [List.mem_cons]
          exact ⟨fun z => z.resolve_left (fun e => hv e.symm), .inr⟩
        simp only [this]
  refine List.ext_getElem? fun i => ?_
  rw [get, get, h.1]
  by_cases hi : i ∈ vs ∧ i < σ.length
  · rw [if_pos hi, if_pos hi]
  · rw [if_neg hi, if_neg hi]
    by_cases hm : i ∈ vs
    · have : ¬ i < σ.length := fun z => hi ⟨hm, z⟩
      have hl := h.1
      rw [List.getElem?_eq_none (show σ1.length ≤ i by omega), List.getElem?_eq_none (show σ.length ≤ i by omega)]
    · exact h.2 i fun z => hm (hs i z)
def tG (c : Cn) (is : List Nat) (g : D → Env → M Env) : TG := fun v σ H R => ∃ φ μ ρ d, WOk c φ μ H ∧ RepE c φ H ρ σ ∧ Rep c φ H d v ∧ wpT c (g d ρ) φ μ H (fun σ' H' => Only is σ σ' → R σ' H')
def tGs (c : Cn) (is : List Nat) (g : List D → Env → M Env) : TGs := fun v σ H R => ∃ φ μ ρ d, WOk c φ μ H ∧ RepE c φ H ρ σ ∧ RepL c φ H d v ∧ wpT c (g d ρ) φ μ H (fun σ' H' => Only is σ σ' → R σ' H')
structure VG (X : Cx) (c : Cn) (t : Expr) (is : List Nat) (g : D → Env → M Env) : Prop where
  pg : PG X t (tG c is g)
structure VGs (X : Cx) (c : Cn) (t : List Expr) (is : List Nat) (g : List D → Env → M Env) : Prop where
  pg : PGs X t (tGs c is g)
theorem PG.weak {t : Expr} {tg tg' : TG} (h : PG X t tg) (i : ∀ v σ H R, tg' v σ H R → tg v σ H R) : PG X t tg' := ⟨fun pins s σ H v u Q I r q => h.run pins s σ H v u Q I r (i _ _ _ _ q)⟩
theorem PGs.weak {t : List Expr} {tg tg' : TGs} (h : PGs X t tg) (i : ∀ v σ H R, tg' v σ H R → tg v σ H R) : PGs X t tg' := ⟨fun pins s σ H v u Q I r q => h.run pins s σ H v u Q I r (i _ _ _ _ q)⟩
def gN (i : Nat) (d : D) (ρ : Env) : M Env := pure (ρ.set i (some d))
theorem vg_name {i : Nat} {x : Str} (hq : c.lo i) (h0 : c.ini ≠ none → i ≠ 0) (hN : X.N.Nodup) (hi : X.N[i]? = some x) (hx : Loc X.env.scope x) (hf : X.fn x = true ∨ X.env.scope.names.lookup x = some .local := by first | exact .inl rfl | exact .inr rfl | assumption) : VG X c (.Name x pos) [i] (gN i) :=
  ⟨PG.weak (pg_name hN hi hx hf) fun v σ H R z => by
    obtain ⟨φ, μ, ρ, d, w, he, r, h⟩ := z
    exact h φ H _ .refl w (he.set i hq h0 r) .set⟩
def gsNil (xs : List D) (ρ : Env) : M Env := match xs with
  | [] => pure ρ
  | _ => stuck
def gsCons (g : D → Env → M Env) (gs : List D → Env → M Env) (xs : List D) (ρ : Env) : M Env := match xs with
  | x :: r => liftT (g x ρ) fun ρ1 => gs r ρ1
  | [] => stuck
theorem vgs_nil : VGs X c [] [] gsNil := ⟨PGs.weak pgs_nil fun v σ H R z => by
  obtain ⟨φ, μ, ρ, xs, w, he, r, h⟩ := z
  cases xs with
  | nil =>
    simp only [RepL] at r
    exact ⟨r, h φ H σ .refl w he .refl⟩
  | cons => exact h.elim⟩
theorem vgs_cons {t : Expr} {ts : List Expr} {is js : List Nat} {g : D → Env → M Env} {gs : List D → Env → M Env} (h1 : VG X c t is g) (h2 : VGs X c ts js gs) (hs : ∀ tg tgs, PG X t tg → PGs X ts tgs → PGs X (t :: ts) (gCons tg tgs) := by intro tg tgs a b; exact pgs_cons a b) : VGs X c (t :: ts) (is ++ js) (gsCons g gs) := by
  refine ⟨PGs.weak (hs _ _ h1.pg h2.pg) fun vs σ H R z => ?_⟩
  obtain ⟨φ, μ, ρ, xs, w, he, r, h⟩ := z
  cases xs with
  | nil => exact h.elim
  | cons x xs =>
    simp only [RepL] at r
    obtain ⟨v, rest, rfl, r1, r2⟩ := r
    have h : wpT c (liftT (g x ρ) fun ρ1 => gs xs ρ1) φ μ H (fun σ' H' => Only (is ++ js) σ σ' → R σ' H') := h
    refine ⟨v, rest, rfl, φ, μ, ρ, x, w, he, r1, wpT_mono (wpT_liftT h) fun σ1 H1 z o1 => ?_⟩
    obtain ⟨φ1, μ1, ρ1, L, w1, he1, h1⟩ := z
    exact ⟨φ1, μ1, ρ1, xs, w1, he1, r2.later L.toKeep, wpT_mono h1 fun σ2 H2 z o2 => z (o1.trans o2)⟩
def gT (n : Nat) (gs : List D → Env → M Env) (d : D) (ρ : Env) : M Env := match d with
  | .tup xs => if xs.length = n then gs xs ρ else stuck
  | _ => stuck
theorem vg_tup {es : List Expr} {k : Nat} {is : List Nat} {gs : List D → Env → M Env} {n : Nat} (hK : X.K = c.K) (h1 : VGs X c es is gs) (hp : ∀ tgs, PGs X es tgs → PG X (.Tuple es k pos) (gTup X.K n tgs)) : VG X c (.Tuple es k pos) is (gT n gs) := by
  refine ⟨PG.weak (hp _ h1.pg) fun v σ H R z => ?_⟩
  obtain ⟨φ, μ, ρ, x, w, he, r, h⟩ := z
  unfold gT wpT at h
  cases x with
  | tup xs =>
    obtain ⟨a, vs, rfl, hs, rl⟩ := rep_tup r
    by_cases hn : xs.length = n
    · simp only [if_pos hn] at h
      exact ⟨a, vs, rfl, by rw [hK]; exact hs, by rw [← rl.len]; exact hn, φ, μ, ρ, xs, w, he, rl, h⟩
    · simp only [if_neg hn] at h
      exact h.elim
  | _ => exact h.elim
theorem vs_asg {t : Expr} {is : List Nat} {g : D → Env → M Env} (h : VE X c W e f) (hg : VG X c t is g) (hp : ∀ te tg, PE X e te → PG X t tg → PS X (.Assign [t] e pos) (tAsg te tg) := by intro te tg a b; exact ps_asg a b) : VS X c W (.Assign [t] e pos) (fun ρ => liftS ρ (f ρ) fun d => liftT (g d ρ) fun ρ1 => pure (.nx ρ1)) := by
  refine ⟨PS.weak (hp _ _ h.pe hg.pg) fun D σ H h => ?_⟩
  obtain ⟨φ, μ, ρ, w, he, h⟩ := h
  refine ⟨φ, μ, ρ, w, he, wp_mono (wpS_lift (R := Rep c) h he) fun v H1 z => ?_⟩
  obtain ⟨φ1, μ1, d, L, w1, r, h1⟩ := z
  refine ⟨φ1, μ1, ρ, d, w1, he.later L, r, wpT_mono (wpS_liftT h1) fun σ2 H2 z _ => ?_⟩
  obtain ⟨φ2, μ2, ρ2, L2, w2, he2, h2⟩ := z
  exact wpS_nx h2 w2 he2
theorem vs_set {i : Nat} {x : Str} {p2 : Pos} (hq : c.lo i) (h0 : c.ini ≠ none → i ≠ 0) (hN : X.N.Nodup) (hi : X.N[i]? = some x) (hx : Loc X.env.scope x) (h : VE X c W e f) (hs : swapsWith e (some (.Name x p2)) pos.line X.env = pure false := by rfl)
    (hf : X.fn x = true ∨ X.env.scope.names.lookup x = some .local := by first | exact .inl rfl | exact .inr rfl | assumption) : VS X c W (.Assign [.Name x p2] e pos) (fun ρ => liftS ρ (f ρ) fun d => pure (.nx (ρ.set i (some d)))) :=
  ⟨PS.weak (ps_set hN hi hx h.pe hs hf) fun D σ H h => by
    obtain ⟨φ, μ, ρ, w, he, h⟩ := h
    refine ⟨φ, μ, ρ, w, he, wp_mono (wpS_lift (R := Rep c) h he) fun v H1 z => ?_⟩
    obtain ⟨φ1, μ1, d, L, w1, r, h1⟩ := z
    exact wpS_nx h1 w1 ((he.later L).set i hq h0 r)⟩
end
end VL
namespace VL
open PySem PySem.Spec PyProof.Rows L2 LamX
mutual
def eqd : D → D → Bool
  | .non, .non => true
  | .bl a, .bl b => a == b
  | .int a, .int b => decide (a = b)
  | .str a, .str b => decide (a = b)
  | .ty a, .ty b => decide (a = b)
  | .tup a, .tup b => eqdL a b
  | .lst a, .lst b => eqdL a b
  | .scr a, .scr b => eqdL a b
  | .ins c a, .ins d b => decide (c = d) && eqdL a b
  | .ptr a, .ptr b => decide (a = b)
  | .cls a, .cls b => decide (a = b)
  | .fn a, .fn b => decide (a = b)
  | .dct k a, .dct l b => decide (k = l) && eqdL a b
  | .bdct k a, .bdct l b => k == l && eqd a b
  | _, _ => false
def eqdL : List D → List D → Bool
  | [], [] => true
  | a :: r, b :: t => eqd a b && eqdL r t
  | _, _ => false
end
mutual
theorem eqd_eq : ∀ a b, eqd a b = true → a = b
  | .non, b, h => by cases b <;> first | rfl | (simp only [eqd, Bool.false_eq_true] at h)
  | .bl a, b, h => by cases b <;> simp only [eqd, Bool.false_eq_true, beq_iff_eq] at h; rw [h]
  | .int a, b, h => by cases b <;> simp only [eqd, Bool.false_eq_true, decide_eq_true_eq] at h; rw [h]
  | .str a, b, h => by cases b <;> simp only [eqd, Bool.false_eq_true, decide_eq_true_eq] at h; rw [h]
  | .ty a, b, h => by cases b <;> simp only [eqd, Bool.false_eq_true, decide_eq_true_eq] at h; rw [h]
  | .ptr a, b, h => by cases b <;> simp only [eqd, Bool.false_eq_true, decide_eq_true_eq] at h; rw [h]
  | .cls a, b, h => by cases b <;> simp only [eqd, Bool.false_eq_true, decide_eq_true_eq] at h; rw [h]
  | .fn a, b, h => by cases b <;> simp only [eqd, Bool.false_eq_true, decide_eq_true_eq] at h; rw [h]
  | .tup a, b, h => by cases b <;> simp only [eqd, Bool.false_eq_true] at h; rw [eqdL_eq a _ h]
  | .lst a, b, h => by cases b <;> simp only [eqd, Bool.false_eq_true] at h; rw [eqdL_eq a _ h]
  | .scr a, b, h => by cases b <;> simp only [eqd, Bool.false_eq_true] at h; rw [eqdL_eq a _ h]
  | .ins c a, b, h => by cases b <;> simp only [eqd, Bool.false_eq_true, Bool.and_eq_true, decide_eq_true_eq] at h; rw [h.1, eqdL_eq a _ h.2]
  | .dct c a, b, h => by cases b <;> simp only [eqd, Bool.false_eq_true, Bool.and_eq_true, decide_eq_true_eq] at h; rw [h.1, eqdL_eq a _ h.2]
  | .bdct c a, b, h => by cases b <;> simp only [eqd, Bool.false_eq_true, Bool.and_eq_true, beq_iff_eq] at h; rw [h.1, eqd_eq a _ h.2]
theorem eqdL_eq : ∀ a b, eqdL a b = true → a = b
  | [], b, h => by cases b <;> first | rfl | (simp only [eqdL, Bool.false_eq_true] at h)
  | x :: r, b, h => by
    cases b <;> simp only [eqdL, Bool.false_eq_true, Bool.and_eq_true] at h
    rw [eqd_eq x _ h.1, eqdL_eq r _ h.2]
end
mutual
theorem eqd_refl : ∀ a, eqd a a = true
  | .non => rfl
  | .bl a | .int a | .str a | .ty a | .ptr a | .cls a | .fn a => by simp [eqd]
  | .tup a | .lst a | .scr a => by simp only [eqd]; exact eqdL_refl a
  | .ins c a | .dct k a => by simp only [eqd, Bool.and_eq_true, decide_eq_true_eq]; exact ⟨trivial, eqdL_refl a⟩
  | .bdct c a => by simp only [eqd, Bool.and_eq_true, beq_self_eq_true]; exact ⟨trivial, eqd_refl a⟩
theorem eqdL_refl : ∀ a, eqdL a a = true
  | [] => rfl
  | a :: r => by simp only [eqdL, Bool.and_eq_true]; exact ⟨eqd_refl a, eqdL_refl r⟩
end
instance decD : DecidableEq D := fun a b => if h : eqd a b = true then isTrue (eqd_eq _ _ h) else isFalse fun e => h (e ▸ eqd_refl a)
def eqC : Cell → Cell → Bool
  | .lst a, .lst b => eqdL a b
  | .dct k a, .dct l b => decide (k = l) && eqdL a b
  | .fdct k a, .fdct l b => decide (k = l) && eqdL a b
  | .ins k a, .ins l b => decide (k = l) && eqdL a b
  | _, _ => false
theorem eqC_eq : ∀ a b, eqC a b = true → a = b
  | .lst a, .lst b, h => by rw [eqdL_eq _ _ h]
  | .dct k a, .dct l b, h => by
    simp only [eqC, Bool.and_eq_true, decide_eq_true_eq] at h
    rw [h.1, eqdL_eq _ _ h.2]
  | .fdct k a, .fdct l b, h => by
    simp only [eqC, Bool.and_eq_true, decide_eq_true_eq] at h
    rw [h.1, eqdL_eq _ _ h.2]
  | .ins k a, .ins l b, h => by
    simp only [eqC, Bool.and_eq_true, decide_eq_true_eq] at h
    rw [h.1, eqdL_eq _ _ h.2]
theorem eqC_refl : ∀ a, eqC a a = true
  | .lst a => eqdL_refl a
  | .dct k a => by simp only [eqC, Bool.and_eq_true, decide_eq_true_eq]; exact ⟨trivial, eqdL_refl a⟩
  | .fdct k a => by simp only [eqC, Bool.and_eq_true, decide_eq_true_eq]; exact ⟨trivial, eqdL_refl a⟩
  | .ins k a => by simp only [eqC, Bool.and_eq_true, decide_eq_true_eq]; exact ⟨trivial, eqdL_refl a⟩
instance decC : DecidableEq Cell := fun a b => if h : eqC a b = true then isTrue (eqC_eq _ _ h) else isFalse fun e => h (e ▸ eqC_refl a)
structure ItD where
  items : List D
  /-- what must stay true of the store -/
  chk : Mem → Prop
  [dec : DecidablePred chk]
instance (it : ItD) : DecidablePred it.chk := it.dec
def ItOk (c : Cn) (φ : Phi) (H : Hp) (J : It) (it : ItD) : Prop :=
  ∃ (G : Hp → Prop) (Y : Nat → Hp → V → Hp → Prop), Walk J it.items.length G Y ∧ (∀ φ2 μ2 H2, Keep φ H φ2 H2 → WOk c φ2 μ2 H2 → it.chk μ2 → G H2) ∧
    ∀ i H1 x H2 φ1 μ1, i < it.items.length → Keep φ H φ1 H1 → WOk c φ1 μ1 H1 → it.chk μ1 → Y i H1 x H2 → ∃ d, it.items[i]? = some d ∧ Later φ1 H1 φ1 H2 ∧ WOk c φ1 μ1 H2 ∧ Rep c φ1 H2 d x
def tI (c : Cn) (W : WX) (f : Env → M ItD) : TI := fun σ H R => ∃ φ μ ρ, WOk c φ μ H ∧ RepE c φ H ρ σ ∧ wpM c (fun φ' H' it J => ItOk c φ' H' J it) (f ρ) φ μ H (fun J H' => R J H') (wEx W σ)
structure VI (X : Cx) (c : Cn) (W : WX) (tg iter : Expr) (f : Env → M ItD) : Prop where
  pi : PI X tg iter (tI c W f)
theorem PI.weak {X : Cx} {tg iter : Expr} {wi wi' : TI} (h : PI X tg iter wi) (i : ∀ σ H R, wi' σ H R → wi σ H R) : PI X tg iter wi' := ⟨fun pins s σ H R I q => h.run pins s σ H R I (i _ _ _ q)⟩
def chkM {α : Type} (p : Mem → Prop) [DecidablePred p] (m : M α) : M α := fun μ => if p μ then m μ else .stuck
def loopI (it : ItD) (tg : D → Env → M Env) (body : Env → M Flow) : List D → Env → M Flow
  | [], ρ => chkM it.chk (pure (.nx ρ))
  | d :: r, ρ => chkM it.chk (liftT (tg d ρ) fun ρ1 => body ρ1 >>= fun fl => match fl with
    | .nx ρ' => loopI it tg body r ρ'
    | .ct ρ' => loopI it tg body r ρ'
    | .bk ρ' => pure (.nx ρ')
    | .rt d => pure (.rt d)
    | .xc ρ e => pure (.xc ρ e))
section
variable {X : Cx} {c : Cn} {W : WX} {φ φ' : Phi} {H H' : Hp} {μ μ' : Mem} {ρ : Env} {σ : L2.St} {D0 : Ends} {pos : Pos}
theorem wpS_chk {p : Mem → Prop} [DecidablePred p] {m : M Flow} (h : wpS c (chkM p m) φ μ H D0 W) : p μ ∧ wpS c m φ μ H D0 W := by
  by_cases q : p μ
  · refine ⟨q, ?_⟩
    have e : chkM p m μ = m μ := if_pos q
    unfold wpS at h ⊢
    rw [e] at h
    exact h
  · have e : chkM p m μ = .stuck := if_neg q
    unfold wpS at h
    rw [e] at h
    exact h.elim
theorem wpM_chk {α β : Type} {R : Phi → Hp → α → β → Prop} {E : XW} {Q : β → Hp → Prop} {p : Mem → Prop} [DecidablePred p] {m : M α} (h : wpM c R (chkM p m) φ μ H Q E) : p μ ∧ wpM c R m φ μ H Q E := by
  by_cases q : p μ
  · refine ⟨q, ?_⟩
    have e : chkM p m μ = m μ := if_pos q
    unfold wpM at h ⊢
    rw [e] at h
    exact h
  · have e : chkM p m μ = .stuck := if_neg q
    unfold wpM at h
    rw [e] at h
    exact h.elim
theorem vs_for {t iter : Expr} {body : List Stmt} {fi : Env → M ItD} {is : List Nat} {g : D → Env → M Env} {s : Env → M Flow} (hi : VI X c W t iter fi) (hg : VG X c t is g) (hb : VB X c W body s)
    (hp : ∀ wi tg tb, PI X t iter wi → PG X t tg → PSs X body tb → PS X (.For t iter body [] pos) (tFor wi tg tb)) : VS X c W (.For t iter body [] pos) (fun ρ => liftS ρ (fi ρ) fun it => loopI it g s it.items ρ) := by
  refine ⟨PS.weak (hp _ _ _ hi.pi hg.pg hb.ps) fun D σ H h => ?_⟩
  obtain ⟨φ, μ, ρ, w, he, h⟩ := h
  refine ⟨φ, μ, ρ, w, he, wp_mono (wpS_lift (R := fun φ' H' it J => ItOk c φ' H' J it) h he) fun J H1 z => ?_⟩
  obtain ⟨φ1, μ1, it, L1, w1, ⟨G, Y, wk, hG, hY⟩, h1⟩ := z
  refine for_it wk (fun i σ H' => ∃ φ' μ' ρ', LaterS c φ1 H1 φ' H' ∧ WOk c φ' μ' H' ∧ RepE c φ' H' ρ' σ ∧ wpS c (loopI it g s (it.items.drop i) ρ') φ' μ' H' D W) ⟨φ1, μ1, ρ, .refl, w1, he.later L1, h1⟩ (fun i σ H' hi z => ?_) (fun i x σ H2 H3 hi z y => ?_) (fun σ H2 z => ?_)
  · obtain ⟨φ', μ', ρ', L, w', he', h'⟩ := z
    have : it.chk μ' := by
      cases hd : it.items.drop i with
      | nil => rw [hd] at h'; exact (wpS_chk h').1
      | cons d r => rw [hd] at h'; exact (wpS_chk h').1
    exact hG φ' μ' H' L.toKeep w' this
  · obtain ⟨φ', μ', ρ', L, w', he', h'⟩ := z
    have hd : it.items.drop i = it.items[i] :: it.items.drop (i + 1) := List.drop_eq_getElem_cons hi
    rw [hd] at h'
    obtain ⟨hc, h'⟩ := wpS_chk h'
    obtain ⟨d, ed, L3, w3, r3⟩ := hY i H2 x H3 φ' μ' hi L.toKeep w' hc y
    rw [List.getElem?_eq_getElem hi] at ed
    cases ed
    refine ⟨φ', μ', ρ', _, w3, he'.later L3, r3, wpT_mono (wpS_liftT (wpS_later h' L3.toS rfl)) fun σ4 H4 z _ => ?_⟩
    obtain ⟨φ4, μ4, ρ4, L4, w4, he4, h4⟩ := z
    have L14 := (L.trans L3.toS).trans L4.toS
    refine ⟨φ4, μ4, ρ4, w4, he4, wpS_bind h4 ?_ ?_ ?_ ?_ ?_⟩
    · exact fun φ5 μ5 H5 ρ5 σ5 L5 w5 r5 h5 => ⟨φ5, μ5, ρ5, L14.trans L5, w5, r5, h5⟩
    · exact fun φ5 μ5 H5 d5 v5 L5 w5 r5 h5 => h5 φ5 H5 v5 .refl w5 r5
    · exact fun φ5 μ5 H5 ρ5 σ5 L5 w5 r5 h5 => h5 φ5 H5 σ5 .refl w5 r5
    · exact fun φ5 μ5 H5 ρ5 σ5 L5 w5 r5 h5 => ⟨φ5, μ5, ρ5, L14.trans L5, w5, r5, h5⟩
    · exact fun φ5 μ5 H5 ρ5 σ5 e5 k5 d5 L5 w5 r5 x5 h5 => h5 φ5 H5 σ5 k5 d5 .refl w5 r5 x5
  · obtain ⟨φ', μ', ρ', L, w', he', h'⟩ := z
    rw [List.drop_length] at h'
    obtain ⟨hc, h'⟩ := wpS_chk h'
    exact wpS_nx h' w' he'
/-- no exception leaves: none is allowed -/
def noX {α : Type} (m : M α) : M α := fun μ => match m μ with
  | .exn _ _ => .stuck
  | r => r
def W0 : WX := fun _ _ _ _ => False
def loopL (it : ItD) (tg : D → Env → M Env) (test : Env → M Bool) (elt : Env → M D) (ρ : Env) : List D → List D → M (List D)
  | [], racc => chkM it.chk (pure racc.reverse)
  | d :: r, racc => chkM it.chk (liftT (tg d ρ) fun ρ1 => noX (test ρ1) >>= fun k => if k then noX (elt ρ1) >>= fun y => loopL it tg test elt ρ r (y :: racc) else loopL it tg test elt ρ r racc)
/-- a comprehension's turns: what is found is kept back to front, so that long ones can be reckoned -/
def loopC (it : ItD) (tg : D → Env → M Env) (test : Env → M Bool) (elt : Env → M D) (ρ : Env) (xs acc : List D) : M (List D) := loopL it tg test elt ρ xs acc.reverse
theorem loopC_nil {it : ItD} {tg : D → Env → M Env} {test : Env → M Bool} {elt : Env → M D} {ρ : Env} {acc : List D} : loopC it tg test elt ρ [] acc = chkM it.chk (pure acc) := by
  unfold loopC loopL
  rw [List.reverse_reverse]
theorem loopC_cons {it : ItD} {tg : D → Env → M Env} {test : Env → M Bool} {elt : Env → M D} {ρ : Env} {d : D} {r acc : List D} : loopC it tg test elt ρ (d :: r) acc =
    chkM it.chk (liftT (tg d ρ) fun ρ1 => noX (test ρ1) >>= fun k => if k then noX (elt ρ1) >>= fun y => loopC it tg test elt ρ r (acc ++ [y]) else loopC it tg test elt ρ r acc) := by
  unfold loopC
  rw [loopL]
  simp only [List.reverse_append, List.reverse_cons, List.reverse_nil, List.nil_append, List.cons_append]
theorem wp_noX {α β : Type} {R : Phi → Hp → α → β → Prop} {E E' : XW} {Q : β → Hp → Prop} {m : M α} (h : wpM c R (noX m) φ μ H Q E) : wpM c R m φ μ H Q E' := by
  unfold wpM noX at h
  unfold wpM
  cases hm : m μ with
  | ok a μ1 => rw [hm] at h; exact h
  | exn _ _ => rw [hm] at h; exact h.elim
  | stuck => rw [hm] at h; exact h
theorem wp_noXb {α β γ δ : Type} {R : Phi → Hp → α → β → Prop} {R' : Phi → Hp → γ → δ → Prop} {E E' : XW} {Q : δ → Hp → Prop} {m : M α} {k : α → M γ} (h : wpM c R' (noX m >>= k) φ μ H Q E) :
    wpM c R m φ μ H (fun b H1 => ∃ φ1 μ1 a, Later φ H φ1 H1 ∧ WOk c φ1 μ1 H1 ∧ R φ1 H1 a b ∧ wpM c R' (k a) φ1 μ1 H1 Q E) E' := wp_noX (wp_bind h)
/-- a list in the making at A -/
def Phi.add (φ : Phi) (A : Addr) : Phi := { φ with hid := A :: φ.hid }
theorem own_add {A b : Addr} : own (φ.add A) b ↔ own φ b ∨ b = A := by
  constructor
  · rintro (h | h)
    · exact .inl (.inl h)
    · rcases List.mem_cons.mp h with h | h
      · exact .inr h
      · exact .inl (.inr h)
  · rintro ((h | h) | h)
    · exact .inl h
    · exact .inr (List.mem_cons_of_mem _ h)
    · exact .inr (h ▸ List.mem_cons_self)
mutual
theorem Rep.less {A : Addr} : ∀ (d : D) (v : V), Rep c (φ.add A) H d v → Rep c φ H d v
  | .non, _, h => by simpa only [Rep] using h
  | .bl _, _, h => by simpa only [Rep] using h
  | .int _, _, h => by simpa only [Rep] using h
  | .str _, _, h => by simpa only [Rep] using h
  | .ty _, _, h => by simpa only [Rep] using h
  | .cls _, _, h => by simpa only [Rep] using h
  | .fn _, _, h => by simpa only [Rep] using h
  | .tup ds, v, h => by
    simp only [Rep] at h ⊢
    obtain ⟨a, vs, e, h, r⟩ := h
    refine ⟨a, vs, e, ?_, RepL.less ds vs r⟩
    rcases h with ⟨h, n⟩ | h
    · exact .inl ⟨h, fun z => n (own_add.mpr (.inl z))⟩
    · exact .inr h
  | .lst ds, v, h => by
    simp only [Rep] at h ⊢
    obtain ⟨a, vs, e, h, n, r⟩ := h
    exact ⟨a, vs, e, h, fun z => n (own_add.mpr (.inl z)), RepL.less ds vs r⟩
  | .scr ds, v, h => by
    simp only [Rep] at h ⊢
    obtain ⟨a, vs, e, h, r⟩ := h
    refine ⟨a, vs, e, ?_, RepL.less ds vs r⟩
    rcases h with ⟨h, n⟩ | h
    · exact .inl ⟨h, fun z => n (own_add.mpr (.inl z))⟩
    · exact .inr h
  | .bdct b d, v, h => by
    simp only [Rep] at h ⊢
    obtain ⟨a, u, e, h, n, r⟩ := h
    exact ⟨a, u, e, h, fun z => n (own_add.mpr (.inl z)), Rep.less d u r⟩
  | .dct ks ds, v, h => by
    simp only [Rep] at h ⊢
    obtain ⟨a, vs, e, h, n, hl, r⟩ := h
    exact ⟨a, vs, e, h, fun z => n (own_add.mpr (.inl z)), hl, RepL.less ds vs r⟩
  | .ins C fs, v, h => by
    simp only [Rep] at h ⊢
    obtain ⟨a, dx, vs, ws, e, hs, hd, n, m, ew, r⟩ := h
    exact ⟨a, dx, vs, ws, e, hs, hd, fun z => n (own_add.mpr (.inl z)), fun z => m (own_add.mpr (.inl z)), ew, RepL.less fs vs r⟩
  | .ptr k, v, h => by
    simp only [Rep] at h ⊢
    exact h
theorem RepL.less {A : Addr} : ∀ (ds : List D) (vs : List V), RepL c (φ.add A) H ds vs → RepL c φ H ds vs
  | [], vs, h => by simpa only [RepL] using h
  | d :: ds, vs, h => by
    simp only [RepL] at h ⊢
    obtain ⟨v, r, e, h1, h2⟩ := h
    exact ⟨v, r, e, Rep.less d v h1, RepL.less ds r h2⟩
end
theorem CellOk.less {A : Addr} {e : Ent} {x : Cell} (h : CellOk c (φ.add A) H e x) : CellOk c φ H e x := by
  cases x with
  | lst ds =>
    obtain ⟨a, vs, b, r⟩ := h
    exact ⟨a, vs, b, r.less⟩
  | dct ks ds =>
    obtain ⟨a, vs, b, l, r⟩ := h
    exact ⟨a, vs, b, l, r.less⟩
  | fdct ks ds =>
    obtain ⟨a, o, vs, q, b, l, r⟩ := h
    exact ⟨a, o, vs, q, b, l, r.less⟩
  | ins C fs =>
    obtain ⟨a, n, vs, ws, s, g, r⟩ := h
    exact ⟨a, n, vs, ws, s, g, r.less⟩
theorem WOk.less {A : Addr} (w : WOk c (φ.add A) μ H) : WOk c φ μ H where
  len := w.len
  cell := fun k e h => by
    obtain ⟨x, h1, h2⟩ := w.cell k e h
    exact ⟨x, h1, h2.less⟩
  hid := fun b h => w.hid b (List.mem_cons_of_mem _ h)
  inj := w.inj
  tabs := fun p hp => by
    obtain ⟨ps, h1, h2, h3, h4⟩ := w.tabs p hp
    exact ⟨ps, h1, fun z => h2 (own_add.mpr (.inl z)), h3, fun pos cv hc => by
      obtain ⟨k, e, h5, h6⟩ := h4 pos cv hc
      exact ⟨k, e, h5, fun z => h6 (own_add.mpr (.inl z))⟩⟩
/-- behind a run with A in the making -/
theorem Later.inner {A : Addr} {φ1 : Phi} {φ2 : Phi} {H1 H2 : Hp} (L : Later φ H φ1 H1) (n : H A = none) (L2 : Later (φ1.add A) H1 φ2 H2) : ∃ φ3, φ2 = φ3.add A ∧ Later φ H φ3 H2 ∧ H2 A = H1 A := by
  obtain ⟨st2, hid2⟩ := φ2
  have eh : hid2 = A :: φ1.hid := L2.hid
  subst eh
  refine ⟨⟨st2, φ1.hid⟩, rfl, ?_, L2.hk A List.mem_cons_self⟩
  have eq : ∀ b, own ⟨st2, A :: φ1.hid⟩ b ↔ own ⟨st2, φ1.hid⟩ b ∨ b = A := fun b => own_add (φ := ⟨st2, φ1.hid⟩)
  refine ⟨⟨fun k e h => L2.pre k e (L.pre k e h), fun b o nb hb hp => ?_, fun b ps nb hb => ?_, fun b hb nb => ?_⟩, Nat.le_trans L.len L2.len, L.hid, fun b hb => ?_⟩
  · have nA : b ≠ A := fun z => by rw [z, n] at hb; cases hb
    exact L2.kp b o (fun z => (own_add.mp z).elim (L.nown nb (by rw [hb]; simp)) nA) (L.kp b o nb hb hp) hp
  · have nA : b ≠ A := fun z => by rw [z, n] at hb; cases hb
    obtain ⟨m1, e1⟩ := L.tb b ps nb hb
    obtain ⟨m2, e2⟩ := L2.tb b _ (fun z => (own_add.mp z).elim (L.nown nb (by rw [hb]; simp)) nA) e1
    exact ⟨m1 ++ m2, by rw [e2, Array.append_assoc]⟩
  · by_cases q : own φ1 b
    · exact L.fr b q nb
    · by_cases z : b = A
      · rw [z]; exact n
      · have e := L2.fr b ((eq b).mpr (.inl hb)) (fun y => (own_add.mp y).elim q z)
        cases y : H b with
        | none => rfl
        | some o => exact absurd e (L.some nb (by rw [y]; simp))
  · rw [← L.hk b hb]
    exact L2.hk b (List.mem_cons_of_mem _ (by rw [L.hid]; exact hb))
/-- a list in the making is written -/
theorem Later.write {A : Addr} {φ1 : Phi} {H1 : Hp} {o : HO} (L : Later φ H φ1 H1) (n : H A = none) (nh : A ∉ φ.hid) : Later φ H φ1 (upd H1 A o) := by
  refine ⟨⟨L.pre, fun b u nb hb hp => ?_, fun b ps nb hb => ?_, L.fr⟩, L.len, L.hid, fun b hb => ?_⟩
  · rw [upd_ne fun z => by rw [z, n] at hb; cases hb]
    exact L.kp b u nb hb hp
  · rw [upd_ne fun z => by rw [z, n] at hb; cases hb]
    exact L.tb b ps nb hb
  · rw [upd_ne fun z => nh (by rw [← z]; exact hb)]
    exact L.hk b hb
theorem Keep.write {A : Addr} {o : HO} : Keep (φ.add A) H (φ.add A) (upd H A o) :=
  ⟨fun _ _ h => h, fun b u nb hb _ => by rw [upd_ne fun z => nb (own_add.mpr (.inr z))]; exact hb, fun b ps nb hb => ⟨#[], by rw [upd_ne fun z => nb (own_add.mpr (.inr z)), hb]; simp⟩, fun b h n => absurd h n⟩
theorem WOk.write {A : Addr} {vs ws : List V} (w : WOk c (φ.add A) μ H) (hA : H A = some (.lst vs)) : WOk c (φ.add A) μ (upd H A (.lst ws)) where
  len := w.len
  cell := fun k e h => by
    obtain ⟨x, h1, h2⟩ := w.cell k e h
    have n := (w.hid A List.mem_cons_self).2
    exact ⟨x, h1, h2.later Keep.write (upd_ne fun z => n ⟨k, e, h, .inl z.symm⟩) (upd_ne fun z => n ⟨k, e, h, .inr z.symm⟩)⟩
  hid := fun b h => ⟨by
    by_cases z : b = A
    · rw [z, upd_same]; simp
    · rw [upd_ne z]; exact (w.hid b h).1, (w.hid b h).2⟩
  inj := w.inj
  tabs := w.tabs.keep (fun b u nb q => by rw [upd_ne fun z => nb (own_add.mpr (.inr z))]; exact q) fun b z n => absurd z n
/-- a list begins to be made -/
theorem WOk.begin {A : Addr} (w : WOk c φ μ H) (n : H A = none) : WOk c (φ.add A) μ (upd H A (.lst [])) := by
  have nA := w.new n
  have K : Keep φ H (φ.add A) (upd H A (.lst [])) := ⟨fun _ _ h => h, fun b u _ hb _ => by rw [upd_ne (ne_of_none hb n)]; exact hb, fun b ps _ hb => ⟨#[], by rw [upd_ne (ne_of_none hb n), hb]; simp⟩, fun b h nb => by
    rcases own_add.mp h with h | h
    · exact absurd h nb
    · rw [h]; exact n⟩
  refine ⟨w.len, fun k e h => ?_, fun b h => ?_, w.inj, w.tabs.keep (fun b u _ q => by rw [upd_ne (ne_of_none q n)]; exact q) K.fr⟩
  · obtain ⟨x, h1, h2⟩ := w.cell k e h
    have t := h2.there
    exact ⟨x, h1, h2.later K (upd_ne fun z => t.1 (by rw [z]; exact n)) (upd_ne fun z => t.2 (by rw [z]; exact n))⟩
  · rcases List.mem_cons.mp h with z | z
    · rw [z, upd_same]
      exact ⟨by simp, fun q => nA (.inl q)⟩
    · have q := w.hid b z
      exact ⟨by rw [upd_ne fun y => q.1 (by rw [y]; exact n)]; exact q.1, q.2⟩
/-- the slots forgotten -/
def wipeE (ρ : Env) : List Nat → Env
  | [] => ρ
  | v :: vs => (wipeE ρ vs).set v none
theorem RepE.wipe {ρ : Env} {σ : L2.St} (h : RepE c φ H ρ σ) : ∀ vs : List Nat, (∀ i ∈ vs, c.lo i ∧ (c.ini ≠ none → i ≠ 0)) → RepE c φ H (wipeE ρ vs) (L2.wipe σ vs)
  | [], _ => h
  | v :: vs, q => by
    have h := RepE.wipe h vs fun i hi => q i (List.mem_cons_of_mem _ hi)
    have hv := q v List.mem_cons_self
    exact h.put v hv.1 (o := none) (u := none) (fun d e => nomatch e) hv.2
theorem RepE.add {A : Addr} {ρ : Env} {σ : L2.St} (h : RepE c φ H ρ σ) (L : Later φ H φ' H') (n : H A = none) : RepE c (φ'.add A) H' ρ σ := by
  have K : Keep φ H (φ'.add A) H' := ⟨L.pre, L.kp, L.tb, fun b h nb => (own_add.mp h).elim (fun z => L.fr b z nb) fun z => by rw [z]; exact n⟩
  refine ⟨h.len, h.len0, fun i d q e => ?_, fun I e => (h.ini I e).later K (L.hk _ (h.ini I e).hx) (L.hk _ (h.ini I e).hd) fun b hb => List.mem_cons_of_mem _ (by rw [L.hid]; exact hb)⟩
  obtain ⟨v, e2, r⟩ := h.at_ i d q e
  exact ⟨v, e2, r.later K⟩
structure VTs (X : Cx) (c : Cn) (W : WX) (es : List Expr) (f : Env → M Bool) : Prop where
  pt : PTs X es (tT c W f)
theorem vts_nil : VTs X c W [] (fun _ => pure true) := ⟨⟨fun pins s σ H Q I h => pts_nil.run pins s σ H Q I (by
  obtain ⟨φ, μ, ρ, w, he, h⟩ := h
  exact wp_pure (b := true) h w rfl)⟩⟩
theorem vts_one {e : Expr} {f : Env → M Bool} (h : VT X c W e f) : VTs X c W [e] f := ⟨pts_one h.pt⟩
theorem M.assoc {α β γ : Type} (m : M α) (f : α → M β) (g : β → M γ) : ((m >>= f) >>= g) = (m >>= fun x => f x >>= g) := by
  funext μ
  show M.bind (M.bind m f) g μ = M.bind m (fun x => M.bind (f x) g) μ
  unfold M.bind
  cases m μ <;> rfl
theorem liftT_bind {α β : Type} (m : M Env) (f : Env → M α) (g : α → M β) : (liftT m f >>= g) = liftT m fun x => f x >>= g := by
  funext μ
  show M.bind (liftT m f) g μ = liftT m (fun x => M.bind (f x) g) μ
  unfold M.bind liftT
  cases m μ <;> rfl
theorem chkM_bind {α β : Type} (p : Mem → Prop) [DecidablePred p] (m : M α) (g : α → M β) : (chkM p m >>= g) = chkM p (m >>= g) := by
  funext μ
  show M.bind (chkM p m) g μ = chkM p (M.bind m g) μ
  unfold M.bind chkM
  by_cases q : p μ
  · rw [if_pos q, if_pos q]
  · rw [if_neg q, if_neg q]
/-- from a state of one's own: what is left to do is told from the base -/
theorem wpT_base {α β : Type} {R : Phi → Hp → α → β → Prop} {E : XW} {Q : β → Hp → Prop} {m : M Env} {k : Env → M α} {φ1 : Phi} {H1 : Hp} (h : wpM c R (liftT m k) φ1 μ H1 Q E) :
    wpT c m φ μ H (fun σ2 H2 => ∃ φ2 μ2 ρ2, Later φ H φ2 H2 ∧ WOk c φ2 μ2 H2 ∧ RepE c φ2 H2 ρ2 σ2 ∧ wpM c R (k ρ2) φ1 μ2 H1 Q E) := by
  unfold wpM liftT at h
  unfold wpT
  cases hm : m μ with
  | ok a μ1 =>
    rw [hm] at h
    exact fun φ2 H2 b L w r => ⟨φ2, μ1, a, L, w, r, h⟩
  | exn e μ1 => rw [hm] at h; exact h
  | stuck => rw [hm] at h; exact h
theorem wpM_base {α β γ δ : Type} {R : Phi → Hp → α → β → Prop} {R' : Phi → Hp → γ → δ → Prop} {E E' : XW} {Q : δ → Hp → Prop} {m : M α} {k : α → M γ} {φ1 : Phi} {H1 : Hp} (h : wpM c R' (noX m >>= k) φ1 μ H1 Q E) :
    wpM c R m φ μ H (fun b H2 => ∃ φ2 μ2 a, Later φ H φ2 H2 ∧ WOk c φ2 μ2 H2 ∧ R φ2 H2 a b ∧ wpM c R' (k a) φ1 μ2 H1 Q E) E' := by
  have e : (noX m >>= k) μ = M.bind (noX m) k μ := rfl
  unfold wpM at h ⊢
  rw [e] at h
  unfold M.bind noX at h
  cases hm : m μ with
  | ok a μ1 =>
    rw [hm] at h
    exact fun φ2 H2 b L w r => ⟨φ2, μ1, a, L, w, r, h⟩
  | exn e μ1 => rw [hm] at h; exact h.elim
  | stuck => rw [hm] at h; exact h.elim
theorem add_inj {A : Addr} {φ φ' : Phi} (h : φ.add A = φ'.add A) : φ = φ' := by
  obtain ⟨a, b⟩ := φ
  obtain ⟨a', b'⟩ := φ'
  unfold Phi.add at h
  simp only [Phi.mk.injEq, List.cons.injEq, true_and] at h
  rw [h.1, h.2]
theorem keep_add {A : Addr} {φ1 : Phi} {H1 : Hp} (L : Later φ H φ1 H1) (n : H A = none) : Keep φ H (φ1.add A) H1 :=
  ⟨L.pre, L.kp, L.tb, fun b h nb => (own_add.mp h).elim (fun z => L.fr b z nb) fun z => by rw [z]; exact n⟩
theorem wipe_idem (σ : L2.St) (vs : List Nat) : L2.wipe (L2.wipe σ vs) vs = L2.wipe σ vs := by
  have : Only vs σ (L2.wipe σ vs) := by
    refine ⟨wipe_length σ vs, fun i hi => ?_⟩
    induction vs with
    | nil => rfl
    | cons v vs ih =>
      unfold L2.wipe
      rw [List.getElem?_set_ne fun z => hi (by simp [z]), ih fun z => hi (List.mem_cons_of_mem _ z)]
  exact this.wipe fun _ h => h
/-- what is made of a comprehension's list: a list that stays, or one of the store's -/
def FinL (c : Cn) (fin : List D → M D) : Prop := ∀ (φ φ' : Phi) (μ' : Mem) (H H' : Hp) (A : Addr) (acc : List D) (ws : List V) (Q : VK) (E : XW), Later φ H φ' H' → H A = none → A ∉ φ.hid → WOk c (φ'.add A) μ' H' → H' A = some (.lst ws) → RepL c (φ'.add A) H' acc ws → wpM c (Rep c) (fin acc) φ μ' H Q E → Q (.ref A) H'
def frzL (acc : List D) : M D := pure (.lst acc)
theorem fin_frz : FinL c frzL := fun φ φ' μ' H H' A acc ws Q E L nA nh w' hA r' h' => by
  refine wp_pureL h' L w'.less ?_
  simp only [Rep]
  exact ⟨A, ws, rfl, .inl hA, fun z => z.elim (w'.hid A List.mem_cons_self).2 (fun z => nh (by rw [← L.hid]; exact z)), r'.less⟩
/-- the comprehension's reading -/
theorem lc_read {fin : List D → M D} (hfin : FinL c fin) {is vs : List Nat} (hlo : ∀ i ∈ vs, c.lo i ∧ (c.ini ≠ none → i ≠ 0)) {fi : Env → M ItD} {g : D → Env → M Env} {ft : Env → M Bool} {fe : Env → M D} (hs : ∀ i ∈ is, i ∈ vs) (σ : L2.St) (H : Hp) (Q : VK)
    (h : tV c W (fun ρ => fi ρ >>= fun it => ask (small it.items.length) >>= fun _ => loopC it g ft fe (wipeE ρ vs) it.items [] >>= fin) σ H Q) : tLc (tI c W fi) (tG c is g) (tT c W0 ft) (tV c W0 fe) vs σ H Q := by
  obtain ⟨φ, μ, ρ, w, he, h⟩ := h
  refine ⟨φ, μ, ρ, w, he, wp_mono (wp_bind h) fun J H1 z => ?_⟩
  obtain ⟨φ1, μ1, it, L1, w1, ⟨G, Y, wk, hG, hY⟩, h1⟩ := z
  obtain ⟨hz, h1⟩ := wp_ask h1
  have hz : it.items.length ≤ sizeLine := of_decide_eq_true hz
  intro A nA
  have nh : A ∉ φ1.hid := fun z => (w1.hid A z).1 nA
  refine lc_it wk (fun i H' => ∃ φ' μ' acc ws, Later φ1 H1 φ' H' ∧ WOk c (φ'.add A) μ' H' ∧ H' A = some (.lst ws) ∧ RepL c (φ'.add A) H' acc ws ∧ ws.length ≤ i ∧
    wpM c (Rep c) (loopC it g ft fe (wipeE ρ vs) (it.items.drop i) acc >>= fin) φ1 μ' H1 Q (wEx W σ)) ⟨φ1, μ1, [], [], Later.refl.write nA nh, w1.begin nA, upd_same, by simp only [RepL], Nat.le_refl _, h1⟩ (fun i H' hi z => ?_) (fun i x H2 H3 hi z y => ?_) (fun H2 z => ?_)
  · obtain ⟨φ', μ', acc, ws, L, w', hA, r', hl, h'⟩ := z
    have : it.chk μ' := by
      cases hd : it.items.drop i with
      | nil => rw [hd] at h'; rw [loopC_nil] at h'; rw [chkM_bind] at h'; exact (wpM_chk h').1
      | cons d r => rw [hd] at h'; rw [loopC_cons] at h'; rw [chkM_bind] at h'; exact (wpM_chk h').1
    exact hG (φ'.add A) μ' H' (keep_add L nA) w' this
  · obtain ⟨φ', μ', acc, ws, L, w', hA, r', hl, h'⟩ := z
    have hd : it.items.drop i = it.items[i] :: it.items.drop (i + 1) := List.drop_eq_getElem_cons hi
    rw [hd] at h'
    rw [loopC_cons] at h'
    rw [chkM_bind] at h'
    obtain ⟨hc, h'⟩ := wpM_chk h'
    rw [liftT_bind] at h'
    obtain ⟨d, ed, L3, w3, r3⟩ := hY i H2 x H3 (φ'.add A) μ' hi (keep_add L nA) w' hc y
    rw [List.getElem?_eq_getElem hi] at ed
    cases ed
    obtain ⟨φ3, e3, LL3, A3⟩ := Later.inner L nA L3
    obtain rfl := add_inj e3
    have he3 : RepE c (φ'.add A) H3 (wipeE ρ vs) (L2.wipe σ vs) := ((he.wipe vs hlo).later L1).add LL3 nA
    refine ⟨φ'.add A, μ', wipeE ρ vs, _, w3, he3, r3, wpT_mono (wpT_base h') fun σ4 H4 z o4 => ⟨by rw [o4.wipe hs, wipe_idem], ?_⟩⟩
    obtain ⟨φ4, μ4, ρ4, L4, w4, he4, h4⟩ := z
    obtain ⟨φ4, rfl, LL4, A4⟩ := Later.inner LL3 nA L4
    rw [M.assoc] at h4
    refine ⟨φ4.add A, μ4, ρ4, w4, he4, wp_mono (wpM_base (R := RB) h4) fun b H5 z => ?_⟩
    obtain ⟨φ5, μ5, b', L5, w5, r5, h5⟩ := z
    obtain rfl : b = b' := r5
    obtain ⟨φ5, rfl, LL5, A5⟩ := Later.inner LL4 nA L5
    cases b with
    | false =>
      have hA5 : H5 A = some (.lst ws) := by rw [A5, A4, A3]; exact hA
      exact ⟨φ5, μ5, acc, ws, LL5, w5, hA5, ((r'.later L3.toKeep).later L4.toKeep).later L5.toKeep, by omega, h5⟩
    | true =>
      have h5 : wpM c (Rep c) ((noX (fe ρ4) >>= fun y => loopC it g ft fe (wipeE ρ vs) (it.items.drop (i + 1)) (acc ++ [y])) >>= fin) φ1 μ5 H1 Q (wEx W σ) := h5
      rw [M.assoc] at h5
      refine ⟨φ5.add A, μ5, ρ4, w5, he4.later L5, wp_mono (wpM_base (R := Rep c) h5) fun y H6 z => ?_⟩
      obtain ⟨φ6, μ6, d6, L6, w6, r6, h6⟩ := z
      obtain ⟨φ6, rfl, LL6, A6⟩ := Later.inner LL5 nA L6
      have hA6 : H6 A = some (.lst ws) := by rw [A6, A5, A4, A3]; exact hA
      have r6' : RepL c (φ6.add A) H6 acc ws := (((r'.later L3.toKeep).later L4.toKeep).later L5.toKeep).later L6.toKeep
      exact ⟨ws, hA6, by omega, φ6, μ6, acc ++ [d6], ws ++ [y], LL6.write nA nh, w6.write hA6, upd_same, (r6'.app (RepL.one r6)).later Keep.write, by rw [List.length_append, List.length_singleton]; omega, h6⟩
  · obtain ⟨φ', μ', acc, ws, L, w', hA, r', hl, h'⟩ := z
    rw [List.drop_length] at h'
    rw [loopC_nil] at h'
    rw [chkM_bind] at h'
    have h' := (wpM_chk h').2
    exact hfin _ _ _ _ _ _ _ _ _ _ L nA nh w' hA r' h'
theorem ve_lc {fin : List D → M D} (hfin : FinL c fin) {elt t iter : Expr} {ifs : List Expr} {scope : Scope} {own : List (Str × Nat)} (hlo : ∀ i ∈ own.map (·.2), c.lo i ∧ (c.ini ≠ none → i ≠ 0)) {is : List Nat} {fi : Env → M ItD} {g : D → Env → M Env} {ft : Env → M Bool} {fe : Env → M D} (hc : X.calm = true) (hN : X.N.Nodup) (ok : BlkOk X.N X.env.scope scope own) (hi : VI X c W t iter fi)
    (hg : ∀ (s : Shared) (H : Hp) (C : Addr) (cl : List (Str × Addr)) (fp : List Addr), VG (X.blk s H scope (compEnvC scope cl C X.env) fp) c t is g) (ht : ∀ (s : Shared) (H : Hp) (C : Addr) (cl : List (Str × Addr)) (fp : List Addr), VTs (X.blk s H scope (compEnvC scope cl C X.env) fp) c W0 ifs ft)
    (he : ∀ (s : Shared) (H : Hp) (C : Addr) (cl : List (Str × Addr)) (fp : List Addr), VE (X.blk s H scope (compEnvC scope cl C X.env) fp) c W0 elt fe) (hs : ∀ i ∈ is, i ∈ own.map (·.2))
    (hf : ∀ x, foldedSetIterable iter X.env x = pure x := by intro _; rfl) :
    VE X c W (.ListComp elt [⟨t, iter, ifs, 0⟩] scope pos) (fun ρ => fi ρ >>= fun it => ask (small it.items.length) >>= fun _ => loopC it g ft fe (wipeE ρ (own.map (·.2))) it.items [] >>= fin) :=
  ⟨PE.weak (pe_lc hc hN hi.pi ok (fun s H C cl fp => (hg s H C cl fp).pg) (fun s H C cl fp => (ht s H C cl fp).pt) (fun s H C cl fp => (he s H C cl fp).pe) hf) fun σ H Q h => lc_read hfin hlo hs σ H Q h⟩
/-- name = [..] -/
theorem vs_setLc {fin : List D → M D} (hfin : FinL c fin) {i : Nat} {own : List (Str × Nat)} (hq : c.lo i) (h0 : c.ini ≠ none → i ≠ 0) (hlo : ∀ i ∈ own.map (·.2), c.lo i ∧ (c.ini ≠ none → i ≠ 0)) {y : Str} {py spos : Pos} {elt t iter : Expr} {ifs : List Expr} {scope : Scope} {is : List Nat} {fi : Env → M ItD} {g : D → Env → M Env} {ft : Env → M Bool} {fe : Env → M D} (hc : X.calm = true) (hN : X.N.Nodup) (hy : X.N[i]? = some y) (hyl : X.env.scope.names.lookup y = some .local)
    (hsw : swapsWith (.ListComp elt [⟨t, iter, ifs, 0⟩] scope pos) (some (.Name y py)) spos.line X.env = pure true) (ok : BlkOk X.N X.env.scope scope own) (hi : VI X c W t iter fi)
    (hg : ∀ (s : Shared) (H : Hp) (C : Addr) (cl : List (Str × Addr)) (fp : List Addr), VG (X.blk s H scope (compEnvC scope cl C X.env) fp) c t is g) (ht : ∀ (s : Shared) (H : Hp) (C : Addr) (cl : List (Str × Addr)) (fp : List Addr), VTs (X.blk s H scope (compEnvC scope cl C X.env) fp) c W0 ifs ft)
    (he : ∀ (s : Shared) (H : Hp) (C : Addr) (cl : List (Str × Addr)) (fp : List Addr), VE (X.blk s H scope (compEnvC scope cl C X.env) fp) c W0 elt fe) (hs : ∀ i ∈ is, i ∈ own.map (·.2))
    (hf : ∀ x, foldedSetIterable iter X.env x = pure x := by intro _; rfl) :
    VS X c W (.Assign [.Name y py] (.ListComp elt [⟨t, iter, ifs, 0⟩] scope pos) spos) (fun ρ => liftS ρ (fi ρ >>= fun it => ask (small it.items.length) >>= fun _ => loopC it g ft fe (wipeE ρ (own.map (·.2))) it.items [] >>= fin) fun d => pure (.nx (ρ.set i (some d)))) :=
  ⟨PS.weak (ps_setLc (i := i) hc hN hy hyl hsw hi.pi ok (fun s H C cl fp => (hg s H C cl fp).pg) (fun s H C cl fp => (ht s H C cl fp).pt) (fun s H C cl fp => (he s H C cl fp).pe) hf) fun D σ H h => by
    refine lc_read hfin hlo hs σ H _ ?_
    obtain ⟨φ, μ, ρ, w, he, h⟩ := h
    refine ⟨φ, μ, ρ, w, he, wp_mono (wpS_lift (R := Rep c) h he) fun v H1 z => ?_⟩
    obtain ⟨φ1, μ1, d, L, w1, r, h1⟩ := z
    exact wpS_nx h1 w1 ((he.later L).set i hq h0 r)⟩
theorem it_same {it : ItD} {G : Hp → Prop} {J : It} {xs : List V} (hl : it.items.length = xs.length) (wk : Walk J xs.length G (YAt xs)) (hG : ∀ φ2 μ2 H2, Keep φ H φ2 H2 → WOk c φ2 μ2 H2 → it.chk μ2 → G H2 ∧ RepL c φ2 H2 it.items xs) : ItOk c φ H J it := by
  refine ⟨G, YAt xs, by rw [hl]; exact wk, fun φ2 μ2 H2 K w k => (hG φ2 μ2 H2 K w k).1, fun i H1 x H2 φ1 μ1 hi K w k y => ?_⟩
  obtain ⟨e2, hx⟩ := y
  have r := (hG φ1 μ1 H1 K w k).2
  obtain ⟨v, e, rv⟩ := r.get (List.getElem?_eq_getElem hi)
  rw [hx] at e
  cases e
  rw [e2]
  exact ⟨_, List.getElem?_eq_getElem hi, .refl, w, rv⟩
/-- a list, a tuple, a text -/
def iSeq (K : PySem.W.Frag) (tl : TE) : TI := fun σ H R => tl σ H fun x H1 => (∃ a, x = .ref a ∧ (∃ xs, SqL K H1 a xs) ∧ R (Itl K a) H1) ∨ (∃ a, x = .ref a ∧ (∃ xs, SqT K H1 a xs) ∧ R (Itt K a) H1) ∨ ∃ z, x = .str z ∧ R (Its z) H1
theorem pi_seq {tg l : Expr} {tl : TE} (hl : PE X l tl) : PI X tg l (iSeq X.K tl) := by
  refine ⟨fun pins s σ H R I h => ?_⟩
  refine thn (hl.run pins s σ H _ I h) fun v s1 ⟨x, H1, I1, r1, q1⟩ => ?_
  rcases q1 with ⟨a, e, ⟨xs, hq⟩, q⟩ | ⟨a, e, ⟨xs, hq⟩, q⟩ | ⟨z, e, q⟩
  · subst e
    cases r1
    obtain ⟨its, rv, p, hz⟩ := I1.list hq
    refine wpAny_pyIter_list p.isList ?_
    refine ⟨s1.heap.objs.size, [s1.heap.objs.size], _, _, H1, rfl, I1.kept (t' := s1.toks) fun b o e => Heap.get?_push_of_some _ e, turn_list a _, ⟨_, Heap.get?_push_size _ rfl, rfl, rfl⟩, fun b hb => ?_, q⟩
    have e : b = s1.heap.objs.size := by simpa using hb
    subst e
    exact I1.fpOk (Nat.le_refl _) (I1.hok.fresh (Nat.le_refl _))
  · subst e
    cases r1
    obtain ⟨its, rv, p, hz⟩ := I1.tuple hq
    refine wpAny_pyIter_tuple (show s1.heap.IsTuple a its.toArray from p) ?_
    refine ⟨s1.heap.objs.size, [s1.heap.objs.size], _, _, H1, rfl, I1.kept (t' := s1.toks) fun b o e => Heap.get?_push_of_some _ e, turn_tuple a _, ⟨_, Heap.get?_push_size _ rfl, rfl, rfl⟩, fun b hb => ?_, q⟩
    have e : b = s1.heap.objs.size := by simpa using hb
    subst e
    exact I1.fpOk (Nat.le_refl _) (I1.hok.fresh (Nat.le_refl _))
  · subst e
    obtain ⟨t, rfl⟩ := r1
    cases ha : z.cps.all (· < 128)
    · exact wpAny_pyIter_wide ha (pi_one (tk := s1.toks) I1 _ (turn_str _ z t "str_iterator" (.inr rfl)) ⟨_, Heap.get?_push_size _ rfl, rfl, rfl⟩ q)
    · exact wpAny_pyIter_ascii ha (pi_one (tk := s1.toks) I1 _ (turn_str _ z t "str_ascii_iterator" (.inl rfl)) ⟨_, Heap.get?_push_size _ rfl, rfl, rfl⟩ q)
/-- the signs of a text -/
def signs (z : Str) : List D := z.cps.toList.map fun k => .str ⟨#[k]⟩
/-- what a value gives, walked -/
def itOf : D → M ItD
  | .lst xs => pure ⟨xs, fun _ => True⟩
  | .tup xs => pure ⟨xs, fun _ => True⟩
  | .str z => pure ⟨signs z, fun _ => True⟩
  | .ptr k => fun μ => match μ[k]? with
    | some (.lst xs) => .ok ⟨xs, fun μ' => μ'[k]? = some (.lst xs)⟩ μ
    | _ => .stuck
  | _ => stuck
theorem Keep.sqt (K : Keep φ H φ' H') {k : PySem.W.Frag} {a : Addr} {vs : List V} (h : (Rd H a (.tup vs) ∧ ¬ own φ a) ∨ SqT k H0 a vs) : SqT k H' a vs := by
  rcases h with ⟨h, n⟩ | h
  · exact .inl (K.rd n h (by intro ps z; cases z)).1
  · exact sqtK h
theorem it_str {z : Str} : ItOk c φ H (Its z) ⟨signs z, fun _ => True⟩ := by
  have hl : (signs z).length = z.cps.size := by unfold signs; simp
  refine ⟨_, _, (show Walk (Its z) (signs z).length _ _ by rw [hl]; exact walk_str), fun _ _ _ _ _ _ => trivial, fun i H2 x H3 φ2 μ2 hi K w2 _ y => ?_⟩
  obtain ⟨e, k, hk, rfl⟩ := y
  rw [e]
  refine ⟨.str ⟨#[k]⟩, ?_, .refl, w2, of_str⟩
  show (signs z)[i]? = _
  unfold signs
  rw [List.getElem?_map, Array.getElem?_toList, hk]
  rfl
theorem vi_seq {tg l : Expr} {f : Env → M D} (hK : X.K = c.K) (h : VE X c W l f) : VI X c W tg l (fun ρ => f ρ >>= itOf) := by
  refine ⟨PI.weak (pi_seq h.pe) fun σ H R z => ?_⟩
  obtain ⟨φ, μ, ρ, w, he, h⟩ := z
  refine ⟨φ, μ, ρ, w, he, wp_mono (wp_bind h) fun x H1 z => ?_⟩
  obtain ⟨φ1, μ1, d, L, w1, r, h1⟩ := z
  rw [hK]
  cases d with
  | lst xs =>
    simp only [Rep] at r
    obtain ⟨a, vs, rfl, hs, n, rl⟩ := r
    exact .inl ⟨a, rfl, ⟨vs, .inl hs⟩, wp_pure (b := Itl c.K a) h1 w1 (it_same rl.len walk_list fun φ2 μ2 H2 K w2 _ => ⟨.inl (K.rd n hs (by intro ps z; cases z)).1, rl.later K⟩)⟩
  | tup xs =>
    simp only [Rep] at r
    obtain ⟨a, vs, rfl, hs, rl⟩ := r
    exact .inr (.inl ⟨a, rfl, ⟨vs, Later.refl.toKeep.sqt hs⟩, wp_pure (b := Itt c.K a) h1 w1 (it_same rl.len walk_tup fun φ2 μ2 H2 K w2 _ => ⟨K.sqt hs, rl.later K⟩)⟩)
  | str z =>
    rw [rep_str r]
    exact .inr (.inr ⟨z, rfl, wp_pure (b := Its z) h1 w1 it_str⟩)
  | ptr k =>
    simp only [Rep] at r
    obtain ⟨e, hi, rfl⟩ := r
    obtain ⟨x, hx, hc⟩ := w1.cell k e hi
    unfold wpM itOf at h1
    simp only [hx] at h1
    cases x with
    | dct C fs => exact h1.elim
    | fdct C fs => exact h1.elim
    | ins C fs => exact h1.elim
    | lst xs =>
      obtain ⟨e2, vs, hv, rl⟩ := hc
      refine .inl ⟨e.1, rfl, ⟨vs, .inl (.inl hv)⟩, h1 φ1 H1 (Itl c.K e.1) .refl w1 ?_⟩
      have cell : ∀ φ2 μ2 H2, Keep φ1 H1 φ2 H2 → WOk c φ2 μ2 H2 → μ2[k]? = some (.lst xs) → ∃ us, H2 e.1 = some (.lst us) ∧ RepL c φ2 H2 xs us := fun φ2 μ2 H2 K w2 hm => by
        obtain ⟨x, hx, hc⟩ := w2.cell k e (K.pre k e hi)
        rw [hm] at hx
        cases hx
        exact hc.2
      refine ⟨fun H2 => ∃ us, H2 e.1 = some (.lst us) ∧ us.length = xs.length, fun i H2 x H3 => H3 = H2 ∧ ∀ us, SqL c.K H2 e.1 us → us[i]? = some x, ⟨fun i H2 hi ⟨us, h, hl⟩ => ⟨us, us[i]'(by rw [hl]; exact hi), .inl (.inl h), by simp [hl, hi]⟩, fun H2 ⟨us, h, hl⟩ => ⟨us, .inl (.inl h), Nat.le_of_eq hl⟩, fun i H2 x H3 _ _ y => y⟩, fun φ2 μ2 H2 K w2 hm => ?_, fun i H2 x H3 φ2 μ2 hi K w2 hm y => ?_⟩
      · obtain ⟨us, h, r⟩ := cell φ2 μ2 H2 K w2 hm
        exact ⟨us, h, r.len.symm⟩
      · obtain ⟨us, h, r⟩ := cell φ2 μ2 H2 K w2 hm
        obtain ⟨e3, hy⟩ := y
        rw [e3]
        obtain ⟨v, ev, rv⟩ := r.get (List.getElem?_eq_getElem hi)
        rw [hy us (.inl (.inl h))] at ev
        cases ev
        exact ⟨_, List.getElem?_eq_getElem hi, .refl, w2, rv⟩
  | _ => exact wp_stuck (β := It) h1
/-- range -/
def rangeD (lo : Int) (n : Nat) : List D := (List.range n).map fun (i : Nat) => .int (lo + (i : Int))
theorem it_range {lo : Int} {n : Nat} : ItOk c φ H (Itr lo n) ⟨rangeD lo n, fun _ => True⟩ := by
  have hl : (rangeD lo n).length = n := by unfold rangeD; simp
  refine ⟨_, _, (show Walk (Itr lo n) (rangeD lo n).length _ _ by rw [hl]; exact walk_range), fun _ _ _ _ _ _ => trivial, fun i H1 x H2 φ1 μ1 hi K w _ y => ?_⟩
  obtain ⟨e, rfl⟩ := y
  rw [e]
  refine ⟨.int (lo + (i : Int)), ?_, .refl, w, of_int⟩
  have hi : i < n := by rw [← hl]; exact hi
  show (rangeD lo n)[i]? = _
  unfold rangeD
  rw [List.getElem?_map, List.getElem?_range hi]
  rfl
def rng1 : List D → M ItD
  | [.int j] => ask (decide (-(2 ^ 62) ≤ j ∧ j < 2 ^ 62)) >>= fun _ => pure ⟨rangeD 0 j.toNat, fun _ => True⟩
  | _ => stuck
theorem repL1 {vs : List V} {d : D} (r : RepL c φ H [d] vs) : ∃ v, vs = [v] ∧ Rep c φ H d v := by
  simp only [RepL] at r
  obtain ⟨v, rest, rfl, r1, rfl⟩ := r
  exact ⟨v, rfl, r1⟩
theorem repL2 {vs : List V} {d e : D} (r : RepL c φ H [d, e] vs) : ∃ v u, vs = [v, u] ∧ Rep c φ H d v ∧ Rep c φ H e u := by
  simp only [RepL] at r
  obtain ⟨v, rest, rfl, r1, u, r2, rfl, r3, rfl⟩ := r
  exact ⟨v, u, rfl, r1, r3⟩
theorem vi_range1 {tg a : Expr} {fl : Env → M (List D)} {p : Pos} (hg : Gl X "range") (hm : X.mg "range" = none) (ha : VL X c W [a] fl) (hs : starEach [a] X.env = [(false, eval a X.env)] := by rfl) : VI X c W tg (.Call (.Name "range" p) [a] [] pos) (fun ρ => fl ρ >>= rng1) := by
  refine ⟨PI.weak (pi_range1 hg hm ha.pa hs) fun σ H R z => ?_⟩
  obtain ⟨φ, μ, ρ, w, he, h⟩ := z
  refine ⟨φ, μ, ρ, w, he, wp_mono (wp_bind h) fun x H1 z => ?_⟩
  obtain ⟨φ1, μ1, ds, L, w1, r, h1⟩ := z
  unfold rng1 at h1
  split at h1
  · obtain ⟨v, rfl, r0⟩ := repL1 r
    rw [rep_int r0]
    obtain ⟨hz, h1⟩ := wp_ask h1
    have hz := of_decide_eq_true hz
    exact ⟨_, rfl, hz.1, hz.2, wp_pure (b := Itr 0 _) h1 w1 it_range⟩
  · exact wp_stuck (β := It) h1
end
end VL
namespace VL
open PySem PySem.Spec PyProof.Rows L2 LamX
/-- at most n turns -/
def whileN (t : Env → M Bool) (s : Env → M Flow) : Nat → Env → M Flow
  | 0, _ => stuck
  | n + 1, ρ => liftS ρ (t ρ) fun k => if k then s ρ >>= fun fl => match fl with
    | .nx ρ' => whileN t s n ρ'
    | .ct ρ' => whileN t s n ρ'
    | .bk ρ' => pure (.nx ρ')
    | .rt d => pure (.rt d)
    | .xc ρ e => pure (.xc ρ e) else pure (.nx ρ)
open Classical in
/-- a loop of less than n turns -/
def whileF (n : Nat) (t : Env → M Bool) (s : Env → M Flow) (ρ : Env) : M Flow := whileN t s n ρ
section
variable {X : Cx} {c : Cn} {W : WX} {φ φ' : Phi} {H H' : Hp} {μ μ' : Mem} {ρ : Env} {σ : L2.St} {D0 : Ends} {pos : Pos}
def atM (xs : List D) (i : Int) : M D := match atI xs i with
  | some d => pure d
  | none => stuck
def atS (z : Str) (i : Int) : M D := match atI z.cps.toList i with
  | some k => ask (small z.length) >>= fun _ => pure (.str ⟨#[k]⟩)
  | none => stuck
def dIx (x y : D) : M D := match y with
  | .int i => match x with
    | .tup xs => atM xs i
    | .str z => atS z i
    | .scr xs => atM xs i
    | x => readL x >>= fun xs => atM xs i
  | _ => stuck
theorem RepL.at {ds : List D} {vs : List V} {i : Int} {d : D} (r : RepL c φ H ds vs) (h : atI ds i = some d) : ∃ v, atI vs i = some v ∧ Rep c φ H d v := by
  unfold atI at h ⊢
  rw [← r.len]
  cases hx : ixN ds.length i with
  | none => rw [hx] at h; cases h
  | some j =>
    rw [hx] at h
    exact r.get h
theorem ve_ix {a b : Expr} {f g : Env → M D} (hK : X.K = c.K) (ha : VE X c W a f) (hb : VE X c W b g) (hs : PlainIx b) : VE X c W (.Subscript a b pos) (fun ρ => f ρ >>= fun x => g ρ >>= fun y => dIx x y) :=
  ⟨PE.weak (pe_ix ((ix_list.or ix_tup).or ix_str) ha.pe hb.pe hs) (two fun φ μ H x y vx vy Q E w r1 r2 h => by
    rw [hK]
    have at_ : ∀ {xs : List D} {vs : List V} {i : Int}, RepL c φ H xs vs → wpM c (Rep c) (atM xs i) φ μ H Q E → ∃ v, atI vs i = some v ∧ Q v H := fun {xs vs i} rl h => by
      unfold atM at h
      cases hx : atI xs i with
      | none => rw [hx] at h; exact wp_stuck h
      | some d =>
        rw [hx] at h
        obtain ⟨v, e, rv⟩ := rl.at hx
        exact ⟨v, e, wp_pure h w rv⟩
    have lists : ∀ i : Int, vy = .int i → wpM c (Rep c) (readL x >>= fun xs => atM xs i) φ μ H Q E → rIxL c.K vx vy H Q := fun i e h => by
      obtain ⟨xs, a, vs, rfl, hs, rl, h⟩ := wp_readL h w r1
      obtain ⟨v, e2, q⟩ := at_ rl h
      exact ⟨a, vs, i, v, rfl, e, .inl hs, e2, q⟩
    cases y with
    | int i =>
      have ey := rep_int r2
      cases x with
      | tup xs =>
        obtain ⟨a, vs, rfl, hs, rl⟩ := rep_tup r1
        obtain ⟨v, e2, q⟩ := at_ rl h
        exact .inl (.inr ⟨a, vs, i, v, rfl, ey, hs, e2, q⟩)
      | str z =>
        have h : wpM c (Rep c) (atS z i) φ μ H Q E := h
        unfold atS at h
        cases hx : atI z.cps.toList i with
        | none => rw [hx] at h; exact wp_stuck h
        | some k =>
          rw [hx] at h
          obtain ⟨hz, h⟩ := wp_ask h
          exact .inr ⟨z, i, k, rep_str r1, ey, of_decide_eq_true hz, hx, wp_pure h w of_str⟩
      | scr xs =>
        obtain ⟨a, vs, rfl, hs, rl⟩ := rep_scr r1
        obtain ⟨v, e2, q⟩ := at_ rl h
        exact .inl (.inl ⟨a, vs, i, v, rfl, ey, hs, e2, q⟩)
      | _ => exact .inl (.inl (lists i ey h))
    | _ => exact wp_stuck h)⟩
def cutL {α : Type} (xs : List α) (lo hi : Option Int) : List α := (xs.drop (HT.sIx xs.length 0 lo)).take (HT.sIx xs.length xs.length hi - HT.sIx xs.length 0 lo)
theorem RepL.cut {ds : List D} {vs : List V} (r : RepL c φ H ds vs) (lo hi : Option Int) : RepL c φ H (cutL ds lo hi) (cutV vs lo hi) := by
  unfold cutL cutV
  rw [r.len]
  exact (r.drop _).take _
def dSl (x : D) (lo hi : Option Int) : M D := match x with
  | .str z => ask (small z.length) >>= fun _ => pure (.str (cutS z lo hi))
  | .tup xs => pure (.tup (cutL xs lo hi))
  | x => readL x >>= fun xs => pure (.lst (cutL xs lo hi))
def RO : Phi → Hp → Option Int → Option Int → Prop := fun _ _ a b => b = a
def tOP (c : Cn) (W : WX) (f : Env → M (Option Int)) : TO := fun σ H Q => ∃ φ μ ρ, WOk c φ μ H ∧ RepE c φ H ρ σ ∧ wpM c RO (f ρ) φ μ H Q (wEx W σ)
structure VO (X : Cx) (c : Cn) (W : WX) (e : Option Expr) (f : Env → M (Option Int)) : Prop where
  po : PO X e (tOP c W f)
theorem PO.weak {X : Cx} {e : Option Expr} {t t' : TO} (h : PO X e t) (i : ∀ σ H Q, t' σ H Q → t σ H Q) : PO X e t' := ⟨fun pins s σ H Q I q => h.run pins s σ H Q I (i _ _ _ q)⟩
theorem vo_none : VO X c W none (fun _ => pure none) := ⟨PO.weak po_none fun σ H Q h => by
  obtain ⟨φ, μ, ρ, w, he, h⟩ := h
  exact wp_pure (b := none) h w rfl⟩
def asPart : D → M (Option Int)
  | .int i => pure (some i)
  | _ => stuck
theorem vo_some {e : Expr} {f : Env → M D} (h : VE X c W e f) : VO X c W (some e) (fun ρ => f ρ >>= asPart) := ⟨PO.weak (po_some h.pe) fun σ H Q h => by
  obtain ⟨φ, μ, ρ, w, he, h⟩ := h
  refine ⟨φ, μ, ρ, w, he, wp_mono (wp_bind h) fun x H1 z => ?_⟩
  obtain ⟨φ1, μ1, d, L, w1, r, h1⟩ := z
  cases d with
  | int i => exact ⟨i, rep_int r, wp_pure (b := some i) h1 w1 rfl⟩
  | _ => exact wp_stuck (β := Option Int) h1⟩
theorem ve_slice {a : Expr} {lo hi : Option Expr} {p2 : Pos} {f : Env → M D} {fl fh : Env → M (Option Int)} (hK : X.K = c.K) (ha : VE X c W a f) (hl : VO X c W lo fl) (hh : VO X c W hi fh) :
    VE X c W (.Subscript a (.Slice lo hi none p2) pos) (fun ρ => f ρ >>= fun x => fl ρ >>= fun l => fh ρ >>= fun h => dSl x l h) :=
  ⟨PE.weak (pe_slice ((sl_list.or sl_tupA).or sl_str) ha.pe hl.po hh.po) fun σ H Q h => by
    obtain ⟨φ, μ, ρ, w, he, h⟩ := h
    refine ⟨φ, μ, ρ, w, he, wp_mono (wp_bind h) fun x H1 z => ?_⟩
    obtain ⟨φ1, μ1, d, L1, w1, r, h1⟩ := z
    refine ⟨φ1, μ1, ρ, w1, he.later L1, wp_mono (wp_bind h1) fun l H2 z => ?_⟩
    obtain ⟨φ2, μ2, l', L2, w2, r2, h2⟩ := z
    obtain rfl : l = l' := r2
    refine ⟨φ2, μ2, ρ, w2, (he.later L1).later L2, wp_mono (wp_bind h2) fun u H3 z => ?_⟩
    obtain ⟨φ3, μ3, u', L3, w3, r3, h3⟩ := z
    obtain rfl : u = u' := r3
    have r := (r.later L2.toKeep).later L3.toKeep
    rw [hK]
    have lists : wpM c (Rep c) (readL d >>= fun xs => pure (.lst (cutL xs l u))) φ3 μ3 H3 Q (wEx W σ) → rSlL c.K x l u H3 Q := fun h => by
      obtain ⟨xs, a, vs, rfl, hs, rl, h⟩ := wp_readL h w3 r
      exact ⟨a, vs, rfl, .inl hs, fun p np => wp_pureL h (Later.laid w3 np) (w3.laid np) (lst_new w3 np (rl.cut l u))⟩
    cases d with
    | str z =>
      obtain ⟨hz, h3⟩ := wp_ask (k := fun _ => (pure (D.str (cutS z l u)) : M D)) h3
      exact .inr ⟨z, rep_str r, of_decide_eq_true hz, wp_pure h3 w3 of_str⟩
    | tup xs =>
      obtain ⟨a, vs, e0, hs, rl⟩ := rep_tup r
      refine .inl (.inr ⟨a, vs, e0, hs, fun e => ?_, fun _ p np => wp_pureL h3 (Later.laid w3 np) (w3.laid np) (tup_new w3 np (rl.cut l u))⟩)
      have e2 : cutL xs l u = xs := by
        unfold cutL
        rw [rl.len, e.1, e.2, List.drop_zero, Nat.sub_zero, ← rl.len, List.take_length]
      have h3 : wpM c (Rep c) (pure (.tup (cutL xs l u))) φ3 μ3 H3 Q (wEx W σ) := h3
      rw [e2] at h3
      rw [← e0]
      exact wp_pure h3 w3 r
    | _ => exact .inl (.inl (lists h3))⟩
def flatD : D → Bool
  | .non | .bl _ | .int _ | .str _ => true
  | _ => false
def eqF : D → D → Bool
  | .non, .non => true
  | .bl a, .bl b => a == b
  | .bl a, .int b => (if a then 1 else 0) == b
  | .int a, .bl b => a == (if b then 1 else 0)
  | .int a, .int b => a == b
  | .str a, .str b => a == b
  | _, _ => false
theorem flat_of {d : D} {v : V} (r : Rep c φ H d v) (h : flatD d = true) : flatV v = true := by
  cases d <;> first | (exact absurd h Bool.false_ne_true) | (simp only [Rep] at r; subst r; rfl)
theorem eqF_of {d e : D} {v u : V} (r : Rep c φ H d v) (q : Rep c φ H e u) (h : flatD d = true) (k : flatD e = true) : eqV v u = eqF d e := by
  cases d <;> first | (exact absurd h (by decide)) | (exact absurd h Bool.false_ne_true) | skip
  all_goals (cases e <;> first | (exact absurd k Bool.false_ne_true) | (simp only [Rep] at r q; subst r; subst q; rfl))
theorem inF_of : ∀ {ds : List D} {vs : List V} {d : D} {v : V}, RepL c φ H ds vs → Rep c φ H d v → ds.all flatD = true → flatD d = true → vs.all flatV = true ∧ inV v vs = ds.any fun y => eqF y d
  | [], vs, d, v, r, q, h, k => by simp only [RepL] at r; subst r; exact ⟨rfl, rfl⟩
  | e :: ds, vs, d, v, r, q, h, k => by
    simp only [RepL] at r
    obtain ⟨u, rest, rfl, r1, r2⟩ := r
    rw [List.all_cons, Bool.and_eq_true] at h
    obtain ⟨h1, h2⟩ := inF_of r2 q h.2 k
    refine ⟨by rw [List.all_cons, Bool.and_eq_true]; exact ⟨flat_of r1 h.1, h1⟩, ?_⟩
    unfold inV at h2 ⊢
    rw [List.any_cons, List.any_cons, h2, eqF_of r1 q h.1 k]
def inB (x y : D) : M Bool := match x, y with
  | .str a, .str b => pure (!(Builtin.Str.occurrences b a 0 b.length 1).isEmpty)
  | x, .tup ys => ask (flatD x && ys.all flatD) >>= fun _ => pure (ys.any fun y => eqF y x)
  | x, y => readL y >>= fun ys => ask (flatD x && ys.all flatD) >>= fun _ => pure (ys.any fun y => eqF y x)
def dIn (x y : D) : M D := inB x y >>= fun b => pure (.bl b)
def dNin (x y : D) : M D := inB x y >>= fun b => pure (.bl (!b))
theorem wp_inB {x y : D} {vx vy : V} {k : Bool → M D} {Q : VK} {E : XW} (w : WOk c φ μ H) (r1 : Rep c φ H x vx) (r2 : Rep c φ H y vy) (h : wpM c (Rep c) (inB x y >>= k) φ μ H Q E) :
    ∃ b, wpM c (Rep c) (k b) φ μ H Q E ∧ ((∃ i j, vx = .str i ∧ vy = .str j ∧ b = !(Builtin.Str.occurrences j i 0 j.length 1).isEmpty) ∨ ∃ p xs, vy = .ref p ∧ (SqL c.K H p xs ∨ SqT c.K H p xs) ∧ flatV vx = true ∧ xs.all flatV = true ∧ b = inV vx xs) := by
  unfold inB at h
  split at h
  · rw [rep_str r1, rep_str r2]
    exact ⟨_, h, .inl ⟨_, _, rfl, rfl, rfl⟩⟩
  · rw [M.assoc] at h
    obtain ⟨hs, h⟩ := wp_ask h
    rw [Bool.and_eq_true] at hs
    obtain ⟨a, vs, rfl, hq, rl⟩ := rep_tup r2
    obtain ⟨h1, h2⟩ := inF_of rl r1 hs.2 hs.1
    exact ⟨_, h, .inr ⟨a, vs, rfl, .inr hq, flat_of r1 hs.1, h1, h2.symm⟩⟩
  · rw [M.assoc] at h
    obtain ⟨ys, a, vs, rfl, hq, rl, h⟩ := wp_readL h w r2
    rw [M.assoc] at h
    obtain ⟨hs, h⟩ := wp_ask h
    rw [Bool.and_eq_true] at hs
    obtain ⟨h1, h2⟩ := inF_of rl r1 hs.2 hs.1
    exact ⟨_, h, .inr ⟨a, vs, rfl, .inl (.inl hq), flat_of r1 hs.1, h1, h2.symm⟩⟩
theorem opv_in (hK : X.K = c.K) : OpV X c (compareOp .In) dIn := by
  refine .mk (op_in_str.or op_in_seq) fun φ μ H x y vx vy Q E w r1 r2 h => ?_
  rw [hK]
  obtain ⟨b, h, z⟩ := wp_inB w r1 r2 h
  have q := wp_pure h w of_bl
  rcases z with ⟨i, j, rfl, rfl, e⟩ | ⟨p, xs, rfl, h1, h2, h3, e⟩
  · exact .inl ⟨i, j, rfl, rfl, by rw [← e]; exact q⟩
  · exact .inr ⟨p, xs, rfl, h1, h2, h3, by rw [← e]; exact q⟩
theorem opv_nin (hK : X.K = c.K) : OpV X c (compareOp .NotIn) dNin := by
  refine .mk (op_notin_str.or op_notIn_seq) fun φ μ H x y vx vy Q E w r1 r2 h => ?_
  rw [hK]
  obtain ⟨b, h, z⟩ := wp_inB w r1 r2 h
  have q := wp_pure h w of_bl
  rcases z with ⟨i, j, rfl, rfl, e⟩ | ⟨p, xs, rfl, h1, h2, h3, e⟩
  · exact .inl ⟨i, j, rfl, rfl, by rw [← e]; exact q⟩
  · exact .inr ⟨p, xs, rfl, h1, h2, h3, by rw [← e]; exact q⟩
def negD (d : D) : M D := match d with
  | .int i => pure (.int (-i))
  | _ => stuck
theorem ve_neg {a : Expr} {f : Env → M D} (ha : VE X c W a f) : VE X c W (.UnaryOp .USub a pos) (fun ρ => f ρ >>= negD) :=
  ⟨PE.weak (pe_un un_neg ha.pe) fun σ H Q q => one (r := rU fun i => .int (-i)) (fun φ μ H x vx Q E w r h => by
    cases x with
    | int i => exact ⟨i, rep_int r, wp_pure h w of_int⟩
    | _ => exact wp_stuck h) σ H Q q⟩
end
end VL
namespace VL
open PySem PySem.Spec PyProof.Rows L2 LamX
section
variable {X : Cx} {c : Cn} {W : WX} {φ φ' : Phi} {H H' : Hp} {μ μ' : Mem} {ρ : Env} {σ : L2.St} {D0 : Ends} {pos : Pos} {e : Expr} {es : List Expr} {fl : Env → M (List D)}
def CallV (X : Cx) (c : Cn) (f : Value) (g : List D → M D) : Prop :=
  ∃ r, CallR X f r ∧ ∀ φ μ H ds vs Q E, WOk c φ μ H → RepL c φ H ds vs → wpM c (Rep c) (g ds) φ μ H Q E → r vs H Q
theorem callt {g : List D → M D} {r : List V → Hp → VK → Prop} (hr : ∀ φ μ H ds vs Q E, WOk c φ μ H → RepL c φ H ds vs → wpM c (Rep c) (g ds) φ μ H Q E → r vs H Q) (σ : L2.St) (H : Hp) (Q : VK)
    (h : tV c W (fun ρ => fl ρ >>= g) σ H Q) : tL c W fl σ H (fun vs H1 => r vs H1 Q) := by
  obtain ⟨φ, μ, ρ, w, he, h⟩ := h
  refine ⟨φ, μ, ρ, w, he, wp_mono (wp_bind h) fun x H1 z => ?_⟩
  obtain ⟨φ1, μ1, d1, L1, w1, r1, h1⟩ := z
  exact hr φ1 μ1 H1 d1 x Q _ w1 r1 h1
theorem ve_callB {id : String} {x : Str} {p : Pos} {g : List D → M D} (hc : CallV X c (.builtin id) g) (hg : Gl X x) (hm : X.mg x = none) (hv : bootBuiltins x = some (.builtin id)) (ha : VL X c W (e :: es) fl)
    (hp : ∀ r t, CallR X (.builtin id) r → PA X (e :: es) t → PE X (.Call (.Name x p) (e :: es) [] pos) (fun σ H Q => t σ H fun xs H1 => r xs H1 Q)) : VE X c W (.Call (.Name x p) (e :: es) [] pos) (fun ρ => fl ρ >>= g) := by
  obtain ⟨r, h1, h2⟩ := hc
  exact ⟨PE.weak (hp _ _ h1 ha.pa) fun σ H Q q => callt h2 σ H Q q⟩
theorem ve_callT {id : String} {x : Str} {p : Pos} {g : List D → M D} (hc : CallV X c (.type id) g) (hg : Gl X x) (hm : X.mg x = none) (hv : bootBuiltins x = some (.type id)) (ha : VL X c W (e :: es) fl)
    (hp : ∀ r t, CallR X (.type id) r → PA X (e :: es) t → PE X (.Call (.Name x p) (e :: es) [] pos) (fun σ H Q => t σ H fun xs H1 => r xs H1 Q)) : VE X c W (.Call (.Name x p) (e :: es) [] pos) (fun ρ => fl ρ >>= g) := by
  obtain ⟨r, h1, h2⟩ := hc
  exact ⟨PE.weak (hp _ _ h1 ha.pa) fun σ H Q q => callt h2 σ H Q q⟩
def lenD : List D → M D
  | [.str z] => ask (small z.length) >>= fun _ => pure (.int z.length)
  | [.tup xs] => pure (.int xs.length)
  | [.scr xs] => pure (.int xs.length)
  | [x] => readL x >>= fun xs => pure (.int xs.length)
  | _ => stuck
theorem cv_len (hK : X.K = c.K) : CallV X c (.builtin "len") lenD := by
  refine ⟨_, call_len_seq.or call_len_str, fun φ μ H ds vs Q E w r h => ?_⟩
  rw [hK]
  unfold lenD at h
  split at h
  · obtain ⟨v, rfl, r0⟩ := repL1 r
    obtain ⟨hz, h⟩ := wp_ask h
    exact .inr ⟨_, by rw [rep_str r0], of_decide_eq_true hz, wp_pure h w of_int⟩
  · obtain ⟨v, rfl, r0⟩ := repL1 r
    obtain ⟨a, us, rfl, hs, rl⟩ := rep_tup r0
    exact .inl ⟨a, us, rfl, .inr hs, by rw [← rl.len]; exact wp_pure h w of_int⟩
  · obtain ⟨v, rfl, r0⟩ := repL1 r
    obtain ⟨a, us, rfl, hs, rl⟩ := rep_scr r0
    exact .inl ⟨a, us, rfl, .inl hs, by rw [← rl.len]; exact wp_pure h w of_int⟩
  · obtain ⟨v, rfl, r0⟩ := repL1 r
    obtain ⟨xs, a, us, rfl, hs, rl, h⟩ := wp_readL h w r0
    exact .inl ⟨a, us, rfl, .inl (.inl hs), by rw [← rl.len]; exact wp_pure h w of_int⟩
  · exact wp_stuck h
def absD : List D → M D
  | [.int i] => pure (.int (if i < 0 then -i else i))
  | _ => stuck
theorem cv_abs : CallV X c (.builtin "abs") absD := by
  refine ⟨_, call_abs, fun φ μ H ds vs Q E w r h => ?_⟩
  unfold absD at h
  split at h
  · obtain ⟨v, rfl, r0⟩ := repL1 r
    exact ⟨_, by rw [rep_int r0], wp_pure h w of_int⟩
  · exact wp_stuck h
def max2D : List D → M D
  | [.int i, .int j] => pure (.int (if j > i then j else i))
  | _ => stuck
def min2D : List D → M D
  | [.int i, .int j] => pure (.int (if j < i then j else i))
  | _ => stuck
theorem cv_max2 (hc : X.calm = true) : CallV X c (.builtin "max") max2D := by
  refine ⟨_, call_max2 hc, fun φ μ H ds vs Q E w r h => ?_⟩
  unfold max2D at h
  split at h
  · obtain ⟨v, u, rfl, r0, r1⟩ := repL2 r
    exact ⟨_, _, by rw [rep_int r0, rep_int r1], wp_pure h w of_int⟩
  · exact wp_stuck h
theorem cv_min2 (hc : X.calm = true) : CallV X c (.builtin "min") min2D := by
  refine ⟨_, call_min2 hc, fun φ μ H ds vs Q E w r h => ?_⟩
  unfold min2D at h
  split at h
  · obtain ⟨v, u, rfl, r0, r1⟩ := repL2 r
    exact ⟨_, _, by rw [rep_int r0, rep_int r1], wp_pure h w of_int⟩
  · exact wp_stuck h
def intD : List D → M D
  | [.int i] => pure (.int i)
  | [.bl k] => pure (.int (if k then 1 else 0))
  | _ => stuck
theorem cv_int : CallV X c (.type "int") intD := by
  refine ⟨_, call_int1, fun φ μ H ds vs Q E w r h => ?_⟩
  unfold intD at h
  split at h
  · obtain ⟨v, rfl, r0⟩ := repL1 r
    exact .inl ⟨_, by rw [rep_int r0], wp_pure h w of_int⟩
  · obtain ⟨v, rfl, r0⟩ := repL1 r
    exact .inr ⟨_, by rw [rep_bl r0], wp_pure h w of_int⟩
  · exact wp_stuck h
def strD : List D → M D
  | [.int i] => ask (decide (i.natAbs.log2 < 1920)) >>= fun _ => pure (.str (toString i))
  | _ => stuck
theorem cv_str : CallV X c (.type "str") strD := by
  refine ⟨_, call_str_int, fun φ μ H ds vs Q E w r h => ?_⟩
  unfold strD at h
  split at h
  · obtain ⟨v, rfl, r0⟩ := repL1 r
    obtain ⟨hz, h⟩ := wp_ask h
    exact ⟨_, by rw [rep_int r0], of_decide_eq_true hz, wp_pure h w of_str⟩
  · exact wp_stuck h
def tupleD : List D → M D
  | [.tup xs] => pure (.tup xs)
  | [x] => readL x >>= fun xs => pure (.tup xs)
  | _ => stuck
theorem cv_tuple (hK : X.K = c.K) : CallV X c (.type "tuple") tupleD := by
  refine ⟨_, call_tuple_of, fun φ μ H ds vs Q E w r h => ?_⟩
  rw [hK]
  unfold tupleD at h
  split at h
  · obtain ⟨v, rfl, r0⟩ := repL1 r
    have r1 := r0
    obtain ⟨a, us, rfl, hs, rl⟩ := rep_tup r0
    exact ⟨a, us, rfl, .inr ⟨hs, wp_pure h w r1⟩⟩
  · obtain ⟨v, rfl, r0⟩ := repL1 r
    obtain ⟨xs, a, us, rfl, hs, rl, h⟩ := wp_readL h w r0
    exact ⟨a, us, rfl, .inl ⟨.inl hs, fun p np => wp_pureL h (Later.laid w np) (w.laid np) (tup_new w np rl)⟩⟩
  · exact wp_stuck h
def boolsOf : List D → Option (List Bool)
  | [] => some []
  | .bl b :: r => (boolsOf r).map (b :: ·)
  | _ => none
theorem bools_of : ∀ {ds : List D} {vs : List V} {bs : List Bool}, RepL c φ H ds vs → boolsOf ds = some bs → vs = bs.map V.bl
  | [], vs, bs, r, e => by simp only [RepL] at r; cases e; exact r
  | d :: ds, vs, bs, r, e => by
    simp only [RepL] at r
    obtain ⟨v, rest, rfl, r1, r2⟩ := r
    cases d with
    | bl b =>
      simp only [boolsOf, Option.map_eq_some_iff] at e
      obtain ⟨bs', e, rfl⟩ := e
      rw [rep_bl r1, bools_of r2 e]
      rfl
    | _ => simp [boolsOf] at e
def allD (p : List Bool → Bool) : List D → M D
  | [x] => readL x >>= fun xs => match boolsOf xs with
    | some bs => pure (.bl (p bs))
    | none => stuck
  | _ => stuck
theorem cv_all (hK : X.K = c.K) (hc : X.calm = true) : CallV X c (.builtin "all") (allD fun bs => bs.all id) := by
  refine ⟨_, cr_all hc, fun φ μ H ds vs Q E w r h => ?_⟩
  rw [hK]
  unfold allD at h
  split at h
  · obtain ⟨v, rfl, r0⟩ := repL1 r
    obtain ⟨xs, a, us, rfl, hs, rl, h⟩ := wp_readL h w r0
    split at h
    · rename_i bs hb
      exact ⟨a, bs, rfl, by rw [← bools_of rl hb]; exact .inl hs, wp_pure h w of_bl⟩
    · exact wp_stuck h
  · exact wp_stuck h
def tyName : D → Option String
  | .non => some "NoneType"
  | .bl _ => some "bool"
  | .int _ => some "int"
  | .str _ => some "str"
  | .tup _ => some "tuple"
  | .lst _ => some "list"
  | .dct _ _ => some "dict"
  | _ => none
theorem tyx_of {d : D} {v : V} {n : String} (r : Rep c φ H d v) (h : tyName d = some n) : TyX c.K H v (.type n) := by
  cases d with
  | non => cases h; rw [rep_non r]; exact .base .non
  | bl b => cases h; rw [rep_bl r]; exact .base (.bl b)
  | int i => cases h; rw [rep_int r]; exact .base (.int i)
  | str z => cases h; rw [rep_str r]; exact .base (.str z)
  | tup xs =>
    cases h
    obtain ⟨a, vs, rfl, hs, rl⟩ := rep_tup r
    rcases hs with (h | ⟨o, h⟩) | ⟨o, its, n, h1, h2, _⟩
    · exact .base (.tup h)
    · exact .fTuple h
    · exact .kTuple h1 h2
  | lst xs =>
    cases h
    obtain ⟨a, vs, rfl, hs, rl⟩ := rep_lst r
    rcases hs with h | ⟨o, h⟩
    · exact .base (.lst h)
    · exact .base (.frz h)
  | dct ks xs =>
    cases h
    simp only [Rep] at r
    obtain ⟨a, vs, rfl, ⟨o, h⟩, _⟩ := r
    exact .fDict h
  | _ => cases h
def isiD : List D → M D
  | [.ptr k, .ty T] => readL (.ptr k) >>= fun _ => match kitB "list" T with
    | some b => pure (.bl b)
    | none => stuck
  | [x, .ty T] => match tyName x with
    | some n => match kitB n T with
      | some b => pure (.bl b)
      | none => stuck
    | none => stuck
  | _ => stuck
theorem cv_isi (hK : X.K = c.K) : CallV X c (.builtin "isinstance") isiD := by
  refine ⟨_, call_isi, fun φ μ H ds vs Q E w r h => ?_⟩
  rw [hK]
  unfold isiD at h
  split at h
  · obtain ⟨v, u, rfl, r0, r1⟩ := repL2 r
    obtain ⟨xs, a, us, rfl, hs, rl, h⟩ := wp_readL h w r0
    simp only [Rep] at r1
    subst r1
    split at h
    · rename_i b hb
      refine ⟨_, _, .type "list", _, b, rfl, .ty _, ?_, kit_ty hb, wp_pure h w of_bl⟩
      rcases hs with h | ⟨o, h⟩
      · exact .base (.lst h)
      · exact .base (.frz h)
    · exact wp_stuck h
  · obtain ⟨v, u, rfl, r0, r1⟩ := repL2 r
    simp only [Rep] at r1
    subst r1
    split at h
    · rename_i n hn
      split at h
      · rename_i b hb
        exact ⟨_, _, .type n, _, b, rfl, .ty _, tyx_of r0 hn, kit_ty hb, wp_pure h w of_bl⟩
      · exact wp_stuck h
    · exact wp_stuck h
  · exact wp_stuck h
/-- a def's promise: m tells what it gives -/
def spD (c : Cn) (n : Nat) (m : List D → M D) : Sp := fun vs H Q E => vs.length = n ∧ ∃ φ μ ds, WOk c φ μ H ∧ RepL c φ H ds vs ∧ wpM c (Rep c) (m ds) φ μ H Q E
def runF (n : Nat) (s : Env → M Flow) (ds : List D) : M D := fun μ => match s (ds.map some ++ List.replicate (n - ds.length) none) μ with
  | .ok (.rt d) μ' => .ok d μ'
  | .ok (.nx _) μ' => .ok .non μ'
  | .ok (.xc _ e) μ' => .exn e μ'
  | _ => .stuck
theorem repE_start (h0 : c.ini = none) : ∀ {ds : List D} {vs : List V} (n : Nat), RepL c φ H ds vs → RepE c φ H (ds.map some ++ List.replicate (n - ds.length) none) (vs.map some ++ List.replicate (n - vs.length) none) := fun {ds vs} n r => by
  have hl := r.len
  refine ⟨by simp [hl], fun _ => by simp [hl], fun i d _ e => ?_, fun I e => by rw [h0] at e; cases e⟩
  by_cases hi : i < ds.length
  · rw [List.getElem?_append_left (by simpa using hi), List.getElem?_map] at e
    cases hd : ds[i]? with
    | none => rw [hd] at e; cases e
    | some d' =>
      rw [hd] at e
      simp only [Option.map_some, Option.some.injEq] at e
      subst e
      obtain ⟨v, h1, h2⟩ := r.get hd
      exact ⟨v, by rw [List.getElem?_append_left (by simpa [← hl] using hi), List.getElem?_map, h1]; rfl, h2⟩
  · rw [List.getElem?_append_right (by simpa using Nat.le_of_not_lt hi)] at e
    have := List.mem_of_getElem? e
    rw [List.mem_replicate] at this
    cases this.2
theorem fnv_ok {P : Program} {w : World} {K : PySem.W.Frag} {mg : Str → Option Value} {base : Heap} {x qual : Str} {st : Stmt} {f : Addr} {fd : FuncData} {N ps : List Str} {k : Nat} (F : Fun K x qual st f fd) (h0 : c.ini = none) (S : FnScope N ps (defScope st)) {s : Env → M Flow}
    (hb : ∀ (cdv : Value) (A : Around) (outer : List PySem.Env) (s0 : Shared) (H : Hp) (E : XK), Room k (A.deeper (envOfC qual (defScope st) s0.heap.objs.size f cdv)) →
      VB (cxOf (L2.CX P w) P w K mg base N qual (defScope st) f cdv A outer s0 H E) c (fun cls d _ H => E cls d H) (defBody st) s) : FnOk P w K mg base (L2.CX P w) (k + 1) f fd ps (spD c ps.length (runF N.length s)) := by
  refine F.okX S (fun vs H Q E h => h.1) fun cdv A outer s0 H vs Q E hr h => ⟨_, (hb cdv A outer s0 H E hr).ps, ?_⟩
  obtain ⟨hl, φ, μ, ds, w, r, h⟩ := h
  refine ⟨φ, μ, _, w, repE_start h0 N.length r, ?_⟩
  unfold wpM runF at h
  unfold wpS
  cases hm : s (ds.map some ++ List.replicate (N.length - ds.length) none) μ with
  | ok a μ1 =>
    rw [hm] at h
    cases a with
    | nx ρ => exact fun φ1 H1 σ1 L1 w1 r1 => h φ1 H1 .non (L1.to h0) w1 of_non
    | rt d => exact fun φ1 H1 v L1 w1 r1 => h φ1 H1 v (L1.to h0) w1 r1
    | bk ρ => exact h.elim
    | ct ρ => exact h.elim
    | xc ρ e => exact fun φ1 H1 σ1 k1 d1 L1 w1 _ x1 => h φ1 H1 k1 d1 (L1.to h0) w1 x1
  | exn _ _ => rw [hm] at h; exact h
  | stuck => rw [hm] at h; exact h
def callM (n : Nat) (m : List D → M D) (ds : List D) : M D := ask (ds.length == n) >>= fun _ => m ds
theorem ve_call {k n : Nat} {f : Addr} {fd : FuncData} {ps : List Str} {x : Str} {p : Pos} {m : List D → M D} (F : FnOk X.prog X.w X.K X.mg X.base (L2.CX X.prog X.w) k f fd ps (spD c n m)) (hr : Room k X.A) (hg : Gl X x) (hm : X.mg x = some (.ref f)) (hk : PySem.W.keepIn X.K (.ref f) = true) (hb : Binds X.K fd ps []) (tk : Takes X W)
    (ha : VL X c W (e :: es) fl) (hp : ∀ t, PA X (e :: es) t → PE X (.Call (.Name x p) (e :: es) [] pos) (tCallS (spD c n m) (WE W) t)) : VE X c W (.Call (.Name x p) (e :: es) [] pos) (fun ρ => fl ρ >>= callM n m) :=
  ⟨PE.weak (hp _ ha.pa) fun σ H Q h => by
    obtain ⟨φ, μ, ρ, w, he, h⟩ := h
    refine ⟨φ, μ, ρ, w, he, wp_mono (wp_bind h) fun vs H1 z => ?_⟩
    obtain ⟨φ1, μ1, ds, L1, w1, r1, h1⟩ := z
    obtain ⟨hn, h1⟩ := wp_ask h1
    exact ⟨by rw [← r1.len]; exact eq_of_beq hn, φ1, μ1, ds, w1, r1, h1⟩⟩
end
end VL
namespace OwA
open PySem PySem.Spec PyProof.Rows L2 SlX
/-- a value's type: a slotted instance or another value -/
inductive TyA (K : PySem.W.Frag) (H : Hp) : V → Value → Prop where
  | sl {a C dx : Addr} {vs : List (Option V)} (hs : Slt H a C dx vs) (hc : SCls K C) (hi : SIsi K C) : TyA K H (.ref a) (.ref C)
  | ty {x : V} {t : Value} (h : TyX K H x t) : TyA K H x t
  | bd {a : Addr} {b : Bool} {v : V} {o : Obj} (h : H a = some (.frz o (VL.BDO a b v))) : TyA K H (.ref a) (.type "dict")
section
variable {X : Cx} {CX : CXT} {pins : List (Addr × Obj)} {σ : L2.St} {H : Hp} {s : Shared} {a C dx p g : Addr} {vs : List (Option V)} {f : Str} {n : Nat} {sp spI spL : Sp} {E : XK} {v : V} {u : Value}
theorem tya_kit {x : V} {u t : Value} (I : Inv X pins σ H s) (rx : RelV x u) (ty : TyA X.K H x t) : ∃ P : Heap → Prop, PySem.W.KitX X.K u t P ∧ P s.heap ∧ u ≠ .builtin "__main__.__loader__#opaque" := by
  cases ty with
  | sl hs hc hi =>
    cases rx
    obtain ⟨sl, od, _, J, _⟩ := slt_inst I hs
    exact ⟨_, OwX.kitx_slt hc.ic (hc.get _) hi.ca hi.cn hi.ct hi.cm, J, fun z => nomatch z⟩
  | ty h => exact kit_of I rx h
  | @bd a b v ob ea =>
    cases rx
    obtain ⟨hd, ⟨_, P, w, u, ep, _, o, es, h1, h2, _⟩, _⟩ := (show ObjOk X.prog X.w H s.heap a (.frz ob (VL.BDO a b v)) from I.hok a _ ea)
    exact ⟨_, PySem.W.kitx_dict, ⟨o, h1, h2.1⟩, fun z => nomatch z⟩
theorem kit_self {K : PySem.W.Frag} {t : Value} : PySem.W.kitOne K t t = some true := by
  unfold PySem.W.kitOne
  rw [if_pos (beq_self_eq_true t)]
theorem kit_own {K : PySem.W.Frag} {C : Addr} {t : Value} {b : Bool} (ic : PySem.W.isClsIn K C = true) (ty : PySem.W.typeIn K (.ref C) = some (.type "type")) (h : PySem.W.subIn K t (.ref C) = some b) (ne : (t == Value.ref C) = false) : PySem.W.kitOne K t (.ref C) = some b := by
  unfold PySem.W.kitOne
  rw [if_neg (by rw [ne]; exact Bool.false_ne_true)]
  show (if ((PySem.W.clsIn K C).isSome && PySem.W.typeIn K (.ref C) == some (.type "type")) = true then PySem.W.subIn K t (.ref C) else none) = some b
  rw [if_pos (by rw [ty, show (PySem.W.clsIn K C).isSome = true from ic]; rfl), h]
/-- isinstance(x, c), any x -/
def rIsA (K : PySem.W.Frag) : List V → Hp → VK → Prop := fun xs H Q => ∃ (x c : V) (t u : Value) (b : Bool), xs = [x, c] ∧ ClsV c u ∧ TyA K H x t ∧ PySem.W.kitOne K t u = some b ∧ Q (.bl b) H
theorem call_isA : CallR X (.builtin "isinstance") (rIsA X.K) := by
  intro pins s σ H xs us Q I r h
  obtain ⟨x, c, t, u, b, rfl, k, ty, e, q⟩ := h
  obtain ⟨u1, u2, rfl, r1, r2⟩ := vals2 r
  have e2 := k.eq r2
  subst e2
  obtain ⟨P, Z, p, hx⟩ := tya_kit I r1 ty
  exact PySem.W.kia_one Z I.kIn p e hx fun tk => ⟨.bl b, H, I.tok tk, rfl, q⟩
theorem ifBound_B {prog : Program} {w : World} {A : Around} {EE : Value → Shared → Prop} {name : Str} {id : String} {ox : Obj} {od : Option Obj} {x C : Addr} {K : PySem.W.Frag} {args : List Value} {Q : Option Value → Shared → Prop} (X : K.In s.heap) (I : PySem.W.InstAt s.heap x ox C od) (hs : PySem.W.findIn K (.ref C) name = some (some (.builtin id)))
    (hb : ∀ self, bindSpecial (.builtin id) self = pure (.builtin id, [self])) (h : wpAny (model prog w) A (call (.builtin id) (.ref x :: args)) (fun v => Q (some v)) EE s) : wpAny (model prog w) A (callSpecialIfBound? (.ref x) name args) Q EE s := by
  simp only [callSpecialIfBound?, bindSpecialIfBound?]
  refine wpAny_holding (wpAny_bind (wpAny_bind (wpAny_bind (I.type.here ((PySem.W.looks_findIn X hs).here ?_)))))
  simp only [hb]
  refine wpAny_bind (wpAny_askSetting (wpAny_ite ?_))
  have fin : wpAny (model prog w) A (call (.builtin id) ([.ref x] ++ args) >>= fun v => pure (some v)) Q EE s := wpAny_bind (wpAny_mono h (fun v s' h' => wpAny_pure h') fun _ _ h' => h')
  split
  · exact wpAny_bind (wpAny_pure (wpAny_pure fin))
  · exact wpAny_tryCatch (wpAny_bind (wpAny_pure (wpAny_pure fin)))
/-- x != y by x's own __eq__ -/
def rNeA (K : PySem.W.Frag) (C : Addr) (sp : Sp) (E : XK) : R2 := fun x y H Q => ∃ a dx vs t, x = .ref a ∧ Slt H a C dx vs ∧ TyA K H y t ∧ PySem.W.notFirst K C t = true ∧ sp [x, y] H (fun z H' => ∃ b, z = .bl b ∧ Q (.bl (!b)) H') E
theorem op_neA (hs : PySem.W.findIn X.K (.ref C) "__eq__" = some (some (.ref g))) (hf : PySem.W.isFn X.K (.ref g) = true) (hne : PySem.W.findIn X.K (.ref C) "__ne__" = some (some (.builtin "object.__ne__"))) (hm : PySem.W.mroIn X.K C (.type "object") = some true)
    (F : FnR X.prog X.w X.K X.mg X.base CX n g sp) (hr : Room (n + 1) X.A) (hx : Passes CX X E) : OpR X (compareOp .NotEq) (rNeA X.K C sp E) := by
  intro pins s σ H x y v u Q I rx ry h
  obtain ⟨a, dx, vs, t, rfl, ha, ty, hn, q⟩ := h
  cases (show v = Value.ref a from rx)
  obtain ⟨sl, od, _, J, _⟩ := slt_inst I ha
  obtain ⟨P, Z, hp, _⟩ := tya_kit I ry ty
  have hr1 : Room n X.A.in1 := hr.in1
  have body : wpAny (model X.prog X.w) X.A (tryCompare (.ref a) "__ne__" u) (fun r s' => ∃ v, r = some v ∧ EP X pins σ Q v s') X.xe s := by
    unfold tryCompare
    refine wpAny_bind (ifBound_B (name := "__ne__") I.kIn J hne PySem.F.cmp_object.ne.bind ?_)
    refine wpAny_call (codeAny_call_builtin PySem.F.cmp_object.ne.plain PySem.F.cmpEntry_ne (PySem.W.check_slot (i := "object.__ne__") (owner := "object") (n := "__ne__") (by decide +kernel) (by decide +kernel) (J.type.andThen (PySem.W.looks_mroIn I.kIn hm)) (PySem.F.cmpArgs_ne _ _) ?_))
    unfold Builtin.«object.__ne__»
    refine wpAny_bind (wpAny_pure ?_)
    refine wpAny_bind (m := cRoomFor _ _) (wpAny_cRoomFor hr1.units0 ?_)
    refine wpAny_bind (m := callSpecialIfBound? (.ref a) (Str.ofString "__eq__") [u]) (PySem.W.ifBound_K I.kIn J hs hf ?_)
    refine wpAny_mono (wpAny_call (run_at (us := [.ref a, u]) (ws := [.ref a, y]) F hr1 I.env0.in1 hx I (.cons rfl (.cons ry .nil)) q)) (fun w s' z => ?_) fun _ _ x => x
    obtain ⟨z', H', I', rz, b, eb, qz⟩ := z
    subst eb
    cases rz
    refine wpAny_bind (wpAny_truthy_bool ?_)
    exact wpAny_pure (wpAny_pure ⟨_, rfl, .bl (!b), H', I', rfl, qz⟩)
  show wpAny _ _ (richCompare .NotEq (.ref a) u) _ _ _
  unfold richCompare
  simp only [oneThing_ref]
  refine wpAny_holding (wpAny_bind (wpAny_cRoomFor hr.units0 ?_))
  refine wpAny_bind (J.type.here (wpAny_bind ((Z.ty _ _ I.kIn hp).here ?_)))
  split
  · rename_i qq
    have e : PySem.W.subIn X.K t (.ref C) = some false := by
      rcases Bool.or_eq_true_iff.mp hn with e | e
      · rw [beq_iff_eq.mp e] at qq; simp at qq
      · exact beq_iff_eq.mp e
    refine wpAny_bind ((PySem.W.looks_subIn I.kIn e).here ?_)
    simp only [Bool.false_eq_true, if_false]
    refine wpAny_bind (wpAny_mono body (fun r s' z => ?_) fun _ _ e => e)
    obtain ⟨v, rfl, hq⟩ := z
    exact wpAny_pure hq
  · refine wpAny_bind (wpAny_pure ?_)
    simp only [Bool.false_eq_true, if_false]
    refine wpAny_bind (wpAny_mono body (fun r s' z => ?_) fun _ _ e => e)
    obtain ⟨v, rfl, hq⟩ := z
    exact wpAny_pure hq
end
section
variable {X : Cx} {CX : CXT} {pins : List (Addr × Obj)} {σ : L2.St} {H : Hp} {s : Shared} {a C dx p fi fl it l q : Addr} {vs : List (Option V)} {n : Nat} {spI spL : Sp} {E : XK} {A1 : Around}
end
end OwA
namespace VL
open PySem PySem.Spec PyProof.Rows L2 LamX
section
variable {X : Cx} {c : Cn} {W : WX} {φ φ' : Phi} {H H' : Hp} {μ μ' : Mem} {ρ : Env} {σ : L2.St} {D0 : Ends} {pos : Pos} {e : Expr} {es : List Expr} {f g : Env → M D} {fl : Env → M (List D)}
def set2 (ρ : Env) (i j : Nat) (ds : List D) : M Flow := match ds with
  | [a, b] => pure (.nx ((ρ.set i (some a)).set j (some b)))
  | _ => stuck
def set3 (ρ : Env) (i j l : Nat) (ds : List D) : M Flow := match ds with
  | [a, b, d] => pure (.nx (((ρ.set i (some a)).set j (some b)).set l (some d)))
  | _ => stuck
theorem repL3 {vs : List V} {d e b : D} (r : RepL c φ H [d, e, b] vs) : ∃ v u w, vs = [v, u, w] ∧ Rep c φ H d v ∧ Rep c φ H e u ∧ Rep c φ H b w := by
  simp only [RepL] at r
  obtain ⟨v, rest, rfl, r1, u, r2, rfl, r3, w, r4, rfl, r5, rfl⟩ := r
  exact ⟨v, u, w, rfl, r1, r3, r5⟩
theorem vs_par {st : Stmt} {i j : Nat} (hi : c.lo i ∧ (c.ini ≠ none → i ≠ 0)) (hj : c.lo j ∧ (c.ini ≠ none → j ≠ 0)) (ha : VL X c W es fl) (hp : ∀ ta, PA X es ta → PS X st (tPar i j ta)) : VS X c W st (fun ρ => liftS ρ (fl ρ) fun ds => set2 ρ i j ds) :=
  ⟨PS.weak (hp _ ha.pa) fun D σ H h => by
    obtain ⟨φ, μ, ρ, w, he, h⟩ := h
    refine ⟨φ, μ, ρ, w, he, wp_mono (wpS_lift (R := RepL c) h he) fun vs H1 z => ?_⟩
    obtain ⟨φ1, μ1, ds, L, w1, r, h1⟩ := z
    unfold set2 at h1
    split at h1
    · obtain ⟨v, u, rfl, r1, r2⟩ := repL2 r
      exact ⟨v, u, rfl, wpS_nx h1 w1 (((he.later L).set i hi.1 hi.2 r1).set j hj.1 hj.2 r2)⟩
    · exact h1.elim⟩
theorem vs_par3 {st : Stmt} {i j l : Nat} (hi : c.lo i ∧ (c.ini ≠ none → i ≠ 0)) (hj : c.lo j ∧ (c.ini ≠ none → j ≠ 0)) (hl : c.lo l ∧ (c.ini ≠ none → l ≠ 0)) (ha : VL X c W es fl) (hp : ∀ ta, PA X es ta → PS X st (tPar3 i j l ta)) : VS X c W st (fun ρ => liftS ρ (fl ρ) fun ds => set3 ρ i j l ds) :=
  ⟨PS.weak (hp _ ha.pa) fun D σ H h => by
    obtain ⟨φ, μ, ρ, w, he, h⟩ := h
    refine ⟨φ, μ, ρ, w, he, wp_mono (wpS_lift (R := RepL c) h he) fun vs H1 z => ?_⟩
    obtain ⟨φ1, μ1, ds, L, w1, r, h1⟩ := z
    unfold set3 at h1
    split at h1
    · obtain ⟨v, u, x, rfl, r1, r2, r3⟩ := repL3 r
      exact ⟨v, u, x, rfl, wpS_nx h1 w1 ((((he.later L).set i hi.1 hi.2 r1).set j hj.1 hj.2 r2).set l hl.1 hl.2 r3)⟩
    · exact h1.elim⟩
def seqOf : D → M (List D)
  | .tup xs => pure xs
  | x => readL x
theorem vl_star {p : Pos} (hK : X.K = c.K) (ha : VE X c W e f) (hr : VL X c W es fl) (hs : starEach (.Starred e p :: es) X.env = (true, eval e X.env) :: starEach es X.env := by rfl) : VL X c W (.Starred e p :: es) (fun ρ => f ρ >>= fun x => seqOf x >>= fun xs => fl ρ >>= fun ys => pure (xs ++ ys)) :=
  ⟨PA.weak (StX.pa_star ha.pe hr.pa hs) fun σ H Q h => by
    obtain ⟨φ, μ, ρ, w, he, h⟩ := h
    refine ⟨φ, μ, ρ, w, he, wp_mono (wp_bind h) fun x H1 y => ?_⟩
    obtain ⟨φ1, μ1, d1, L1, w1, r1, h1⟩ := y
    rw [hK]
    have fin : ∀ (xs : List D) (vs : List V), RepL c φ1 H1 xs vs → wpM c (RepL c) (fl ρ >>= fun ys => pure (xs ++ ys)) φ1 μ1 H1 Q (wEx W σ) → tL c W fl σ H1 (fun ys H2 => Q (vs ++ ys) H2) := fun xs vs rl h => by
      refine ⟨φ1, μ1, ρ, w1, he.later L1, wp_mono (wp_bind h) fun ys H2 y => ?_⟩
      obtain ⟨φ2, μ2, d2, L2, w2, r2, h2⟩ := y
      exact wp_pure h2 w2 ((rl.later L2.toKeep).app r2)
    have lists : wpM c (RepL c) (readL d1 >>= fun xs => fl ρ >>= fun ys => pure (xs ++ ys)) φ1 μ1 H1 Q (wEx W σ) → ∃ p xs, x = V.ref p ∧ (SqT c.K H1 p xs ∨ SqL c.K H1 p xs) ∧ tL c W fl σ H1 (fun ys H2 => Q (xs ++ ys) H2) := fun h => by
      obtain ⟨xs, a, vs, rfl, hs, rl, h⟩ := wp_readL h w1 r1
      exact ⟨a, vs, rfl, .inr (.inl hs), fin xs vs rl h⟩
    cases d1 with
    | tup xs =>
      obtain ⟨a, vs, rfl, hs, rl⟩ := rep_tup r1
      exact ⟨a, vs, rfl, .inl hs, fin xs vs rl h1⟩
    | _ => exact lists h1⟩
theorem chainR {a b d : Expr} {h : Env → M D} {k k' : D → D → M D} {r r' : R2} (hr : ∀ φ μ H x y vx vy Q E, WOk c φ μ H → Rep c φ H x vx → Rep c φ H y vy → wpM c (Rep c) (k x y) φ μ H Q E → r vx vy H Q)
    (hr' : ∀ φ μ H x y vx vy Q E, WOk c φ μ H → Rep c φ H x vx → Rep c φ H y vy → wpM c (Rep c) (k' x y) φ μ H Q E → r' vx vy H Q) (σ : L2.St) (H : Hp) (Q : VK)
    (h0 : tV c W (fun ρ => f ρ >>= fun x => g ρ >>= fun y => andD (k x y) (h ρ >>= fun z => k' y z)) σ H Q) : tChain r r' (tV c W f) (tV c W g) (tV c W h) σ H Q := by
  obtain ⟨φ, μ, ρ, w, he, h0⟩ := h0
  refine ⟨φ, μ, ρ, w, he, wp_mono (wp_bind h0) fun x H1 z => ?_⟩
  obtain ⟨φ1, μ1, d1, L1, w1, r1, h1⟩ := z
  refine ⟨φ1, μ1, ρ, w1, he.later L1, wp_mono (wp_bind h1) fun y H2 z => ?_⟩
  obtain ⟨φ2, μ2, d2, L2, w2, r2, h2⟩ := z
  refine hr φ2 μ2 H2 d1 d2 x y _ _ w2 (r1.later L2.toKeep) r2 (wp_mono (wp_bind h2) fun z H3 q => ?_)
  obtain ⟨φ3, μ3, d3, L3, w3, r3, h3⟩ := q
  cases d3 with
  | bl b =>
    cases b with
    | false => exact ⟨false, rep_bl r3, by rw [if_neg Bool.false_ne_true]; exact wp_pure h3 w3 of_bl⟩
    | true =>
      refine ⟨true, rep_bl r3, ?_⟩
      rw [if_pos rfl]
      refine ⟨φ3, μ3, ρ, w3, ((he.later L1).later L2).later L3, wp_mono (wp_bind h3) fun u H4 q => ?_⟩
      obtain ⟨φ4, μ4, d4, L4, w4, r4, h4⟩ := q
      exact hr' φ4 μ4 H4 d2 d4 y u _ _ w4 ((r2.later L3.toKeep).later L4.toKeep) r4 h4
  | _ => exact wp_stuck h3
theorem ve_chain {a b d : Expr} {h : Env → M D} {op op' : CmpOp} {k k' : D → D → M D} (ho : OpV X c (compareOp op) k) (ho' : OpV X c (compareOp op') k') (ha : VE X c W a f) (hb : VE X c W b g) (hd : VE X c W d h)
    (hp : ∀ r r' ta tb tc, OpR X (compareOp op) r → OpR X (compareOp op') r' → PE X a ta → PE X b tb → PE X d tc → PE X (.Compare a [op, op'] [b, d] pos) (tChain r r' ta tb tc)) :
    VE X c W (.Compare a [op, op'] [b, d] pos) (fun ρ => f ρ >>= fun x => g ρ >>= fun y => andD (k x y) (h ρ >>= fun z => k' y z)) := by
  obtain ⟨r, h1, h2⟩ := ho
  obtain ⟨r', h1', h2'⟩ := ho'
  exact ⟨PE.weak (hp _ _ _ _ _ h1 h1' ha.pe hb.pe hd.pe) fun σ H Q q => chainR (a := a) (b := b) (d := d) h2 h2' σ H Q q⟩
theorem vt_chain {a b d : Expr} {h : Env → M D} {op op' : CmpOp} {k k' : D → D → M D} (ho : OpV X c (compareOp op) k) (ho' : OpV X c (compareOp op') k') (ha : VE X c W a f) (hb : VE X c W b g) (hd : VE X c W d h)
    (hp : ∀ r r' ta tb tc, OpR X (compareOp op) r → OpR X (compareOp op') r' → PE X a ta → PE X b tb → PE X d tc → PT X (.Compare a [op, op'] [b, d] pos) (tTest (tChain r r' ta tb tc))) :
    VT X c W (.Compare a [op, op'] [b, d] pos) (fun ρ => (f ρ >>= fun x => g ρ >>= fun y => andD (k x y) (h ρ >>= fun z => k' y z)) >>= asB) := by
  obtain ⟨r, h1, h2⟩ := ho
  obtain ⟨r', h1', h2'⟩ := ho'
  exact ⟨PT.weak (hp _ _ _ _ _ h1 h1' ha.pe hb.pe hd.pe) fun σ H Q q => chainR (a := a) (b := b) (d := d) (W := W) (f := f) (g := g) (h := h) h2 h2' σ H _ (tT_of σ H Q q)⟩
end
end VL
namespace VL
open PySem PySem.Spec PyProof.Rows L2 LamX
section
variable {X : Cx} {c : Cn} {W : WX} {φ φ' : Phi} {H H' : Hp} {μ μ' : Mem} {ρ : Env} {σ : L2.St} {D0 : Ends} {pos : Pos} {e : Expr} {es : List Expr} {f g : Env → M D} {fl : Env → M (List D)}
theorem pass_no : Passes (L2.CX X.prog X.w) X (fun _ _ _ => False) := fun _ _ _ _ _ _ _ c => by
  obtain ⟨_, _, _, _, _, _, _, _, _, _, _, _, h⟩ := c
  exact h.elim
theorem pass_no2 : ∀ (H : Hp) (s : Shared) (e : Value) (s' : Shared), L2.CX X.prog X.w X.stack H s (fun _ _ _ => False) e s' → False := fun _ _ _ _ c => by
  obtain ⟨_, _, _, _, _, _, _, _, _, _, _, _, h⟩ := c
  exact h
/-- where a field stands, by the class -/
inductive SlT (K : PySem.W.Frag) (cl : String → Addr) (f : Str) : List (String × Nat) → Prop
  | nil : SlT K cl f []
  | cons {C : String} {i : Nat} {p : Addr} {r : List (String × Nat)} (hc : SlX.SCls K (cl C)) (hs : SlX.Slot1 K (cl C) f p i) (t : SlT K cl f r) : SlT K cl f ((C, i) :: r)
theorem SlT.get {K : PySem.W.Frag} {cl : String → Addr} {f : Str} : ∀ {t : List (String × Nat)} {C : String} {i : Nat}, SlT K cl f t → t.lookup C = some i → SlX.SCls K (cl C) ∧ ∃ p, SlX.Slot1 K (cl C) f p i
  | _, _, _, .nil, h => by cases h
  | _, C, i, .cons (C := C') hc hs t, h => by
    rw [List.lookup_cons] at h
    split at h
    · rename_i e
      cases h
      rw [eq_of_beq e]
      exact ⟨hc, _, hs⟩
    · exact t.get h
def attrM (t : List (String × Nat)) (d : D) : M D := match d with
  | .ins C fs => match t.lookup C with
    | some i => match fs[i]? with
      | some x => pure x
      | none => stuck
    | none => stuck
  | _ => stuck
theorem ve_attr {a : Str} {t : List (String × Nat)} (hK : X.K = c.K) (hT : SlT c.K c.cl a t) (h : VE X c W e f) (hb : attributeBase e a X.env (eval e X.env) = eval e X.env := by rfl) : VE X c W (.Attribute e a pos) (fun ρ => f ρ >>= attrM t) :=
  ⟨PE.weak (SlX.pe_sl h.pe hb) fun σ H Q q => by
    refine one (r := fun x H1 Q => ∃ a' C dx p vs i v, x = .ref a' ∧ SlX.Slt H1 a' C dx vs ∧ SlX.SCls X.K C ∧ SlX.Slot1 X.K C a p i ∧ vs[i]? = some (some v) ∧ Q v H1) (fun φ μ H x vx Q E w r h => ?_) σ H Q q
    rw [hK]
    unfold attrM at h
    split at h
    · rename_i C fs
      split at h
      · rename_i i hi
        split at h
        · rename_i d hd
          obtain ⟨h1, p, h2⟩ := hT.get hi
          simp only [Rep] at r
          obtain ⟨a', dx, vs, ws, rfl, hs, hdx, n, m, ew, rl⟩ := r
          obtain ⟨v, hv, rv⟩ := rl.get hd
          exact ⟨a', c.cl C, dx, p, ws, i, v, rfl, hs, h1, h2, ew _ _ hv, wp_pure h w rv⟩
        · exact wp_stuck h
      · exact wp_stuck h
    · exact wp_stuck h⟩
/-- an instance of C -/
def isI (C : String) (d : D) : M Unit := match d with
  | .ins C' _ => ask (C' == C)
  | _ => stuck
theorem wp_isI {α β : Type} {R : Phi → Hp → α → β → Prop} {C : String} {d : D} {v : V} {k : Unit → M α} {Q : β → Hp → Prop} {E : XW} (h : wpM c R (isI C d >>= k) φ μ H Q E) (r : Rep c φ H d v) :
    (∃ a dx vs, v = .ref a ∧ SlX.Slt H a (c.cl C) dx vs) ∧ wpM c R (k ()) φ μ H Q E := by
  unfold isI at h
  split at h
  · obtain ⟨hC, h⟩ := wp_ask h
    simp only [Rep] at r
    obtain ⟨a', dx, vs, ws, rfl, hs, _⟩ := r
    rw [eq_of_beq hC] at hs
    exact ⟨⟨a', dx, ws, rfl, hs⟩, h⟩
  · exact wp_stuck (α := α) (R := R) h
theorem ve_prop {k : Nat} {C : String} {a : Str} {p g : Addr} {fd : FuncData} {ps : List Str} {m : List D → M D} (hK : X.K = c.K) (h : VE X c W e f) (hc : SlX.SCls X.K (c.cl C)) (at_ : PySem.W.findIn X.K (.ref (c.cl C)) a = some (some (.ref p))) (get : PySem.W.specialIn X.K (.ref p) "__get__" = some (some (.builtin "property.__get__")))
    (tk : PySem.W.takesIn X.K (.ref p) = some true) (rc : ∃ rest, PySem.W.recIn X.K p "property" = some (.ref g :: rest)) (F : FnOk X.prog X.w X.K X.mg X.base (L2.CX X.prog X.w) k g fd ps (spD c 1 m)) (hb : Binds X.K fd ps []) (hr : Room (k + 1) X.A)
    (hbs : attributeBase e a X.env (eval e X.env) = eval e X.env := by rfl) : VE X c W (.Attribute e a pos) (fun ρ => f ρ >>= fun x => isI C x >>= fun _ => noX (m [x])) :=
  ⟨PE.weak (SlX.pe_propSl h.pe hc at_ get tk rc (F.raw hb .nil) hr pass_no2 hbs) fun σ H Q q => by
    refine one (r := fun x H1 Q => ∃ a dx vs, x = .ref a ∧ SlX.Slt H1 a (c.cl C) dx vs ∧ spD c 1 m ([.ref a] ++ []) H1 Q (fun _ _ _ => False)) (fun φ μ H x vx Q E w r h => ?_) σ H Q q
    obtain ⟨⟨a', dx, vs, rfl, hs⟩, h⟩ := wp_isI h r
    exact ⟨a', dx, vs, rfl, hs, rfl, φ, μ, [x], w, RepL.one r, wp_noX h⟩⟩
end
end VL
namespace VL
open PySem PySem.Spec PyProof.Rows L2 LamX
abbrev Cn.at (c : Cn) (I : IniC) : Cn := { c with ini := some I }
section
variable {X : Cx} {c : Cn} {I : IniC} {W : WX} {φ φ' : Phi} {H H' : Hp} {μ μ' : Mem} {ρ : Env} {σ : L2.St} {D0 : Ends} {pos : Pos} {e : Expr} {es : List Expr} {f g : Env → M D} {fl : Env → M (List D)}
mutual
theorem Rep.at_ : ∀ (d : D) (v : V), Rep (c.at I) φ H d v ↔ Rep c φ H d v
  | .non, _ => by simp only [Rep]
  | .bl _, _ => by simp only [Rep]
  | .int _, _ => by simp only [Rep]
  | .str _, _ => by simp only [Rep]
  | .ty _, _ => by simp only [Rep]
  | .cls _, _ => by simp only [Rep]
  | .fn _, _ => by simp only [Rep]
  | .ptr _, _ => by simp only [Rep]
  | .tup ds, v => by simp only [Rep, RepL.at_ ds]
  | .lst ds, v => by simp only [Rep, RepL.at_ ds]
  | .scr ds, v => by simp only [Rep, RepL.at_ ds]
  | .dct ks ds, v => by simp only [Rep, RepL.at_ ds]
  | .bdct b d, v => by simp only [Rep, Rep.at_ d]
  | .ins C fs, v => by simp only [Rep, RepL.at_ fs]
theorem RepL.at_ : ∀ (ds : List D) (vs : List V), RepL (c.at I) φ H ds vs ↔ RepL c φ H ds vs
  | [], _ => by simp only [RepL]
  | d :: ds, vs => by simp only [RepL, Rep.at_ d, RepL.at_ ds]
end
theorem CellOk.at_ {e : Ent} {x : Cell} : CellOk (c.at I) φ H e x ↔ CellOk c φ H e x := by
  cases x with
  | lst ds => simp only [CellOk, RepL.at_]
  | dct ks ds => simp only [CellOk, RepL.at_]
  | fdct ks ds => simp only [CellOk, RepL.at_]
  | ins C fs => simp only [CellOk, RepL.at_] <;> rfl
theorem WOk.at_ : WOk (c.at I) φ μ H ↔ WOk c φ μ H := by
  constructor
  · exact fun w => ⟨w.len, fun k e h => by obtain ⟨x, h1, h2⟩ := w.cell k e h; exact ⟨x, h1, CellOk.at_.mp h2⟩, w.hid, w.inj, w.tabs⟩
  · exact fun w => ⟨w.len, fun k e h => by obtain ⟨x, h1, h2⟩ := w.cell k e h; exact ⟨x, h1, CellOk.at_.mpr h2⟩, w.hid, w.inj, w.tabs⟩
theorem RepX.at_ {x : Exn} {k : Value} {d : Option Addr} : RepX (c.at I) φ H x k d ↔ RepX c φ H x k d := by
  unfold RepX
  obtain ⟨n, a⟩ := x
  cases a with
  | none => rfl
  | some a => simp only [Rep.at_]
/-- what an __init__ leaves: its fields -/
def runI (n k : Nat) (s : Env → M Flow) (ds : List D) : M (List D) := fun μ => match s (none :: ds.map some ++ List.replicate (n - (ds.length + 1)) none ++ List.replicate k none) μ with
  | .ok (.nx ρ) μ' => match (ρ.drop n).mapM id with
    | some fs => .ok fs μ'
    | none => .stuck
  | .ok (.xc _ e) μ' => .exn e μ'
  | _ => .stuck
def wpI (c : Cn) (C : String) (x dx : Addr) (m : M (List D)) (φ : Phi) (μ : Mem) (H : Hp) (Q : VK) (E : XW) : Prop := match m μ with
  | .ok fs μ' => ∀ φ' H', LaterS (c.at ⟨x, dx, C, 0⟩) φ H φ' H' → WOk c φ' μ' H' → (∃ ws vs, SlX.Slt H' x (c.cl C) dx ws ∧ (∀ (i : Nat) (v : V), vs[i]? = some v → ws[i]? = some (some v)) ∧ RepL c φ' H' fs vs) → Q .non H'
  | .exn e μ' => ∀ φ' H' k d, LaterS (c.at ⟨x, dx, C, 0⟩) φ H φ' H' → WOk c φ' μ' H' → RepX c φ' H' e k d → E k d H'
  | .stuck => False
def spI (c : Cn) (C : String) (n : Nat) (m : List D → M (List D)) : Sp := fun vs H Q E => vs.length = n ∧ ∃ x dx us φ μ ds, vs = .ref x :: us ∧ dx ≠ x ∧ H x = some (.ins (c.cl C) dx []) ∧ H dx = some (.own x) ∧ x ∈ φ.hid ∧ dx ∈ φ.hid ∧ WOk c φ μ H ∧ RepL c φ H ds us ∧ wpI c C x dx (m ds) φ μ H Q E
theorem fields_of {ws : List (Option V)} : ∀ {fs : List D}, (∀ (j : Nat) (d : D), fs[j]? = some d → ∃ v, ws[j]? = some (some v) ∧ Rep c φ H d v) → ∃ vs, (∀ (i : Nat) (v : V), vs[i]? = some v → ws[i]? = some (some v)) ∧ RepL c φ H fs vs := by
  intro fs
  induction fs generalizing ws with
  | nil => exact fun _ => ⟨[], fun i v h => by simp at h, by simp only [RepL]⟩
  | cons d fs ih =>
    intro h
    obtain ⟨v, h1, h2⟩ := h 0 d rfl
    cases ws with
    | nil => simp at h1
    | cons o ws =>
      simp at h1
      subst h1
      obtain ⟨vs, h3, h4⟩ := ih (ws := ws) fun j d' e => by simpa using h (j + 1) d' (by simpa using e)
      refine ⟨v :: vs, fun i u q => ?_, by simp only [RepL]; exact ⟨v, vs, rfl, h2, h4⟩⟩
      cases i with
      | zero => simpa using q
      | succ i => simpa using h3 i u (by simpa using q)
theorem mapM_id : ∀ {xs : List (Option D)} {fs : List D}, xs.mapM id = some fs → ∀ (j : Nat) (d : D), fs[j]? = some d → xs[j]? = some (some d)
  | [], fs, h, j, d, e => by
    simp only [List.mapM_nil] at h
    cases h
    simp at e
  | o :: xs, fs, h, j, d, e => by
    cases o with
    | none => simp [List.mapM_cons] at h
    | some a =>
      simp only [List.mapM_cons, id, Option.bind_eq_bind, Option.bind_some, Option.bind_eq_some_iff] at h
      obtain ⟨r, h1, h2⟩ := h
      cases h2
      cases j with
      | zero => simp at e; subst e; rfl
      | succ j => simpa using mapM_id h1 j d (by simpa using e)
theorem fni_ok {P : Program} {w : World} {K : PySem.W.Frag} {mg : Str → Option Value} {base : Heap} {x qual : Str} {st : Stmt} {f : Addr} {fd : FuncData} {N ps : List Str} {k nf : Nat} {C : String} (F : Fun K x qual st f fd) (hn : ps.length ≤ N.length) (S : FnScope N ps (defScope st)) {s : Env → M Flow}
    (hb : ∀ (a dx : Addr) (cdv : Value) (A : Around) (outer : List PySem.Env) (s0 : Shared) (H : Hp) (E : XK), Room k (A.deeper (envOfC qual (defScope st) s0.heap.objs.size f cdv)) →
      VB (cxOf (L2.CX P w) P w K mg base N qual (defScope st) f cdv A outer s0 H E) (c.at ⟨a, dx, C, N.length⟩) (fun cls d _ H => E cls d H) (defBody st) s) : FnOk P w K mg base (L2.CX P w) (k + 1) f fd ps (spI c C ps.length (runI N.length nf s)) := by
  refine F.okX S (fun vs H Q E h => h.1) fun cdv A outer s0 H vs Q E hr h => ?_
  obtain ⟨hl, a, dx, us, φ, μ, ds, rfl, ne, h1, h2, hx, hd, w, r, h⟩ := h
  refine ⟨_, (hb a dx cdv A outer s0 H E hr).ps, ?_⟩
  have hlen := r.len
  have hlu : us.length + 1 = ps.length := by simpa using hl
  refine ⟨φ, μ, none :: ds.map some ++ List.replicate (N.length - (ds.length + 1)) none ++ List.replicate nf none, WOk.at_.mpr w, ?_, ?_⟩
  · have hσ : (L2.start N (.ref a :: us)).length = N.length := by unfold L2.start; simp; omega
    refine ⟨?_, (fun z => by cases z), fun i d q e => ?_, fun I e => ?_⟩
    · rw [hσ]; simp; omega
    · have hi : i < N.length := q ⟨a, dx, C, N.length⟩ rfl
      cases i with
      | zero => simp at e
      | succ i =>
        have hi2 : i < ds.length := by
          by_cases z : i < ds.length
          · exact z
          · have : (none :: List.map some ds ++ List.replicate (N.length - (ds.length + 1)) none ++ List.replicate nf none : List (Option D))[i + 1]? = some none := by
              rw [List.append_assoc, List.cons_append, List.getElem?_cons_succ, List.getElem?_append_right (by simpa using Nat.le_of_not_lt z), List.replicate_append_replicate, List.getElem?_replicate]
              rw [if_pos (by simp; omega)]
            rw [this] at e
            cases e
        rw [List.append_assoc, List.cons_append, List.getElem?_cons_succ, List.getElem?_append_left (by simpa using hi2), List.getElem?_map] at e
        cases hd' : ds[i]? with
        | none => rw [hd'] at e; cases e
        | some d' =>
          rw [hd'] at e
          simp only [Option.map_some, Option.some.injEq] at e
          subst e
          obtain ⟨v, q1, q2⟩ := r.get hd'
          refine ⟨v, ?_, (Rep.at_ _ _).mpr q2⟩
          unfold L2.start
          rw [List.map_cons, List.cons_append, List.getElem?_cons_succ, List.getElem?_append_left (by simpa [← hlen] using hi2), List.getElem?_map, q1]
          rfl
    · cases e
      refine ⟨hσ, by unfold L2.start; rfl, hx, hd, ne, [], .inl ⟨h1, rfl⟩, fun j d e => ?_⟩
      have : (none :: List.map some ds ++ List.replicate (N.length - (ds.length + 1)) none ++ List.replicate nf none : List (Option D))[N.length + j]? = some (some d) := e
      rw [List.getElem?_append_right (by simp; omega)] at this
      have := List.mem_of_getElem? this
      rw [List.mem_replicate] at this
      cases this.2
  · unfold wpI runI at h
    unfold wpS
    cases hm : s (none :: ds.map some ++ List.replicate (N.length - (ds.length + 1)) none ++ List.replicate nf none) μ with
    | ok fl μ1 =>
      rw [hm] at h
      cases fl with
      | nx ρ =>
        intro φ1 H1 σ1 L1 w1 r1
        simp only at h
        cases hf : (ρ.drop N.length).mapM id with
        | none => rw [hf] at h; exact h.elim
        | some fs =>
          rw [hf] at h
          have hI := r1.ini _ rfl
          obtain ⟨ws, hs, hfs⟩ := hI.fs
          have hfl : ∀ (j : Nat) (d : D), fs[j]? = some d → ∃ v, ws[j]? = some (some v) ∧ Rep c φ1 H1 d v := fun j d e => by
            have q := mapM_id hf j d e
            rw [List.getElem?_drop] at q
            obtain ⟨v, q1, q2⟩ := hfs j d q
            exact ⟨v, q1, (Rep.at_ _ _).mp q2⟩
          obtain ⟨vs, q1, q2⟩ := fields_of hfl
          exact h φ1 H1 ⟨L1.toKeep, L1.len, L1.hid, fun b hb q => L1.hk b hb fun I e => by cases e; exact q ⟨a, dx, C, 0⟩ rfl⟩ (WOk.at_.mp w1) ⟨ws, vs, hs, q1, q2⟩
      | rt d => exact h.elim
      | bk ρ => exact h.elim
      | ct ρ => exact h.elim
      | xc ρ x => exact fun φ1 H1 σ1 k1 d1 L1 w1 _ x1 => h φ1 H1 k1 d1 ⟨L1.toKeep, L1.len, L1.hid, fun b hb q => L1.hk b hb fun I e => by cases e; exact q ⟨a, dx, C, 0⟩ rfl⟩ (WOk.at_.mp w1) (RepX.at_.mp x1)
    | exn _ _ => rw [hm] at h; exact h
    | stuck => rw [hm] at h; exact h
/-- self.a = e -/
theorem vs_self {a self : Str} {j : Nat} {p : Addr} {p2 p3 : Pos} (hI : c.ini = some I) (hK : X.K = c.K) (hc : SlX.SCls c.K (c.cl I.C)) (hs : SlX.Slot1 c.K (c.cl I.C) a p j) (h : VE X c W e f) (hp : ∀ tv, PE X e tv → PS X (.Assign [.Attribute (.Name self p2) a p3] e pos) (SlX.sSl X.K (tVar 0) tv a)) :
    VS X c W (.Assign [.Attribute (.Name self p2) a p3] e pos) (fun ρ => liftS ρ (f ρ) fun d => pure (.nx (ρ.set (I.n + j) (some d)))) :=
  ⟨PS.weak (hp _ h.pe) fun D σ H h => by
    obtain ⟨φ, μ, ρ, w, he, h⟩ := h
    refine ⟨φ, μ, ρ, w, he, wp_mono (wpS_lift (R := Rep c) h he) fun y H1 z => ?_⟩
    obtain ⟨φ1, μ1, d, L, w1, r, h1⟩ := z
    have he1 := he.later L
    have hi := he1.ini I hI
    obtain ⟨vs, hsl, hfs⟩ := hi.fs
    refine ⟨_, hi.self, I.x, c.cl I.C, I.dx, p, vs, j, rfl, hsl, by rw [hK]; exact hc, by rw [hK]; exact hs, ?_⟩
    have ox : own φ1 I.x := .inr hi.hx
    have od : own φ1 I.dx := .inr hi.hd
    have same : ∀ b, ¬ own φ1 b → SlX.slH H1 I.x (c.cl I.C) I.dx (SlX.putS j y vs) b = H1 b := fun b nb => SlX.slH_ne (fun z => nb (z ▸ ox)) (fun z => nb (z ▸ od))
    have K : Keep φ1 H1 φ1 (SlX.slH H1 I.x (c.cl I.C) I.dx (SlX.putS j y vs)) := ⟨fun _ _ q => q, fun b o nb q _ => by rw [same b nb]; exact q, fun b ps nb q => ⟨#[], by rw [same b nb, q]; simp⟩, fun b z nb => absurd z nb⟩
    have LS : LaterS c φ1 H1 φ1 (SlX.slH H1 I.x (c.cl I.C) I.dx (SlX.putS j y vs)) := ⟨K, Nat.le_refl _, rfl, fun b hb q => SlX.slH_ne (q I hI).1 (q I hI).2⟩
    have there : ∀ b, H1 b ≠ none → SlX.slH H1 I.x (c.cl I.C) I.dx (SlX.putS j y vs) b ≠ none := fun b hb => by
      by_cases z : b = I.x
      · rw [z]; unfold SlX.slH; rw [upd_same]; simp
      · by_cases z2 : b = I.dx
        · rw [z2]; unfold SlX.slH; rw [upd_ne hi.ne, upd_same]; simp
        · rw [SlX.slH_ne z z2]; exact hb
    have W2 : WOk c φ1 μ1 (SlX.slH H1 I.x (c.cl I.C) I.dx (SlX.putS j y vs)) := by
      refine ⟨w1.len, fun k e q => ?_, fun b hb => ⟨there b (w1.hid b hb).1, (w1.hid b hb).2⟩, w1.inj, w1.tabs.keep (fun b o nb q => by rw [same b nb]; exact q) fun b z nb => absurd z nb⟩
      obtain ⟨x, q1, q2⟩ := w1.cell k e q
      have nx := (w1.hid _ hi.hx).2
      have nd := (w1.hid _ hi.hd).2
      exact ⟨x, q1, q2.later K (SlX.slH_ne (fun z => nx ⟨k, e, q, .inl z.symm⟩) (fun z => nd ⟨k, e, q, .inl z.symm⟩)) (SlX.slH_ne (fun z => nx ⟨k, e, q, .inr z.symm⟩) (fun z => nd ⟨k, e, q, .inr z.symm⟩))⟩
    refine h1 φ1 _ σ LS W2 ⟨by rw [List.length_set]; exact he1.len, (fun z => by rw [hI] at z; cases z), fun i d' q e => ?_, fun I' e' => ?_⟩
    · have := q I hI
      rw [List.getElem?_set_ne (by omega)] at e
      obtain ⟨v, q1, q2⟩ := he1.at_ i d' q e
      exact ⟨v, q1, q2.later K⟩
    · rw [hI] at e'
      cases e'
      refine ⟨hi.len, hi.self, hi.hx, hi.hd, hi.ne, SlX.putS j y vs, SlX.slH_slt hi.ne, fun j' d' e => ?_⟩
      by_cases z : j' = j
      · subst z
        by_cases hl : I.n + j' < ρ.length
        · rw [List.getElem?_set_self hl] at e
          cases e
          exact ⟨y, SlX.putS_get .., r.later K⟩
        · rw [List.getElem?_eq_none (by rw [List.length_set]; omega)] at e
          cases e
      · rw [List.getElem?_set_ne (by omega)] at e
        obtain ⟨v, q1, q2⟩ := hfs j' d' e
        exact ⟨v, (SlX.putS_ne z).mpr q1, q2.later K⟩⟩
/-- C(..) -/
def newM (C : String) (n : Nat) (m : List D → M (List D)) (ds : List D) : M D := ask (ds.length + 1 == n) >>= fun _ => m ds >>= fun fs => pure (.ins C fs)
theorem make_read {C : String} {n : Nat} {m : List D → M (List D)} {ds : List D} {vs : List V} {Q : VK} {E : XW} (w : WOk c φ μ H) (r : RepL c φ H ds vs) (h : wpM c (Rep c) (newM C n m ds) φ μ H Q E) :
    ∀ x dx, H x = none → H dx = none → dx ≠ x → spI c C n m (.ref x :: vs) (upd (upd H dx (.own x)) x (.ins (c.cl C) dx [])) (fun v H2 => v = .non ∧ Q (.ref x) H2) E := by
  intro x dx nx nd ne
  obtain ⟨hn, h⟩ := wp_ask h
  have hn : ds.length + 1 = n := eq_of_beq hn
  have L1 := Later.laid (o := .own x) w nd
  have w1 := w.laid (o := .own x) nd
  have nx1 : upd H dx (.own x) x = none := by rw [upd_ne (Ne.symm ne)]; exact nx
  have L2' := Later.laid (o := .ins (c.cl C) dx []) w1 nx1
  have w2 := w1.laid (o := .ins (c.cl C) dx []) nx1
  have L := L1.trans L2'
  generalize hH : upd (upd H dx (.own x)) x (.ins (c.cl C) dx []) = H2 at *
  have hx2 : H2 x = some (.ins (c.cl C) dx []) := by rw [← hH]; exact upd_same
  have hd2 : H2 dx = some (.own x) := by rw [← hH, upd_ne ne]; exact upd_same
  have nox := w.new nx
  have nod := w.new nd
  have mem : ∀ b, own ((φ.add x).add dx) b ↔ own φ b ∨ b = x ∨ b = dx := fun b => by rw [own_add, own_add, or_assoc]
  have K0 : Keep φ H ((φ.add x).add dx) H2 := ⟨L.pre, L.kp, L.tb, fun b z nb => by
    rcases (mem b).mp z with z | z | z
    · exact absurd z nb
    · rw [z]; exact nx
    · rw [z]; exact nd⟩
  have wI : WOk c ((φ.add x).add dx) μ H2 := by
    refine ⟨w.len, fun k e q => ?_, fun b hb => ?_, w.inj, w.tabs.keep (fun b o nb q => ?_) K0.fr⟩
    · obtain ⟨y, q1, q2⟩ := w.cell k e q
      have t := q2.there
      refine ⟨y, q1, q2.later K0 ?_ ?_⟩
      · rw [← hH, upd_ne fun z => t.1 (by rw [z]; exact nx), upd_ne fun z => t.1 (by rw [z]; exact nd)]
      · rw [← hH, upd_ne fun z => t.2 (by rw [z]; exact nx), upd_ne fun z => t.2 (by rw [z]; exact nd)]
    · rcases List.mem_cons.mp hb with z | hb
      · rw [z, hd2]; exact ⟨by simp, fun q => nod (.inl q)⟩
      rcases List.mem_cons.mp hb with z | hb
      · rw [z, hx2]; exact ⟨by simp, fun q => nox (.inl q)⟩
      · exact ⟨(w2.hid b hb).1, (w.hid b hb).2⟩
    · rw [← hH, upd_ne (ne_of_none q nx), upd_ne (ne_of_none q nd)]; exact q
  refine ⟨by rw [List.length_cons, ← r.len]; exact hn, x, dx, vs, (φ.add x).add dx, μ, ds, rfl, ne, hx2, hd2, List.mem_cons_of_mem _ List.mem_cons_self, List.mem_cons_self, wI, r.later K0, ?_⟩
  have e1 : (m ds >>= fun fs => (pure (D.ins C fs) : M D)) μ = M.bind (m ds) (fun fs => M.pure (D.ins C fs)) μ := rfl
  unfold wpM at h
  rw [e1] at h
  unfold M.bind M.pure at h
  -- from the inner frame to the outer one
  have out : ∀ φ' H', LaterS (c.at ⟨x, dx, C, 0⟩) ((φ.add x).add dx) H2 φ' H' → ∃ φ3, φ' = (φ3.add x).add dx ∧ Later φ H φ3 H' := fun φ' H' LL => by
    obtain ⟨st, hid⟩ := φ'
    have eh : hid = dx :: x :: φ.hid := LL.hid
    subst eh
    refine ⟨⟨st, φ.hid⟩, rfl, ?_⟩
    have K1 : Keep φ H ⟨st, dx :: x :: φ.hid⟩ H' := K0.trans LL.toKeep
    refine ⟨⟨K1.pre, K1.kp, K1.tb, fun b z nb => K1.fr b ?_ nb⟩, LL.len, rfl, fun b hb => ?_⟩
    · rcases z with z | z
      · exact .inl z
      · exact .inr (List.mem_cons_of_mem _ (List.mem_cons_of_mem _ z))
    · have nbx : b ≠ x := fun z => (w.hid b hb).1 (by rw [z]; exact nx)
      have nbd : b ≠ dx := fun z => (w.hid b hb).1 (by rw [z]; exact nd)
      rw [LL.hk b (List.mem_cons_of_mem _ (List.mem_cons_of_mem _ hb)) fun I e => by cases e; exact ⟨nbx, nbd⟩, ← hH, upd_ne nbx, upd_ne nbd]
  unfold wpI
  cases hm : m ds μ with
  | ok fs μ' =>
    rw [hm] at h
    intro φ' H' LL w' ⟨ws, us, hs, hw, rl⟩
    obtain ⟨φ3, rfl, L3⟩ := out φ' H' LL
    refine ⟨rfl, h φ3 H' (.ref x) L3 w'.less.less ?_⟩
    have hdx : H' dx ≠ none := (w'.hid dx List.mem_cons_self).1
    have n1 : ¬ own φ3 x := fun z => z.elim (w'.hid x (List.mem_cons_of_mem _ List.mem_cons_self)).2 fun z => nox (.inr (by rw [← L3.hid]; exact z))
    have n2 : ¬ own φ3 dx := fun z => z.elim (w'.hid dx List.mem_cons_self).2 fun z => nod (.inr (by rw [← L3.hid]; exact z))
    simp only [Rep]
    exact ⟨x, dx, us, ws, rfl, hs, hdx, n1, n2, hw, rl.less.less⟩
  | exn x' μ' =>
    rw [hm] at h
    intro φ' H' k d LL w' rx
    obtain ⟨φ3, rfl, L3⟩ := out φ' H' LL
    refine h φ3 H' k d L3 w'.less.less ?_
    obtain ⟨r1, r2⟩ := rx
    refine ⟨r1, ?_⟩
    cases ha : x'.arg with
    | none => rw [ha] at r2; exact r2
    | some a =>
      rw [ha] at r2
      obtain ⟨dx', v, q1, q2, q3, q4⟩ := r2
      exact ⟨dx', v, q1, q2, fun z => q3 ((own_add).mpr (.inl (own_add.mpr (.inl z)))), q4.less.less⟩
  | stuck => rw [hm] at h; exact h
theorem run_makeS {k : Nat} {C fa : Addr} {fd : FuncData} {ps : List Str} {sp : Sp} {pins : List (Addr × Obj)} {s : Shared} {Q : VK} {us : List Value} {vs dvs : List V} {ds : List Value} {E : XK} (M : Mk X.K C fa) (F : FnOk X.prog X.w X.K X.mg X.base (L2.CX X.prog X.w) k fa fd ps sp) (hr : Room (k + 1) X.A) (hb : Binds X.K fd ps ds) (hd : Vals dvs ds)
    (hx : PassesAt (L2.CX X.prog X.w) X σ E) (I : Inv X pins σ H s) (r : Vals vs us)
    (h : ∀ x dx, H x = none → H dx = none → dx ≠ x → sp (.ref x :: (vs ++ dvs)) (upd (upd H dx (.own x)) x (.ins C dx [])) (fun v H2 => v = .non ∧ Q (.ref x) H2) E) :
    wpAny (model X.prog X.w) X.A (call (.ref C) us) (EP X pins σ Q) X.xe s := by
  have hq := h (s.heap.objs.size + 1) s.heap.objs.size (I.hok.fresh (Nat.le_succ _)) (I.hok.fresh (Nat.le_refl _)) (Nat.ne_of_lt (Nat.lt_succ_self _))
  have I2 := Inv.made (C := C) I
  have r2 : Vals (V.ref (s.heap.objs.size + 1) :: (vs ++ dvs)) (Value.ref (s.heap.objs.size + 1) :: (us ++ ds)) := .cons rfl (r.append hd)
  have hl : (Value.ref (s.heap.objs.size + 1) :: us ++ ds).length = ps.length := by
    have e := r2.length
    rw [F.len _ _ _ _ hq] at e
    exact e.symm
  refine wpAny_call (make_map (f := fa) I.kIn M.makes M.init (beq_iff_eq.mp M.fn) (codeAny_mono (F.run _ X.stack _ _ ⟨Value.ref (s.heap.objs.size + 1) :: us, []⟩ (Value.ref (s.heap.objs.size + 1) :: (us ++ ds)) _ _ E (hr.make C us [])
    (I2.env0.make C us []) (hb _ (Value.ref (s.heap.objs.size + 1) :: us) I2.kIn hl) r2 hq) fun r s' hq' => ?_))
  cases r with
  | error e => exact hx pins _ _ e s' I2 hq'
  | ok fl =>
    cases fl with
    | ret u =>
      obtain ⟨v, H', I3, rv, ev, q3⟩ := I2.after hq'
      subst ev
      exact ⟨rv, ⟨V.ref (s.heap.objs.size + 1), H', I3, rfl, q3⟩⟩
    | next => exact False.elim hq'
    | brk => exact False.elim hq'
    | cont => exact False.elim hq'
/-- C(e, ..); dds: the defaults that fill up -/
theorem ve_make {k n : Nat} {C : String} {x : Str} {fa : Addr} {fd : FuncData} {ps : List Str} {ds : List Value} {dvs : List V} {dds : List D} {p : Pos} {m : List D → M (List D)} (M0 : Mk X.K (c.cl C) fa) (F : FnOk X.prog X.w X.K X.mg X.base (L2.CX X.prog X.w) k fa fd ps (spI c C n m)) (hr : Room (k + 1) X.A) (hg : Gl X x) (hm : X.mg x = some (.ref (c.cl C))) (hb : Binds X.K fd ps ds) (hd : Vals dvs ds)
    (hdd : ∀ φ H, RepL c φ H dds dvs) (tk : Takes X W) (ha : VL X c W (e :: es) fl) (hdb : (x == ("__debug__" : Str)) = false := by decide) (he : starEach (e :: es) X.env = (false, eval e X.env) :: starEach es X.env := by rfl) (hpl : (backTo pos (starEach es X.env)).any (·.1) = false := by rfl) :
    VE X c W (.Call (.Name x p) (e :: es) [] pos) (fun ρ => fl ρ >>= fun ds => newM C n m (ds ++ dds)) := by
  refine ⟨⟨fun pins s σ H Q I h => ?_⟩⟩
  obtain ⟨φ, μ, ρ, w, hE, h⟩ := h
  refine wpAny_Call_Name_kw (ld_glob I hg hm ?_ hdb)
  refine PySem.W.callWith_K (h₀ := X.base) I.ok.mod.kin M0.kp (thn (ha.pa.run pos pins s σ H _ I ⟨φ, μ, ρ, w, hE, wp_bind h⟩) fun us s1 ⟨vs, H1, I1, r, q⟩ => ⟨I1.kIn, ?_⟩) he hpl
  obtain ⟨φ1, μ1, ds', L1, w1, r1, h1⟩ := q
  exact run_makeS M0 F hr hb hd (passAt tk σ) I1 r (make_read w1 (r1.app (hdd φ1 H1)) h1)
end
end VL
namespace VL
open PySem PySem.Spec PyProof.Rows L2 LamX
section
variable {X : Cx} {c : Cn} {W : WX} {φ φ' : Phi} {H H' : Hp} {μ μ' : Mem} {e : Expr} {es : List Expr} {f g : Env → M D} {fl : Env → M (List D)} {pos : Pos}
def newL (r : List D) : M D := fun μ => .ok (.ptr μ.length) (μ ++ [.lst r])
def Phi.push (φ : Phi) (p : Addr) : Phi := { φ with st := φ.st ++ [some ⟨p, p, none⟩] }
theorem own_push {p b : Addr} : own (φ.push p) b ↔ own φ b ∨ b = p := by
  constructor
  · rintro (⟨k, e, h, z⟩ | h)
    · by_cases hk : k < φ.st.length
      · have h : (φ.st ++ [some ⟨p, p, none⟩])[k]? = some (some e) := h
        rw [List.getElem?_append_left hk] at h
        exact .inl (.inl ⟨k, e, h, z⟩)
      · have h : (φ.st ++ [some ⟨p, p, none⟩])[k]? = some (some e) := h
        rw [List.getElem?_append_right (Nat.le_of_not_lt hk)] at h
        cases hj : k - φ.st.length with
        | zero => rw [hj] at h; cases h; exact .inr (z.elim id id)
        | succ j => rw [hj] at h; simp at h
    · exact .inl (.inr h)
  · rintro ((⟨k, e, h, z⟩ | h) | rfl)
    · refine .inl ⟨k, e, ?_, z⟩
      show (φ.st ++ [some ⟨p, p, none⟩])[k]? = some (some e)
      rw [List.getElem?_append_left]
      · exact h
      · exact (List.getElem?_eq_some_iff.mp h).1
    · exact .inr h
    · refine .inl ⟨φ.st.length, ⟨b, b, none⟩, ?_, .inl rfl⟩
      show (φ.st ++ [some ⟨b, b, none⟩])[φ.st.length]? = _
      simp
theorem push_at {p : Addr} : (φ.push p).st[φ.st.length]? = some (some ⟨p, p, none⟩) := by
  show (φ.st ++ [some ⟨p, p, none⟩])[φ.st.length]? = _
  simp
theorem push_pre {p : Addr} {k : Nat} {e : Ent} (h : φ.st[k]? = some (some e)) : (φ.push p).st[k]? = some (some e) := by
  show (φ.st ++ [some ⟨p, p, none⟩])[k]? = some (some e)
  rw [List.getElem?_append_left (List.getElem?_eq_some_iff.mp h).1]
  exact h
/-- a list comes to the store: what was hidden or free -/
theorem WOk.push {p : Addr} {x : Cell} {φ0 : Phi} {H0 : Hp} (w : WOk c φ0 μ H0) (es : φ0.st = φ.st) (eh : ∀ b ∈ φ.hid, b ∈ φ0.hid) (np : p ∉ φ.hid) (nt : ∀ (k : Nat) (e : Ent), φ.st[k]? = some (some e) → e.1 ≠ p ∧ e.2 ≠ p) (eo : ∀ b, own (φ.push p) b → own φ0 b ∨ b = p ∧ H0 p = none)
    (e : ∀ b, b ≠ p → H' b = H0 b) (K : Keep φ0 H0 (φ.push p) H') (hx : CellOk c (φ.push p) H' ⟨p, p, none⟩ x) : WOk c (φ.push p) (μ ++ [x]) H' where
  len := by
    show (φ.st ++ [some (⟨p, p, none⟩ : Ent)]).length = _
    rw [List.length_append, List.length_append, ← es, w.len]; rfl
  cell := fun k e' h => by
    by_cases hk : k < φ.st.length
    · have h : (φ.st ++ [some ⟨p, p, none⟩])[k]? = some (some e') := h
      rw [List.getElem?_append_left hk] at h
      obtain ⟨x, h1, h2⟩ := w.cell k e' (by rw [es]; exact h)
      have n := nt k e' h
      exact ⟨x, by rw [List.getElem?_append_left (by rw [← w.len, es]; exact hk)]; exact h1, h2.later K (e _ n.1) (e _ n.2)⟩
    · have h : (φ.st ++ [some ⟨p, p, none⟩])[k]? = some (some e') := h
      rw [List.getElem?_append_right (Nat.le_of_not_lt hk)] at h
      cases hj : k - φ.st.length with
      | zero =>
        rw [hj] at h; cases h
        have : k = μ.length := by rw [← w.len, es]; omega
        subst this
        exact ⟨x, by simp, hx⟩
      | succ j => rw [hj] at h; simp at h
  hid := fun b hb => by
    have q := w.hid b (eh b hb)
    have nb : b ≠ p := fun z => np (z ▸ hb)
    refine ⟨by rw [e b nb]; exact q.1, ?_⟩
    rintro ⟨k, e', h, z⟩
    by_cases hk : k < φ.st.length
    · have h : (φ.st ++ [some ⟨p, p, none⟩])[k]? = some (some e') := h
      rw [List.getElem?_append_left hk] at h
      exact q.2 ⟨k, e', by rw [es]; exact h, z⟩
    · have h : (φ.st ++ [some ⟨p, p, none⟩])[k]? = some (some e') := h
      rw [List.getElem?_append_right (Nat.le_of_not_lt hk)] at h
      cases hj : k - φ.st.length with
      | zero => rw [hj] at h; cases h; exact nb (z.elim id id)
      | succ j => rw [hj] at h; simp at h
  inj := fun i j a b hi hj hij => by
    have cs : ∀ {k : Nat} {e' : Ent}, (φ.push p).st[k]? = some (some e') → φ.st[k]? = some (some e') ∨ (k = φ.st.length ∧ e' = (⟨p, p, none⟩ : Ent)) := fun {k e'} h => by
      have h : (φ.st ++ [some ⟨p, p, none⟩])[k]? = some (some e') := h
      by_cases hk : k < φ.st.length
      · rw [List.getElem?_append_left hk] at h
        exact .inl h
      · rw [List.getElem?_append_right (Nat.le_of_not_lt hk)] at h
        cases hj : k - φ.st.length with
        | zero => rw [hj] at h; cases h; exact .inr ⟨by omega, rfl⟩
        | succ j => rw [hj] at h; simp at h
    rcases cs hi with h1 | ⟨h1, rfl⟩ <;> rcases cs hj with h2 | ⟨h2, rfl⟩
    · exact w.inj i j a b (by rw [es]; exact h1) (by rw [es]; exact h2) hij
    · have := nt i a h1
      exact ⟨this.1, this.1, this.2, this.2⟩
    · have := nt j b h2
      exact ⟨Ne.symm this.1, Ne.symm this.2, Ne.symm this.1, Ne.symm this.2⟩
    · exact absurd (h1.trans h2.symm) hij
  tabs := w.tabs.keep (fun b o nb q => by
    by_cases z : b = p
    · subst z
      rcases eo b (own_push.mpr (.inr rfl)) with y | ⟨_, y⟩
      · exact absurd y nb
      · rw [q] at y; cases y
    · rw [e b z]; exact q) K.fr
theorem keep_push {p : Addr} {o : HO} (n : H p = none) : Later φ H φ H → Keep φ H (φ.push p) (upd H p o) := fun _ =>
  ⟨fun _ _ h => push_pre h, fun b u _ hb _ => by rw [upd_ne (ne_of_none hb n)]; exact hb, fun b ps _ hb => ⟨#[], by rw [upd_ne (ne_of_none hb n), hb]; simp⟩, fun b h nb => by
    rcases own_push.mp h with h | h
    · exact absurd h nb
    · rw [h]; exact n⟩
theorem later_push {p : Addr} {o : HO} (w : WOk c φ μ H) (n : H p = none) : Later φ H (φ.push p) (upd H p o) :=
  ⟨keep_push n .refl, by show _ ≤ (φ.st ++ [some (⟨p, p, none⟩ : Ent)]).length; simp, rfl, fun b hb => upd_ne fun z => (w.hid b hb).1 (by rw [z]; exact n)⟩
theorem wok_push {p : Addr} {x : Cell} {o : HO} (w : WOk c φ μ H) (n : H p = none) (hx : CellOk c (φ.push p) (upd H p o) ⟨p, p, none⟩ x) : WOk c (φ.push p) (μ ++ [x]) (upd H p o) :=
  w.push rfl (fun _ h => h) (fun z => (w.hid p z).1 n) (fun k e h => by
    obtain ⟨x, _, q⟩ := w.cell k e h
    exact ⟨fun z => q.there.1 (by rw [z]; exact n), fun z => q.there.2 (by rw [z]; exact n)⟩) (fun b h => (own_push.mp h).imp id fun z => ⟨z, n⟩) (fun b h => upd_ne h) (keep_push n .refl) hx
theorem wp_newL {ds : List D} {vs : List V} {Q : VK} {E : XW} (h : wpM c (Rep c) (newL ds) φ μ H Q E) (w : WOk c φ μ H) (r : RepL c φ H ds vs) {p : Addr} (n : H p = none) : Q (.ref p) (upd H p (.lst vs)) := by
  refine h (φ.push p) _ (.ref p) (later_push w n) (wok_push w n ⟨rfl, vs, upd_same, r.later (keep_push n .refl)⟩) ?_
  simp only [Rep]
  exact ⟨⟨p, p, none⟩, by rw [← w.len]; exact push_at, rfl⟩
def mkNew (r : List D) : M D := ask (small r.length) >>= fun _ => newL r
/-- a list's display: a list of the store's -/
theorem ve_lstM (h : VL X c W es fl) : VE X c W (.List es pos) (fun ρ => fl ρ >>= mkNew) :=
  ⟨PE.weak (pe_lst h.pa) fun σ H Q h => by
    obtain ⟨φ, μ, ρ, w, he, h⟩ := h
    refine ⟨φ, μ, ρ, w, he, wp_mono (wp_bind h) fun xs H1 y => ?_⟩
    obtain ⟨φ1, μ1, ds, L1, w1, r1, h1⟩ := y
    obtain ⟨hs, h1⟩ := wp_ask h1
    have hs := of_decide_eq_true hs
    exact ⟨r1.len ▸ hs, fun p np => wp_newL h1 w1 r1 np⟩⟩
theorem put_later {k : Nat} {e : Ent} {o : HO} (w : WOk c φ μ H) (hk : φ.st[k]? = some (some e)) : Later φ H φ (upd H e.1 o) := by
  have oe : own φ e.1 := .inl ⟨k, e, hk, .inl rfl⟩
  have ne : ∀ b, ¬ own φ b → b ≠ e.1 := fun b nb z => nb (z ▸ oe)
  exact ⟨⟨fun _ _ h => h, fun b u nb hb _ => by rw [upd_ne (ne b nb)]; exact hb, fun b ps nb hb => ⟨#[], by rw [upd_ne (ne b nb), hb]; simp⟩, fun b h nb => absurd h nb⟩, Nat.le_refl _, rfl, fun b hb => upd_ne fun z => (w.hid b hb).2 (by rw [z]; exact ⟨k, e, hk, .inl rfl⟩)⟩
theorem put_ok {k : Nat} {e : Ent} {old y : Cell} {o : HO} (w : WOk c φ μ H) (hk : φ.st[k]? = some (some e)) (hμ : μ[k]? = some old) (hy : CellOk c φ (upd H e.1 o) e y) : WOk c φ (μ.set k y) (upd H e.1 o) := by
  have oe : own φ e.1 := .inl ⟨k, e, hk, .inl rfl⟩
  have ne : ∀ b, ¬ own φ b → b ≠ e.1 := fun b nb z => nb (z ▸ oe)
  have L : Later φ H φ (upd H e.1 o) := put_later w hk
  refine ⟨by rw [List.length_set]; exact w.len, fun i e' h => ?_, fun b hb => ?_, w.inj, w.tabs.keep (fun b o nb q => by rw [upd_ne (ne b nb)]; exact q) L.fr⟩
  · by_cases z : k = i
    · subst z
      rw [hk] at h
      cases h
      exact ⟨_, List.getElem?_set_self (List.getElem?_eq_some_iff.mp hμ).1, hy⟩
    · obtain ⟨x, h1, h2⟩ := w.cell i e' h
      have n := w.inj k i e e' hk h z
      exact ⟨x, by rw [List.getElem?_set_ne z]; exact h1, h2.later L.toKeep (upd_ne (Ne.symm n.1)) (upd_ne (Ne.symm n.2.1))⟩
  · have q := w.hid b hb
    refine ⟨?_, q.2⟩
    rw [upd_ne fun z => q.2 (by rw [z]; exact ⟨k, e, hk, .inl rfl⟩)]
    exact q.1
/-- f of the list that lies at d: the list it leaves, the answer -/
def modL {α : Type} (d : D) (f : List D → Option (List D × α)) : M α := match d with
  | .ptr k => fun μ => match μ[k]? with
    | some (.lst xs) => match f xs with
      | some (ys, a) => .ok a (μ.set k (.lst ys))
      | none => .stuck
    | _ => .stuck
  | _ => stuck
theorem wp_modL {α β γ : Type} {R : Phi → Hp → γ → β → Prop} {d : D} {v : V} {f : List D → Option (List D × α)} {k : α → M γ} {Q : β → Hp → Prop} {E : XW} (h : wpM c R (modL d f >>= k) φ μ H Q E) (w : WOk c φ μ H) (r : Rep c φ H d v) :
    ∃ l xs vs ys a, v = .ref l ∧ H l = some (.lst vs) ∧ RepL c φ H xs vs ∧ f xs = some (ys, a) ∧ ∀ ws, RepL c φ H ys ws → ∃ μ', Later φ H φ (upd H l (.lst ws)) ∧ WOk c φ μ' (upd H l (.lst ws)) ∧ wpM c R (k a) φ μ' (upd H l (.lst ws)) Q E := by
  cases d with
  | ptr i =>
    simp only [Rep] at r
    obtain ⟨e, hi, rfl⟩ := r
    obtain ⟨x, hx, hc⟩ := w.cell i e hi
    have e1 : (modL (.ptr i) f >>= k) μ = M.bind (modL (.ptr i) f) k μ := rfl
    unfold wpM at h
    rw [e1] at h
    unfold M.bind modL at h
    simp only [hx] at h
    cases x with
    | dct C fs => exact h.elim
    | fdct C fs => exact h.elim
    | ins C fs => exact h.elim
    | lst xs =>
      simp only at h
      cases hf : f xs with
      | none => rw [hf] at h; exact h.elim
      | some p =>
        obtain ⟨ys, a⟩ := p
        rw [hf] at h
        simp only at h
        obtain ⟨hc1, vs, hv, rl⟩ := hc
        refine ⟨e.1, xs, vs, ys, a, rfl, hv, rl, hf, fun ws r => ?_⟩
        have L : Later φ H φ (upd H e.1 (.lst ws)) := put_later w hi
        have w' := put_ok (o := .lst ws) (y := .lst ys) w hi hx ⟨hc1, ws, upd_same, r.later L.toKeep⟩
        refine ⟨_, L, w', ?_⟩
        unfold wpM
        cases hk : k a (μ.set i (.lst ys)) with
        | ok b μ2 => rw [hk] at h; exact fun φ2 H2 b2 L2 w2 r2 => h φ2 H2 b2 (L.trans L2) w2 r2
        | exn b μ2 => rw [hk] at h; exact fun φ2 H2 k2 d2 L2 w2 r2 => h φ2 H2 k2 d2 (L.trans L2) w2 r2
        | stuck => rw [hk] at h; exact h
  | _ => exact wp_stuck (α := γ) (R := R) h
def tyM (T : String) (d : D) : M Unit := match d with
  | .str _ => ask (T == "str")
  | d => readL d >>= fun _ => ask (T == "list")
theorem wp_tyM {β : Type} {α : Type} {R : Phi → Hp → α → β → Prop} {T : String} {d : D} {v : V} {k : Unit → M α} {Q : β → Hp → Prop} {E : XW} (hK : X.K = c.K) (h : wpM c R (tyM T d >>= k) φ μ H Q E) (w : WOk c φ μ H) (r : Rep c φ H d v) :
    tyV X.K T v H ∧ wpM c R (k ()) φ μ H Q E := by
  have lists : wpM c R ((readL d >>= fun _ => ask (T == "list")) >>= k) φ μ H Q E → tyV X.K T v H ∧ wpM c R (k ()) φ μ H Q E := fun h => by
    rw [M.assoc] at h
    obtain ⟨xs, a, vs, rfl, hs, rl, h⟩ := wp_readL h w r
    obtain ⟨ht, h⟩ := wp_ask h
    exact ⟨.inl ⟨eq_of_beq ht, vs, .inl hs⟩, h⟩
  cases d with
  | str z =>
    obtain ⟨ht, h⟩ := wp_ask h
    rw [rep_str r]
    exact ⟨eq_of_beq ht, h⟩
  | _ => exact lists h
def MtV (X : Cx) (c : Cn) (id : String) (g : D → List D → M D) : Prop :=
  ∃ r, MtR X id r ∧ ∀ φ μ H x xs vx vs Q E, WOk c φ μ H → Rep c φ H x vx → RepL c φ H xs vs → wpM c (Rep c) (g x xs) φ μ H Q E → r vx vs H Q
theorem ve_bm {a : Expr} {T id : String} {m : Str} {apos : Pos} {k : D → List D → M D} (hK : X.K = c.K) (pa : PlainAttrs T) (slot : Slot T m id) (hty : typeOf (.builtin id) = pure (.type "method_descriptor")) (hm : MtV X c id k) (h : VE X c W e f) (ha : VL X c W (a :: es) fl)
    (hp : ∀ r to ta, MtR X id r → PE X e to → PA X (a :: es) ta → PE X (.Call (.Attribute e m apos) (a :: es) [] pos) (tBM X.K T r to ta)) : VE X c W (.Call (.Attribute e m apos) (a :: es) [] pos) (fun ρ => f ρ >>= fun x => tyM T x >>= fun _ => fl ρ >>= fun xs => k x xs) := by
  obtain ⟨r, h1, h2⟩ := hm
  refine ⟨PE.weak (hp r _ _ h1 h.pe ha.pa) fun σ H Q h => ?_⟩
  obtain ⟨φ, μ, ρ, w, he, h⟩ := h
  refine ⟨φ, μ, ρ, w, he, wp_mono (wp_bind h) fun x H1 z => ?_⟩
  obtain ⟨φ1, μ1, d1, L1, w1, r1, h1⟩ := z
  obtain ⟨ty, h1⟩ := wp_tyM hK h1 w1 r1
  refine ⟨ty, φ1, μ1, ρ, w1, he.later L1, wp_mono (wp_bind h1) fun xs H3 z => ?_⟩
  obtain ⟨φ3, μ3, ds, L3, w3, r3, h3⟩ := z
  exact h2 _ _ _ _ _ _ _ _ _ w3 (r1.later L3.toKeep) r3 h3
theorem ve_bm0 {T id : String} {m : Str} {apos : Pos} {k : D → List D → M D} (hK : X.K = c.K) (pa : PlainAttrs T) (slot : Slot T m id) (hty : typeOf (.builtin id) = pure (.type "method_descriptor")) (hm : MtV X c id k) (h : VE X c W e f)
    (hp : ∀ r to, MtR X id r → PE X e to → PE X (.Call (.Attribute e m apos) [] [] pos) (tBM0 X.K T r to)) : VE X c W (.Call (.Attribute e m apos) [] [] pos) (fun ρ => f ρ >>= fun x => tyM T x >>= fun _ => k x []) := by
  obtain ⟨r, h1, h2⟩ := hm
  refine ⟨PE.weak (hp r _ h1 h.pe) fun σ H Q h => ?_⟩
  obtain ⟨φ, μ, ρ, w, he, h⟩ := h
  refine ⟨φ, μ, ρ, w, he, wp_mono (wp_bind h) fun x H1 z => ?_⟩
  obtain ⟨φ1, μ1, d1, L1, w1, r1, h1⟩ := z
  obtain ⟨ty, h1⟩ := wp_tyM hK h1 w1 r1
  exact ⟨ty, h2 _ _ _ _ _ _ _ _ _ w1 r1 (by simp only [RepL]) h1⟩
def appM (x : D) (xs : List D) : M D := match xs with
  | [y] => modL x (fun l => if l.length < sizeLine then some (l ++ [y], ()) else none) >>= fun _ => pure .non
  | _ => stuck
theorem mv_append : MtV X c "list.append" appM := ⟨_, mt_append, fun φ μ H x xs vx vs Q E w r1 r2 h => by
  unfold appM at h
  split at h
  · obtain ⟨u, rfl, ru⟩ := repL1 r2
    obtain ⟨l, l0, ws, ys, a, rfl, hl, rl, hf, h⟩ := wp_modL h w r1
    split at hf
    · rename_i hz
      cases hf
      obtain ⟨μ', L, w', h⟩ := h (ws ++ [u]) (rl.app (RepL.one ru))
      exact ⟨l, ws, u, rfl, rfl, hl, by rw [← rl.len]; exact hz, wp_pure h w' of_non⟩
    · cases hf
  · exact wp_stuck h⟩
theorem RepL.dropLast {ds : List D} {vs : List V} (r : RepL c φ H ds vs) : RepL c φ H ds.dropLast vs.dropLast := by
  rw [List.dropLast_eq_take, List.dropLast_eq_take, r.len]
  exact r.take _
theorem MtR.or {id : String} {r r' : V → List V → Hp → VK → Prop} (h : MtR X id r) (h' : MtR X id r') : MtR X id (fun x xs H Q => r x xs H Q ∨ r' x xs H Q) := fun pins s σ H x xs v us Q I rx rxs q => q.elim (h pins s σ H x xs v us Q I rx rxs) (h' pins s σ H x xs v us Q I rx rxs)
def gIx (f g : Env → M D) (d : D) (ρ : Env) : M Env := noX (f ρ) >>= fun x => noX (g ρ) >>= fun y => match y with
  | .int i => modL x (fun l => match ixN l.length i with | some j => some (l.set j d, ()) | none => none) >>= fun _ => pure ρ
  | _ => stuck
end
end VL
namespace VL
open PySem PySem.Spec PyProof.Rows L2 LamX
section
variable {X : Cx} {c : Cn} {I : IniC} {W : WX} {φ φ' : Phi} {H H' : Hp} {μ μ' : Mem} {e : Expr} {es : List Expr} {f g : Env → M D} {fl : Env → M (List D)} {pos : Pos}
theorem lo_none {i : Nat} (h : c.ini = none) : c.lo i := fun I e => by rw [h] at e; cases e
theorem lo_at {i : Nat} (h : i < I.n) : (c.at I).lo i := fun J e => by cases e; exact h
theorem vv (i : Nat) {x : Str} (hq : c.lo i) (hN : X.N[i]? = some x := by rfl) (hv : Vis X.env.scope x := by first | exact Or.inl rfl | exact Or.inr (Or.inl rfl) | exact Or.inr (Or.inr rfl)) (hd : (x == ("__debug__" : Str)) = false := by decide) (hcd : (x == ("__classdict__" : Str)) = false := by decide) : VE X c W (.Name x pos) (rd i) := ve_var hq hN hv hd hcd
theorem wpM_at {α β : Type} {R R' : Phi → Hp → α → β → Prop} (hR : ∀ φ H a b, R' φ H a b ↔ R φ H a b) {m : M α} {Q : β → Hp → Prop} {E : XW} (h : wpM (c.at I) R' m φ μ H Q E) : wpM c R m φ μ H Q E := by
  unfold wpM at h ⊢
  split at h
  · exact fun φ' H' b L w r => h φ' H' b L (WOk.at_.mpr w) ((hR _ _ _ _).mpr r)
  · exact fun φ' H' k d L w r => h φ' H' k d L (WOk.at_.mpr w) (RepX.at_.mpr r)
  · exact h
/-- a def's promise within an __init__ -/
theorem FnOk.at_ {P : Program} {w : World} {K : PySem.W.Frag} {mg : Str → Option Value} {base : Heap} {CX : CXT} {k n : Nat} {f : Addr} {fd : FuncData} {ps : List Str} {m : List D → M D} (F : FnOk P w K mg base CX k f fd ps (spD c n m)) : FnOk P w K mg base CX k f fd ps (spD (c.at I) n m) :=
  F.imp fun vs H Q E ⟨hl, φ, μ, ds, w, r, h⟩ => ⟨hl, φ, μ, ds, WOk.at_.mp w, (RepL.at_ _ _).mp r, wpM_at (fun _ _ _ _ => Rep.at_ _ _) h⟩
theorem wpT_M {m : M Env} {R : L2.St → Hp → Prop} {E : XW} (h : wpT c m φ μ H R) : wpM c (RepE c) m φ μ H R E := by
  unfold wpT at h
  unfold wpM
  split at h
  · rename_i hm
    rw [hm]
    exact h
  · exact h.elim
theorem vg_ix {o i : Expr} (hK : X.K = c.K) (ho : VE X c W0 o f) (hi : VE X c W0 i g) (hp : ∀ to ti, PE X o to → PE X i ti → PG X (.Subscript o i pos) (gSub to ti rSetL)) : VG X c (.Subscript o i pos) [] (gIx f g) := by
  refine ⟨PG.weak (hp _ _ ho.pe hi.pe) fun v σ H R z => ?_⟩
  obtain ⟨φ, μ, ρ, d, w, he, r, h⟩ := z
  have h := wpT_M (E := wEx W0 σ) h
  refine ⟨φ, μ, ρ, w, he, wp_mono (wp_noXb (R := Rep c) h) fun x H1 z => ?_⟩
  obtain ⟨φ1, μ1, d1, L1, w1, r1, h1⟩ := z
  refine ⟨φ1, μ1, ρ, w1, he.later L1, wp_mono (wp_noXb (R := Rep c) h1) fun y H2 z => ?_⟩
  obtain ⟨φ2, μ2, d2, N2, w2, r2, h2⟩ := z
  cases d2 with
  | int i =>
    obtain ⟨l, xs, vs, ys, a, ex, hl, rl, hf, h⟩ := wp_modL h2 w2 (r1.later N2.toKeep)
    cases hj : ixN xs.length i with
    | none => simp only [hj] at hf; cases hf
    | some j =>
      simp only [hj] at hf
      cases hf
      have rv := (r.later L1.toKeep).later N2.toKeep
      obtain ⟨μ', L, w', h⟩ := h (vs.set j v) (rl.set j rv)
      exact ⟨l, vs, i, j, ex, rep_int r2, hl, by rw [← rl.len]; exact hj, wp_pure (b := σ) h w' (((he.later L1).later N2).later L) .refl⟩
  | _ => exact wp_stuck (α := Env) (β := L2.St) h2
end
end VL
namespace VL
open PySem PySem.Spec PyProof.Rows L2
section
open AutoSeq1 (wpAny_loadPart')
end
end VL
namespace VL
open PySem PySem.Spec PyProof.Rows L2 LamX RZ
section
variable {X : Cx} {c : Cn} {W : WX} {φ φ' : Phi} {H H' : Hp} {μ μ' : Mem} {e : Expr} {es : List Expr} {f g : Env → M D} {fl : Env → M (List D)} {pos : Pos}
structure Pl where
  items : List D
  chk : Mem → Prop
  tup : Bool
  [dec : DecidablePred chk]
instance (p : Pl) : DecidablePred p.chk := p.dec
def placeM : D → M Pl
  | .lst xs => pure ⟨xs, fun _ => True, false⟩
  | .tup xs => pure ⟨xs, fun _ => True, true⟩
  | .ptr k => fun μ => match μ[k]? with
    | some (.lst xs) => .ok ⟨xs, fun μ' => μ'[k]? = some (.lst xs), false⟩ μ
    | _ => .stuck
  | _ => stuck
def SqB (K : PySem.W.Frag) (b : Bool) (H : Hp) (a : Addr) (vs : List V) : Prop := if b then SqT K H a vs else SqL K H a vs
def PlOk (c : Cn) (φ : Phi) (H : Hp) (p : Pl) (a : Addr) : Prop := ∀ φ2 μ2 H2, Keep φ H φ2 H2 → WOk c φ2 μ2 H2 → p.chk μ2 → ∃ vs, SqB c.K p.tup H2 a vs ∧ RepL c φ2 H2 p.items vs
theorem PlOk.later {p : Pl} {a : Addr} (h : PlOk c φ H p a) (L : Keep φ H φ' H') : PlOk c φ' H' p a := fun φ2 μ2 H2 K => h φ2 μ2 H2 (L.trans K)
theorem wp_place {α β : Type} {R : Phi → Hp → α → β → Prop} {d : D} {v : V} {k : Pl → M α} {Q : β → Hp → Prop} {E : XW} (h : wpM c R (placeM d >>= k) φ μ H Q E) (w : WOk c φ μ H) (r : Rep c φ H d v) :
    ∃ p a, v = .ref a ∧ PlOk c φ H p a ∧ p.chk μ ∧ (p.tup = true ↔ ∃ xs, d = .tup xs) ∧ wpM c R (k p) φ μ H Q E := by
  cases d with
  | lst xs =>
    simp only [Rep] at r
    obtain ⟨a, vs, rfl, hs, n, rl⟩ := r
    exact ⟨⟨xs, fun _ => True, false⟩, a, rfl, fun φ2 μ2 H2 K w2 _ => ⟨vs, show SqL c.K H2 a vs from .inl (K.rd n hs (by intro ps z; cases z)).1, rl.later K⟩, trivial, by simp, h⟩
  | tup xs =>
    simp only [Rep] at r
    obtain ⟨a, vs, rfl, hs, rl⟩ := r
    exact ⟨⟨xs, fun _ => True, true⟩, a, rfl, fun φ2 μ2 H2 K w2 _ => ⟨vs, show SqT c.K H2 a vs from K.sqt hs, rl.later K⟩, trivial, by simp, h⟩
  | ptr k =>
    simp only [Rep] at r
    obtain ⟨e, hi, rfl⟩ := r
    obtain ⟨x, hx, hc⟩ := w.cell k e hi
    rename_i k'
    have e1 : (placeM (.ptr k) >>= k') μ = M.bind (placeM (.ptr k)) k' μ := rfl
    unfold wpM at h
    rw [e1] at h
    unfold M.bind placeM at h
    simp only [hx] at h
    cases x with
    | dct C fs => exact h.elim
    | fdct C fs => exact h.elim
    | ins C fs => exact h.elim
    | lst xs =>
      refine ⟨⟨xs, fun μ' => μ'[k]? = some (.lst xs), false⟩, e.1, rfl, fun φ2 μ2 H2 K w2 hm => ?_, hx, by simp, h⟩
      obtain ⟨x, hx, hc⟩ := w2.cell k e (K.pre k e hi)
      rw [hm] at hx
      cases hx
      obtain ⟨_, us, h1, h2⟩ := hc
      exact ⟨us, show SqL c.K H2 e.1 us from .inl (.inl h1), h2⟩
  | _ => exact wp_stuck (α := α) (R := R) h
def pairD (a b : D) : D := .tup [a, b]
theorem pair_new {a b : D} {x y : V} {T : Addr} (w : WOk c φ μ H) (nT : H T = none) (r1 : Rep c φ H a x) (r2 : Rep c φ H b y) : Later φ H φ (upd H T (.tup [x, y])) ∧ WOk c φ μ (upd H T (.tup [x, y])) ∧ Rep c φ (upd H T (.tup [x, y])) (pairD a b) (.ref T) :=
  ⟨Later.laid w nT, w.laid nT, tup_new w nT (by simp only [RepL]; exact ⟨x, [y], rfl, r1, y, [], rfl, r2, rfl⟩)⟩
def zipM : List D → M ItD
  | [d, e] => placeM d >>= fun p => placeM e >>= fun q => ask (p.tup == q.tup) >>= fun _ => pure ⟨List.zipWith pairD p.items q.items, fun μ => p.chk μ ∧ q.chk μ⟩
  | _ => stuck
theorem it_zip {p q : Pl} {a b : Addr} (hp : PlOk c φ H p a) (hq : PlOk c φ H q b) (h1 : p.tup = false) (h2 : q.tup = false) : ItOk c φ H (Itz c.K a b) ⟨List.zipWith pairD p.items q.items, fun μ => p.chk μ ∧ q.chk μ⟩ := by
  have hl : (List.zipWith pairD p.items q.items).length = min p.items.length q.items.length := List.length_zipWith
  refine ⟨fun H => ∃ vs us, (SqL c.K H a vs ∧ vs.length = p.items.length) ∧ SqL c.K H b us ∧ us.length = q.items.length, fun i H v H' => ∃ T x y, v = .ref T ∧ H T = none ∧ H' = upd H T (.tup [x, y]) ∧ (∀ xs, SqL c.K H a xs → xs[i]? = some x) ∧ ∀ ys, SqL c.K H b ys → ys[i]? = some y, ⟨fun i H2 hi ⟨vs, us, ⟨e1, e2⟩, e3, e4⟩ => ?_, fun H2 ⟨vs, us, ⟨e1, e2⟩, e3, e4⟩ => ?_, fun i H v H' _ _ y => y⟩, fun φ2 μ2 H2 K w2 k => ?_, fun i H2 v H3 φ2 μ2 hi K w2 k y => ?_⟩
  · have hi : i < min p.items.length q.items.length := by rw [← hl]; exact hi
    exact ⟨vs, us, vs[i]'(by omega), us[i]'(by omega), e1, e3, by rw [List.getElem?_eq_getElem], by rw [List.getElem?_eq_getElem]⟩
  · refine ⟨vs, us, e1, e3, ?_⟩
    show _ ≤ (List.zipWith pairD p.items q.items).length ∨ _
    rw [hl]; omega
  · obtain ⟨vs, e1, e2⟩ := hp φ2 μ2 H2 K w2 k.1
    obtain ⟨us, e3, e4⟩ := hq φ2 μ2 H2 K w2 k.2
    unfold SqB at e1 e3
    rw [h1] at e1
    rw [h2] at e3
    exact ⟨vs, us, ⟨e1, e2.len.symm⟩, e3, e4.len.symm⟩
  · obtain ⟨vs, e1, e2⟩ := hp φ2 μ2 H2 K w2 k.1
    obtain ⟨us, e3, e4⟩ := hq φ2 μ2 H2 K w2 k.2
    unfold SqB at e1 e3
    rw [h1] at e1
    rw [h2] at e3
    obtain ⟨T, x, y, rfl, nT, rfl, hx, hy⟩ := y
    have hi : i < min p.items.length q.items.length := by rw [← hl]; exact hi
    have i1 : i < p.items.length := by omega
    have i2 : i < q.items.length := by omega
    obtain ⟨u, hu, ru⟩ := e2.get (List.getElem?_eq_getElem i1)
    obtain ⟨u2, hu2, ru2⟩ := e4.get (List.getElem?_eq_getElem i2)
    rw [hx vs e1] at hu
    rw [hy us e3] at hu2
    cases hu
    cases hu2
    exact ⟨_, by show (List.zipWith pairD p.items q.items)[i]? = _; rw [List.getElem?_zipWith, List.getElem?_eq_getElem i1, List.getElem?_eq_getElem i2], pair_new w2 nT ru ru2⟩
theorem it_zipT {p q : Pl} {a b : Addr} (hp : PlOk c φ H p a) (hq : PlOk c φ H q b) (h1 : p.tup = true) (h2 : q.tup = true) : ItOk c φ H (ItzT c.K a b) ⟨List.zipWith pairD p.items q.items, fun μ => p.chk μ ∧ q.chk μ⟩ := by
  have hl : (List.zipWith pairD p.items q.items).length = min p.items.length q.items.length := List.length_zipWith
  refine ⟨fun H => ∃ vs us, (SqT c.K H a vs ∧ vs.length = p.items.length) ∧ SqT c.K H b us ∧ us.length = q.items.length, fun i H v H' => ∃ T x y, v = .ref T ∧ H T = none ∧ H' = upd H T (.tup [x, y]) ∧ (∀ xs, SqT c.K H a xs → xs[i]? = some x) ∧ ∀ ys, SqT c.K H b ys → ys[i]? = some y, ⟨fun i H2 hi ⟨vs, us, ⟨e1, e2⟩, e3, e4⟩ => ?_, fun H2 ⟨vs, us, ⟨e1, e2⟩, e3, e4⟩ => ?_, fun i H v H' _ _ y => y⟩, fun φ2 μ2 H2 K w2 k => ?_, fun i H2 v H3 φ2 μ2 hi K w2 k y => ?_⟩
  · have hi : i < min p.items.length q.items.length := by rw [← hl]; exact hi
    exact ⟨vs, us, vs[i]'(by omega), us[i]'(by omega), e1, e3, by rw [List.getElem?_eq_getElem], by rw [List.getElem?_eq_getElem]⟩
  · refine ⟨vs, us, e1, e3, ?_⟩
    show _ ≤ (List.zipWith pairD p.items q.items).length ∨ _
    rw [hl]; omega
  · obtain ⟨vs, e1, e2⟩ := hp φ2 μ2 H2 K w2 k.1
    obtain ⟨us, e3, e4⟩ := hq φ2 μ2 H2 K w2 k.2
    unfold SqB at e1 e3
    rw [h1] at e1
    rw [h2] at e3
    exact ⟨vs, us, ⟨e1, e2.len.symm⟩, e3, e4.len.symm⟩
  · obtain ⟨vs, e1, e2⟩ := hp φ2 μ2 H2 K w2 k.1
    obtain ⟨us, e3, e4⟩ := hq φ2 μ2 H2 K w2 k.2
    unfold SqB at e1 e3
    rw [h1] at e1
    rw [h2] at e3
    obtain ⟨T, x, y, rfl, nT, rfl, hx, hy⟩ := y
    have hi : i < min p.items.length q.items.length := by rw [← hl]; exact hi
    have i1 : i < p.items.length := by omega
    have i2 : i < q.items.length := by omega
    obtain ⟨u, hu, ru⟩ := e2.get (List.getElem?_eq_getElem i1)
    obtain ⟨u2, hu2, ru2⟩ := e4.get (List.getElem?_eq_getElem i2)
    rw [hx vs e1] at hu
    rw [hy us e3] at hu2
    cases hu
    cases hu2
    exact ⟨_, by show (List.zipWith pairD p.items q.items)[i]? = _; rw [List.getElem?_zipWith, List.getElem?_eq_getElem i1, List.getElem?_eq_getElem i2], pair_new w2 nT ru ru2⟩
theorem vi_zip {a b : Expr} {p tpos : Pos} {elts : List Expr} {kk : Nat} (hK : X.K = c.K) (hg : Gl X "zip") (hm : X.mg "zip" = none) (ha : VL X c W [a, b] fl) (hs : starEach [a, b] X.env = (false, eval a X.env) :: starEach [b] X.env := by rfl) (hpl : (backTo pos (starEach [b] X.env)).any (·.1) = false := by rfl) :
    VI X c W (.Tuple elts kk tpos) (.Call (.Name "zip" p) [a, b] [] pos) (fun ρ => fl ρ >>= zipM) := by
  refine ⟨PI.weak (pi_zipA hg hm ha.pa hs hpl) fun σ H R z => ?_⟩
  obtain ⟨φ, μ, ρ, w, he, h⟩ := z
  refine ⟨φ, μ, ρ, w, he, wp_mono (wp_bind h) fun x H1 z => ?_⟩
  obtain ⟨φ1, μ1, ds, L, w1, r, h1⟩ := z
  rw [hK]
  unfold zipM at h1
  split at h1
  · obtain ⟨v, u, rfl, r0, r2⟩ := repL2 r
    obtain ⟨p, a1, rfl, hp, kp, _, h1⟩ := wp_place h1 w1 r0
    obtain ⟨q, a2, rfl, hq, kq, _, h1⟩ := wp_place h1 w1 r2
    obtain ⟨ht, h1⟩ := wp_ask h1
    have ht : p.tup = q.tup := eq_of_beq ht
    obtain ⟨vs, e1, e2⟩ := hp φ1 μ1 H1 Later.refl.toKeep w1 kp
    obtain ⟨us, e3, e4⟩ := hq φ1 μ1 H1 Later.refl.toKeep w1 kq
    unfold SqB at e1 e3
    cases hb : p.tup with
    | false =>
      have hb2 : q.tup = false := by rw [← ht]; exact hb
      rw [hb] at e1
      rw [hb2] at e3
      exact ⟨a1, a2, vs, us, rfl, .inl ⟨e1, e3, wp_pure (b := Itz c.K a1 a2) h1 w1 (it_zip hp hq hb hb2)⟩⟩
    | true =>
      have hb2 : q.tup = true := by rw [← ht]; exact hb
      rw [hb] at e1
      rw [hb2] at e3
      exact ⟨a1, a2, vs, us, rfl, .inr ⟨e1, e3, wp_pure (b := ItzT c.K a1 a2) h1 w1 (it_zipT hp hq hb hb2)⟩⟩
  · exact wp_stuck (β := It) h1
end
end VL
namespace VL
open PySem PySem.Spec PyProof.Rows L2 LamX OwA
section
variable {X : Cx} {c : Cn} {W : WX} {φ φ' : Phi} {H H' : Hp} {μ μ' : Mem} {e : Expr} {es : List Expr} {f g : Env → M D} {fl : Env → M (List D)} {pos : Pos}
inductive TyT where
  | b (n : String) | o (C : String)
def TyT.val (c : Cn) : TyT → Value
  | .b n => .type n
  | .o C => .ref (c.cl C)
def tyNames : List String := ["NoneType", "bool", "int", "str", "tuple", "list", "dict"]
def typeM (ow : List String) (d : D) : M TyT := match d with
  | .ptr k => readL (.ptr k) >>= fun _ => pure (.b "list")
  | .ins C _ => ask (ow.contains C) >>= fun _ => pure (.o C)
  | .bdct _ _ => pure (.b "dict")
  | d => match tyName d with
    | some n => pure (.b n)
    | none => stuck
/-- what is known of the classes -/
structure OwnK (c : Cn) (ow : List String) : Prop where
  cls : ∀ C ∈ ow, SlX.SCls c.K (c.cl C) ∧ SlX.SIsi c.K (c.cl C)
  bt : ∀ C ∈ ow, ∀ n ∈ tyNames, PySem.W.kitOne c.K (.type n) (.ref (c.cl C)) = some false
  tb : ∀ C ∈ ow, ∀ n ∈ tyNames, PySem.W.kitOne c.K (.ref (c.cl C)) (.type n) = some false
  oo : ∀ C ∈ ow, ∀ C' ∈ ow, PySem.W.kitOne c.K (.ref (c.cl C')) (.ref (c.cl C)) = some (C' == C)
theorem tyName_mem {d : D} {n : String} (h : tyName d = some n) : n ∈ tyNames := by
  cases d <;> cases h <;> decide
def TyT.Ok (ow : List String) : TyT → Prop
  | .b n => n ∈ tyNames
  | .o C => C ∈ ow
theorem wp_typeM {α β : Type} {R : Phi → Hp → α → β → Prop} {ow : List String} {d : D} {v : V} {k : TyT → M α} {Q : β → Hp → Prop} {E : XW} (O : OwnK c ow) (h : wpM c R (typeM ow d >>= k) φ μ H Q E) (w : WOk c φ μ H) (r : Rep c φ H d v) :
    ∃ t, TyA c.K H v (TyT.val c t) ∧ t.Ok ow ∧ (∀ C fs, d = .ins C fs → t = .o C) ∧ wpM c R (k t) φ μ H Q E := by
  have base : ∀ n, tyName d = some n → wpM c R (k (.b n)) φ μ H Q E → ∃ t, TyA c.K H v (TyT.val c t) ∧ t.Ok ow ∧ (∀ C fs, d = .ins C fs → t = .o C) ∧ wpM c R (k t) φ μ H Q E := fun n hn h =>
    ⟨.b n, .ty (tyx_of r hn), tyName_mem hn, fun C fs e => (by rw [e] at hn; cases hn), h⟩
  cases d with
  | ptr i =>
    have h : wpM c R ((readL (.ptr i) >>= fun _ => (pure (.b "list") : M TyT)) >>= k) φ μ H Q E := h
    rw [M.assoc] at h
    obtain ⟨xs, a, us, rfl, hs, rl, h⟩ := wp_readL h w r
    refine ⟨.b "list", .ty ?_, show "list" ∈ tyNames by decide, fun C fs e => (by cases e), h⟩
    rcases hs with h | ⟨o, h⟩
    · exact .base (.lst h)
    · exact .base (.frz h)
  | ins C fs =>
    have h : wpM c R ((ask (ow.contains C) >>= fun _ => (pure (.o C) : M TyT)) >>= k) φ μ H Q E := h
    rw [M.assoc] at h
    obtain ⟨hz, h⟩ := wp_ask h
    have hm : C ∈ ow := by simpa using hz
    simp only [Rep] at r
    obtain ⟨a, dx, vs, ws, rfl, hs, _⟩ := r
    obtain ⟨h1, h2⟩ := O.cls C hm
    exact ⟨.o C, .sl hs h1 h2, hm, fun C' fs' e => by cases e; rfl, h⟩
  | non => exact base _ rfl h
  | bl b => exact base _ rfl h
  | int i => exact base _ rfl h
  | str z => exact base _ rfl h
  | tup xs => exact base _ rfl h
  | lst xs => exact base _ rfl h
  | dct ks xs => exact base _ rfl h
  | bdct b x =>
    simp only [Rep] at r
    obtain ⟨a, u, rfl, ⟨o, hs⟩, _⟩ := r
    exact ⟨.b "dict", .bd hs, show "dict" ∈ tyNames by decide, fun C fs e => (by cases e), h⟩
  | ty n => exact wp_stuck (α := α) (R := R) h
  | scr n => exact wp_stuck (α := α) (R := R) h
  | cls C => exact wp_stuck (α := α) (R := R) h
  | fn f => exact wp_stuck (α := α) (R := R) h
def isOwn (t : TyT) (C : String) : Bool := match t with
  | .o C' => C' == C
  | .b _ => false
def isiO (ow : List String) : List D → M D
  | [x, .cls C] => ask (ow.contains C) >>= fun _ => typeM ow x >>= fun t => pure (.bl (isOwn t C))
  | [.ins C _, .ty T] => ask (ow.contains C && tyNames.contains T) >>= fun _ => pure (.bl false)
  | [.bdct _ _, .ty T] => ask (tyNames.contains T) >>= fun _ => pure (.bl ("dict" == T))
  | ds => isiD ds
theorem CallV.or {f : Value} {g : List D → M D} {r : List V → Hp → VK → Prop} {g2 : List D → M D} (h : CallV X c f g2) (hr : CallR X f r) (hg : ∀ φ μ H ds vs Q E, WOk c φ μ H → RepL c φ H ds vs → wpM c (Rep c) (g ds) φ μ H Q E → r vs H Q ∨ wpM c (Rep c) (g2 ds) φ μ H Q E) : CallV X c f g := by
  obtain ⟨r2, h1, h2⟩ := h
  exact ⟨_, hr.or h1, fun φ μ H ds vs Q E w rl h => (hg φ μ H ds vs Q E w rl h).imp id fun z => h2 φ μ H ds vs Q E w rl z⟩
theorem kit_bd {K : PySem.W.Frag} (T : String) (h : T ∈ tyNames) : PySem.W.kitOne K (.type "dict") (.type T) = some ("dict" == T) := by
  have q : kitB "dict" T = some ("dict" == T) := by
    simp only [tyNames, List.mem_cons, List.not_mem_nil, or_false] at h
    rcases h with rfl | rfl | rfl | rfl | rfl | rfl | rfl <;> decide +kernel
  exact kit_ty q
theorem cv_isiO {ow : List String} (hK : X.K = c.K) (O : OwnK c ow) : CallV X c (.builtin "isinstance") (isiO ow) := by
  refine (cv_isi hK).or call_isA fun φ μ H ds vs Q E w r h => ?_
  rw [hK]
  unfold isiO at h
  split at h
  · rename_i x C
    obtain ⟨v, u, rfl, r0, r1⟩ := repL2 r
    obtain ⟨hz, h⟩ := wp_ask h
    have hm : C ∈ ow := by simpa using hz
    obtain ⟨t, ht, ok, _, h⟩ := wp_typeM O h w r0
    simp only [Rep] at r1
    subst r1
    refine .inl ⟨v, .ref (c.cl C), t.val c, .ref (c.cl C), isOwn t C, rfl, .own _, ht, ?_, wp_pure h w of_bl⟩
    cases t with
    | b n => exact O.bt C hm n ok
    | o C' => exact O.oo C hm C' ok
  · rename_i C fs T
    obtain ⟨v, u, rfl, r0, r1⟩ := repL2 r
    obtain ⟨hz, h⟩ := wp_ask h
    rw [Bool.and_eq_true] at hz
    have hm : C ∈ ow := by simpa using hz.1
    have hT : T ∈ tyNames := by simpa using hz.2
    simp only [Rep] at r0 r1
    subst r1
    obtain ⟨a, dx, vs, ws, rfl, hs, _⟩ := r0
    obtain ⟨h1, h2⟩ := O.cls C hm
    exact .inl ⟨.ref a, .ty T, .ref (c.cl C), .type T, false, rfl, .ty _, .sl hs h1 h2, O.tb C hm T hT, wp_pure h w of_bl⟩
  · rename_i b d T
    obtain ⟨v, u, rfl, r0, r1⟩ := repL2 r
    obtain ⟨hz, h⟩ := wp_ask h
    have hT : T ∈ tyNames := by simpa using hz
    simp only [Rep] at r0 r1
    subst r1
    obtain ⟨a, uu, rfl, ⟨o, hs⟩, _⟩ := r0
    exact .inl ⟨.ref a, .ty T, .type "dict", .type T, "dict" == T, rfl, .ty _, .bd hs, kit_bd T hT, wp_pure h w of_bl⟩
  · exact .inr h
/-- no kind of value answers ahead -/
def Nf (c : Cn) (ow : List String) (C : String) : Prop := (∀ n ∈ tyNames, PySem.W.notFirst c.K (c.cl C) (.type n) = true) ∧ ∀ C' ∈ ow, PySem.W.notFirst c.K (c.cl C) (.ref (c.cl C')) = true
theorem Nf.of {ow : List String} {C : String} (h : Nf c ow C) {t : TyT} (ok : t.Ok ow) : PySem.W.notFirst c.K (c.cl C) (t.val c) = true := by
  cases t with
  | b n => exact h.1 n ok
  | o C' => exact h.2 C' ok
def notB : D → M D
  | .bl b => pure (.bl (!b))
  | _ => stuck
def dNeO (ow : List String) (C : String) (m : List D → M D) (x y : D) : M D := match x with
  | .ins C' fs => ask (C' == C) >>= fun _ => typeM ow y >>= fun _ => noX (m [.ins C' fs, y]) >>= notB
  | x => dNe x y
theorem OpV.or {f : Value → Value → Sem Value} {g g2 : D → D → M D} {r : R2} (h : OpV X c f g2) (hr : OpR X f r) (hg : ∀ φ μ H x y vx vy Q E, WOk c φ μ H → Rep c φ H x vx → Rep c φ H y vy → wpM c (Rep c) (g x y) φ μ H Q E → r vx vy H Q ∨ wpM c (Rep c) (g2 x y) φ μ H Q E) : OpV X c f g := by
  obtain ⟨r2, h1, h2⟩ := h
  exact ⟨_, hr.or h1, fun φ μ H x y vx vy Q E w a b h => (hg φ μ H x y vx vy Q E w a b h).imp id fun z => h2 φ μ H x y vx vy Q E w a b z⟩
theorem opv_neO {ow : List String} {C : String} {k : Nat} {g : Addr} {fd : FuncData} {ps : List Str} {m : List D → M D} (hK : X.K = c.K) (hu : X.A.units + 64 < cLine) (O : OwnK c ow) (N : Nf c ow C) (M : Meth X.K (c.cl C) "__eq__" g) (hne : PySem.W.findIn X.K (.ref (c.cl C)) "__ne__" = some (some (.builtin "object.__ne__"))) (hm : PySem.W.mroIn X.K (c.cl C) (.type "object") = some true) (F : FnOk X.prog X.w X.K X.mg X.base (L2.CX X.prog X.w) k g fd ps (spD c 2 m)) (hb : Binds X.K fd ps []) (hr : Room (k + 1) X.A) :
    OpV X c (compareOp .NotEq) (dNeO ow C m) := by
  refine (opv_ne hK hu).or (op_neA M.at_ M.fn hne hm (F.raw hb .nil) hr pass_no) fun φ μ H x y vx vy Q E w r1 r2 h => ?_
  unfold dNeO at h
  split at h
  · rename_i C' fs
    obtain ⟨hC, h9⟩ := wp_ask h
    clear h
    obtain rfl : C' = C := eq_of_beq hC
    obtain ⟨t, ht, ok, _, h⟩ := wp_typeM O h9 w r2
    have r1' := r1
    simp only [Rep] at r1'
    obtain ⟨a, dx, vs, ws, rfl, hs, _⟩ := r1'
    rw [hK]
    refine .inl ⟨a, dx, ws, t.val c, rfl, hs, ht, N.of ok, rfl, φ, μ, [.ins C' fs, y], w, ?_, wp_mono (wp_noXb (R := Rep c) h) fun z H1 q => ?_⟩
    · simp only [RepL, List.append_nil]
      exact ⟨.ref a, [vy], rfl, r1, vy, [], rfl, r2, rfl⟩
    · obtain ⟨φ1, μ1, d, L, w1, r3, h1⟩ := q
      cases d with
      | bl b => exact ⟨b, rep_bl r3, wp_pure h1 w1 of_bl⟩
      | _ => exact wp_stuck h1
  · exact .inr h
def fmtD : D → M D
  | .str y => ask (small y.length) >>= fun _ => pure (.str y)
  | .int i => ask (decide (i.natAbs.log2 < 1920)) >>= fun _ => pure (.str (toString i))
  | _ => stuck
theorem ve_fmt {p : Pos} (h : VE X c W e f) : VE X c W (.FormattedValue e (-1) none p) (fun ρ => f ρ >>= fmtD) := ⟨PE.weak (pe_fmt h.pe) fun σ H Q q => by
  obtain ⟨φ, μ, ρ, w, he, h⟩ := q
  refine ⟨φ, μ, ρ, w, he, wp_mono (wp_bind h) fun x H1 z => ?_⟩
  obtain ⟨φ1, μ1, d, L, w1, r, h1⟩ := z
  cases d with
  | str y =>
    obtain ⟨hz, h1⟩ := wp_ask h1
    exact .inl ⟨y, rep_str r, of_decide_eq_true hz, wp_pure h1 w1 of_str⟩
  | int i =>
    obtain ⟨hz, h1⟩ := wp_ask h1
    exact .inr ⟨i, rep_int r, of_decide_eq_true hz, wp_pure h1 w1 of_str⟩
  | _ => exact wp_stuck h1⟩
inductive VJ (X : Cx) (c : Cn) (W : WX) : List Expr → List (Env → M D) → Prop
  | nil : VJ X c W [] []
  | cons {e : Expr} {f : Env → M D} {es : List Expr} {fs : List (Env → M D)} (h : VE X c W e f) (r : VJ X c W es fs) : VJ X c W (e :: es) (f :: fs)
theorem VJ.pj {es : List Expr} {fs : List (Env → M D)} (h : VJ X c W es fs) : PJ X es (fs.map (tV c W)) := by
  induction h with
  | nil => exact .nil
  | cons h r ih => exact .cons h.pe ih
def joinM (ρ : Env) : List (Env → M D) → Str → M D
  | [], acc => pure (.str acc)
  | f :: fs, acc => f ρ >>= fun d => match d with
    | .str y => ask (small (acc ++ y).length) >>= fun _ => joinM ρ fs (acc ++ y)
    | _ => stuck
theorem tJs_of {σ : L2.St} {ρ : Env} {Q : VK} : ∀ {fs : List (Env → M D)} {acc : Str} {φ : Phi} {μ : Mem} {H : Hp}, WOk c φ μ H → RepE c φ H ρ σ → wpM c (Rep c) (joinM ρ fs acc) φ μ H Q (wEx W σ) → tJs (fs.map (tV c W)) acc σ H (fun out H1 => Q (.str out) H1)
  | [], acc, φ, μ, H, w, he, h => wp_pure (b := V.str acc) h w of_str
  | f :: fs, acc, φ, μ, H, w, he, h => by
    have h : wpM c (Rep c) (f ρ >>= fun d => match d with
      | .str y => ask (small (acc ++ y).length) >>= fun _ => joinM ρ fs (acc ++ y)
      | _ => stuck) φ μ H Q (wEx W σ) := h
    refine ⟨φ, μ, ρ, w, he, wp_mono (wp_bind h) fun x H1 z => ?_⟩
    obtain ⟨φ1, μ1, d, L, w1, r, h1⟩ := z
    cases d with
    | str y =>
      obtain ⟨hz, h1⟩ := wp_ask h1
      exact ⟨y, rep_str r, of_decide_eq_true hz, tJs_of w1 (he.later L) h1⟩
    | _ => exact wp_stuck h1
theorem ve_joined {v1 v2 : Expr} {rest : List Expr} {fs : List (Env → M D)} (h : VJ X c W (v1 :: v2 :: rest) fs) : VE X c W (.JoinedStr (v1 :: v2 :: rest) pos) (fun ρ => joinM ρ fs Str.empty) := ⟨PE.weak (pe_joined h.pj) fun σ H Q q => by
  obtain ⟨φ, μ, ρ, w, he, h⟩ := q
  exact tJs_of w he h⟩
end
end VL
namespace VL
open PySem PySem.Spec PyProof.Rows L2 LamX OwA
section
variable {X : Cx} {c : Cn} {W : WX} {φ φ' : Phi} {H H' : Hp} {μ μ' : Mem} {e : Expr} {es : List Expr} {f g : Env → M D} {fl : Env → M (List D)} {pos : Pos}
def strsOf : List D → Option (List Str)
  | [] => some []
  | .str z :: r => (strsOf r).map (z :: ·)
  | _ :: _ => none
def intsOf : List D → Option (List Int)
  | [] => some []
  | .int z :: r => (intsOf r).map (z :: ·)
  | _ :: _ => none
theorem strs_of : ∀ {ds : List D} {vs : List V} {zs : List Str}, RepL c φ H ds vs → strsOf ds = some zs → vs = zs.map V.str
  | [], vs, zs, r, h => by simp only [RepL] at r; cases h; rw [r]; rfl
  | d :: ds, vs, zs, r, h => by
    simp only [RepL] at r
    obtain ⟨v, rest, rfl, r1, r2⟩ := r
    cases d with
    | str z =>
      simp only [strsOf, Option.map_eq_some_iff] at h
      obtain ⟨ys, h, rfl⟩ := h
      rw [rep_str r1, strs_of r2 h]
      rfl
    | _ => simp only [strsOf] at h; cases h
theorem ints_of : ∀ {ds : List D} {vs : List V} {zs : List Int}, RepL c φ H ds vs → intsOf ds = some zs → vs = zs.map V.int
  | [], vs, zs, r, h => by simp only [RepL] at r; cases h; rw [r]; rfl
  | d :: ds, vs, zs, r, h => by
    simp only [RepL] at r
    obtain ⟨v, rest, rfl, r1, r2⟩ := r
    cases d with
    | int z =>
      simp only [intsOf, Option.map_eq_some_iff] at h
      obtain ⟨ys, h, rfl⟩ := h
      rw [rep_int r1, ints_of r2 h]
      rfl
    | _ => simp only [intsOf] at h; cases h
theorem of_strs {zs : List Str} : RepL c φ H (zs.map D.str) (zs.map V.str) := by
  induction zs with
  | nil => simp only [List.map_nil, RepL]
  | cons z zs ih => simp only [List.map_cons, RepL]; exact ⟨_, _, rfl, of_str, ih⟩
theorem of_ints {zs : List Int} : RepL c φ H (zs.map D.int) (zs.map V.int) := by
  induction zs with
  | nil => simp only [List.map_nil, RepL]
  | cons z zs ih => simp only [List.map_cons, RepL]; exact ⟨_, _, rfl, of_int, ih⟩
/-- one text to a value -/
def sM0 (ok : Str → Bool) (k : Str → D) (x : D) (xs : List D) : M D := match x, xs with
  | .str a, [] => ask (ok a) >>= fun _ => pure (k a)
  | _, _ => stuck
theorem mv_s0 {id : String} {C : Str → Prop} {ok : Str → Bool} {k : Str → D} {k' : Str → V} (h : MtR X id (fun x xs H Q => ∃ a, x = .str a ∧ xs = [] ∧ C a ∧ Q (k' a) H)) (hc : ∀ a, ok a = true → C a) (hk : ∀ φ H a, Rep c φ H (k a) (k' a)) : MtV X c id (sM0 ok k) := ⟨_, h, fun φ μ H x xs vx vs Q E w r1 r2 h => by
  unfold sM0 at h
  split at h
  · obtain ⟨hz, h⟩ := wp_ask h
    simp only [RepL] at r2
    exact ⟨_, rep_str r1, r2, hc _ hz, wp_pure h w (hk _ _ _)⟩
  · exact wp_stuck h⟩
abbrev sUpper := sM0 (fun a => decide (a.length ≤ 5592405)) fun a => .str (Txt.upper a)
theorem mv_upper : MtV X c "str.upper" sUpper := mv_s0 mt_upper (fun a h => of_decide_eq_true h) fun _ _ _ => of_str
def splitM (fin : List D → M D) (x : D) (xs : List D) : M D := match x, xs with
  | .str a, [.str b] => ask (!(b.length == 0) && decide (a.length + 2 ≤ sizeLine)) >>= fun _ => fin ((Txt.split a b).map D.str)
  | _, _ => stuck
/-- what is laid new: a list that stays, or one of the store's -/
def NewL (c : Cn) (fin : List D → M D) : Prop := ∀ (φ : Phi) (μ : Mem) (H : Hp) (ds : List D) (vs : List V) (Q : VK) (E : XW) (p : Addr), WOk c φ μ H → RepL c φ H ds vs → H p = none → wpM c (Rep c) (fin ds) φ μ H Q E → Q (.ref p) (upd H p (.lst vs))
theorem new_frz : NewL c frzL := fun φ μ H ds vs Q E p w r np h => wp_pureL h (Later.laid w np) (w.laid np) (lst_new w np r)
theorem mv_split {fin : List D → M D} (hf : NewL c fin) : MtV X c "str.split" (splitM fin) := ⟨_, mt_split, fun φ μ H x xs vx vs Q E w r1 r2 h => by
  unfold splitM at h
  split at h
  · obtain ⟨v, rfl, r0⟩ := repL1 r2
    obtain ⟨hz, h⟩ := wp_ask h
    rw [Bool.and_eq_true, Bool.not_eq_true'] at hz
    exact ⟨_, _, rep_str r1, by rw [rep_str r0], hz.1, of_decide_eq_true hz.2, fun p np => hf _ _ _ _ _ _ _ _ w of_strs np h⟩
  · exact wp_stuck h⟩
def joinS (x : D) (xs : List D) : M D := match x, xs with
  | .str a, [y] => seqOf y >>= fun ys => match strsOf ys with
    | some zs => ask (decide ((zs.map (·.length)).sum + zs.length * a.length ≤ 16777216)) >>= fun _ => pure (.str (Txt.join a zs))
    | none => stuck
  | _, _ => stuck
theorem wp_seqOf {α β : Type} {R : Phi → Hp → α → β → Prop} {d : D} {v : V} {k : List D → M α} {Q : β → Hp → Prop} {E : XW} (h : wpM c R (seqOf d >>= k) φ μ H Q E) (w : WOk c φ μ H) (r : Rep c φ H d v) :
    ∃ xs a vs, v = .ref a ∧ (SqL c.K H a vs ∨ SqT c.K H a vs) ∧ RepL c φ H xs vs ∧ wpM c R (k xs) φ μ H Q E := by
  have lists : wpM c R (readL d >>= k) φ μ H Q E → ∃ xs a vs, v = .ref a ∧ (SqL c.K H a vs ∨ SqT c.K H a vs) ∧ RepL c φ H xs vs ∧ wpM c R (k xs) φ μ H Q E := fun h => by
    obtain ⟨xs, a, vs, rfl, hs, rl, h⟩ := wp_readL h w r
    exact ⟨xs, a, vs, rfl, .inl (.inl hs), rl, h⟩
  cases d with
  | tup xs =>
    obtain ⟨a, vs, rfl, hs, rl⟩ := rep_tup r
    exact ⟨xs, a, vs, rfl, .inr hs, rl, h⟩
  | _ => exact lists h
theorem mv_join (hK : X.K = c.K) : MtV X c "str.join" joinS := ⟨_, mt_join, fun φ μ H x xs vx vs Q E w r1 r2 h => by
  unfold joinS at h
  split at h
  · obtain ⟨v, rfl, r0⟩ := repL1 r2
    obtain ⟨ys, a, us, rfl, hs, rl, h⟩ := wp_seqOf h w r0
    split at h
    · rename_i zs hzs
      obtain ⟨hz, h⟩ := wp_ask h
      have e := strs_of rl hzs
      rw [e] at hs
      rw [hK]
      exact ⟨_, a, zs, rep_str r1, rfl, hs, of_decide_eq_true hz, wp_pure h w of_str⟩
    · exact wp_stuck h
  · exact wp_stuck h⟩
def maxL : List Int → Int
  | [] => 0
  | [x] => x
  | x :: r => max x (maxL r)
def minL : List Int → Int
  | [] => 0
  | [x] => x
  | x :: r => min x (minL r)
theorem maxL_max : ∀ {ns : List Int} {m : Int}, m ∈ ns → (∀ y, y ∈ ns → y ≤ m) → m = maxL ns
  | [], m, h, _ => nomatch h
  | [x], m, h, _ => by simp at h; rw [h]; rfl
  | x :: y :: r, m, h, k => by
    show m = max x (maxL (y :: r))
    have key : ∀ l : List Int, l ≠ [] → maxL l ∈ l := by
      intro l
      induction l with
      | nil => exact fun z => absurd rfl z
      | cons a l ih =>
        intro _
        cases l with
        | nil => exact List.mem_cons_self
        | cons b l =>
          show max a (maxL (b :: l)) ∈ _
          have := ih (by simp)
          rcases Int.le_total a (maxL (b :: l)) with z | z
          · rw [Int.max_eq_right z]; exact List.mem_cons_of_mem _ this
          · rw [Int.max_eq_left z]; exact List.mem_cons_self
    have k2 := k _ (List.mem_cons_of_mem _ (key (y :: r) (by simp)))
    have k1 := k x List.mem_cons_self
    rcases List.mem_cons.mp h with z | z
    · rw [z] at k2 ⊢; rw [Int.max_eq_left k2]
    · have := maxL_max z fun a ha => k a (List.mem_cons_of_mem _ ha)
      rw [← this, Int.max_eq_right k1]
theorem minL_min : ∀ {ns : List Int} {m : Int}, m ∈ ns → (∀ y, y ∈ ns → m ≤ y) → m = minL ns
  | [], m, h, _ => nomatch h
  | [x], m, h, _ => by simp at h; rw [h]; rfl
  | x :: y :: r, m, h, k => by
    show m = min x (minL (y :: r))
    have key : ∀ l : List Int, l ≠ [] → minL l ∈ l := by
      intro l
      induction l with
      | nil => exact fun z => absurd rfl z
      | cons a l ih =>
        intro _
        cases l with
        | nil => exact List.mem_cons_self
        | cons b l =>
          show min a (minL (b :: l)) ∈ _
          have := ih (by simp)
          rcases Int.le_total a (minL (b :: l)) with z | z
          · rw [Int.min_eq_left z]; exact List.mem_cons_self
          · rw [Int.min_eq_right z]; exact List.mem_cons_of_mem _ this
    have k2 := k _ (List.mem_cons_of_mem _ (key (y :: r) (by simp)))
    have k1 := k x List.mem_cons_self
    rcases List.mem_cons.mp h with z | z
    · rw [z] at k2 ⊢; rw [Int.min_eq_left k2]
    · have := minL_min z fun a ha => k a (List.mem_cons_of_mem _ ha)
      rw [← this, Int.min_eq_right k1]
def maxD : List D → M D
  | [d] => readL d >>= fun xs => match intsOf xs with
    | some ns => ask (!ns.isEmpty) >>= fun _ => pure (.int (maxL ns))
    | none => stuck
  | ds => max2D ds
def minD : List D → M D
  | [d] => readL d >>= fun xs => match intsOf xs with
    | some ns => ask (!ns.isEmpty) >>= fun _ => pure (.int (minL ns))
    | none => stuck
  | ds => min2D ds
theorem cv_max (hK : X.K = c.K) (hc : X.calm = true) : CallV X c (.builtin "max") maxD := by
  refine (cv_max2 hc).or (cr_max hc) fun φ μ H ds vs Q E w r h => ?_
  rw [hK]
  unfold maxD at h
  split at h
  · obtain ⟨v, rfl, r0⟩ := repL1 r
    obtain ⟨xs, a, us, rfl, hs, rl, h⟩ := wp_readL h w r0
    split at h
    · rename_i ns hn
      have e := ints_of rl hn
      obtain ⟨hz, h⟩ := wp_ask h
      refine .inl ⟨a, ns, rfl, .inl (e ▸ hs), ?_, fun m h1 h2 => by rw [maxL_max h1 h2]; exact wp_pure h w of_int⟩
      cases ns with
      | nil => cases hz
      | cons => simp
    · exact wp_stuck h
  · exact .inr h
theorem cv_min (hK : X.K = c.K) (hc : X.calm = true) : CallV X c (.builtin "min") minD := by
  refine (cv_min2 hc).or (cr_min hc) fun φ μ H ds vs Q E w r h => ?_
  rw [hK]
  unfold minD at h
  split at h
  · obtain ⟨v, rfl, r0⟩ := repL1 r
    obtain ⟨xs, a, us, rfl, hs, rl, h⟩ := wp_readL h w r0
    split at h
    · rename_i ns hn
      have e := ints_of rl hn
      obtain ⟨hz, h⟩ := wp_ask h
      refine .inl ⟨a, ns, rfl, .inl (e ▸ hs), ?_, fun m h1 h2 => by rw [minL_min h1 h2]; exact wp_pure h w of_int⟩
      cases ns with
      | nil => cases hz
      | cons => simp
    · exact wp_stuck h
  · exact .inr h
end
end VL
namespace VL
open PySem PySem.Spec PyProof.Rows L2 LamX OwA
section
variable {X : Cx} {c : Cn} {W : WX} {φ φ' : Phi} {H H' : Hp} {μ μ' : Mem} {e : Expr} {es : List Expr} {f g h : Env → M D} {fl : Env → M (List D)} {pos : Pos}
def keyOf : D → Option Key
  | .int i => some (.inl i)
  | .str z => some (.inr z)
  | _ => none
/-- {} -/
theorem pe_freeze {e : Expr} {t : TE} (h : PE X e t) : PE X e (fun σ H Q => t σ H fun v H1 => ∃ a u, v = .ref a ∧ H1 a = some u ∧ Mut (some u) ∧ ∀ od, Q v (upd H1 a (.frz od u))) := by
  refine ⟨fun pins s σ H Q I hw => thn (h.run pins s σ _ _ I hw) fun v s1 z => ?_⟩
  obtain ⟨x, H1, I1, r, a, u, rfl, hd, mu, q⟩ := z
  obtain ⟨od, I2⟩ := I1.lock hd mu
  exact ⟨.ref a, _, I2, r, q od⟩
/-- an empty dict that stays -/
theorem ve_dnewF : VE X c W (.Dict [] [] pos) (fun _ => pure (.dct [] [])) := ⟨PE.weak (pe_freeze pe_dnewK) fun σ H Q q => by
  obtain ⟨φ, μ, ρ, w, he, h⟩ := q
  refine fun p np => ⟨p, .dK [], rfl, upd_same, True.intro, fun od => ?_⟩
  rw [upd_upd]
  refine wp_pureL h (Later.laid w np) (w.laid np) ?_
  simp only [Rep]
  exact ⟨p, [], rfl, ⟨od, upd_same⟩, w.new np, rfl, by simp only [RepL]⟩⟩
end
end VL
namespace VL
open PySem PySem.Spec PyProof.Rows L2 LamX OwA
section
variable {X : Cx}
structure MCs (X : Cx) (cases : List MatchCase) (t : V → TS) : Prop where
  run : ∀ (first : Bool) (pins : List (Addr × Obj)) (s : Shared) (σ : L2.St) (H : Hp) (D : Ends) (v : V) (u : Value), Inv X pins σ H s → RelV v u → t v D σ H →
    wpAny (model X.prog X.w) X.A (matchCases cases X.env u first) (SP X pins D) X.xe s
end
section
variable {X : Cx} {c : Cn} {W : WX} {φ φ' : Phi} {H H' : Hp} {μ μ' : Mem} {e : Expr} {es : List Expr} {f g h : Env → M D} {fl : Env → M (List D)} {pos : Pos}
theorem MCs.weak {cases : List MatchCase} {t t' : V → TS} (h : MCs X cases t) (i : ∀ v D σ H, t' v D σ H → t v D σ H) : MCs X cases t' := ⟨fun first pins s σ H D v u I r q => h.run first pins s σ H D v u I r (i _ _ _ _ q)⟩
end
end VL
namespace VL
open PySem PySem.Spec PyProof.Rows L2 LamX OwA
section
variable {X : Cx} {c : Cn} {W : WX} {φ φ' : Phi} {H H' : Hp} {μ μ' : Mem} {e : Expr} {es : List Expr} {f g h : Env → M D} {fl : Env → M (List D)} {pos : Pos}
instance decMulOk (x : Str) (n : Int) : Decidable (MulOk x n) := by unfold MulOk; infer_instance
theorem kit_tb {K : PySem.W.Frag} {C : Addr} {n : String} (hm : PySem.W.kitMeta n = true) (h : PySem.W.subIn K (.ref C) (.type n) = some false) : PySem.W.kitOne K (.ref C) (.type n) = some false := by
  unfold PySem.W.kitOne
  rw [if_neg (by intro z; cases (eq_of_beq z))]
  show (if PySem.W.kitMeta n = true then PySem.W.subIn K (.ref C) (.type n) else none) = some false
  rw [if_pos hm, h]
end
end VL
namespace VL
open PySem PySem.Spec PyProof.Rows L2 LamX OwA
section
variable {X : Cx} {c : Cn} {W : WX} {φ φ' : Phi} {H H' : Hp} {μ μ' : Mem} {ρ : Env} {σ : L2.St} {D0 : Ends} {e : Expr} {es : List Expr} {f g h : Env → M D} {fl : Env → M (List D)} {pos : Pos}
theorem vs_raise {C : String} (hc : X.calm = true) (tk : Takes X W) (hp : PMk X e (fun _ H Q => Q (.ref (c.cl C)) none H)) : VS X c W (.Raise (some e) none pos) (fun ρ => pure (.xc ρ ⟨C, none⟩)) := ⟨PS.weak (ps_raise hc tk hp) fun D σ H h => by
  obtain ⟨φ, μ, ρ, w, he, h⟩ := h
  exact h φ H σ _ none .refl w he ⟨rfl, rfl⟩⟩
theorem wpS_bindW {m : M VL.Flow} {k : VL.Flow → M VL.Flow} {D1 : Ends} {W1 : WX} (h : wpS c (m >>= k) φ μ H D0 W)
    (hn : ∀ φ1 μ1 H1 ρ1 σ1, LaterS c φ H φ1 H1 → WOk c φ1 μ1 H1 → RepE c φ1 H1 ρ1 σ1 → wpS c (k (.nx ρ1)) φ1 μ1 H1 D0 W → D1.nx σ1 H1)
    (hr : ∀ φ1 μ1 H1 d v, LaterS c φ H φ1 H1 → WOk c φ1 μ1 H1 → Rep c φ1 H1 d v → wpS c (k (.rt d)) φ1 μ1 H1 D0 W → D1.rt v H1)
    (hb : ∀ φ1 μ1 H1 ρ1 σ1, LaterS c φ H φ1 H1 → WOk c φ1 μ1 H1 → RepE c φ1 H1 ρ1 σ1 → wpS c (k (.bk ρ1)) φ1 μ1 H1 D0 W → D1.bk σ1 H1)
    (hc : ∀ φ1 μ1 H1 ρ1 σ1, LaterS c φ H φ1 H1 → WOk c φ1 μ1 H1 → RepE c φ1 H1 ρ1 σ1 → wpS c (k (.ct ρ1)) φ1 μ1 H1 D0 W → D1.ct σ1 H1)
    (hx : ∀ φ1 μ1 H1 ρ1 σ1 e k1 d, LaterS c φ H φ1 H1 → WOk c φ1 μ1 H1 → RepE c φ1 H1 ρ1 σ1 → RepX c φ1 H1 e k1 d → wpS c (k (.xc ρ1 e)) φ1 μ1 H1 D0 W → W1 k1 d σ1 H1) : wpS c m φ μ H D1 W1 := by
  have e : ∀ a μ1, m μ = .ok a μ1 → (m >>= k) μ = k a μ1 := fun a μ1 q => by
    show M.bind m k μ = _
    unfold M.bind
    rw [q]
  have e2 : ∀ x μ1, m μ = .exn x μ1 → (m >>= k) μ = .exn x μ1 := fun a μ1 q => by
    show M.bind m k μ = _
    unfold M.bind
    rw [q]
  have e3 : m μ = .stuck → (m >>= k) μ = .stuck := fun q => by
    show M.bind m k μ = _
    unfold M.bind
    rw [q]
  have later : ∀ a μ1 φ1 H1, m μ = .ok a μ1 → LaterS c φ H φ1 H1 → wpS c (k a) φ1 μ1 H1 D0 W := fun a μ1 φ1 H1 q L => wpS_later h L (e a μ1 q).symm
  unfold wpS
  cases hm : m μ with
  | ok a μ1 =>
    cases a with
    | nx ρ => exact fun φ1 H1 s L w r => hn φ1 μ1 H1 ρ s L w r (later _ _ _ _ hm L)
    | rt d => exact fun φ1 H1 v L w r => hr φ1 μ1 H1 d v L w r (later _ _ _ _ hm L)
    | bk ρ => exact fun φ1 H1 s L w r => hb φ1 μ1 H1 ρ s L w r (later _ _ _ _ hm L)
    | ct ρ => exact fun φ1 H1 s L w r => hc φ1 μ1 H1 ρ s L w r (later _ _ _ _ hm L)
    | xc ρ x => exact fun φ1 H1 s k1 d L w r rx => hx φ1 μ1 H1 ρ s x k1 d L w r rx (later _ _ _ _ hm L)
  | exn x μ1 => unfold wpS at h; rw [e2 x μ1 hm] at h; exact h
  | stuck => unfold wpS at h; rw [e3 hm] at h; exact h
def noXS (m : M VL.Flow) : M VL.Flow := m >>= fun fl => match fl with
  | .xc _ _ => stuck
  | fl => pure fl
theorem wpS_noX {m : M VL.Flow} {D1 : Ends} (h : wpS c (noXS m) φ μ H D1 W) : wpS c m φ μ H D1 W0 :=
  wpS_bindW h (fun φ1 μ1 H1 ρ1 σ1 L w r h => h φ1 H1 σ1 .refl w r) (fun φ1 μ1 H1 d v L w r h => h φ1 H1 v .refl w r) (fun φ1 μ1 H1 ρ1 σ1 L w r h => h φ1 H1 σ1 .refl w r) (fun φ1 μ1 H1 ρ1 σ1 L w r h => h φ1 H1 σ1 .refl w r) (fun φ1 μ1 H1 ρ1 σ1 e k1 d L w r x h => h.elim)
/-- ex: is the exception of that class one of the clause's -/
def tryM (ex : String → Option Bool) (s s2 : Env → M VL.Flow) (ρ : Env) : M VL.Flow := s ρ >>= fun fl => match fl with
  | .xc ρ' e => match ex e.cls with
    | some true => noXS (s2 ρ')
    | some false => pure (.xc ρ' e)
    | none => stuck
  | fl => pure fl
theorem vs_try1 {x : Str} {C : String} {body suite : List Stmt} {b₀ : Stmt} {np pos' : Pos} {s s2 : Env → M VL.Flow} {ex : String → Option Bool} (hi : c.ini = none) (hs : X.stack = X.env :: X.outer) (hf : X.env.frame = some X.env.locals) (hc : Names X x (.ref (c.cl C))) (tk : Takes X W)
    (hex : ∀ n b, ex n = some b → PySem.W.exmOne X.K (.ref (c.cl n)) (.ref (c.cl C)) = some b)
    (hb : ∀ (W' : WX) (pn : List (Addr × Obj)) (xe : Value → Shared → Prop), Takes (X.tr pn xe) W' → PassesOwn (model X.prog X.w) X.A X.env xe → VB (X.tr pn xe) c W' body s)
    (hsu : ∀ (a : Addr) (oe : Obj) (cls : Value) (d : Option Addr) (pn : List (Addr × Obj)), Zc cls d oe → (∃ vs, oe.data = .fields vs) → VB (X.suite a ((a, oe) :: pn)) c W0 (b₀ :: suite) s2) :
    VS X c W (.Try body [.ExceptHandler (some (.Name x np)) none (b₀ :: suite) pos'] [] [] pos) (tryM ex s s2) := by
  refine ⟨PS.weak (ps_try_only (tb := fun W' => tS c W' s) (ts := fun _ _ _ => tS c W0 s2) hs hf hc tk (fun W' pn xe t p => (hb W' pn xe t p).ps) (fun a oe cls d pn z q => (hsu a oe cls d pn z q).ps)) fun D σ H h => ?_⟩
  obtain ⟨φ, μ, ρ, w, he, h⟩ := h
  refine ⟨φ, μ, ρ, w, he, wpS_bindW h (fun φ1 μ1 H1 ρ1 σ1 L w r h => h φ1 H1 σ1 .refl w r) (fun φ1 μ1 H1 d v L w r h => h φ1 H1 v .refl w r) (fun φ1 μ1 H1 ρ1 σ1 L w r h => h φ1 H1 σ1 .refl w r) (fun φ1 μ1 H1 ρ1 σ1 L w r h => h φ1 H1 σ1 .refl w r) (fun φ1 μ1 H1 ρ1 σ1 e k1 d L w r x h => ?_)⟩
  have hx := x.1
  cases hq : ex e.cls with
  | none => simp only [hq] at h; exact h.elim
  | some b =>
    simp only [hq] at h
    refine ⟨b, by rw [hx]; exact hex _ _ hq, fun hb a na => ?_, fun hb => ?_⟩
    · subst hb
      exact ⟨φ1, μ1, ρ1, w, r, wpS_noX h⟩
    · subst hb
      exact h φ1 H1 σ1 k1 d .refl w r x
end
end VL
namespace VL
open PySem PySem.Spec PyProof.Rows L2 LamX OwA
section
variable {X : Cx} {c : Cn} {W : WX} {φ φ' : Phi} {H H' : Hp} {μ μ' : Mem} {ρ : Env} {σ : L2.St} {D0 : Ends} {e : Expr} {es : List Expr} {f g h : Env → M D} {fl : Env → M (List D)} {pos : Pos}
theorem pick_rev (its : List Value) : slicePick its.toArray none none (some (-1)) = its.reverse.toArray := by
  unfold slicePick
  have hb : sliceBounds none none (some (-1)) its.toArray.size = ((its.length : Int) - 1, -1, -1) := by
    simp [sliceBounds]
  rw [hb]
  congr 1
  have hr : sliceRange ((its.length : Int) - 1) (-1) (-1) = (List.range its.length).map fun k => its.length - 1 - k := by
    unfold sliceRange
    have hc : ((if (-1 : Int) > 0 then (if (its.length : Int) - 1 < -1 then (-1 - ((its.length : Int) - 1) + -1 - 1) / -1 else 0) else if (its.length : Int) - 1 > -1 then ((its.length : Int) - 1 - -1 - -1 - 1) / - -1 else 0) : Int).toNat = its.length := by
      rw [if_neg (by decide)]
      by_cases h : (its.length : Int) - 1 > -1
      · rw [if_pos h, show (- -1 : Int) = 1 from rfl, Int.ediv_one]; omega
      · rw [if_neg h]; omega
    show (List.range _).map _ = _
    rw [hc]
    refine List.map_congr_left fun k hk => ?_
    have := List.mem_range.mp hk
    omega
  simp only
  rw [hr, List.filterMap_map]
  apply List.ext_getElem?
  intro i
  have hh : ∀ l : List Nat, (∀ k ∈ l, k < its.length) → l.filterMap ((fun x => its.toArray[x]?) ∘ fun k => its.length - 1 - k) = l.map fun k => (its[its.length - 1 - k]?).getD .none := by
    intro l
    induction l with
    | nil => intro _; rfl
    | cons k l ih =>
      intro hl
      have hk := hl k List.mem_cons_self
      have e1 : ((fun x => its.toArray[x]?) ∘ fun k => its.length - 1 - k) k = some ((its[its.length - 1 - k]?).getD .none) := by
        show its.toArray[its.length - 1 - k]? = _
        rw [List.getElem?_toArray, List.getElem?_eq_getElem (by omega)]
        rfl
      rw [List.filterMap_cons, e1, List.map_cons, ih fun k h => hl k (List.mem_cons_of_mem _ h)]
  rw [hh _ fun k hk => List.mem_range.mp hk, List.getElem?_map]
  by_cases hi : i < its.length
  · rw [List.getElem?_range hi, List.getElem?_reverse hi, List.getElem?_eq_getElem (by omega : its.length - 1 - i < its.length)]
    show some ((its[its.length - 1 - i]?).getD .none) = _
    rw [List.getElem?_eq_getElem (by omega : its.length - 1 - i < its.length)]
    rfl
  · rw [List.getElem?_eq_none (by simpa using Nat.le_of_not_lt hi), List.getElem?_eq_none (by simpa using Nat.le_of_not_lt hi)]
    rfl
def tRev (te : TE) (th : TO) (K : PySem.W.Frag) : TE := fun σ H Q => te σ H fun x H1 => th σ H1 fun l H2 => l = some (-1) ∧ ∃ a xs, x = .ref a ∧ SqL K H2 a xs ∧ ∀ p, H2 p = none → Q (.ref p) (upd H2 p (.lst xs.reverse))
theorem pe_rev {st : Expr} {te : TE} {th : TO} {p2 : Pos} (he : PE X e te) (hu : PO X (some st) th) : PE X (.Subscript e (.Slice none none (some st) p2) pos) (tRev te th X.K) := by
  refine ⟨fun pins s σ H Q I h => ?_⟩
  refine Subscript_ (thn (he.run pins s σ H _ I h) fun v s1 ⟨x, H1, I1, r1, q1⟩ => ?_)
  refine wpAny_Slice ?_
  rw [evalPart_none]
  refine wpAny_pure (wpAny_pure ?_)
  refine thn (hu.run pins s1 σ H1 _ I1 q1) fun vs s3 ⟨l, H3, I3, ps, el, a, xs, ex, hq, q3⟩ => ?_
  subst el ex
  cases r1
  have I4 : Inv X pins σ H3 { s3 with heap := s3.heap.push { cls := .type "slice", data := .fields #[.none, .none, vs] } } := I3.kept (t' := s3.toks) fun b ob q => Heap.get?_push_of_some _ q
  obtain ⟨its, r, ht, hz⟩ := I4.list hq
  have hlen := r.length
  have hg : wpAny (model X.prog X.w) X.A (getItem (.ref a) (.ref s3.heap.objs.size)) (EP X pins σ Q) X.xe { s3 with heap := s3.heap.push { cls := .type "slice", data := .fields #[.none, .none, vs] } } := by
    refine wpAny_getItem_list_slice ht.isList (Heap.IsSliceOf.new ..) .none .none ps (by simp) ?_ (by rw [List.size_toArray] <;> omega)
    rw [pick_rev]
    refine ⟨.ref _, _, I4.laid (t' := s3.toks) (o := .lst xs.reverse) (fun b ob q => Heap.get?_push_of_some _ q) (Nat.le_refl _) ?_, rfl, q3 _ (I4.hok.fresh (Nat.le_refl _))⟩
    exact ⟨by rw [List.length_reverse]; exact hz, _, 0, r.reverse, Heap.get?_push_size _ rfl⟩
  show wpAny (model X.prog X.w) X.A (subscriptTail e (.Slice none none (some st) p2) (.ref a) (.ref s3.heap.objs.size)) (EP X pins σ Q) X.xe { s3 with heap := s3.heap.push { cls := .type "slice", data := .fields #[.none, .none, vs] } }
  exact tail_any (ops := [.ref a, .ref s3.heap.objs.size]) ht.isList.typeIs slot_list_getitem.lookup hg (by with_unfolding_all rfl)
theorem RepL.reverse : ∀ {ds : List D} {vs : List V}, RepL c φ H ds vs → RepL c φ H ds.reverse vs.reverse
  | [], vs, r => by simp only [RepL] at r; subst r; simp [RepL]
  | d :: ds, vs, r => by
    simp only [RepL] at r
    obtain ⟨v, rest, rfl, r1, r2⟩ := r
    rw [List.reverse_cons, List.reverse_cons]
    exact r2.reverse.app (RepL.one r1)
def revD (d : D) : M D := readL d >>= fun xs => pure (.lst xs.reverse)
theorem ve_rev {st : Expr} {p2 : Pos} (hK : X.K = c.K) (h : VE X c W e f) (hs : PE X st (tC (.int (-1)))) : VE X c W (.Subscript e (.Slice none none (some st) p2) pos) (fun ρ => f ρ >>= revD) := ⟨PE.weak (pe_rev h.pe (po_some hs)) fun σ H Q q => by
  obtain ⟨φ, μ, ρ, w, he, h⟩ := q
  refine ⟨φ, μ, ρ, w, he, wp_mono (wp_bind h) fun x H1 z => ?_⟩
  obtain ⟨φ1, μ1, d, L, w1, r, h1⟩ := z
  refine ⟨-1, rfl, rfl, ?_⟩
  obtain ⟨xs, a, vs, rfl, hq, rl, h1⟩ := wp_readL h1 w1 r
  rw [hK]
  exact ⟨a, vs, rfl, .inl hq, fun p np => wp_pureL h1 (Later.laid w1 np) (w1.laid np) (lst_new w1 np rl.reverse)⟩⟩
end
end VL
namespace VL
open PySem PySem.Spec PyProof.Rows L2
theorem OwnK.at_ {c : Cn} {I : IniC} {ow : List String} (h : OwnK c ow) : OwnK (c.at I) ow := ⟨h.cls, h.bt, h.tb, h.oo⟩
section
variable {prog : Program} {w : World} {A : Around} {E : Value → Shared → Prop} {s : Shared}
theorem hint_str {x : Str} {t : Tok} {Q : Bool → Shared → Prop} (h : Q false s) : wpAny (model prog w) A (Builtin.List.listLengthHint (.str x t)) Q E s := by
  have hT : s.TypeIs (.str x t) "str" := typeIs_str s x t
  unfold Builtin.List.listLengthHint
  refine wpAny_bind (wpAny_specialOf hT PySem.F.slot_str_len.lookup ?_)
  generalize hid : ("str.__len__" : String) = id0
  wp_delta
  rw [show splitId id0 = some ("str", "__len__") from by subst hid; decide +kernel]
  subst hid
  refine wpAny_bind (wpAny_isInstance (T := "str") (b := true) hT (by rw [isSubtype_type]; kernel_rfl) ?_)
  refine wpAny_ite_split (fun hab => absurd hab (by decide)) (fun _ => ?_)
  refine wpAny_ite_split (fun _ => ?_) (fun hab => absurd (by decide +kernel) hab)
  refine wpAny_bind (wpAny_typeOf hT ?_)
  exact wpAny_pure h
theorem extend_str {R : Result → Shared → Prop} (hh : A.handled = none) (x : Str) (t : Tok) (S : Addr) (res : Value) (c₀ : Nat) (hS : s.heap.get? S = some { cls := .type "list", data := .seq #[] c₀ })
    (hR : ∀ h' tk acc' c', (∀ b o, b ≠ S → s.heap.get? b = some o → h'.get? b = some o) → h'.get? S = some { cls := .type "list", dict := none, data := .seq acc' c', slots := #[] } →
      ItemsOf (SignAt x) acc' x.cps.size → R (.ok (.ret res)) { s with heap := h', toks := tk }) (hn : x.cps.size ≤ sizeLine) :
    wpAny (model prog w) A.in1 (Builtin.List.listExtendWith (.ref S) (.str x t) res)
      (fun fin s' => match fin with | .done f => R (.ok f) s' | .again c' => c'.quiet = true ∧ codeAny (model prog w) A c' R s') (fun e s' => R (.error e) s') s := by
  have hSI : S ≠ s.heap.objs.size := Nat.ne_of_lt (Heap.lt_size hS)
  have hSf : S ∉ [s.heap.objs.size] := fun hm => hSI (List.mem_singleton.mp hm)
  unfold Builtin.List.listExtendWith
  refine wpAny_bind (wpAny_typeOf (T := "str") (v := .str x t) (typeIs_str s x t) ?_)
  have h1 : Builtin.List.listSameRef (.ref S) (.str x t) = false := rfl
  have h2 : (Value.type "str" == Value.type "list") = false := by decide
  have h3 : (Value.type "str" == Value.type "tuple") = false := by decide
  simp only [h1, h2, h3, Bool.or_false, Bool.false_eq_true, if_false]
  refine wpAny_bind (wpAny_pyIter_str fun o St hW hst => ?_)
  have W := hW A.in1 hh
  refine wpAny_bind (wpAny_holding (hint_str ?_))
  rw [if_neg (by first | decide | decide +kernel)]
  refine wpAny_pure ⟨plainId_quiet PySem.F.plain_extend_loop _, codeAny_extend_loopS W.toS hn _ hSf _ x.cps.size 0 _ _ _ rfl (Nat.zero_le _) hst (Heap.get?_push_of_some _ hS) (ItemsOf.nil _) fun s' acc' c' hm hS' hacc => ?_⟩
  rw [Moved.eq_with hm]
  refine hR s'.heap s'.toks acc' c' (fun b ob hb e => hm.heap b ob (fun hmem => ?_) (Heap.get?_push_of_some _ e)) hS' hacc
  rcases List.mem_cons.mp hmem with e' | hmem
  · exact hb e'
  · exact absurd (Heap.lt_size e) (by rw [List.mem_singleton.mp hmem]; exact Nat.lt_irrefl _)
theorem list_init_str {R : Result → Shared → Prop} (hh : A.handled = none) (x : Str) (t : Tok) (S : Addr) (hS : s.heap.get? S = some { cls := .type "list", data := .seq #[] })
    (hR : ∀ h' tk acc' c', (∀ b o, b ≠ S → s.heap.get? b = some o → h'.get? b = some o) → h'.get? S = some { cls := .type "list", dict := none, data := .seq acc' c', slots := #[] } →
      ItemsOf (SignAt x) acc' x.cps.size → R (.ok (.ret .none)) { s with heap := h', toks := tk }) (hn : x.cps.size ≤ sizeLine) :
    wpAny (model prog w) A.in1 (Builtin.«list.__init__» ⟨[.ref S, .str x t], []⟩)
      (fun fin s' => match fin with | .done f => R (.ok f) s' | .again c' => c'.quiet = true ∧ codeAny (model prog w) A c' R s') (fun e s' => R (.error e) s') s := by
  show wpAny _ _ (do let old ← Builtin.List.listItems (.ref S); Builtin.List.listUpdate (.ref S) (fun _ => #[]); letGo old.toList.reverse; Builtin.List.listExtendWith (.ref S) (.str x t) .none) _ _ s
  refine wpAny_bind ?_
  unfold Builtin.List.listItems
  refine wpAny_bind (wpAny_seqItems hS rfl (wpAny_pure ?_))
  show wpAny _ _ (updateSeq S (fun _ => #[]) >>= fun _ => letGo (#[] : Array Value).toList.reverse >>= fun _ => Builtin.List.listExtendWith (.ref S) (.str x t) .none) _ _ s
  refine wpAny_bind (wpAny_updateSeq hS rfl ?_)
  have hS₂ := Heap.get?_update_self (Obj.mapSeq (fun _ => (#[] : Array Value))) hS rfl
  have oth : ∀ b o, b ≠ S → s.heap.get? b = some o → (s.heap.update S (Obj.mapSeq (fun _ => (#[] : Array Value)))).get? b = some o :=
    fun b o hb e => (Heap.get?_update_other _ _ (Ne.symm hb)).trans e
  refine wpAny_bind (wpAny_letGo ?_)
  refine extend_str hh x t S .none _ hS₂ (fun h' tk acc' c' hk hS' hacc => ?_) hn
  exact hR h' tk acc' c' (fun b o hb e => hk b o hb (oth b o hb e)) hS' hacc
theorem call_list_text {x : Str} {t : Tok} {Q : Value → Shared → Prop} (hh : A.handled = none) (hn : x.cps.size ≤ sizeLine)
    (hQ : ∀ h' tk acc' c', (∀ b o, s.heap.get? b = some o → h'.get? b = some o) →
      h'.get? s.heap.objs.size = some { cls := .type "list", dict := none, data := .seq acc' c', slots := #[] } → ItemsOf (SignAt x) acc' x.cps.size → Q (.ref s.heap.objs.size) { s with heap := h', toks := tk }) :
    wpAny (model prog w) A (call (.type "list") [.str x t]) Q E s := by
  refine callType_codes (Q₁ := fun obj s₁ => obj = .ref s.heap.objs.size ∧ s₁ = { s with heap := s.heap.push { cls := .type "list", data := .seq #[] } }) PySem.F.called_list (PySem.F.typeCall_list_1 _) PySem.F.entry_list_init
    (code_list_new _ ⟨rfl, rfl⟩) fun obj s₁ h₁ => ?_
  obtain ⟨rfl, rfl⟩ := h₁
  have hS : (s.heap.push { cls := .type "list", data := .seq #[] }).get? s.heap.objs.size = some { cls := .type "list", data := .seq #[] } := Heap.get?_push_size _ rfl
  refine ⟨⟨_, hS, rfl⟩, PySem.F.args_list_init_2 _ _, list_init_str (A := A.in1) hh x t _ hS (fun h' tk acc' c' hk hS' hacc => ?_) hn⟩
  exact ⟨rfl, hQ h' tk acc' c' (fun b o e => hk b o (Nat.ne_of_lt (Heap.lt_size e)) (Heap.get?_push_of_some _ e)) hS' hacc⟩
end
section
variable {X : Cx} {c : Cn} {φ : Phi} {H : Hp} {μ : Mem}
def signsV (z : Str) : List V := z.cps.toList.map fun k => .str ⟨#[k]⟩
theorem call_listS (hc : X.calm = true) : CallR X (.type "list") (fun xs H Q => ∃ z, xs = [.str z] ∧ z.length ≤ sizeLine ∧ ∀ l, H l = none → Q (.ref l) (upd H l (.lst (signsV z)))) := by
  intro pins s σ H xs us Q I r h
  obtain ⟨z, rfl, hz, q⟩ := h
  obtain ⟨u, rfl, t, rfl⟩ := vals1 r
  have hz' : z.cps.size ≤ sizeLine := by simpa [Str.length] using hz
  refine call_list_text (I.ok.hd hc) hz' fun h' tk acc c' hk hS hacc => ?_
  have hl : (signsV z).length = z.cps.size := by unfold signsV; simp
  have rv : Vals (signsV z) acc.toList := by
    refine vals_of_idx _ _ (by rw [hl, Array.length_toList]; exact hacc.1) fun j u hj => ?_
    have hj' : acc[j]? = some u := by simpa using hj
    obtain ⟨hlt, e⟩ := Array.getElem?_eq_some_iff.mp hj'
    obtain ⟨k, tk', h1, h2⟩ := hacc.2 j u hj'
    refine ⟨.str ⟨#[k]⟩, ?_, tk', h2⟩
    unfold signsV
    rw [List.getElem?_map, Array.getElem?_toList, h1]
    rfl
  exact ⟨.ref s.heap.objs.size, _, I.laid (t' := tk) hk (Nat.le_refl _) (show ObjOk X.prog X.w _ h' _ (.lst (signsV z)) from ⟨by rw [hl]; exact hz', acc.toList, c', rv, by simpa using hS⟩), rfl, q _ (I.hok.fresh (Nat.le_refl _))⟩
/-- list(x) of a text too -/
def listT (fin : List D → M D) : List D → M D
  | [.str z] => ask (small z.length) >>= fun _ => fin (signs z)
  | [d] => seqOf d >>= fin
  | _ => stuck
theorem of_signs {z : Str} : RepL c φ H (signs z) (signsV z) := by
  unfold signs signsV
  generalize z.cps.toList = l
  induction l with
  | nil => simp only [List.map_nil, RepL]
  | cons a l ih => simp only [List.map_cons, RepL]; exact ⟨_, _, rfl, of_str, ih⟩
theorem cv_listT {fin : List D → M D} (hf : NewL c fin) (hK : X.K = c.K) (hc : X.calm = true) : CallV X c (.type "list") (listT fin) := ⟨_, call_list_of.or (call_listS hc), fun φ μ H ds vs Q E w r h => by
  rw [hK]
  unfold listT at h
  split at h
  · obtain ⟨v, rfl, r0⟩ := repL1 r
    obtain ⟨hz, h⟩ := wp_ask h
    exact .inr ⟨_, by rw [rep_str r0], of_decide_eq_true hz, fun p np => hf _ _ _ _ _ _ _ _ w of_signs np h⟩
  · obtain ⟨v, rfl, r0⟩ := repL1 r
    obtain ⟨xs, a, us, rfl, hs, rl, h⟩ := wp_seqOf h w r0
    exact .inl ⟨a, us, rfl, hs, fun p np => hf _ _ _ _ _ _ _ _ w rl np h⟩
  · exact wp_stuck h⟩
end
end VL
namespace VL
open PySem PySem.Spec PyProof.Rows L2
theorem noCX {P : Program} {w : World} {outer : List PySem.Env} {H : Hp} {s s' : Shared} {e : Value} (c : L2.CX P w outer H s (fun _ _ _ => False) e s') : False := by
  obtain ⟨_, _, _, _, _, _, _, _, _, _, _, _, h⟩ := c
  exact h.elim
end VL
namespace VX
open PySem PySem.W PySem.Calls
/-- what is to be known of a built-in error B over which a class stands -/
structure XB (B newId initId : String) (bmB : List Value) : Prop where
  fn : ∃ Bn inN bmN, ExcBaseFacts Bn newId inN bmN ∧ bmB.contains (.type Bn) = true
  noA : bmB.contains (.type "AttributeError") = false
  noN : bmB.contains (.type "NameError") = false
  slot : Slot B "__init__" initId
  ent : entryFor table initId = some Builtin.«BaseException.__init__»
  kind : builtinKind initId = some .slot
  row : Manifest.signature? initId = some ⟨.positional, "*", B, .self, [⟨"args", .varPos, false⟩]⟩
  star : (B != "*") = true
theorem XB.of {B newId initId : String} {bmB : List Value} (F : ExcBaseFacts B newId initId bmB) : XB B newId initId bmB :=
  ⟨⟨_, _, _, F, F.hasB⟩, F.noAttr, F.noName, F.init, F.initEntry, F.initKind, F.initRow, F.noStar⟩
theorem xb_KeyError : XB "KeyError" "LookupError.__new__" "KeyError.__init__" [.type "KeyError", .type "LookupError", .type "Exception", .type "BaseException", .type "object"] where
  fn := ⟨_, _, _, PySem.F.excBase_LookupError, by decide +kernel⟩
  noA := by decide +kernel
  noN := by decide +kernel
  slot := .of (owner := "KeyError") (n := "__init__") (by rw [typeLookup_type, builtinLookup_eq_fast]; kernel_rfl) (by decide +kernel) (by decide +kernel) (by decide +kernel)
    (by first | exact .inl (by decide +kernel) | exact .inr (by decide +kernel)) (by rw [isSubtype_type]; kernel_rfl)
  ent := entryFor_alias (id' := "BaseException.__init__") (by rw [fastTable_eq_tree]; kernel_rfl) (by first | rfl | decide +kernel) (by decide +kernel) (by rw [fastTable_eq_tree]; kernel_rfl)
  kind := by decide +kernel
  row := by kernel_rfl
  star := by decide +kernel
theorem store_KeyError : StoreFacts "KeyError" [.type "KeyError", .type "LookupError", .type "Exception", .type "BaseException", .type "object"] "object.__setattr__" "object" :=
  { mro := by kernel_rfl
    slot := .of (owner := "object") (n := "__setattr__") (by rw [typeLookup_type, builtinLookup_eq_fast]; kernel_rfl) (by decide +kernel) (by decide +kernel) (by decide +kernel)
      (by first | exact .inl (by decide +kernel) | exact .inr (by decide +kernel)) (by rw [isSubtype_type]; kernel_rfl)
    entry := F.entry_object_sa, kind := by decide +kernel, split := by decide +kernel, hasOwner := by decide +kernel, args := fun a b c => by unfold argsOk; kernel_rfl, passes := fun self => by kernel_rfl }
theorem kxs_KeyError : KxsFacts "KeyError" "KeyError.__init__" := ⟨by show builtinType _ = _; rw [builtinType_eq_fast]; kernel_rfl, by first | kernel_rfl | rfl⟩
section
variable {prog : Program} {w : World} {A : Around} {E : Value → Shared → Prop} {R : Result → Shared → Prop} {h : Heap} {g : Array GenState} {d : Drawn} {t : Nat} {os : OsState}
variable {nm q : Str} {C N : Addr} {bs bm bmB : List Value} {hdct : Bool} {sn : List Str} {sub : List Value} {ab : Bool} {col : Option Bool} {dd : Option Addr} {k0 k1 k2 k3 k5 : Option Value} {B newId initId : String}
end
section
open PyProof.Rows
variable {prog : Program} {w : World} {A : Around} {E : Value → Shared → Prop} {s : Shared} {h₀ : Heap} {L : Addr} {m : Str → Option Value} {news : List (Addr × Obj)} {K : Frag} {x C D so u : Addr} {B i newId : String} {bmB : List Value}
end
end VX
namespace VX
open PySem PySem.W PySem.Calls PyProof.Rows
open Builtin Builtin.ObjectAttr
/-- the text of __init__ -/
structure ITxt (params : Arguments) (body : List Stmt) (scope : Scope) (a fl txt : Str) : Prop where
  par : ∃ p1 p2, params = { posonlyargs := [], args := [{ arg := "self", annotation := none, pos := p1 }, { arg := a, annotation := none, pos := p2 }], vararg := none, kwonlyargs := [], kw_defaults := [], kwarg := none, defaults := [] }
  bd : ∃ p0 p1 p2 p3 p4 p5 q1 q2 q3 q4 j, body = [.Expr (.Call (.Attribute (.Call (.Name "super" p0) [] [] p1) "__init__" p2) [.Constant (.str txt) j p3] [] p4) p5, .Assign [.Attribute (.Name "self" q1) fl q2] (.Name a q3) q4] ∧ (p2.endLine == p4.line) = true
  kind : scope.kind = .function
  co : scope.isCoroutine = false
  gen : scope.isGenerator = false
  nocell : ∀ y ∈ scope.names, y.2 ≠ .cell
  lself : scope.names.lookup ("self" : Str) = some .local
  la : scope.names.lookup a = some .local
  lsuper : scope.names.lookup ("super" : Str) = some .globalImplicit
  lcls : scope.names.lookup ("__class__" : Str) = some .free
  na : a ≠ ("self" : Str)
  nd : (a == ("__debug__" : Str)) = false
/-- what the written part says of the class at C and of its __init__ at fI -/
structure ExS (prog : Program) (K : Frag) (mg : Str → Option Value) (B newId initId : String) (bmB : List Value) (C fI : Addr) (fl : Str) : Prop where
  fb : XB B newId initId bmB
  sf : StoreFacts B bmB "object.__setattr__" "object"
  kf : KxsFacts B initId
  hB : subIn K (.ref C) (.type B) = some true
  ei : excInitIn K C bmB newId = true
  eo : excOver K C bmB = true
  sa : findIn K (.ref C) "__setattr__" = some (some (.builtin "object.__setattr__"))
  noN : takerIn K C fl = some none
  iC : findIn K (.ref C) "__init__" = some (some (.ref fI))
  tC : typeIn K (.ref fI) = some (.type "function")
  hdC : hasDictIn K C = true
  cm : mroIn K C (.ref C) = some true
  sup : ks_superIn K C C "__init__" = some (some (.builtin initId))
  opq : nsIn K cStatics "thirdparty.any" = some none
  nsuper : nsIn K mainGlobals "super" = some none
  top : (prog.main.scope.names.lookup ("super" : Str)).isSome = false
  fn : ∃ (params : Arguments) (body : List Stmt) (scope : Scope) (a txt qual : Str) (oc : Value) (od : Option Addr) (dV kV doc pm : Value) (an : Option Addr) (ct : Value) (osl : Array (Option Value)) (cc cda : Addr) (cl ccl : Value) (cld cdd : Option Addr) (csl ccs : Array (Option Value)) (vs : Array Value) (file : Str) (tf : Tok),
    ITxt params body scope a fl txt ∧ K.lookup fI = some ⟨oc, od, .func (fnX "__init__" qual params body scope [("__class__", cc)] dV kV doc pm an (.ref cda) ct), osl⟩ ∧ codeIn K (.ref cda) qual = true ∧
    K.lookup cc = some ⟨cl, cld, .cell (some (.ref C)), csl⟩ ∧ K.lookup cda = some ⟨ccl, cdd, .fields vs, ccs⟩ ∧ vs[2]? = some (.str file tf) ∧ ((prog.main.file : Str) == file) = true ∧
    ((prog.main.scope.names.lookup ("super" : Str)).isSome = false) ∧ (∀ us : List Value, us.length = 2 → ∀ s : Shared, BindsTo s (fnX "__init__" qual params body scope [("__class__", cc)] dV kV doc pm an (.ref cda) ct) ⟨us, []⟩ ([("self" : Str), a].zip us))
section
variable {prog : Program} {w : World} {A : Around} {E : Value → Shared → Prop} {R : Result → Shared → Prop} {K : Frag} {mg mb : Str → Option Value} {C fI : Addr} {B newId initId : String} {bmB : List Value} {fl : Str}
end
end VX
namespace L2
open PySem PySem.Spec PyProof.Rows
section
variable {X : Cx} {C fI : Addr} {fl : Str} {B newId initId : String} {bmB : List Value}
end
section
variable {X : Cx} {body : List Stmt} {h₀ : ExceptHandler} {hds : List ExceptHandler} {l : List (Value × Option Nat × (Addr → Value → Option Addr → TS))} {pos : Pos} {tb : WX → TS} {Wout : WX}
end
end L2
namespace LamX
open PySem PySem.Spec PyProof.Rows L2
/-- how the making of a lambda changes the abstract heap: its code object c' is found in the table at P, or new and told there -/
def Grow (H H1 : Hp) (P c' : Addr) (q : Str) : Prop := (H1 = H ∧ H c' = some (CodeO c' q)) ∨
  ∃ (pos : Pos) (ps : Array Value), H P = some (.tbl ps) ∧ H c' = none ∧ H1 = upd (upd H P (.tbl (ps ++ #[rawInt pos.line, rawInt pos.col, .ref c']))) c' (CodeO c' q)
theorem Grow.code {H H1 : Hp} {P c' : Addr} {q : Str} (g : Grow H H1 P c' q) : H1 c' = some (CodeO c' q) := by
  rcases g with ⟨rfl, h⟩ | ⟨pos, ps, _, _, rfl⟩
  · exact h
  · exact upd_same
section
variable {X : Cx} {pins : List (Addr × Obj)} {σ : L2.St} {H : Hp} {s : Shared}
end
section
variable {X : Cx} {pins : List (Addr × Obj)} {σ : L2.St} {H HZ : Hp} {s s1 : Shared}
end
section
variable {X : Cx}
end
structure FnG (P : Program) (w : World) (K : PySem.W.Frag) (mg : Str → Option Value) (base : Heap) (CX : CXT) (k : Nat) (f : Addr) (fd : FuncData) (ps : List Str) (sp : Sp) : Prop where
  len : ∀ vs H Q E, sp vs H Q E → vs.length = ps.length
  run : ∀ (A : Around) (outer : List Env) (s : Shared) (H : Hp) (args : Args) (us : List Value) (vs : List V) (Q : VK) (E : XK), Room k A → A.guards = some [] → Env0 P w K mg base A outer s H → BindsTo s fd args (ps.zip us) → Vals vs us → sp vs H Q E →
    codeAny (model P w) A (.call (.ref f) args) (CR CX outer P w H s Q E) s
section
variable {X : Cx} {CX : CXT} {k : Nat} {f : Addr} {fd : FuncData} {ps : List Str} {sp : Sp} {E : L2.St → XK} {x : Str} {p pos : Pos} {e : Expr} {es : List Expr} {t : TA}
end
/-- the law called, tables of code objects laid -/
theorem law_callG {P : Program} {w : World} {K : PySem.W.Frag} {mg mb : Str → Option Value} {CX : CXT} {k : Nat} {fa a : Addr} {cs : List (Addr × Addr)} {fd : FuncData} {x : Str} {sp : Sp} {s₁ : Shared} {vs : List Value} {ns : List Int}
    (KX : K.In s₁.heap) (hns : s₁.heap.Ns mainGlobals mg) (hb : s₁.heap.Ns builtinsNs mb) (hbb : ∀ x : Str, x ≠ "__name__" → mb x = bootBuiltins x) (hlim : s₁.heap.NoLimit) (hg : s₁.gens = #[])
    (hT : ∀ p ∈ cs, s₁.heap.get? p.2 = some { cls := .none, data := .fields #[] }) (nT : ∀ p ∈ cs, K.lookup p.2 = none) (C : ∀ p ∈ cs, PySem.W.CodeHd s₁.heap p.1 p.2)
    (hbm : ∃ (bm : Addr) (ob : Obj), mg "__builtins__" = some (.ref bm) ∧ bm ≠ builtinsNs ∧ s₁.heap.get? bm = some ob ∧ ob.cls = .type "module" ∧ ob.dict = some builtinsNs ∧ ob.data = .plain)
    (ha : s₁.heap.get? a = some { cls := .type "list", data := .seq vs.toArray }) (hi : IntsAre vs ns) (hl : ns.length ≤ sizeLine) (hr : Room k callerA)
    (F : ∀ base : Heap, K.In base → base.Ns mainGlobals mg → (∀ p ∈ cs, TabB base mg p.1 p.2) → FnG P w K mg base CX k fa fd [x] sp) (hbind : ∀ (s : Shared) (u : Value), BindsTo s fd ⟨[u], []⟩ [(x, u)])
    (hsp : ∀ H : Hp, (∀ p ∈ cs, H p.2 = some (.tbl #[])) → SqL K H a (ns.map V.int) → sp [.ref a] H (fun v _ => v = .bl true) fun _ _ _ => False)
    (hCX : ∀ H e s', CX [] H s₁ (fun _ _ _ => False) e s' → False) :
    codeAny (model P w) callerA (.call (.ref fa) ⟨[.ref a], []⟩) (fun r s' => r = .ok (.ret (.bool true)) ∧ OldK s₁.heap s'.heap ∧ s'.os = s₁.os ∧ AllBare s'.gens) s₁ := by
  have rv := vals_ints hi
  have lenV := hi.length
  have isT : ∀ b : Addr, b ∈ cs.map (·.2) → s₁.heap.get? b = some { cls := .none, data := .fields #[] } := fun b hb => by
    obtain ⟨p, hp, e⟩ := List.mem_map.mp hb
    rw [← e]
    exact hT p hp
  have aT : a ∉ cs.map (·.2) := fun z => by
    have q := isT a z
    rw [ha] at q
    have z' : Data.seq vs.toArray _ = Data.fields #[] := congrArg Obj.data (Option.some.inj q)
    cases z'
  have memT : ∀ p ∈ cs, p.2 ∈ cs.map (·.2) := fun p hp => List.mem_map.mpr ⟨p, hp, rfl⟩
  -- from an abstract heap in which nothing but the script and the tables may be tracked
  have core : ∀ H : Hp, (∀ p ∈ cs, H p.2 = some (.tbl #[])) → (∀ b, H b = none ∨ b ∈ cs.map (·.2) ∨ ∃ o xs, H b = some (.frz o (.lst xs))) → SqL K H a (ns.map V.int) → HOk P w H s₁.heap → (∀ b, H b ≠ none → b = a ∨ b ∈ cs.map (·.2)) → (H a ≠ none → K.lookup a = none) →
      codeAny (model P w) callerA (.call (.ref fa) ⟨[.ref a], []⟩) (fun r s' => r = .ok (.ret (.bool true)) ∧ OldK s₁.heap s'.heap ∧ s'.os = s₁.os ∧ AllBare s'.gens) s₁ := by
    intro H hH hO hS hok hA hK
    have base_of : ∀ {b : Addr} {o : Obj}, s₁.heap.get? b = some o → H b = none → (hidT s₁.heap H).get? b = some o := fun e n => hidT_get e n
    have noD : ∀ {b : Addr} {o : Obj}, s₁.heap.get? b = some o → (∀ vs n, o.data ≠ .seq vs n) → o.data ≠ .fields #[] → H b = none := fun {b o} e h1 h2 => by
      cases q : H b with
      | none => rfl
      | some u =>
        rcases hA b (by rw [q]; simp) with e' | e'
        · rw [e', ha] at e
          cases e
          exact (h1 _ _ rfl).elim
        · rw [isT b e'] at e
          cases e
          exact (h2 rfl).elim
    have noA : ∀ {b : Addr} {o : Obj} {es : Array DictEntry} {ep : Nat}, s₁.heap.get? b = some o → o.data = .dict es ep → H b = none := fun {b o es ep} e d => by
      refine noD e (fun vs n z => ?_) fun z => ?_
      · rw [d] at z
        cases z
      · rw [d] at z
        cases z
    have nsK : ∀ {b : Addr} {m : Str → Option Value}, s₁.heap.Ns b m → (hidT s₁.heap H).Ns b m := fun {b m} ⟨o, es, ep, e, d, r⟩ => ⟨o, es, ep, base_of e (noA e d), d, r⟩
    have hKb : K.In (hidT s₁.heap H) := fun b o e => base_of (KX b o e) (by
      cases q : H b with
      | none => rfl
      | some u =>
        rcases hA b (by rw [q]; simp) with e' | e'
        · rw [e'] at e q
          rw [hK (by rw [q]; simp)] at e
          cases e
        · obtain ⟨p, hp, ep⟩ := List.mem_map.mp e'
          rw [← ep, nT p hp] at e
          cases e)
    have hM : L2.Mod K mg (hidT s₁.heap H) := ⟨hKb, nsK hns, ⟨mb, nsK hb, hbb⟩, let ⟨mc, h1, h2⟩ := hlim; ⟨mc, nsK h1, h2⟩⟩
    have TB : ∀ p ∈ cs, TabB (hidT s₁.heap H) mg p.1 p.2 := fun p hp => by
      have hTp := hT p hp
      refine ⟨?_, ?_, fun z => ?_⟩
      · obtain ⟨o, us, file, tf, flags, tg, inF, text, tt, e1, r1, r2, r3, r4, r5, r6, r7, r8, hne⟩ := C p hp
        refine ⟨o, us, file, tf, flags, tg, inF, text, tt, base_of e1 (noD e1 (fun vs n z => ?_) fun z => ?_), r1, r2, r3, r4, r5, r6, r7, r8, hne⟩
        · rw [r2] at z
          cases z
        · rw [r2] at z
          cases z
          simp at r3
      · obtain ⟨bm, ob, b1, b2, b3, b4, b5, b6⟩ := hbm
        have nG : bm ≠ mainGlobals := fun q => by
          obtain ⟨o, es, ep, e, hd, _⟩ := hns
          rw [q, e] at b3
          cases b3
          rw [hd] at b6
          cases b6
        have nP : bm ≠ p.2 := fun q => by
          rw [q, hTp] at b3
          cases b3
          cases b6
        refine ⟨bm, ob, b1, b2, nG, nP, base_of b3 (noD b3 (fun vs n z => ?_) fun z => ?_), b4, b5, b6⟩
        · rw [b6] at z
          cases z
        · rw [b6] at z
          cases z
      · obtain ⟨o, es, ep, e, hd, _⟩ := hns
        rw [z, hTp] at e
        cases e
        cases hd
    have e0 : Env0 P w K mg (hidT s₁.heap H) callerA [] s₁ H := ⟨rfl, hM, fun b o e => of_hidT e, Nat.le_of_eq (hidT_size _ _), trivial, fun b hb => absurd (show b ∈ ([] : List Addr) from hb) (by simp), hok, .of_eq hg⟩
    refine codeAny_mono ((F _ hKb (nsK hns) TB).run callerA [] s₁ H ⟨[.ref a], []⟩ [.ref a] [.ref a] _ _ hr rfl e0 (hbind s₁ (.ref a)) (.cons rfl .nil) (hsp H hH hS)) fun r s' h => ?_
    cases r with
    | error e => exact (hCX H e s' h).elim
    | ok fl =>
      cases fl with
      | next => exact False.elim h
      | brk => exact False.elim h
      | cont => exact False.elim h
      | ret u =>
        obtain ⟨v, H', os, bare, un, hok', r', q⟩ := h
        have q' : v = .bl true := q
        subst q'
        obtain rfl : u = Value.bool true := r'
        have key : ∀ b o, b ∉ cs.map (·.2) → s₁.heap.get? b = some o → s'.heap.get? b = some o := fun b o nb e => by
          cases q : H b with
          | none => exact un.keep b o e q (by intro z; exact absurd (show b ∈ ([] : List Addr) from z) (by simp)) (by simp)
          | some u =>
            rcases hO b with z | z | ⟨ob, xs, z⟩
            · rw [q] at z; cases z
            · exact absurd z nb
            · have z2 := un.frzs b ob _ z
              obtain ⟨e1, _⟩ := hok b _ z
              obtain ⟨e2, _⟩ := hok' b _ z2
              rw [e] at e1; cases e1
              exact e2
        have grown : ∀ p ∈ cs, ∃ more : Array Value, s'.heap.get? p.2 = some { cls := .none, data := .fields more } := fun p hp => by
          obtain ⟨more, z⟩ := un.tbls p.2 #[] (hH p hp)
          exact ⟨_, hok' p.2 _ z⟩
        refine ⟨rfl, ⟨fun b o e => ?_, fun b o e => ?_⟩, os, bare⟩
        · by_cases hb : b ∈ cs.map (·.2)
          · obtain ⟨p, hp, ep⟩ := List.mem_map.mp hb
            obtain ⟨more, hm⟩ := grown p hp
            rw [← ep] at e ⊢
            rw [hT p hp] at e
            cases e
            exact .inr (.inl ⟨((C p hp).tab (hT p hp)).isCodeTable, rfl, #[], more, rfl, by rw [Array.empty_append]; exact hm⟩)
          · exact .inl (key b o hb e)
        · by_cases hb : b ∈ cs.map (·.2)
          · obtain ⟨p, hp, ep⟩ := List.mem_map.mp hb
            obtain ⟨more, hm⟩ := grown p hp
            rw [← ep]
            exact ⟨_, hm⟩
          · exact ⟨o, key b o hb e⟩
  cases hk : K.lookup a with
  | some o =>
    have e := KX a o hk
    rw [ha] at e
    cases e
    refine core (fun b => if b ∈ cs.map (·.2) then some (.tbl #[]) else none) (fun p hp => if_pos (memT p hp)) (fun b => ?_) (.inr ⟨_, vs.toArray, _, hk, rfl, rfl, rfl, by rw [List.size_toArray, lenV]; exact hl, by simpa using rv⟩) (fun b u z => ?_) (fun b z => ?_) fun z => absurd (show (if a ∈ cs.map (·.2) then some (HO.tbl #[]) else none) = none from if_neg aT) z
    · by_cases hb : b ∈ cs.map (·.2)
      · exact .inr (.inl hb)
      · exact .inl (if_neg hb)
    · by_cases hb : b ∈ cs.map (·.2)
      · have z' := (if_pos hb).symm.trans z
        cases z'
        exact isT b hb
      · have z' := (if_neg hb).symm.trans z
        cases z'
    · by_cases hb : b ∈ cs.map (·.2)
      · exact .inr hb
      · exact absurd (if_neg hb) z
  | none =>
    refine core (fun b => if b = a then some (.frz { cls := .type "list", data := .seq vs.toArray } (.lst (ns.map V.int))) else if b ∈ cs.map (·.2) then some (.tbl #[]) else none) (fun p hp => (if_neg (show ¬ p.2 = a from fun z => aT (by rw [← z]; exact memT p hp))).trans (if_pos (memT p hp))) (fun b => ?_)
      (.inl (.inr ⟨{ cls := .type "list", data := .seq vs.toArray }, if_pos rfl⟩)) (fun b u z => ?_) (fun b z => ?_) fun _ => hk
    · by_cases hb : b = a
      · exact .inr (.inr ⟨_, _, if_pos hb⟩)
      · by_cases hb2 : b ∈ cs.map (·.2)
        · exact .inr (.inl hb2)
        · exact .inl ((if_neg hb).trans (if_neg hb2))
    · by_cases hb : b = a
      · have z' := (if_pos hb).symm.trans z
        cases z'
        rw [hb]
        exact ⟨ha, by rw [List.length_map]; exact hl, vs, _, rv, ha⟩
      · have z1 := (if_neg hb).symm.trans z
        by_cases hb2 : b ∈ cs.map (·.2)
        · have z' := (if_pos hb2).symm.trans z1
          cases z'
          exact isT b hb2
        · have z' := (if_neg hb2).symm.trans z1
          cases z'
    · by_cases hb : b = a
      · exact .inl hb
      · by_cases hb2 : b ∈ cs.map (·.2)
        · exact .inr hb2
        · exact absurd ((if_neg hb).trans (if_neg hb2)) z
end LamX
namespace VL
open PySem PySem.Spec PyProof.Rows L2 LamX OwA
section
variable {X : Cx} {c : Cn} {W : WX} {φ φ' : Phi} {H H' H1 : Hp} {μ μ' : Mem} {ρ : Env} {σ : L2.St} {e : Expr} {es : List Expr} {f g : Env → M D} {fl : Env → M (List D)} {pos : Pos}
def xcF (C : String) (fld : Str) (ρ : Env) : List D → M VL.Flow
  | [d] => pure (.xc ρ ⟨C, some (fld, d)⟩)
  | _ => stuck
variable {a : Addr} {cls : Value} {d : Option Addr} {i : Nat} {C : String} {fld : Str} {fh gh : D → M D} {flh : D → M (List D)}
variable {n : Nat} {hds : List ExceptHandler} {hs : List ((String → Option Bool) × (Exn → M D))}
end
end VL
namespace VL
open PySem PySem.Spec PyProof.Rows L2 LamX OwA
section
variable {X : Cx} {c : Cn} {W : WX} {φ φ' : Phi} {H H' H1 : Hp} {μ μ' : Mem} {ρ : Env} {σ : L2.St} {e : Expr} {es : List Expr} {f g : Env → M D} {fl : Env → M (List D)} {pos : Pos}
end
theorem sp_ofT {c : Cn} {m : List D → M D} (hm : ∀ ns : List Int, ns.length ≤ 63 → ∃ μ, m [.scr (ns.map D.int)] [] = .ok (.bl true) μ) {H : Hp} {a : Addr} {ns : List Int} (hl : ns.length ≤ 63) (hT : ∀ p ∈ c.T, H p.1 = some (.tbl #[])) (hs : SqL c.K H a (ns.map V.int)) :
    spD c 1 m [.ref a] H (fun v _ => v = .bl true) (fun _ _ _ => False) := by
  obtain ⟨μ, hm⟩ := hm ns hl
  have no : ∀ b, ¬ own ⟨[], []⟩ b := fun b z => by
    rcases z with ⟨k, e, h, _⟩ | z
    · simp at h
    · cases z
  refine ⟨rfl, ⟨[], []⟩, [], [.scr (ns.map D.int)], ⟨rfl, fun k e h => by simp at h, fun b h => (by cases h), fun i j e e' h => by simp at h, fun p hp => ⟨#[], hT p hp, no _, True.intro, fun pos cv hc => ?_⟩⟩, ?_, ?_⟩
  · have z : codeAmong pos [] = some cv := hc
    simp [codeAmong] at z
  · refine RepL.one ?_
    simp only [Rep]
    refine ⟨a, ns.map V.int, rfl, ?_, of_ints⟩
    rcases hs with hs | hs
    · exact .inl ⟨hs, no a⟩
    · exact .inr (.inr hs)
  · unfold wpM
    rw [hm]
    intro φ' H' b _ _ r
    exact rep_bl r
end VL
namespace VL
open PySem PySem.Spec PyProof.Rows L2 LamX OwA
mutual
def noPtr : D → Bool
  | .ptr _ => false
  | .tup xs | .lst xs | .ins _ xs | .scr xs | .dct _ xs => noPtrL xs
  | .bdct _ d => noPtr d
  | .non | .bl _ | .int _ | .str _ | .ty _ | .cls _ | .fn _ => true
def noPtrL : List D → Bool
  | [] => true
  | d :: r => noPtr d && noPtrL r
end
def noPtrC : Cell → Bool
  | .lst xs | .dct _ xs | .fdct _ xs | .ins _ xs => noPtrL xs
def noPtrX (e : Exn) : Bool := match e.arg with
  | some (_, x) => noPtr x
  | none => true
section
variable {c : Cn} {φ φ' : Phi} {H H' : Hp} {μ μ' : Mem}
mutual
theorem Rep.np (ho : ∀ a, own φ' a → own φ a) : ∀ (d : D) (v : V), noPtr d = true → Rep c φ H d v → Rep c φ' H d v
  | .non, _, _, h => by simpa only [Rep] using h
  | .bl _, _, _, h => by simpa only [Rep] using h
  | .int _, _, _, h => by simpa only [Rep] using h
  | .str _, _, _, h => by simpa only [Rep] using h
  | .ty _, _, _, h => by simpa only [Rep] using h
  | .cls _, _, _, h => by simpa only [Rep] using h
  | .fn _, _, _, h => by simpa only [Rep] using h
  | .ptr _, _, n, _ => by simp [noPtr] at n
  | .tup ds, v, n, h => by
    simp only [noPtr] at n
    simp only [Rep] at h ⊢
    obtain ⟨a, vs, e, h, r⟩ := h
    refine ⟨a, vs, e, ?_, RepL.np ho ds vs n r⟩
    rcases h with ⟨h, k⟩ | h
    · exact .inl ⟨h, fun z => k (ho a z)⟩
    · exact .inr h
  | .scr ds, v, n, h => by
    simp only [noPtr] at n
    simp only [Rep] at h ⊢
    obtain ⟨a, vs, e, h, r⟩ := h
    refine ⟨a, vs, e, ?_, RepL.np ho ds vs n r⟩
    rcases h with ⟨h, k⟩ | h
    · exact .inl ⟨h, fun z => k (ho a z)⟩
    · exact .inr h
  | .lst ds, v, n, h => by
    simp only [noPtr] at n
    simp only [Rep] at h ⊢
    obtain ⟨a, vs, e, h, k, r⟩ := h
    exact ⟨a, vs, e, h, fun z => k (ho a z), RepL.np ho ds vs n r⟩
  | .bdct b d, v, n, h => by
    simp only [noPtr] at n
    simp only [Rep] at h ⊢
    obtain ⟨a, u, e, h, m, r⟩ := h
    exact ⟨a, u, e, h, fun z => m (ho _ z), Rep.np ho d u n r⟩
  | .dct ks ds, v, n, h => by
    simp only [noPtr] at n
    simp only [Rep] at h ⊢
    obtain ⟨a, vs, e, h, k, hl, r⟩ := h
    exact ⟨a, vs, e, h, fun z => k (ho a z), hl, RepL.np ho ds vs n r⟩
  | .ins C fs, v, n, h => by
    simp only [noPtr] at n
    simp only [Rep] at h ⊢
    obtain ⟨a, dx, vs, ws, e, hs, hd, k, m, ew, r⟩ := h
    exact ⟨a, dx, vs, ws, e, hs, hd, fun z => k (ho a z), fun z => m (ho dx z), ew, RepL.np ho fs vs n r⟩
theorem RepL.np (ho : ∀ a, own φ' a → own φ a) : ∀ (ds : List D) (vs : List V), noPtrL ds = true → RepL c φ H ds vs → RepL c φ' H ds vs
  | [], vs, _, h => by simpa only [RepL] using h
  | d :: ds, vs, n, h => by
    simp only [noPtrL, Bool.and_eq_true] at n
    simp only [RepL] at h ⊢
    obtain ⟨v, r, e, h1, h2⟩ := h
    exact ⟨v, r, e, Rep.np ho d v n.1 h1, RepL.np ho ds r n.2 h2⟩
end
theorem CellOk.np {e : Ent} {x : Cell} (ho : ∀ a, own φ' a → own φ a) (n : noPtrC x = true) (h : CellOk c φ H e x) : CellOk c φ' H e x := by
  cases x with
  | lst ds =>
    obtain ⟨a, vs, b, r⟩ := h
    exact ⟨a, vs, b, r.np ho _ _ n⟩
  | dct ks ds =>
    obtain ⟨a, vs, b, l, r⟩ := h
    exact ⟨a, vs, b, l, r.np ho _ _ n⟩
  | fdct ks ds =>
    obtain ⟨a, o, vs, q, b, l, r⟩ := h
    exact ⟨a, o, vs, q, b, l, r.np ho _ _ n⟩
  | ins C fs =>
    obtain ⟨a, m, vs, ws, s, g, r⟩ := h
    exact ⟨a, m, vs, ws, s, g, r.np ho _ _ n⟩
/-- all of the store but the cells ks -/
def restOf (st : List (Option (Ent))) (k : Option Nat) : List Addr :=
  (List.range st.length).flatMap fun i => if some i = k then [] else match st[i]? with
    | some (some e) => [e.1, e.2]
    | _ => []
theorem mem_rest {st : List (Option (Ent))} {k : Option Nat} {b : Addr} : b ∈ restOf st k ↔ ∃ i e, some i ≠ k ∧ st[i]? = some (some e) ∧ (b = e.1 ∨ b = e.2) := by
  unfold restOf
  rw [List.mem_flatMap]
  constructor
  · rintro ⟨i, _, h⟩
    split at h
    · cases h
    · rename_i hk
      split at h
      · rename_i e he
        refine ⟨i, e, hk, he, ?_⟩
        simpa using h
      · cases h
  · rintro ⟨i, e, hk, he, h⟩
    have hl : i < st.length := by
      rcases Nat.lt_or_ge i st.length with z | z
      · exact z
      · rw [List.getElem?_eq_none z] at he; cases he
    refine ⟨i, List.mem_range.mpr hl, ?_⟩
    rw [if_neg hk]
    simp only [he]
    simpa using h
/-- the store of cell k alone (or of none) -/
def locP (φ : Phi) (k : Option Nat) : Phi := ⟨match k with | some k => [(φ.st[k]?).getD none] | none => [], φ.hid ++ restOf φ.st k⟩
theorem own_loc (k : Option Nat) (hk : ∀ i, k = some i → ∃ e, φ.st[i]? = some (some e)) (b : Addr) : own (locP φ k) b ↔ own φ b := by
  unfold own
  constructor
  · rintro (⟨j, e, h, z⟩ | h)
    · cases k with
      | none => simp [locP] at h
      | some i =>
        obtain ⟨e0, he⟩ := hk i rfl
        simp only [locP, he] at h
        cases j with
        | zero =>
          simp at h
          subst h
          exact .inl ⟨i, e0, he, z⟩
        | succ j => simp at h
    · simp only [locP, List.mem_append] at h
      rcases h with h | h
      · exact .inr h
      · obtain ⟨i, e, _, he, z⟩ := mem_rest.mp h
        exact .inl ⟨i, e, he, z⟩
  · rintro (⟨j, e, h, z⟩ | h)
    · by_cases hj : some j = k
      · subst hj
        exact .inl ⟨0, e, by simp [locP, h], z⟩
      · exact .inr (List.mem_append.mpr (.inr (mem_rest.mpr ⟨j, e, hj, h, z⟩)))
    · exact .inr (List.mem_append.mpr (.inl h))
theorem loc_ok (k : Option Nat) (hk : ∀ i, k = some i → ∃ e x, φ.st[i]? = some (some e) ∧ μ[i]? = some x ∧ noPtrC x = true) (w : WOk c φ μ H) : WOk c (locP φ k) (match k with | some i => (match μ[i]? with | some x => [x] | none => []) | none => []) H := by
  have hk' : ∀ i, k = some i → ∃ e, φ.st[i]? = some (some e) := fun i h => let ⟨e, _, q, _⟩ := hk i h; ⟨e, q⟩
  have ho := own_loc (φ := φ) k hk'
  have hS : ∀ b, ownS (locP φ k) b → ∃ i e, k = some i ∧ φ.st[i]? = some (some e) ∧ (b = e.1 ∨ b = e.2) := fun b ⟨j, e, h, z⟩ => by
    cases k with
    | none => simp [locP] at h
    | some i =>
      obtain ⟨e0, he⟩ := hk' i rfl
      simp only [locP, he] at h
      cases j with
      | zero =>
        simp at h
        subst h
        exact ⟨i, e0, rfl, he, z⟩
      | succ j => simp at h
  refine ⟨?_, fun j e h => ?_, fun b hb => ⟨w.there ((ho b).mp (.inr hb)), fun z => ?_⟩, fun i j e e' h1 h2 hij => ?_, ?_⟩
  · cases k with
    | none => rfl
    | some i =>
      obtain ⟨e, x, h1, h2, h3⟩ := hk i rfl
      simp [locP, h2]
  · cases k with
    | none => simp [locP] at h
    | some i =>
      obtain ⟨e0, x, h1, h2, h3⟩ := hk i rfl
      simp only [locP, h1] at h
      cases j with
      | succ j => simp at h
      | zero =>
        simp at h
        subst h
        obtain ⟨x', q1, q2⟩ := w.cell i e0 h1
        rw [h2] at q1
        cases q1
        refine ⟨x, by simp [h2], q2.np (fun a z => (ho a).mp z) h3⟩
  · obtain ⟨i, e, hi, he, z⟩ := hS b z
    simp only [locP, List.mem_append] at hb
    rcases hb with hb | hb
    · exact (w.hid b hb).2 ⟨i, e, he, z⟩
    · obtain ⟨j, e', hj, he', z'⟩ := mem_rest.mp hb
      have hij : j ≠ i := fun q => hj (by rw [q, hi])
      obtain ⟨n1, n2, n3, n4⟩ := w.inj j i e' e he' he hij
      rcases z with rfl | rfl <;> rcases z' with z' | z'
      · exact n1 z'.symm
      · exact n3 z'.symm
      · exact n2 z'.symm
      · exact n4 z'.symm
  · cases k with
    | none => simp [locP] at h1
    | some n =>
      simp only [locP] at h1 h2
      cases i with
      | succ i => simp at h1
      | zero =>
        cases j with
        | succ j => simp at h2
        | zero => exact absurd rfl hij
  · exact w.tabs.keep (fun b o _ h => h) (fun b z n => absurd ((ho b).mp z) n)
/-- back in the whole store -/
theorem loc_back (k : Option Nat) (hk : ∀ i, k = some i → ∃ e x, φ.st[i]? = some (some e) ∧ μ[i]? = some x ∧ noPtrC x = true) (w : WOk c φ μ H) {φ1 : Phi} {μ1 : Mem} {H1 : Hp} (L : Later (locP φ k) H φ1 H1) (w1 : WOk c φ1 μ1 H1)
    (hc : ∀ i, k = some i → ∃ x, μ1[0]? = some x ∧ noPtrC x = true) :
    (∀ a, own φ a → own φ1 a) ∧ Later φ H φ H1 ∧ WOk c φ (match k with | some i => (match μ1[0]? with | some x => μ.set i x | none => μ) | none => μ) H1 := by
  have hk' : ∀ i, k = some i → ∃ e, φ.st[i]? = some (some e) := fun i h => let ⟨e, _, q, _⟩ := hk i h; ⟨e, q⟩
  have ho := own_loc (φ := φ) k hk'
  have up : ∀ a, own φ a → own φ1 a := fun a z => by
    rcases (ho a).mpr z with ⟨j, e, h, q⟩ | z
    · exact .inl ⟨j, e, L.pre j e h, q⟩
    · exact .inr (by rw [L.hid]; exact z)
  have LL : Later φ H φ H1 := ⟨⟨fun _ _ h => h, fun b o n h t => L.kp b o (fun z => n ((ho b).mp z)) h t, fun b ps n h => L.tb b ps (fun z => n ((ho b).mp z)) h, fun b z n => absurd z n⟩, Nat.le_refl _, rfl, fun b hb => L.hk b (List.mem_append.mpr (.inl hb))⟩
  refine ⟨up, LL, ?_⟩
  have len : (match k with | some i => (match μ1[0]? with | some x => μ.set i x | none => μ) | none => μ).length = μ.length := by
    cases k with
    | none => rfl
    | some i =>
      show (match μ1[0]? with | some x => μ.set i x | none => μ).length = _
      cases μ1[0]? <;> simp
  refine ⟨by rw [len]; exact w.len, fun j e h => ?_, fun b hb => ⟨by rw [LL.hk b hb]; exact (w.hid b hb).1, (w.hid b hb).2⟩, w.inj, w1.tabs.keep (fun b o _ h => h) (fun b z n => absurd (up b z) n)⟩
  by_cases hj : some j = k
  · subst hj
    obtain ⟨x, hx, nx⟩ := hc j rfl
    have h0 : φ1.st[0]? = some (some e) := L.pre 0 e (by simp [locP, h])
    obtain ⟨x', q1, q2⟩ := w1.cell 0 e h0
    rw [hx] at q1
    cases q1
    refine ⟨x, ?_, q2.np up nx⟩
    simp only [hx]
    refine List.getElem?_set_self ?_
    rw [← w.len]
    rcases Nat.lt_or_ge j φ.st.length with z | z
    · exact z
    · rw [List.getElem?_eq_none z] at h; cases h
  · obtain ⟨x, q1, q2⟩ := w.cell j e h
    have hm : ∀ b, (b = e.1 ∨ b = e.2) → H1 b = H b := fun b z => L.hk b (List.mem_append.mpr (.inr (mem_rest.mpr ⟨j, e, hj, h, z⟩)))
    refine ⟨x, ?_, q2.later LL.toKeep (hm _ (.inl rfl)) (hm _ (.inr rfl))⟩
    cases k with
    | none => exact q1
    | some i =>
      show (match μ1[0]? with | some x => μ.set i x | none => μ)[j]? = _
      cases μ1[0]? with
      | none => exact q1
      | some y => rw [List.getElem?_set_ne (fun z => hj (by rw [z]))]; exact q1
/-- m in a store of its own: with the cell of the first argument alone, or with none -/
def locM (m : List D → M D) (ds : List D) : M D := fun μ => match ds with
  | .ptr k :: r => match μ[k]? with
    | some x => if noPtrC x && noPtrL r then match m (.ptr 0 :: r) [x] with
      | .ok d μ1 => match μ1[0]? with
        | some y => if noPtrC y && noPtr d then .ok d (μ.set k y) else .stuck
        | none => .stuck
      | _ => .stuck else .stuck
    | none => .stuck
  | ds => if noPtrL ds then match m ds [] with
    | .ok d _ => if noPtr d then .ok d μ else .stuck
    | .exn e _ => if noPtrX e then .exn e μ else .stuck
    | .stuck => .stuck else .stuck
theorem loc_sp {n : Nat} {m : List D → M D} {vs : List V} {Q : VK} {E : XK} (h : spD c n (locM m) vs H Q E) : spD c n m vs H Q E := by
  obtain ⟨hl, φ, μ, ds, w, r, h⟩ := h
  refine ⟨hl, ?_⟩
  by_cases hp : ∃ k rest, ds = .ptr k :: rest
  · obtain ⟨k, rest, rfl⟩ := hp
    simp only [RepL] at r
    obtain ⟨v, vr, rfl, r0, rr⟩ := r
    simp only [Rep] at r0
    obtain ⟨e, he, rfl⟩ := r0
    unfold wpM locM at h
    simp only [] at h
    obtain ⟨x, hx, _⟩ := w.cell k e he
    simp only [hx] at h
    by_cases hn : (noPtrC x && noPtrL rest) = true
    · rw [if_pos hn] at h
      rw [Bool.and_eq_true] at hn
      have hk : ∀ i, some k = some i → ∃ e x, φ.st[i]? = some (some e) ∧ μ[i]? = some x ∧ noPtrC x = true := fun i z => by cases z; exact ⟨e, x, he, hx, hn.1⟩
      have w0 := loc_ok (some k) hk w
      simp only [hx] at w0
      have ho := own_loc (φ := φ) (some k) (fun i z => by cases z; exact ⟨e, he⟩)
      refine ⟨locP φ (some k), [x], .ptr 0 :: rest, w0, ?_, ?_⟩
      · simp only [RepL]
        refine ⟨_, vr, rfl, ?_, rr.np (fun a z => (ho a).mp z) _ _ hn.2⟩
        simp only [Rep]
        exact ⟨e, by simp [locP, he], rfl⟩
      · unfold wpM
        cases hm : m (.ptr 0 :: rest) [x] with
        | stuck => rw [hm] at h; exact h
        | exn ex μ1 => rw [hm] at h; exact h.elim
        | ok d μ1 =>
          rw [hm] at h
          simp only [] at h
          cases hy : μ1[0]? with
          | none => rw [hy] at h; exact h.elim
          | some y =>
            rw [hy] at h
            simp only [] at h
            by_cases hd : (noPtrC y && noPtr d) = true
            · rw [if_pos hd] at h
              rw [Bool.and_eq_true] at hd
              intro φ1 H1 b L w1 rb
              obtain ⟨up, LL, ww⟩ := loc_back (some k) hk w L w1 (fun i z => ⟨y, hy, hd.1⟩)
              simp only [hy] at ww
              exact h φ H1 b LL ww (rb.np up _ _ hd.2)
            · rw [if_neg hd] at h; exact h.elim
    · rw [if_neg hn] at h; exact h.elim
  · have e1 : locM m ds μ = if noPtrL ds then match m ds [] with
      | .ok d _ => if noPtr d then .ok d μ else .stuck
      | .exn e _ => if noPtrX e then .exn e μ else .stuck
      | .stuck => .stuck else .stuck := by
      unfold locM
      cases ds with
      | nil => rfl
      | cons d rst =>
        cases d with
        | ptr k => exact absurd ⟨k, rst, rfl⟩ hp
        | _ => rfl
    unfold wpM at h
    rw [e1] at h
    by_cases hn : noPtrL ds = true
    · rw [if_pos hn] at h
      have hk : ∀ i, (none : Option Nat) = some i → ∃ e x, φ.st[i]? = some (some e) ∧ μ[i]? = some x ∧ noPtrC x = true := fun i z => by cases z
      have w0 := loc_ok none hk w
      have ho := own_loc (φ := φ) none (fun i z => by cases z)
      refine ⟨locP φ none, [], ds, w0, r.np (fun a z => (ho a).mp z) _ _ hn, ?_⟩
      unfold wpM
      cases hm : m ds [] with
      | stuck => rw [hm] at h; exact h
      | exn ex μ1 =>
        rw [hm] at h
        simp only [] at h
        by_cases hd : noPtrX ex = true
        · rw [if_pos hd] at h
          intro φ1 H1 k d L w1 rx
          obtain ⟨up, LL, ww⟩ := loc_back none hk w L w1 (fun i z => by cases z)
          refine h φ H1 k d LL ww ⟨rx.1, ?_⟩
          have r2 := rx.2
          unfold noPtrX at hd
          cases hq : ex.arg with
          | none => simp only [hq] at r2 ⊢; exact r2
          | some fx =>
            obtain ⟨fl, y⟩ := fx
            simp only [hq] at r2 hd ⊢
            obtain ⟨dx, v, z1, z2, z3, z4⟩ := r2
            exact ⟨dx, v, z1, z2, fun z => z3 (up _ z), z4.np up _ _ hd⟩
        · rw [if_neg hd] at h; exact h.elim
      | ok d μ1 =>
        rw [hm] at h
        simp only [] at h
        by_cases hd : noPtr d = true
        · rw [if_pos hd] at h
          intro φ1 H1 b L w1 rb
          obtain ⟨up, LL, ww⟩ := loc_back none hk w L w1 (fun i z => by cases z)
          exact h φ H1 b LL ww (rb.np up _ _ hd)
        · rw [if_neg hd] at h; exact h.elim
    · rw [if_neg hn] at h; exact h.elim
theorem FnOk.loc {P : Program} {w : World} {K : PySem.W.Frag} {mg : Str → Option Value} {base : Heap} {CX : CXT} {k n : Nat} {f : Addr} {fd : FuncData} {ps : List Str} {m : List D → M D} (F : L2.FnOk P w K mg base CX k f fd ps (spD c n m)) : L2.FnOk P w K mg base CX k f fd ps (spD c n (locM m)) := L2.FnOk.imp F fun _ _ _ _ h => loc_sp h
theorem FnG.loc {P : Program} {w : World} {K : PySem.W.Frag} {mg : Str → Option Value} {base : Heap} {CX : CXT} {k n : Nat} {f : Addr} {fd : FuncData} {ps : List Str} {m : List D → M D} (F : LamX.FnG P w K mg base CX k f fd ps (spD c n m)) : LamX.FnG P w K mg base CX k f fd ps (spD c n (locM m)) :=
  ⟨fun vs H Q E q => F.len vs H Q E (loc_sp q), fun A outer s H args us vs Q E hr hg he hb hv hs => F.run A outer s H args us vs Q E hr hg he hb hv (loc_sp hs)⟩
end
end VL
namespace VL
open PySem PySem.Spec PyProof.Rows L2 LamX OwA
section
variable {X : Cx} {c : Cn} {W : WX} {φ φ' : Phi} {H H' : Hp} {μ μ' : Mem} {e : Expr} {es : List Expr} {f g h : Env → M D} {fl : Env → M (List D)} {pos : Pos}
end
end VL
namespace VL
open PySem PySem.Spec PyProof.Rows L2 LamX OwA
theorem exm_of {K : PySem.W.Frag} {S C : Addr} {b : Bool} (h1 : PySem.W.subIn K (.ref S) (.type "BaseException") = some true) (h2 : PySem.W.isClsIn K S = true) (h3 : PySem.W.typeIn K (.ref S) = some (.type "type")) (h4 : PySem.W.subIn K (.ref C) (.ref S) = some b) : PySem.W.exmOne K (.ref C) (.ref S) = some b := by
  have h2' : (PySem.W.clsIn K S).isSome = true := h2
  have e1 : (PySem.W.subIn K (.ref S) (.type "BaseException") == some true) = true := by rw [h1]; rfl
  have e2 : ((PySem.W.clsIn K S).isSome && PySem.W.typeIn K (.ref S) == some (.type "type")) = true := by rw [h2', h3]; rfl
  unfold PySem.W.exmOne
  rw [if_pos e1]
  show (if ((PySem.W.clsIn K S).isSome && PySem.W.typeIn K (.ref S) == some (.type "type")) = true then PySem.W.subIn K (.ref C) (.ref S) else none) = some b
  rw [if_pos e2]
  exact h4
end VL
namespace VL
open PySem PySem.Spec PyProof.Rows L2 LamX OwA
section
variable {X : Cx} {c : Cn} {W : WX} {φ φ' : Phi} {H H' : Hp} {μ μ' : Mem} {ρ : Env} {σ : L2.St} {D0 : Ends} {e : Expr} {es : List Expr} {f g : Env → M D} {fl : Env → M (List D)} {pos : Pos}
end
end VL
namespace VL
open PySem PySem.Spec PyProof.Rows L2 LamX OwA
section
variable {X : Cx} {c : Cn} {W : WX} {φ φ' : Phi} {H H' : Hp} {μ μ' : Mem} {ρ : Env} {σ : L2.St} {D0 : Ends} {e : Expr} {es : List Expr} {f g : Env → M D} {fl : Env → M (List D)} {pos : Pos}
end
end VL
namespace VL
open PySem PySem.Spec PyProof.Rows L2 LamX OwA PySem.SeqAt
open AutoSeq1 (wpAny_loadPart')
open MeetsSeq MeetsSeq2 MeetsSeq3
section
variable {X : Cx} {c : Cn} {W : WX} {φ φ' : Phi} {H H' : Hp} {μ μ' : Mem}
end
end VL
namespace VL
open PySem PySem.Spec PyProof.Rows L2 LamX OwA PySem.Builtin.Str
def occStep (s sub : Str) (hi limit i : Nat) (p : Array Nat × Nat) : Array Nat × Nat :=
  if (decide (p.1.size < limit) && decide (p.2 ≤ i) && decide (i + sub.length ≤ hi) && subAt s sub i) = true then (p.1.push i, i + sub.length) else p
def occC (s sub : Str) (lo hi limit : Nat) : List Nat := ((List.range' lo (hi + 1 - lo)).foldl (fun p i => occStep s sub hi limit i p) (#[], lo)).1.toList
theorem occ_eq (s sub : Str) (lo hi limit : Nat) : occurrences s sub lo hi limit = occC s sub lo hi limit := by
  have key : ∀ (l : List Nat) (p : Array Nat × Nat), (forIn (m := Id) l p fun i (q : Array Nat × Nat) =>
      if (decide (q.fst.size < limit) && decide (q.snd ≤ i) && decide (i + sub.length ≤ hi) && subAt s sub i) = true then pure (ForInStep.yield (q.fst.push i, i + sub.length)) else pure (ForInStep.yield (q.fst, q.snd))) = l.foldl (fun p i => occStep s sub hi limit i p) p := by
    intro l
    induction l with
    | nil => intro p; rfl
    | cons i r ih =>
      intro p
      rw [List.forIn_cons, List.foldl_cons, ← ih]
      by_cases h : (decide (p.fst.size < limit) && decide (p.snd ≤ i) && decide (i + sub.length ≤ hi) && subAt s sub i) = true
      · have e : occStep s sub hi limit i p = (p.1.push i, i + sub.length) := if_pos h
        rw [if_pos h, e]
        rfl
      · have e : occStep s sub hi limit i p = p := if_neg h
        rw [if_neg h, e]
        rfl
  unfold occurrences occC
  simp only [Id.run, Std.Legacy.Range.forIn_eq_forIn_range', Std.Legacy.Range.size, Nat.add_sub_cancel, Nat.div_one]
  show ((forIn (m := Id) (List.range' lo (hi + 1 - lo)) (#[], lo) _ : Array Nat × Nat)).1.toList = _
  rw [key]
def inBC (x y : D) : M Bool := match x, y with
  | .str a, .str b => pure (!(occC b a 0 b.length 1).isEmpty)
  | x, y => inB x y
theorem inBC_eq : inBC = inB := by
  funext x y
  unfold inBC
  split
  · rw [← occ_eq]; rfl
  · rfl
def dInC (x y : D) : M D := inBC x y >>= fun b => pure (.bl b)
def dNinC (x y : D) : M D := inBC x y >>= fun b => pure (.bl (!b))
section
variable {X : Cx} {c : Cn} {W : WX} {φ φ' : Phi} {H H' : Hp} {μ μ' : Mem}
theorem opv_inC (hK : X.K = c.K) : OpV X c (compareOp .In) dInC := by
  have e : dInC = dIn := by funext x y; unfold dInC dIn; rw [inBC_eq]
  rw [e]
  exact opv_in hK
theorem opv_ninC (hK : X.K = c.K) : OpV X c (compareOp .NotIn) dNinC := by
  have e : dNinC = dNin := by funext x y; unfold dNinC dNin; rw [inBC_eq]
  rw [e]
  exact opv_nin hK
/-- int of an int, a bool, a text of digits -/
def intSD : List D → M D
  | [.str a] => match PySem.intText? a with
    | some n => ask (decide (a.length ≤ 640)) >>= fun _ => pure (.int n)
    | none => stuck
  | ds => intD ds
theorem cv_intS : CallV X c (.type "int") intSD := cv_int.or call_int_str fun φ μ H ds vs Q E w r h => by
  unfold intSD at h
  split at h
  · split at h
    · rename_i a _ n hn
      obtain ⟨v, rfl, r0⟩ := repL1 r
      obtain ⟨hl, h⟩ := wp_ask h
      exact .inl ⟨a, n, by rw [rep_str r0], hn, of_decide_eq_true hl, wp_pure h w of_int⟩
    · exact (wp_stuck (α := VL.D) (R := Rep c) h)
  · exact .inr h
end
end VL
namespace VL
open PySem PySem.Spec PyProof.Rows L2 LamX OwA
end VL
namespace VL
open PySem PySem.Spec PyProof.Rows L2 LamX OwA
section
variable {c : Cn} {W : WX} {φ φ' : Phi} {H H' : Hp} {μ μ' : Mem} {ρ : Env}
end
section
variable {X : Cx} {c : Cn} {W : WX} {pos : Pos}
end
end VL
namespace VL
open PySem PySem.Spec PyProof.Rows L2 LamX OwA
section
variable {X : Cx} {c : Cn} {W : WX} {e e2 : Expr} {f g : Env → M D}
end
end VL
namespace VL
open PySem PySem.Spec PyProof.Rows L2 LamX OwA
section
variable {X : Cx}
end
section
variable {X : Cx} {c : Cn} {W : WX}
end
end VL
namespace VL
open PySem PySem.Spec PyProof.Rows L2 LamX OwA
section
variable {X : Cx} {c : Cn} {W : WX} {e : Expr} {es : List Expr} {f : Env → M D} {fl fk : Env → M (List D)} {pos : Pos}
theorem PK.weak {kws : List Keyword} {t t' : TA} (h : PK X kws t) (i : ∀ σ H Q, t' σ H Q → t σ H Q) : PK X kws t' := ⟨fun pos pins s σ H Q I q => h.run pos pins s σ H Q I (i _ _ _ q)⟩
end
end VL
namespace VL
open PySem PySem.Spec PyProof.Rows L2 LamX OwA
section
variable {X : Cx} {c : Cn} {W : WX} {pos : Pos}
end
end VL
namespace VL
open PySem L2
section
variable {α β : Type} {μ μ' μ1 : Mem} {ρ ρ' : Env}
theorem bind_ok {m : M α} {k : α → M β} {a : α} {o : Out β} (h : m μ = .ok a μ') (h2 : k a μ' = o) : (m >>= k) μ = o := by
  show M.bind m k μ = o
  unfold M.bind
  rw [h]
  exact h2
theorem lift_ok {m : M α} {k : α → M Flow} {a : α} {o : Out Flow} (h : m μ = .ok a μ') (h2 : k a μ' = o) : liftS ρ m k μ = o := by
  unfold liftS
  rw [h]
  exact h2
theorem seq_nx {m : M Flow} {k : Env → M Flow} {o : Out Flow} (h : m μ = .ok (.nx ρ) μ') (h2 : k ρ μ' = o) : seqM m k μ = o := bind_ok h h2
theorem seq_rt {m : M Flow} {k : Env → M Flow} {d : D} (h : m μ = .ok (.rt d) μ') : seqM m k μ = .ok (.rt d) μ' := bind_ok h rfl
theorem run_rt {n : Nat} {s : Env → M Flow} {ds : List D} {d : D} (h : s (ds.map some ++ List.replicate (n - ds.length) none) μ = .ok (.rt d) μ') : runF n s ds μ = .ok d μ' := by
  unfold runF
  rw [h]
theorem call_ok {n : Nat} {m : List D → M D} {ds : List D} {o : Out D} (hn : (ds.length == n) = true) (h : m ds μ = o) : callM n m ds μ = o := by
  unfold callM
  refine bind_ok (a := ()) (μ' := μ) ?_ h
  rw [hn]
  rfl
theorem ask_ok {p : Bool} (h : p = true) : ask p μ = .ok () μ := by rw [h]; rfl
theorem iop_ok {ok : Int → Int → Bool} {g : Int → Int → D} {i j : Int} (h : ok i j = true) : intOp ok g (.int i) (.int j) μ = .ok (g i j) μ := bind_ok (a := ()) (ask_ok h) rfl
theorem mul_ok {i j : Int} (hi : i.natAbs < 2 ^ 200) (hj : j.natAbs < 2 ^ 200) : dMul (.int i) (.int j) μ = .ok (.int (i * j)) μ := iop_ok (by
  rw [decide_eq_true_eq]
  have f : ∀ n : Nat, n < 2 ^ 200 → n.log2 < 201 := fun n h => by
    by_cases z : n = 0
    · rw [z]; decide
    · have := (Nat.log2_lt z (k := 200)).2 h
      omega
  have := f _ hi
  have := f _ hj
  omega)
theorem div_ok {i j : Int} (h0 : 0 < j) (hj : j.natAbs < 2 ^ 200) : dDiv (.int i) (.int j) μ = .ok (.int (i / j)) μ := iop_ok (by
  rw [decide_eq_true_eq]
  have := (Nat.log2_lt (n := j.natAbs) (by omega) (k := 200)).2 hj
  exact ⟨h0, by omega⟩)
theorem mod_ok {i j : Int} (h0 : 0 < j) : dMod (.int i) (.int j) μ = .ok (.int (i % j)) μ := iop_ok (by
  rw [decide_eq_true_eq]
  exact h0)
end
def fP_dice : Env → M Flow := fun ρ => seqM (liftS ρ ((((rd 1 ρ) >>= fun x => (((rd 0 ρ) >>= fun x => (pure [] : M (List D)) >>= fun r => pure (x :: r)) >>= lenD) >>= fun y => dLt x y) >>= asB) >>= fun k => if k then ((((rd 0 ρ) >>= fun x => (rd 1 ρ) >>= fun y => dIx x y) >>= fun x => (pure [] : M (List D)) >>= fun r => pure (x :: r)) >>= intD) else (((pure (D.int 89) : M D) >>= fun x => (rd 1 ρ) >>= fun y => dMul x y) >>= fun x => (pure (D.int 53) : M D) >>= fun y => dAdd x y)) fun d => pure (Flow.nx (ρ.set 2 (some d))))
    (fun ρ => seqM (liftS ρ ((((pure (D.int 0) : M D) >>= fun x => (((((rd 2 ρ) >>= fun x => (pure [] : M (List D)) >>= fun r => pure (x :: r)) >>= absD) >>= fun x => ((pure (D.int 10) : M D) >>= fun x => (pure (D.int 17) : M D) >>= fun y => dPow x y) >>= fun y => dSub x y) >>= fun x => (pure [] : M (List D)) >>= fun r => pure (x :: r)) >>= fun r => pure (x :: r)) >>= maxD) >>= fun x => (((pure (D.int 10) : M D) >>= fun x => (pure (D.int 57) : M D) >>= fun y => dPow x y) >>= fun x => ((pure (D.int 10) : M D) >>= fun x => (pure (D.int 60) : M D) >>= fun y => dPow x y) >>= fun y => dMul x y) >>= fun y => dMod x y) fun d => pure (Flow.nx (ρ.set 3 (some d))))
    (fun ρ => liftS ρ (((rd 3 ρ) >>= fun x => (((((((((rd 2 ρ) >>= fun x => (pure [] : M (List D)) >>= fun r => pure (x :: r)) >>= absD) >>= fun x => (pure (D.int 1152921504606846817) : M D) >>= fun y => dMod x y) >>= fun x => (pure (D.int 83) : M D) >>= fun y => dMul x y) >>= fun x => ((pure (D.int 1009) : M D) >>= fun x => (rd 1 ρ) >>= fun y => dMul x y) >>= fun y => dAdd x y) >>= fun x => ((pure (D.int 43) : M D) >>= fun x => ((((rd 2 ρ) >>= fun x => (pure (D.int 0) : M D) >>= fun y => dLt x y) >>= fun x => (pure [] : M (List D)) >>= fun r => pure (x :: r)) >>= intD) >>= fun y => dMul x y) >>= fun y => dAdd x y) >>= fun x => (pure (D.int 29) : M D) >>= fun y => dAdd x y) >>= fun x => ((pure (D.int 0) : M D) >>= fun x => (pure [] : M (List D)) >>= fun r => pure (x :: r)) >>= fun r => pure (x :: r)) >>= fun r => pure (x :: r)) >>= mkNew) fun d => pure (Flow.rt d)))
def mP_dice : List D → M D := runF 4 fP_dice
def fP_roll : Env → M Flow := fun ρ => seqM (liftS ρ ((((rd 0 ρ) >>= fun x => (pure (D.int 0) : M D) >>= fun y => dIx x y) >>= fun x => (pure (D.int 0) : M D) >>= fun y => dGt x y) >>= asB) fun k => if k then (seqM (liftS ρ (((((rd 0 ρ) >>= fun x => (pure (D.int 0) : M D) >>= fun y => dIx x y) >>= fun x => (pure [] : M (List D)) >>= fun r => pure (x :: r)) >>= intD) >>= fun x => (rd 1 ρ) >>= fun y => dMod x y) fun d => pure (Flow.nx (ρ.set 4 (some d))))
    (fun ρ => seqM (liftS ρ (((rd 0 ρ) >>= fun x => (pure (D.int 0) : M D) >>= fun y => dIx x y) >>= fun x => (rd 1 ρ) >>= fun y => dDiv x y) fun d => liftT ((gIx (fun ρ => (rd 0 ρ)) (fun ρ => (pure (D.int 0) : M D))) d ρ) fun ρ1 => pure (Flow.nx ρ1))
    (fun ρ => liftS ρ (rd 4 ρ) fun d => pure (Flow.rt d)))) else (pure (Flow.nx ρ)))
    (fun ρ => seqM (liftS ρ (((rd 0 ρ) >>= fun x => (pure (D.int 2) : M D) >>= fun y => dIx x y) >>= fun x => (pure (D.int 1) : M D) >>= fun y => dAdd x y) fun d => liftT ((gIx (fun ρ => (rd 0 ρ)) (fun ρ => (pure (D.int 2) : M D))) d ρ) fun ρ1 => pure (Flow.nx ρ1))
    (fun ρ => seqM (liftS ρ ((((((rd 0 ρ) >>= fun x => (pure (D.int 1) : M D) >>= fun y => dIx x y) >>= fun x => ((pure (D.int 67867979) : M D) >>= fun x => ((rd 0 ρ) >>= fun x => (pure (D.int 2) : M D) >>= fun y => dIx x y) >>= fun y => dMul x y) >>= fun y => dAdd x y) >>= fun x => (pure [] : M (List D)) >>= fun r => pure (x :: r)) >>= intD) >>= fun x => (pure (D.int 2305843009213693723) : M D) >>= fun y => dMod x y) fun d => pure (Flow.nx (ρ.set 2 (some d))))
    (fun ρ => seqM (liftS ρ ((((((((rd 2 ρ) >>= fun x => (rd 2 ρ) >>= fun y => dMul x y) >>= fun x => ((pure (D.int 113) : M D) >>= fun x => ((rd 0 ρ) >>= fun x => (pure (D.int 2) : M D) >>= fun y => dIx x y) >>= fun y => dMul x y) >>= fun y => dAdd x y) >>= fun x => (pure [] : M (List D)) >>= fun r => pure (x :: r)) >>= intD) >>= fun x => (pure (D.int 2305843009213693487) : M D) >>= fun y => dMod x y) >>= fun x => (pure (D.int 6700417) : M D) >>= fun y => dMul x y) >>= fun x => (rd 2 ρ) >>= fun y => dAdd x y) fun d => pure (Flow.nx (ρ.set 3 (some d))))
    (fun ρ => liftS ρ (((((rd 3 ρ) >>= fun x => (pure (D.int 65537) : M D) >>= fun y => dDiv x y) >>= fun x => (pure [] : M (List D)) >>= fun r => pure (x :: r)) >>= intD) >>= fun x => (rd 1 ρ) >>= fun y => dMod x y) fun d => pure (Flow.rt d)))))
def mP_roll : List D → M D := runF 5 fP_roll
def fP_pick : Env → M Flow := fun ρ => liftS ρ ((rd 1 ρ) >>= fun x => (((rd 0 ρ) >>= fun x => ((((rd 1 ρ) >>= fun x => (pure [] : M (List D)) >>= fun r => pure (x :: r)) >>= lenD) >>= fun x => (pure [] : M (List D)) >>= fun r => pure (x :: r)) >>= fun r => pure (x :: r)) >>= callM 2 mP_roll) >>= fun y => dIx x y) fun d => pure (Flow.rt d)
def mP_pick : List D → M D := runF 2 fP_pick
theorem roll_hi {l s t n : Int} {r : Mem} (h : 0 < l) (hn : 0 < n) (hb : n < 2 ^ 100) : mP_roll [.ptr 0, .int n] (.lst [.int l, .int s, .int t] :: r) = .ok (.int (l % n)) (.lst [.int (l / n), .int s, .int t] :: r) := by
  refine run_rt (seq_rt (lift_ok (a := true) (μ' := .lst [.int l, .int s, .int t] :: r) ?_ ?_))
  · show Out.ok (decide (0 < l)) _ = _
    rw [decide_eq_true h]
  · refine seq_nx (lift_ok (a := .int (l % n)) (bind_ok (a := .int l) rfl (bind_ok (a := .int n) rfl (mod_ok hn))) rfl) ?_
    refine seq_nx (lift_ok (a := .int (l / n)) (bind_ok (a := .int l) rfl (bind_ok (a := .int n) rfl (div_ok hn (by omega)))) rfl) rfl
theorem roll_lo {l s t n k : Int} {r : Mem} (h : ¬ 0 < l) (hn : 0 < n) (ht : 0 ≤ t) (hk : t < k) (hb : k < 2 ^ 100) : ∃ x, 0 ≤ x ∧ x < n ∧ mP_roll [.ptr 0, .int n] (.lst [.int l, .int s, .int t] :: r) = .ok (.int x) (.lst [.int l, .int s, .int (t + 1)] :: r) := by
  obtain ⟨x, hx⟩ : ∃ x, x = (s + 67867979 * (t + 1)) % 2305843009213693723 := ⟨_, rfl⟩
  have x0 : 0 ≤ x := by rw [hx]; exact Int.emod_nonneg _ (by decide)
  have x1 : x < 2305843009213693723 := by rw [hx]; exact Int.emod_lt_of_pos _ (by decide)
  obtain ⟨z, hz⟩ : ∃ z, z = (x * x + 113 * (t + 1)) % 2305843009213693487 := ⟨_, rfl⟩
  have z0 : 0 ≤ z := by rw [hz]; exact Int.emod_nonneg _ (by decide)
  have z1 : z < 2305843009213693487 := by rw [hz]; exact Int.emod_lt_of_pos _ (by decide)
  refine ⟨(z * 6700417 + x) / 65537 % n, Int.emod_nonneg _ (by omega), Int.emod_lt_of_pos _ hn, run_rt (seq_nx (ρ := [some (.ptr 0), some (.int n), none, none, none]) (μ' := .lst [.int l, .int s, .int t] :: r) (lift_ok (a := false) (μ' := .lst [.int l, .int s, .int t] :: r) ?_ rfl) ?_)⟩
  · show Out.ok (decide (0 < l)) _ = _
    rw [decide_eq_false h]
  · refine seq_nx (μ' := .lst [.int l, .int s, .int (t + 1)] :: r) (ρ := [some (.ptr 0), some (.int n), none, none, none]) rfl ?_
    refine seq_nx (ρ := [some (.ptr 0), some (.int n), some (.int x), none, none]) (μ' := .lst [.int l, .int s, .int (t + 1)] :: r) (lift_ok (a := .int x) (μ' := .lst [.int l, .int s, .int (t + 1)] :: r) (bind_ok (a := .int (s + 67867979 * (t + 1))) (bind_ok (a := [.int (s + 67867979 * (t + 1))]) (bind_ok (a := .int (s + 67867979 * (t + 1))) (bind_ok (a := .int s) rfl (bind_ok (a := .int (67867979 * (t + 1))) (bind_ok (a := .int 67867979) rfl (bind_ok (a := .int (t + 1)) rfl (mul_ok (by decide) (by omega)))) rfl)) rfl) rfl) (by rw [hx]; exact bind_ok (a := .int 2305843009213693723) rfl (mod_ok (by decide)))) rfl) ?_
    clear hx
    refine seq_nx (ρ := [some (.ptr 0), some (.int n), some (.int x), some (.int (z * 6700417 + x)), none]) (μ' := .lst [.int l, .int s, .int (t + 1)] :: r) (lift_ok (a := .int (z * 6700417 + x)) (μ' := .lst [.int l, .int s, .int (t + 1)] :: r) (bind_ok (a := .int (z * 6700417)) (bind_ok (a := .int z) (bind_ok (a := .int (x * x + 113 * (t + 1))) (bind_ok (a := [.int (x * x + 113 * (t + 1))]) (bind_ok (a := .int (x * x + 113 * (t + 1))) (bind_ok (a := .int (x * x)) (bind_ok (a := .int x) rfl (bind_ok (a := .int x) rfl (mul_ok (by omega) (by omega)))) (bind_ok (a := .int (113 * (t + 1))) (bind_ok (a := .int 113) rfl (bind_ok (a := .int (t + 1)) rfl (mul_ok (by decide) (by omega)))) rfl)) rfl) rfl) (by rw [hz]; exact bind_ok (a := .int 2305843009213693487) rfl (mod_ok (by decide)))) (bind_ok (a := .int 6700417) rfl (mul_ok (by omega) (by decide)))) rfl) rfl) ?_
    exact lift_ok (bind_ok (a := .int ((z * 6700417 + x) / 65537)) (bind_ok (a := [.int ((z * 6700417 + x) / 65537)]) (bind_ok (a := .int ((z * 6700417 + x) / 65537)) (bind_ok (a := .int (z * 6700417 + x)) rfl (bind_ok (a := .int 65537) rfl (div_ok (by decide) (by decide)))) rfl) rfl) (bind_ok (a := .int n) rfl (mod_ok hn))) rfl
/-- the dice: what is left, the seed, the count -/
def Dice (k : Int) (μ : Mem) (r : Mem) : Prop := ∃ l s t, 0 ≤ t ∧ t < k ∧ μ = .lst [.int l, .int s, .int t] :: r
theorem Dice.up {k j : Int} {μ r : Mem} (h : Dice k μ r) (hj : k ≤ j) : Dice j μ r := by
  obtain ⟨l, s, t, h0, h1, e⟩ := h
  exact ⟨l, s, t, h0, by omega, e⟩
theorem roll_ok {n k : Int} {μ r : Mem} (hd : Dice k μ r) (hk : k < 2 ^ 99) (hn : 0 < n) (hb : n < 2 ^ 100) : ∃ x μ', 0 ≤ x ∧ x < n ∧ Dice (k + 1) μ' r ∧ mP_roll [.ptr 0, .int n] μ = .ok (.int x) μ' := by
  obtain ⟨l, s, t, h0, h1, rfl⟩ := hd
  by_cases h : 0 < l
  · exact ⟨_, _, Int.emod_nonneg _ (by omega), Int.emod_lt_of_pos _ hn, ⟨l / n, s, t, h0, by omega, rfl⟩, roll_hi h hn hb⟩
  · obtain ⟨x, x0, x1, e⟩ := roll_lo (l := l) (s := s) (r := r) h hn h0 h1 (by omega)
    exact ⟨x, _, x0, x1, ⟨l, s, t + 1, by omega, by omega, rfl⟩, e⟩
theorem atI_ok {xs : List D} {x : Int} (h0 : 0 ≤ x) (h1 : x < xs.length) : ∃ d, atI xs x = some d ∧ d ∈ xs := by
  have hx : x.toNat < xs.length := by omega
  refine ⟨xs[x.toNat], ?_, List.getElem_mem hx⟩
  obtain ⟨m, rfl⟩ := Int.eq_ofNat_of_zero_le h0
  have hm : m < xs.length := by omega
  unfold atI ixN
  first
    | (simp [hm]; done)
    | (simp [hm]; omega)
/-- what can be picked from -/
def itemsOf : D → Option (List D)
  | .lst xs => some xs
  | .tup xs => some xs
  | _ => none
theorem pick_ok {xs : List D} {k : Int} {x : D} {μ r : Mem} (hd : Dice k μ r) (hx : itemsOf x = some xs) (hn : (!xs.isEmpty && decide (xs.length < 1000000)) = true) (hk : k < 2 ^ 99 := by decide) : ∃ d μ', d ∈ xs ∧ Dice (k + 1) μ' r ∧ mP_pick [.ptr 0, x] μ = .ok d μ' := by
  simp only [Bool.and_eq_true, decide_eq_true_eq, Bool.not_eq_true', List.isEmpty_eq_false_iff] at hn
  obtain ⟨hn, hb⟩ := hn
  have hl : 0 < xs.length := List.length_pos_iff.2 hn
  obtain ⟨y, μ', y0, y1, hd', e⟩ := roll_ok (n := (xs.length : Int)) hd hk (by omega) (by omega)
  obtain ⟨d, ed, hm⟩ := atI_ok y0 y1
  refine ⟨d, μ', hm, hd', run_rt (lift_ok (a := d) (μ' := μ') (bind_ok (a := x) (μ' := μ) rfl (bind_ok (a := .int y) (μ' := μ') (bind_ok (a := [.ptr 0, .int (xs.length : Int)]) (μ' := μ) ?_ (call_ok rfl e)) ?_)) rfl)⟩
  · refine bind_ok (a := .ptr 0) (μ' := μ) rfl (bind_ok (a := [.int (xs.length : Int)]) (μ' := μ) (bind_ok (a := .int (xs.length : Int)) (μ' := μ) (bind_ok (a := [x]) (μ' := μ) rfl ?_) rfl) rfl)
    cases x <;> simp only [itemsOf, Option.some.injEq, reduceCtorEq] at hx
    all_goals subst hx; rfl
  · cases x <;> simp only [itemsOf, Option.some.injEq, reduceCtorEq] at hx
    all_goals
      subst hx
      show atM _ y μ' = _
      unfold atM
      rw [ed]
      rfl
end VL
namespace VL
open PySem L2
theorem atI_map {ns : List Int} {i : Int} (h0 : 0 ≤ i) (h1 : i < ns.length) : ∃ x, atI (ns.map D.int) i = some (.int x) := by
  obtain ⟨d, e, hm⟩ := atI_ok (xs := ns.map D.int) h0 (by rw [List.length_map]; exact h1)
  obtain ⟨x, _, rfl⟩ := List.mem_map.1 hm
  exact ⟨x, e⟩
theorem dice_ok {ns : List Int} {i : Int} {μ : Mem} (h0 : 0 ≤ i) (h1 : i < 100) : ∃ l s, mP_dice [.scr (ns.map D.int), .int i] μ = .ok (.ptr μ.length) (μ ++ [.lst [.int l, .int s, .int 0]]) := by
  have hc : ∃ x : Int, fP_dice [some (.scr (ns.map D.int)), some (.int i), none, none] μ = (fun ρ => seqM (liftS ρ ((((pure (D.int 0) : M D) >>= fun x => (((((rd 2 ρ) >>= fun x => (pure [] : M (List D)) >>= fun r => pure (x :: r)) >>= absD) >>= fun x => ((pure (D.int 10) : M D) >>= fun x => (pure (D.int 17) : M D) >>= fun y => dPow x y) >>= fun y => dSub x y) >>= fun x => (pure [] : M (List D)) >>= fun r => pure (x :: r)) >>= fun r => pure (x :: r)) >>= maxD) >>= fun x => (((pure (D.int 10) : M D) >>= fun x => (pure (D.int 57) : M D) >>= fun y => dPow x y) >>= fun x => ((pure (D.int 10) : M D) >>= fun x => (pure (D.int 60) : M D) >>= fun y => dPow x y) >>= fun y => dMul x y) >>= fun y => dMod x y) fun d => pure (Flow.nx (ρ.set 3 (some d))))
    (fun ρ => liftS ρ (((rd 3 ρ) >>= fun x => (((((((((rd 2 ρ) >>= fun x => (pure [] : M (List D)) >>= fun r => pure (x :: r)) >>= absD) >>= fun x => (pure (D.int 1152921504606846817) : M D) >>= fun y => dMod x y) >>= fun x => (pure (D.int 83) : M D) >>= fun y => dMul x y) >>= fun x => ((pure (D.int 1009) : M D) >>= fun x => (rd 1 ρ) >>= fun y => dMul x y) >>= fun y => dAdd x y) >>= fun x => ((pure (D.int 43) : M D) >>= fun x => ((((rd 2 ρ) >>= fun x => (pure (D.int 0) : M D) >>= fun y => dLt x y) >>= fun x => (pure [] : M (List D)) >>= fun r => pure (x :: r)) >>= intD) >>= fun y => dMul x y) >>= fun y => dAdd x y) >>= fun x => (pure (D.int 29) : M D) >>= fun y => dAdd x y) >>= fun x => ((pure (D.int 0) : M D) >>= fun x => (pure [] : M (List D)) >>= fun r => pure (x :: r)) >>= fun r => pure (x :: r)) >>= fun r => pure (x :: r)) >>= mkNew) fun d => pure (Flow.rt d))) [some (.scr (ns.map D.int)), some (.int i), some (.int x), none] μ := by
    have hl : (ns.map D.int).length = ns.length := List.length_map ..
    by_cases h : i < ns.length
    · obtain ⟨x, e⟩ := atI_map h0 h
      refine ⟨x, seq_nx (lift_ok (a := .int x) (μ' := μ) (bind_ok (a := true) (μ' := μ) ?_ ?_) rfl) rfl⟩
      · show Out.ok (decide (i < ((ns.map D.int).length : Int))) μ = _
        rw [hl, decide_eq_true h]
      · refine bind_ok (a := [.int x]) (μ' := μ) (bind_ok (a := .int x) (μ' := μ) ?_ rfl) rfl
        show atM (ns.map D.int) i μ = _
        unfold atM
        rw [e]
        rfl
    · refine ⟨89 * i + 53, seq_nx (lift_ok (a := .int (89 * i + 53)) (μ' := μ) (bind_ok (a := false) (μ' := μ) ?_ ?_) rfl) rfl⟩
      · show Out.ok (decide (i < ((ns.map D.int).length : Int))) μ = _
        rw [hl, decide_eq_false h]
      · exact bind_ok (a := .int (89 * i)) (μ' := μ) (bind_ok (a := .int 89) rfl (bind_ok (a := .int i) rfl (mul_ok (by decide) (by omega)))) rfl
  obtain ⟨x, hc⟩ := hc
  obtain ⟨y, hy⟩ : ∃ y : Int, y = if x < 0 then -x else x := ⟨_, rfl⟩
  have hb : (y % 1152921504606846817).natAbs < 2 ^ 200 := by
    have := Int.emod_nonneg y (b := 1152921504606846817) (by decide)
    have := Int.emod_lt_of_pos y (b := 1152921504606846817) (by decide)
    omega
  obtain ⟨z, hz, hz2⟩ : ∃ z : Int, maxD [.int 0, .int (y - 10 ^ 17)] μ = .ok (.int z) μ ∧ True := ⟨_, rfl, trivial⟩
  have hi : (if decide (x < 0) then (1 : Int) else 0).natAbs < 2 ^ 200 := by split <;> decide
  refine ⟨z % (10 ^ 57 * 10 ^ 60), y % 1152921504606846817 * 83 + 1009 * i + 43 * (if decide (x < 0) then 1 else 0) + 29, run_rt ?_⟩
  show fP_dice [some (.scr (ns.map D.int)), some (.int i), none, none] μ = _
  rw [hc]
  have ha : absD [.int x] μ = .ok (.int y) μ := by rw [hy]; rfl
  refine seq_nx (ρ := [some (.scr (ns.map D.int)), some (.int i), some (.int x), some (.int (z % (10 ^ 57 * 10 ^ 60)))]) (μ' := μ) (lift_ok (a := .int (z % (10 ^ 57 * 10 ^ 60))) (μ' := μ) (bind_ok (a := .int z) (μ' := μ) (bind_ok (a := [.int 0, .int (y - 10 ^ 17)]) (μ' := μ) (bind_ok (a := .int 0) rfl (bind_ok (a := [.int (y - 10 ^ 17)]) (μ' := μ) (bind_ok (a := .int (y - 10 ^ 17)) (μ' := μ) (bind_ok (a := .int y) (μ' := μ) (bind_ok (a := [.int x]) (μ' := μ) rfl ha) (bind_ok (a := .int (10 ^ 17)) (μ' := μ) rfl rfl)) rfl) rfl)) hz) (bind_ok (a := .int (10 ^ 57 * 10 ^ 60)) (μ' := μ) (bind_ok (a := .int (10 ^ 57)) (μ' := μ) rfl (bind_ok (a := .int (10 ^ 60)) (μ' := μ) rfl (mul_ok (by decide) (by decide)))) (mod_ok (by decide)))) rfl) ?_
  refine lift_ok (a := .ptr μ.length) (bind_ok (a := [.int (z % (10 ^ 57 * 10 ^ 60)), .int (y % 1152921504606846817 * 83 + 1009 * i + 43 * (if decide (x < 0) then 1 else 0) + 29), .int 0]) (μ' := μ) (bind_ok (a := .int (z % (10 ^ 57 * 10 ^ 60))) (μ' := μ) rfl (bind_ok (a := [.int (y % 1152921504606846817 * 83 + 1009 * i + 43 * (if decide (x < 0) then 1 else 0) + 29), .int 0]) (μ' := μ) (bind_ok (a := .int (y % 1152921504606846817 * 83 + 1009 * i + 43 * (if decide (x < 0) then 1 else 0) + 29)) (μ' := μ) (bind_ok (a := .int (y % 1152921504606846817 * 83 + 1009 * i + 43 * (if decide (x < 0) then 1 else 0))) (μ' := μ) (bind_ok (a := .int (y % 1152921504606846817 * 83 + 1009 * i)) (μ' := μ) (bind_ok (a := .int (y % 1152921504606846817 * 83)) (μ' := μ) (bind_ok (a := .int (y % 1152921504606846817)) (μ' := μ) (bind_ok (a := .int y) (μ' := μ) (bind_ok (a := [.int x]) (μ' := μ) rfl ha) (bind_ok (a := .int 1152921504606846817) (μ' := μ) rfl (mod_ok (by decide)))) (bind_ok (a := .int 83) (μ' := μ) rfl (mul_ok hb (by decide)))) (bind_ok (a := .int (1009 * i)) (μ' := μ) (bind_ok (a := .int 1009) (μ' := μ) rfl (bind_ok (a := .int i) (μ' := μ) rfl (mul_ok (by decide) (by omega)))) rfl)) (bind_ok (a := .int (43 * (if decide (x < 0) then 1 else 0))) (μ' := μ) (bind_ok (a := .int 43) (μ' := μ) rfl (bind_ok (a := .int (if decide (x < 0) then 1 else 0)) (μ' := μ) rfl (mul_ok (by decide) hi))) rfl)) rfl) rfl) rfl)) rfl) rfl
end VL
namespace VL
open PySem L2
/-- a cell of dice -/
def DiceC (k : Int) (c : Cell) : Prop := ∃ l s t, 0 ≤ t ∧ t < k ∧ c = .lst [.int l, .int s, .int t]
theorem DiceC.np {k : Int} {c : Cell} (h : DiceC k c) : noPtrC c = true := by
  obtain ⟨l, s, t, _, _, rfl⟩ := h
  rfl
theorem DiceC.dice {k : Int} {c : Cell} (h : DiceC k c) (r : Mem) : Dice k (c :: r) r := by
  obtain ⟨l, s, t, h0, h1, rfl⟩ := h
  exact ⟨l, s, t, h0, h1, rfl⟩
theorem Dice.cell {k : Int} {μ r : Mem} (h : Dice k μ r) : ∃ c, DiceC k c ∧ μ = c :: r := by
  obtain ⟨l, s, t, h0, h1, rfl⟩ := h
  exact ⟨_, ⟨l, s, t, h0, h1, rfl⟩, rfl⟩
theorem DiceC.up {k j : Int} {c : Cell} (h : DiceC k c) (hj : k ≤ j) : DiceC j c := by
  obtain ⟨l, s, t, h0, h1, e⟩ := h
  exact ⟨l, s, t, h0, by omega, e⟩
section
variable {it : ItD} {g : D → Env → M Env} {body : Env → M Flow} {d : D} {r : List D} {ρ ρ1 ρ2 : Env} {μ μ1 : Mem} {o : Out Flow}
end
end VL
namespace VL
open PySem
section
variable {α β : Type} {μ μ' : Mem} {ρ : Env}
end
end VL
namespace ST
open PySem PySem.Spec PyProof.Rows L2
/-- how many unlike ones -/
def cnt : List Str → Nat
  | [] => 0
  | x :: r => if r.any (· == x) then cnt r else cnt r + 1
/-- how many unlike ones, from the front -/
def cntF (xs : List Str) : Nat := cnt xs.reverse
section
variable {P : Program} {w : World} {A : Around} {E : Value → Shared → Prop} {s : Shared}
abbrev TK (P : Program) (w : World) := PySem.strKind P w
/-- the set of texts xs -/
abbrev Has (P : Program) (w : World) (h : Heap) (a : Addr) (xs : List Str) : Prop := h.SetOf (TK P w) a (fun k => xs.any (· == k)) (cntF xs)
theorem Has.kept {h h' : Heap} {a : Addr} {xs : List Str} (F : Has P w h a xs) (k : ∀ o, h.get? a = some o → h'.get? a = some o) : Has P w h' a xs := by
  obtain ⟨o, es, ep, t, ho, r⟩ := F
  exact ⟨o, es, ep, t, k o ho, r⟩
/-- an empty set as it is made -/
abbrev so (w : World) : Obj := { cls := .type "set", dict := none, data := .set #[] 0 (.fresh 0 0 (!w.params.followText "set-order")) }
end
end ST
namespace L2
open PySem PySem.Spec PyProof.Rows
section
variable {X : Cx}
end
end L2
namespace VL
open PySem PySem.Spec PyProof.Rows L2 LamX OwA
section
variable {X : Cx} {c : Cn} {W : WX} {pos : Pos}
end
end VL
namespace VL
open PySem PySem.Spec PyProof.Rows L2 LamX OwA
section
variable {X : Cx} {c : Cn} {W : WX} {φ : Phi} {H : Hp} {μ : Mem}
end
end VL
namespace L2
open PySem PySem.Spec PyProof.Rows
section
variable {X : Cx}
end
end L2
namespace VL
open PySem PySem.Spec PyProof.Rows L2 LamX OwA
section
variable {X : Cx} {c : Cn} {I : IniC} {W : WX} {φ φ' : Phi} {H H' : Hp} {μ μ' : Mem} {ρ : Env} {σ : L2.St} {pos : Pos} {e : Expr} {es : List Expr} {fl : Env → M (List D)}
end
end VL
namespace VL
open PySem PySem.Spec PyProof.Rows L2 LamX OwA
section
variable {X : Cx} {c : Cn} {W : WX} {φ : Phi} {H : Hp} {μ : Mem} {pos : Pos} {e e2 : Expr} {fa fb : Env → M D}
end
end VL
namespace L2
open PySem PySem.Spec PyProof.Rows
section
variable {X : Cx}
end
end L2
namespace VL
open PySem PySem.Spec PyProof.Rows L2 LamX OwA
section
variable {X : Cx} {c : Cn} {W : WX} {e : Expr} {es : List Expr} {pos : Pos} {fl fk : Env → M (List D)}
end
end VL
namespace VL
open PySem PySem.Spec PyProof.Rows L2 LamX OwA
end VL
namespace VL
open PySem PySem.Spec PyProof.Rows L2 LamX OwA PySem.SeqAt
open AutoSeq1 (wpAny_loadPart')
open MeetsSeq MeetsSeq2 MeetsSeq3
section
variable {prog : Program} {w : World} {A : Around} {E : Value → Shared → Prop} {s : Shared} {R : PySem.Fin → Shared → Prop} {l C : Addr} {dd : Option Addr} {sl : Array (Option Value)}
end
section
variable {X : Cx} {c : Cn} {W : WX} {CX : CXT} {n : Nat} {C g : Addr} {sp : Sp} {E : XK}
end
end VL
namespace VL
open PySem PySem.Spec PyProof.Rows L2 LamX OwA
section
variable {X : Cx} {c : Cn} {W : WX}
end
end VL
namespace VL
open PySem PySem.Spec PyProof.Rows L2 LamX OwA
section
variable {X : Cx} {c : Cn} {W : WX} {φ : Phi} {H : Hp}
end
end VL
namespace VL
open PySem PySem.Spec PyProof.Rows L2 LamX OwA
section
variable {X : Cx} {c : Cn} {W : WX} {e : Expr} {es : List Expr} {f : Env → M D} {fl fk : Env → M (List D)} {pos : Pos}
end
end VL
namespace VL
open PySem PySem.Spec PyProof.Rows L2 LamX OwA
section
variable {X : Cx} {c : Cn} {W : WX} {e b : Expr} {f g : Env → M D} {pos : Pos}
end
end VL
namespace PySem
open Sem (wp)
section
variable {prog : Program} {w : World} {K : Type} [DecidableEq K] {knd : KeyKind prog w K} {A : Around} {E : Value → Shared → Prop} {s : Shared}
end
end PySem
namespace PySem
end PySem
namespace L2
open PySem PySem.Spec PyProof.Rows
section
variable {X : Cx} {pos : Pos}
end
end L2
namespace VL
open PySem PySem.Spec PyProof.Rows L2 LamX OwA
section
variable {X : Cx} {c : Cn} {W : WX} {pos : Pos}
end
end VL
namespace L2
open PySem PySem.Spec PyProof.Rows
end L2
namespace VL
open PySem PySem.Spec PyProof.Rows L2 LamX OwA
section
variable {X : Cx} {c : Cn}
end
end VL
namespace VL
open PySem PySem.Spec PyProof.Rows L2 LamX OwA
section
variable {c : Cn} {φ φ' : Phi} {H H' : Hp} {μ μ' : Mem}
variable {X : Cx} {W : WX}
end
end VL
namespace SI
open PySem PySem.Spec PyProof.Rows L2
section
variable {P : Program} {w : World} {A : Around} {E : Value → Shared → Prop} {s : Shared}
/-- an empty set as it is made -/
abbrev so (w : World) : Obj := { cls := .type "set", dict := none, data := .set #[] 0 (.fresh 0 0 (!w.params.followText "set-order")) }
end
end SI
namespace L2
open PySem PySem.Spec PyProof.Rows
section
variable {X : Cx}
end
end L2
namespace VL
open PySem PySem.Spec PyProof.Rows L2 LamX OwA
section
variable {X : Cx} {c : Cn} {W : WX} {pos : Pos}
end
end VL
namespace L2
open PySem PySem.Spec PyProof.Rows
end L2
namespace VL
open PySem PySem.Spec PyProof.Rows L2 LamX OwA
section
variable {c : Cn} {φ φ' : Phi} {H H' : Hp} {μ μ' : Mem}
/-- as Keep, but an entry may get or lose its lock -/
structure KeepW (φ : Phi) (H : Hp) (φ' : Phi) (H' : Hp) : Prop where
  pre : ∀ (k : Nat) (e : Ent), φ.st[k]? = some (some e) → ∃ e' : Ent, φ'.st[k]? = some (some e') ∧ e'.1 = e.1
  kp : ∀ b o, ¬ own φ b → H b = some o → (∀ ps, o ≠ .tbl ps) → H' b = some o
  own : ∀ b, own φ' b → own φ b
theorem KeepW.rd (L : KeepW φ H φ' H') {a : Addr} {u : HO} (n : ¬ VL.own φ a) (h : Rd H a u) (hu : ∀ ps, u ≠ .tbl ps) : Rd H' a u ∧ ¬ VL.own φ' a := by
  rcases h with h | ⟨o, h⟩
  · exact ⟨.inl (L.kp a _ n h hu), fun z => n (L.own _ z)⟩
  · exact ⟨.inr ⟨o, L.kp a _ n h (by intro ps z; cases z)⟩, fun z => n (L.own _ z)⟩
theorem KeepW.slt (L : KeepW φ H φ' H') {a C dx : Addr} {vs : List (Option V)} (h : SlX.Slt H a C dx vs) (n : ¬ VL.own φ a) (m : ¬ VL.own φ dx) : SlX.Slt H' a C dx vs := by
  rcases h with ⟨h, e⟩ | ⟨h, e⟩
  · exact .inl ⟨L.kp a _ n h (by intro ps z; cases z), e⟩
  · exact .inr ⟨L.kp a _ n h (by unfold SlX.SlO; intro ps z; cases z), L.kp dx _ m e (by intro ps z; cases z)⟩
variable {X : Cx} {W : WX} {e : Expr} {f : Env → M D}
end
end VL
namespace L2
open PySem PySem.Spec PyProof.Rows
end L2
namespace VL
open PySem PySem.Spec PyProof.Rows L2 LamX OwA
section
variable {X : Cx} {c : Cn} {W : WX} {φ : Phi} {H : Hp} {μ : Mem}
end
end VL
namespace VL
open PySem PySem.Spec PyProof.Rows L2 LamX OwA
section
variable {X : Cx} {c : Cn} {W : WX} {pos : Pos} {e : Expr} {es : List Expr} {fl fk : Env → M (List D)}
end
end VL
namespace VL
open PySem PySem.Spec PyProof.Rows L2 LamX OwA
section
variable {X : Cx} {c : Cn}
end
end VL
namespace VL
open PySem PySem.Spec PyProof.Rows L2 LamX OwA
section
variable {X : Cx} {c : Cn} {W : WX} {φ φ' : Phi} {H H' : Hp} {μ μ' : Mem} {e : Expr} {f : Env → M D} {pos : Pos}
end
section
variable {X : Cx} {c : Cn} {W : WX} {pos : Pos}
end
end VL
namespace L2
open PySem PySem.Spec PyProof.Rows
end L2
namespace VL
open PySem PySem.Spec PyProof.Rows L2 LamX OwA
section
variable {X : Cx} {c : Cn}
end
end VL
namespace L2
open PySem PySem.Spec PyProof.Rows
section
variable {X : Cx}
end
end L2
namespace VL
open PySem PySem.Spec PyProof.Rows L2 LamX OwA
section
variable {X : Cx} {c : Cn} {W : WX} {pos : Pos}
end
end VL
namespace L2
open PySem PySem.Spec PyProof.Rows
section
variable {X : Cx} {pins : List (Addr × Obj)} {σ : St} {H : Hp} {s : Shared} {d : Addr} {o : Obj} {b : Bool} {v : V}
end
section
variable {P : Program} {w : World} {K : PySem.W.Frag} {d : Addr} {o : Obj} {es : Array DictEntry} {ep : Nat} {b : Bool} {v : V}
end
section
variable {X : Cx} {e : Expr} {td : TE} {apos cpos : Pos}
end
end L2
namespace VL
open PySem PySem.Spec PyProof.Rows L2 LamX OwA
section
variable {X : Cx} {c : Cn} {W : WX} {pos : Pos}
end
end VL
namespace GQ
open PySem PySem.SeqAt
open AutoSeq1 (wpAny_loadPart')
open MeetsSeq MeetsSeq2 MeetsSeq3 SeqRoads2
section
variable {prog : Program} {w : World} {A : Around} {R : Result → Shared → Prop}
end
end GQ
namespace GQ
open PySem PySem.SeqAt
section
variable {prog : Program} {w : World} {A : Around} {E : Value → Shared → Prop} {s : Shared}
end
end GQ
namespace OwA
open PySem PySem.Spec PyProof.Rows L2 SlX
section
variable {X : Cx} {CX : CXT} {n : Nat} {g C : Addr} {sp : Sp} {E : XK}
end
end OwA
namespace VL
open PySem PySem.Spec PyProof.Rows L2 LamX OwA
open Classical in
section
variable {X : Cx} {c : Cn} {φ : Phi} {μ : Mem} {H : Hp}
def isT : D → M Unit
  | .bl true => pure ()
  | _ => stuck
end
end VL
namespace L2
open PySem PySem.Spec PyProof.Rows
end L2
namespace VL
open PySem PySem.Spec PyProof.Rows L2 LamX OwA
section
variable {X : Cx} {c : Cn} {W : WX}
end
section
variable {prog : Program} {w : World} {A : Around} {E : Value → Shared → Prop} {s : Shared}
end
section
variable {X : Cx} {c : Cn} {W : WX} {φ φ' : Phi} {H H' : Hp} {μ μ' : Mem} {ρ : Env} {σ : L2.St} {D0 : Ends} {e : Expr} {es : List Expr} {f g h : Env → M D} {fl : Env → M (List D)} {pos : Pos}
end
end VL
namespace VL
open PySem PySem.Spec PyProof.Rows L2 LamX OwA
section
variable {c : Cn} {n : Nat} {hds : List ExceptHandler} {hs : List ((String → Option Bool) × (Exn → M D))}
end
end VL
namespace VL
open PySem PySem.Spec PyProof.Rows L2 LamX OwA
section
variable {M : Model} {A : Around} {E : Value → Shared → Prop} {s : Shared} {env : PySem.Env}
end
section
variable {X : Cx} {c : Cn} {W : WX} {φ : Phi} {H : Hp} {μ : Mem}
end
end VL
namespace VL
open PySem PySem.Spec PyProof.Rows L2 LamX OwA
end VL
namespace VL
open PySem PySem.Spec PyProof.Rows L2 LamX OwA
section
variable {c : Cn} {X : Cx} {W : WX} {φ : Phi} {μ : Mem} {H : Hp} {fl : Env → M (List D)} {pos : Pos}
end
end VL
namespace VL
open PySem
section
variable {α β γ : Type}
theorem pb_M (a : α) (k : α → M β) : ((pure a : M α) >>= k) = k a := Eq.trans rfl rfl
theorem ask_p {p : Bool} (h : p = true) : ask p = pure () := by rw [h]; rfl
theorem liftS_p (ρ : Env) (a : α) (k : α → M Flow) : liftS ρ (pure a) k = k a := Eq.trans rfl rfl
theorem liftT_p (ρ : Env) (k : Env → M α) : liftT (pure ρ) k = k ρ := Eq.trans rfl rfl
theorem seqM_nx (ρ : Env) (k : Env → M Flow) : seqM (pure (.nx ρ)) k = k ρ := Eq.trans rfl rfl
theorem seqM_rt (d : D) (k : Env → M Flow) : seqM (pure (.rt d)) k = pure (.rt d) := Eq.trans rfl rfl
theorem seqM_xc (ρ : Env) (e : Exn) (k : Env → M Flow) : seqM (pure (.xc ρ e)) k = pure (.xc ρ e) := Eq.trans rfl rfl
theorem noX_p (a : α) : noX (pure a : M α) = pure a := Eq.trans rfl rfl
theorem runF_rt {n : Nat} {s : Env → M Flow} {ds : List D} {d : D} (h : s (ds.map some ++ List.replicate (n - ds.length) none) = pure (.rt d)) : runF n s ds = pure d := funext fun μ => by
  unfold runF
  rw [h]
  rfl
theorem callM_t {n : Nat} {m : List D → M D} {ds : List D} (h : (ds.length == n) = true) : callM n m ds = m ds := by unfold callM; rw [h]; rfl
theorem asB_p (b : Bool) : asB (.bl b) = pure b := Eq.trans rfl rfl
theorem tOr_p (a : Bool) (m : M Bool) : tOr (pure a) m = if a then pure true else m := Eq.trans rfl rfl
theorem tAnd_p (a : Bool) (m : M Bool) : tAnd (pure a) m = if a then m else pure false := Eq.trans rfl rfl
theorem andD_p (a : Bool) (m : M D) : andD (pure (.bl a)) m = if a then m else pure (.bl false) := by cases a <;> rfl
theorem chk_p {p : Mem → Prop} [DecidablePred p] (h : p = fun _ => True) (m : M α) : chkM p m = m := by
  subst h
  funext μ
  exact if_pos trivial
theorem len_tup (xs : List D) : lenD [.tup xs] = pure (.int xs.length) := Eq.trans rfl rfl
theorem it_tup (xs : List D) : itOf (.tup xs) = pure ⟨xs, fun _ => True⟩ := Eq.trans rfl rfl
theorem it_lst (xs : List D) : itOf (.lst xs) = pure ⟨xs, fun _ => True⟩ := Eq.trans rfl rfl
theorem ne_int (a b : Int) : dNe (.int a) (.int b) = pure (.bl (!decide (a = b))) := Eq.trans rfl rfl
theorem eq_str (a b : Str) : dEq (.str a) (.str b) = pure (.bl (decide (a = b))) := Eq.trans rfl rfl
theorem ne_str (a b : Str) : dNe (.str a) (.str b) = pure (.bl (!decide (a = b))) := Eq.trans rfl rfl
theorem small_of {n : Nat} (h : n < 100000) : small n = true := decide_eq_true (Nat.le_trans (Nat.le_of_lt h) (by decide))
theorem atI_nat {xs : List D} {i : Nat} (h : i < xs.length) : L2.atI xs (i : Int) = some xs[i] := by
  unfold L2.atI L2.ixN
  first
    | simp [h]
    | (simp; omega)
theorem ix_nat {xs : List D} {i : Nat} (h : i < xs.length) : dIx (.tup xs) (.int (i : Int)) = pure xs[i] := by
  show atM xs (i : Int) = _
  unfold atM
  rw [atI_nat h]
theorem rangeD_0 (n : Nat) : rangeD 0 n = (List.range n).map fun (k : Nat) => .int (k : Int) := by
  unfold rangeD
  refine List.map_congr_left fun k _ => ?_
  rw [Int.zero_add]
theorem rng1_nat {n : Nat} (h : n < 100000) : rng1 [.int (n : Int)] = pure ⟨(List.range n).map fun (k : Nat) => .int (k : Int), fun _ => True⟩ := by
  show (ask (decide (-(2 ^ 62) ≤ (n : Int) ∧ (n : Int) < 2 ^ 62)) >>= fun _ => pure (⟨rangeD 0 (n : Int).toNat, fun _ => True⟩ : ItD)) = _
  rw [ask_p (decide_eq_true (by omega)), pb_M, Int.toNat_natCast]
  have e := rangeD_0 n
  generalize rangeD 0 n = q at e
  subst e
  rfl
theorem shaped_of {p : PyData} (h : PyData.canLay0 p = true) (h2 : PyData.depth p ≤ 64) : SeqAt.shaped p = true := by
  unfold SeqAt.shaped
  rw [h, decide_eq_true h2]
  rfl
theorem runI_nx {n k : Nat} {s : Env → M Flow} {ds fs : List D} {ρ : Env} (h : s (none :: ds.map some ++ List.replicate (n - (ds.length + 1)) none ++ List.replicate k none) = pure (.nx ρ)) (hf : (ρ.drop n).mapM id = some fs) : runI n k s ds = pure fs := funext fun μ => by
  unfold runI
  rw [h]
  show (match (ρ.drop n).mapM id with
    | some fs => Out.ok fs μ
    | none => Out.stuck) = _
  rw [hf]
  rfl
end
end VL
namespace VL
open PySem
section
variable {α β : Type} {μ μ' : Mem} {ρ : Env} {N : Env → Mem → Prop} {R : D → Mem → Prop}
@[irreducible] def Run (m : M α) (μ : Mem) (Q : α → Mem → Prop) : Prop := match m μ with
  | .ok a μ' => Q a μ'
  | _ => False
@[irreducible] def RunS (m : M Flow) (μ : Mem) (N : Env → Mem → Prop) (R : D → Mem → Prop) : Prop := match m μ with
  | .ok (.nx ρ) μ' => N ρ μ'
  | .ok (.rt d) μ' => R d μ'
  | _ => False
theorem run_pure {a : α} {Q : α → Mem → Prop} : Run (pure a) μ Q = Q a μ := by unfold Run; rfl
theorem run_bind {m : M α} {k : α → M β} {Q : β → Mem → Prop} : Run (m >>= k) μ Q = Run m μ fun a μ' => Run (k a) μ' Q := by
  unfold Run
  show (match M.bind m k μ with
    | .ok a μ' => Q a μ'
    | _ => False) = _
  unfold M.bind
  cases m μ <;> rfl
theorem run_ok {m : M α} {a : α} {Q : α → Mem → Prop} (h : m μ = .ok a μ') : Run m μ Q = Q a μ' := by unfold Run; rw [h]
theorem Run.mono {m : M α} {Q Q' : α → Mem → Prop} (h : Run m μ Q) (q : ∀ a μ', Q a μ' → Q' a μ') : Run m μ Q' := by
  unfold Run at h ⊢
  cases e : m μ <;> rw [e] at h
  · exact q _ _ h
  · exact h
  · exact h
theorem Run.get {m : M α} {Q : α → Mem → Prop} (h : Run m μ Q) : ∃ a μ', m μ = .ok a μ' ∧ Q a μ' := by
  unfold Run at h
  cases e : m μ <;> rw [e] at h
  · exact ⟨_, _, rfl, h⟩
  · exact h.elim
  · exact h.elim
theorem RunS.mono {m : M Flow} {N' : Env → Mem → Prop} {R' : D → Mem → Prop} (h : RunS m μ N R) (n : ∀ ρ μ', N ρ μ' → N' ρ μ') (r : ∀ d μ', R d μ' → R' d μ') : RunS m μ N' R' := by
  unfold RunS at h ⊢
  cases e : m μ with
  | ok f μ1 =>
    rw [e] at h
    cases f with
    | nx ρ => exact n _ _ h
    | rt d => exact r _ _ h
    | _ => exact h
  | _ => rw [e] at h; exact h
theorem run_nx : RunS (pure (.nx ρ)) μ N R = N ρ μ := by unfold RunS; rfl
theorem run_rtn {d : D} : RunS (pure (.rt d)) μ N R = R d μ := by unfold RunS; rfl
theorem run_lift {m : M α} {k : α → M Flow} : RunS (liftS ρ m k) μ N R = Run m μ fun a μ' => RunS (k a) μ' N R := by
  unfold RunS Run liftS
  cases m μ <;> rfl
theorem run_seq {m : M Flow} {k : Env → M Flow} : RunS (seqM m k) μ N R = RunS m μ (fun ρ μ' => RunS (k ρ) μ' N R) R := by
  unfold RunS
  show (match (M.bind m (fun fl => match fl with
      | Flow.nx ρ => k ρ
      | fl => pure fl) : M Flow) μ with
    | .ok (Flow.nx ρ) μ' => N ρ μ'
    | .ok (Flow.rt d) μ' => R d μ'
    | _ => False) = _
  unfold M.bind
  cases m μ with
  | ok f μ1 => cases f <;> rfl
  | _ => rfl
theorem run_liftTS {m : M Env} {k : Env → M Flow} : RunS (liftT m k) μ N R = Run m μ fun ρ μ' => RunS (k ρ) μ' N R := by
  unfold RunS Run liftT
  cases m μ <;> rfl
theorem run_liftT {m : M Env} {k : Env → M α} {Q : α → Mem → Prop} : Run (liftT m k) μ Q = Run m μ fun ρ μ' => Run (k ρ) μ' Q := by
  unfold Run liftT
  cases m μ <;> rfl
theorem run_noX {m : M α} {Q : α → Mem → Prop} : Run (noX m) μ Q = Run m μ Q := by
  unfold Run noX
  cases m μ <;> rfl
theorem run_call {n : Nat} {m : List D → M D} {ds : List D} {Q : D → Mem → Prop} (h : (ds.length == n) = true) : Run (callM n m ds) μ Q = Run (m ds) μ Q := by rw [callM_t h]
theorem run_F {n : Nat} {s : Env → M Flow} {ds : List D} {Q : D → Mem → Prop} : Run (runF n s ds) μ Q = RunS (s (ds.map some ++ List.replicate (n - ds.length) none)) μ (fun _ μ' => Q .non μ') Q := by
  unfold Run RunS runF
  cases s (ds.map some ++ List.replicate (n - ds.length) none) μ with
  | ok f μ1 => cases f <;> rfl
  | _ => rfl
theorem run_set2 {i j : Nat} {a b : D} : RunS (set2 ρ i j [a, b]) μ N R = N ((ρ.set i (some a)).set j (some b)) μ := by first | (unfold Run; rfl) | (unfold RunS; rfl)
theorem run_ask {p : Bool} {Q : Unit → Mem → Prop} (h : p = true) : Run (ask p) μ Q = Q () μ := by rw [ask_p h, run_pure]
theorem run_gN {i : Nat} {d : D} {Q : Env → Mem → Prop} : Run (gN i d ρ) μ Q = Q (ρ.set i (some d)) μ := by first | (unfold Run; rfl) | (unfold RunS; rfl)
theorem run_iteS {p : Bool} {a b : M Flow} : RunS (if p then a else b) μ N R = if p then RunS a μ N R else RunS b μ N R := by cases p <;> rfl
theorem run_ite {p : Bool} {a b : M α} {Q : α → Mem → Prop} : Run (if p then a else b) μ Q = if p then Run a μ Q else Run b μ Q := by cases p <;> rfl
theorem run_readL {k : Nat} {xs : List D} {Q : List D → Mem → Prop} (h : μ[k]? = some (.lst xs)) : Run (readL (.ptr k)) μ Q = Q xs μ := by
  unfold Run readL
  simp only [h]
theorem run_mod {γ : Type} {k : Nat} {xs ys : List D} {f : List D → Option (List D × γ)} {a : γ} {Q : γ → Mem → Prop} (h : μ[k]? = some (.lst xs)) (hf : f xs = some (ys, a)) : Run (modL (.ptr k) f) μ Q = Q a (μ.set k (.lst ys)) := by
  unfold Run modL
  simp only [h, hf]
theorem run_app {k : Nat} {xs : List D} {y : D} {Q : D → Mem → Prop} (h : μ[k]? = some (.lst xs)) (hl : xs.length < 100000) : Run (appM (.ptr k) [y]) μ Q = Q .non (μ.set k (.lst (xs ++ [y]))) := by
  show Run (modL (.ptr k) _ >>= _) μ Q = _
  rw [run_bind, run_mod h (by rw [if_pos (Nat.lt_of_lt_of_le hl (by decide))]), run_pure]
theorem run_chkS {p : Mem → Prop} [DecidablePred p] {m : M Flow} (h : p μ) : RunS (chkM p m) μ N R = RunS m μ N R := by unfold RunS chkM; rw [if_pos h]
theorem run_chk {p : Mem → Prop} [DecidablePred p] {m : M α} {Q : α → Mem → Prop} (h : p μ) : Run (chkM p m) μ Q = Run m μ Q := by unfold Run chkM; rw [if_pos h]
theorem run_loop {it : ItD} {g : D → Env → M Env} {body : Env → M Flow} {xs : List D} (I : Nat → Env → Mem → Prop) (hc : ∀ i ρ μ, I i ρ μ → it.chk μ) (h0 : I 0 ρ μ)
    (hs : ∀ i d ρ μ, xs[i]? = some d → I i ρ μ → Run (g d ρ) μ fun ρ1 μ1 => RunS (body ρ1) μ1 (fun ρ' μ' => I (i + 1) ρ' μ') R) (he : ∀ ρ μ, I xs.length ρ μ → N ρ μ) : RunS (loopI it g body xs ρ) μ N R := by
  have key : ∀ (r : List D) (k : Nat) (ρ : Env) (μ : Mem), xs.drop k = r → k ≤ xs.length → I k ρ μ → RunS (loopI it g body r ρ) μ N R := by
    intro r
    induction r with
    | nil =>
      intro k ρ μ hk hl hI
      unfold loopI
      rw [run_chkS (hc _ _ _ hI), run_nx]
      have : xs.length ≤ k := List.drop_eq_nil_iff.mp hk
      obtain rfl : k = xs.length := by omega
      exact he _ _ hI
    | cons d r ih =>
      intro k ρ μ hk hl hI
      have hd : xs[k]? = some d := by
        have := congrArg List.head? hk
        rwa [List.head?_drop] at this
      have hr : xs.drop (k + 1) = r := by
        have := congrArg List.tail hk
        rwa [List.tail_drop] at this
      have hl' : k + 1 ≤ xs.length := by
        rcases Nat.lt_or_ge k xs.length with h | h
        · exact h
        · rw [List.getElem?_eq_none h] at hd; cases hd
      unfold loopI
      rw [run_chkS (hc _ _ _ hI), run_liftTS]
      refine (hs k d ρ μ hd hI).mono fun ρ1 μ1 hb => ?_
      have : RunS (body ρ1 >>= fun fl => match fl with
          | .nx ρ' => loopI it g body r ρ'
          | .ct ρ' => loopI it g body r ρ'
          | .bk ρ' => pure (.nx ρ')
          | .rt d => pure (.rt d)
          | .xc ρ e => pure (.xc ρ e)) μ1 N R := by
        unfold RunS at hb ⊢
        show (match (M.bind (body ρ1) (fun fl => match fl with
          | Flow.nx ρ' => loopI it g body r ρ'
          | Flow.ct ρ' => loopI it g body r ρ'
          | Flow.bk ρ' => pure (Flow.nx ρ')
          | Flow.rt d => pure (Flow.rt d)
          | Flow.xc ρ e => pure (Flow.xc ρ e)) : M Flow) μ1 with
          | .ok (Flow.nx ρ) μ' => N ρ μ'
          | .ok (Flow.rt d) μ' => R d μ'
          | _ => False)
        unfold M.bind
        cases e : body ρ1 μ1 with
        | ok f μ2 =>
          rw [e] at hb
          cases f with
          | nx ρ2 =>
            have := ih (k + 1) ρ2 μ2 hr hl' hb
            unfold RunS at this
            exact this
          | rt d => exact hb
          | _ => exact hb.elim
        | _ => rw [e] at hb; exact hb.elim
      exact this
  exact key xs 0 ρ μ rfl (Nat.zero_le _) h0
theorem run_comp {it : ItD} {g : D → Env → M Env} {test : Env → M Bool} {elt : Env → M D} {xs : List D} {Q : List D → Mem → Prop} (I : Nat → List D → Mem → Prop) (hc : ∀ i a μ, I i a μ → it.chk μ) (h0 : I 0 [] μ)
    (hs : ∀ i d a μ, xs[i]? = some d → I i a μ → Run (g d ρ) μ fun ρ1 μ1 => Run (test ρ1) μ1 fun b μ2 => if b then Run (elt ρ1) μ2 (fun y μ3 => I (i + 1) (a ++ [y]) μ3) else I (i + 1) a μ2) (he : ∀ a μ, I xs.length a μ → Q a μ) : Run (loopC it g test elt ρ xs []) μ Q := by
  have key : ∀ (r : List D) (k : Nat) (a : List D) (μ : Mem), xs.drop k = r → k ≤ xs.length → I k a μ → Run (loopC it g test elt ρ r a) μ Q := by
    intro r
    induction r with
    | nil =>
      intro k a μ hk hl hI
      rw [loopC_nil, run_chk (hc _ _ _ hI), run_pure]
      have : xs.length ≤ k := List.drop_eq_nil_iff.mp hk
      obtain rfl : k = xs.length := by omega
      exact he _ _ hI
    | cons d r ih =>
      intro k a μ hk hl hI
      have hd : xs[k]? = some d := by
        have := congrArg List.head? hk
        rwa [List.head?_drop] at this
      have hr : xs.drop (k + 1) = r := by
        have := congrArg List.tail hk
        rwa [List.tail_drop] at this
      have hl' : k + 1 ≤ xs.length := by
        rcases Nat.lt_or_ge k xs.length with h | h
        · exact h
        · rw [List.getElem?_eq_none h] at hd; cases hd
      rw [loopC_cons, run_chk (hc _ _ _ hI), run_liftT]
      refine (hs k d a μ hd hI).mono fun ρ1 μ1 hb => ?_
      rw [run_bind, run_noX]
      refine hb.mono fun b μ2 hb2 => ?_
      cases b with
      | true =>
        rw [if_pos rfl] at hb2 ⊢
        rw [run_bind, run_noX]
        exact hb2.mono fun y μ3 h3 => ih (k + 1) _ μ3 hr hl' h3
      | false =>
        rw [if_neg Bool.false_ne_true] at hb2 ⊢
        exact ih (k + 1) _ μ2 hr hl' hb2
  exact key xs 0 [] μ rfl (Nat.zero_le _) h0
theorem run_roll {n k : Int} {c : Cell} {r : Mem} {Q : D → Mem → Prop} (hd : DiceC k c) (hk : k < 2 ^ 99) (hn : 0 < n) (hb : n < 2 ^ 100) (h : ∀ x c', 0 ≤ x → x < n → DiceC (k + 1) c' → Q (.int x) (c' :: r)) : Run (mP_roll [.ptr 0, .int n]) (c :: r) Q := by
  obtain ⟨x, μ', x0, x1, hd', e⟩ := roll_ok (hd.dice r) hk hn hb
  obtain ⟨c', hc', rfl⟩ := hd'.cell
  rw [run_ok e]
  exact h x c' x0 x1 hc'
theorem run_pick {xs : List D} {x : D} {k : Int} {c : Cell} {r : Mem} {Q : D → Mem → Prop} (hd : DiceC k c) (hk : k < 2 ^ 99) (hx : itemsOf x = some xs) (hn : (!xs.isEmpty && decide (xs.length < 1000000)) = true) (h : ∀ d c', d ∈ xs → DiceC (k + 1) c' → Q d (c' :: r)) : Run (mP_pick [.ptr 0, x]) (c :: r) Q := by
  obtain ⟨d, μ', hm, hd', e⟩ := pick_ok (hd.dice r) hx hn hk
  obtain ⟨c', hc', rfl⟩ := hd'.cell
  rw [run_ok e]
  exact h d c' hm hc'
theorem loc_pure {m : List D → M D} {d0 : D} {r : List D} {x : D} (h0 : ∀ k, d0 ≠ .ptr k) (hn : noPtrL (d0 :: r) = true) (h : Run (m (d0 :: r)) [] fun d _ => d = x) (hx : noPtr x = true) : locM m (d0 :: r) = pure x := funext fun μ => by
  obtain ⟨a, μ', e, rfl⟩ := h.get
  unfold locM
  cases d0 with
  | ptr k => exact absurd rfl (h0 k)
  | _ => simp only [hn, e, hx, if_true]; rfl
theorem run_loc {m : List D → M D} {k : Nat} {c : Cell} {Q : D → Mem → Prop} (hk : μ[k]? = some c) (hn : noPtrC c = true) (h : Run (m [.ptr 0]) [c] fun d μ' => ∃ c' r, μ' = c' :: r ∧ noPtrC c' = true ∧ noPtr d = true ∧ Q d (μ.set k c')) : Run (locM m [.ptr k]) μ Q := by
  obtain ⟨a, μ', e, c', r, rfl, h1, h2, h3⟩ := h.get
  unfold Run locM
  simp [hk, hn, noPtrL, e, h1, h2]
  exact h3
end
end VL
namespace VL
open PySem
section
variable {μ : Mem} {ρ : Env}
theorem orD_p (a : Bool) (m : M D) : orD (pure (.bl a)) m = if a then pure (.bl true) else m := by cases a <;> rfl
theorem notD_p (a : Bool) : notD (.bl a) = pure (.bl (!a)) := Eq.trans rfl rfl
theorem run_gT2 {i j : Nat} {a b : D} {Q : Env → Mem → Prop} : Run (gT 2 (gsCons (gN i) (gsCons (gN j) gsNil)) (.tup [a, b]) ρ) μ Q = Q ((ρ.set i (some a)).set j (some b)) μ := by first | (unfold Run; rfl) | (unfold RunS; rfl)
theorem ge_int (a b : Int) : dGe (.int a) (.int b) = pure (.bl (decide (b ≤ a))) := Eq.trans rfl rfl
theorem gt_int (a b : Int) : dGt (.int a) (.int b) = pure (.bl (decide (b < a))) := Eq.trans rfl rfl
theorem lt_int (a b : Int) : dLt (.int a) (.int b) = pure (.bl (decide (a < b))) := Eq.trans rfl rfl
theorem le_int (a b : Int) : dLe (.int a) (.int b) = pure (.bl (decide (a ≤ b))) := Eq.trans rfl rfl
theorem add_int (a b : Int) : dAdd (.int a) (.int b) = pure (.int (a + b)) := Eq.trans rfl rfl
theorem sub_int (a b : Int) : dSub (.int a) (.int b) = pure (.int (a - b)) := Eq.trans rfl rfl
theorem neg_int (a : Int) : negD (.int a) = pure (.int (-a)) := Eq.trans rfl rfl
end
end VL
namespace VL
open PySem
section
variable {μ : Mem}
theorem run_tAnd {a b : M Bool} {Q : Bool → Mem → Prop} : Run (tAnd a b) μ Q = Run a μ fun k μ' => if k then Run b μ' Q else Q false μ' := by
  unfold tAnd
  rw [run_bind]
  congr 1
  funext k μ'
  cases k
  · exact run_pure
  · rfl
theorem run_tOr {a b : M Bool} {Q : Bool → Mem → Prop} : Run (tOr a b) μ Q = Run a μ fun k μ' => if k then Q true μ' else Run b μ' Q := by
  unfold tOr
  rw [run_bind]
  congr 1
  funext k μ'
  cases k
  · rfl
  · exact run_pure
theorem run_andD {a b : M D} {Q : D → Mem → Prop} : Run (andD a b) μ Q = Run a μ fun d μ' => Run (asB d) μ' fun k μ2 => if k then Run b μ2 Q else Q (.bl false) μ2 := by
  unfold andD
  rw [run_bind]
  congr 1
  funext d μ'
  cases d with
  | bl k =>
    rw [asB_p, run_pure]
    cases k
    · exact run_pure
    · rfl
  | _ => show Run stuck μ' Q = Run stuck μ' _; unfold Run stuck; rfl
theorem run_orD {a b : M D} {Q : D → Mem → Prop} : Run (orD a b) μ Q = Run a μ fun d μ' => Run (asB d) μ' fun k μ2 => if k then Q (.bl true) μ2 else Run b μ2 Q := by
  unfold orD
  rw [run_bind]
  congr 1
  funext d μ'
  cases d with
  | bl k =>
    rw [asB_p, run_pure]
    cases k
    · rfl
    · exact run_pure
  | _ => show Run stuck μ' Q = Run stuck μ' _; unfold Run stuck; rfl
end
end VL
namespace VL
open PySem
mutual
def nb : D → Bool
  | .non | .int _ | .str _ => true
  | .tup xs => nbL xs
  | .lst xs => nbL xs
  | _ => false
def nbL : List D → Bool
  | [] => true
  | x :: r => nb x && nbL r
end
mutual
theorem eqv_nb : ∀ (x y : D) (p q : PyData), nb x = true → nb y = true → toP x = some p → toP y = some q → PyData.eqv p q = decide (x = y)
  | .non, y, p, q, _, hy, ex, ey => by
    simp only [toP] at ex; cases ex
    cases y with
    | non => simp only [toP] at ey; cases ey; simp [PyData.eqv]
    | int j => simp only [toP] at ey; cases ey; simp [PyData.eqv]
    | str z => simp only [toP] at ey; cases ey; simp [PyData.eqv]
    | tup ys => simp only [toP, Option.map_eq_some_iff] at ey; obtain ⟨qs, _, rfl⟩ := ey; simp [PyData.eqv]
    | lst ys => simp only [toP, Option.map_eq_some_iff] at ey; obtain ⟨qs, _, rfl⟩ := ey; simp [PyData.eqv]
    | _ => simp [nb] at hy
  | .int i, y, p, q, _, hy, ex, ey => by
    simp only [toP] at ex; cases ex
    cases y with
    | non => simp only [toP] at ey; cases ey; simp [PyData.eqv]
    | int j => simp only [toP] at ey; cases ey; rw [PyData.eqv]; by_cases h : i = j <;> simp [h]
    | str z => simp only [toP] at ey; cases ey; simp [PyData.eqv]
    | tup ys => simp only [toP, Option.map_eq_some_iff] at ey; obtain ⟨qs, _, rfl⟩ := ey; simp [PyData.eqv]
    | lst ys => simp only [toP, Option.map_eq_some_iff] at ey; obtain ⟨qs, _, rfl⟩ := ey; simp [PyData.eqv]
    | _ => simp [nb] at hy
  | .str a, y, p, q, _, hy, ex, ey => by
    simp only [toP] at ex; cases ex
    cases y with
    | non => simp only [toP] at ey; cases ey; simp [PyData.eqv]
    | int j => simp only [toP] at ey; cases ey; simp [PyData.eqv]
    | str z => simp only [toP] at ey; cases ey; rw [PyData.eqv]; by_cases h : a = z <;> simp [h]
    | tup ys => simp only [toP, Option.map_eq_some_iff] at ey; obtain ⟨qs, _, rfl⟩ := ey; simp [PyData.eqv]
    | lst ys => simp only [toP, Option.map_eq_some_iff] at ey; obtain ⟨qs, _, rfl⟩ := ey; simp [PyData.eqv]
    | _ => simp [nb] at hy
  | .tup xs, y, p, q, hx, hy, ex, ey => by
    simp only [toP, Option.map_eq_some_iff] at ex
    obtain ⟨ps, hp, rfl⟩ := ex
    cases y with
    | non => simp only [toP] at ey; cases ey; simp [PyData.eqv]
    | int j => simp only [toP] at ey; cases ey; simp [PyData.eqv]
    | str z => simp only [toP] at ey; cases ey; simp [PyData.eqv]
    | tup ys =>
      simp only [toP, Option.map_eq_some_iff] at ey
      obtain ⟨qs, hq, rfl⟩ := ey
      rw [PyData.eqv, eqvAll_nb xs ys ps qs (by simpa only [nb] using hx) (by simpa only [nb] using hy) hp hq]
      by_cases h : xs = ys <;> simp [h]
    | lst ys => simp only [toP, Option.map_eq_some_iff] at ey; obtain ⟨qs, _, rfl⟩ := ey; simp [PyData.eqv]
    | _ => simp [nb] at hy
  | .lst xs, y, p, q, hx, hy, ex, ey => by
    simp only [toP, Option.map_eq_some_iff] at ex
    obtain ⟨ps, hp, rfl⟩ := ex
    cases y with
    | non => simp only [toP] at ey; cases ey; simp [PyData.eqv]
    | int j => simp only [toP] at ey; cases ey; simp [PyData.eqv]
    | str z => simp only [toP] at ey; cases ey; simp [PyData.eqv]
    | lst ys =>
      simp only [toP, Option.map_eq_some_iff] at ey
      obtain ⟨qs, hq, rfl⟩ := ey
      rw [PyData.eqv, eqvAll_nb xs ys ps qs (by simpa only [nb] using hx) (by simpa only [nb] using hy) hp hq]
      by_cases h : xs = ys <;> simp [h]
    | tup ys => simp only [toP, Option.map_eq_some_iff] at ey; obtain ⟨qs, _, rfl⟩ := ey; simp [PyData.eqv]
    | _ => simp [nb] at hy
  | .bl _, _, _, _, hx, _, _, _ => by simp [nb] at hx
  | .ty _, _, _, _, hx, _, _, _ => by simp [nb] at hx
  | .ins _ _, _, _, _, hx, _, _, _ => by simp [nb] at hx
  | .ptr _, _, _, _, hx, _, _, _ => by simp [nb] at hx
  | .cls _, _, _, _, hx, _, _, _ => by simp [nb] at hx
  | .fn _, _, _, _, hx, _, _, _ => by simp [nb] at hx
  | .dct _ _, _, _, _, hx, _, _, _ => by simp [nb] at hx
  | .bdct _ _, _, _, _, hx, _, _, _ => by simp [nb] at hx
  | .scr _, _, _, _, hx, _, _, _ => by simp [nb] at hx
theorem eqvAll_nb : ∀ (xs ys : List D) (ps qs : List PyData), nbL xs = true → nbL ys = true → toPs xs = some ps → toPs ys = some qs → PyData.eqvAll ps qs = decide (xs = ys)
  | [], [], ps, qs, _, _, ex, ey => by
    simp only [toPs] at ex ey; cases ex; cases ey; simp [PyData.eqvAll]
  | [], y :: s, ps, qs, _, hy, ex, ey => by
    simp only [toPs] at ex ey; cases ex
    split at ey
    · cases ey; simp [PyData.eqvAll]
    · cases ey
  | x :: r, [], ps, qs, hx, _, ex, ey => by
    simp only [toPs] at ex ey; cases ey
    split at ex
    · cases ex; simp [PyData.eqvAll]
    · cases ex
  | x :: r, y :: s, ps, qs, hx, hy, ex, ey => by
    simp only [toPs] at ex ey
    simp only [nbL, Bool.and_eq_true] at hx hy
    split at ex
    · rename_i p ps' e1 e2
      cases ex
      split at ey
      · rename_i q qs' e3 e4
        cases ey
        rw [PyData.eqvAll, eqv_nb x y p q hx.1 hy.1 e1 e3, eqvAll_nb r s ps' qs' hx.2 hy.2 e2 e4]
        by_cases h1 : x = y <;> by_cases h2 : r = s <;> simp [h1, h2]
      · cases ey
    · cases ex
end
/-- data that == tells apart as they are -/
def pd (d : D) : Bool := nb d && (match toP d with
  | some p => PyData.canLay0 p && decide (PyData.depth p ≤ 60)
  | none => false)
theorem pd_eqB {x y : D} (hx : pd x = true) (hy : pd y = true) : eqB x y = pure (decide (x = y)) := by
  unfold pd at hx hy
  rw [Bool.and_eq_true] at hx hy
  cases ex : toP x with
  | none => rw [ex] at hx; cases hx.2
  | some p =>
    cases ey : toP y with
    | none => rw [ey] at hy; cases hy.2
    | some q =>
      rw [ex] at hx
      rw [ey] at hy
      simp only [Bool.and_eq_true, decide_eq_true_eq] at hx hy
      have d1 : datum x = pure p := by
        unfold datum
        cases x <;> first
          | (simp only [nb] at hx; exact absurd hx.1 Bool.false_ne_true)
          | simp only [ex]
      have d2 : datum y = pure q := by
        unfold datum
        cases y <;> first
          | (simp only [nb] at hy; exact absurd hy.1 Bool.false_ne_true)
          | simp only [ey]
      have s1 : SeqAt.shaped p = true := shaped_of hx.2.1 (by omega)
      have s2 : SeqAt.shaped q = true := shaped_of hy.2.1 (by omega)
      have g : (datum x >>= fun p => datum y >>= fun q => ask (SeqAt.shaped p && SeqAt.shaped q) >>= fun _ => pure (PyData.eqv p q)) = pure (decide (x = y)) := by
        rw [d1, pb_M, d2, pb_M, s1, s2, eqv_nb x y p q hx.1 hy.1 ex ey]
        rfl
      unfold eqB
      split
      · congr 1; rename_i a b; by_cases h : a = b <;> simp [h]
      · congr 1; rename_i a b; by_cases h : a = b <;> simp [h]
      · exact g
theorem eq_pd {x y : D} (hx : pd x = true) (hy : pd y = true) : dEq x y = pure (.bl (decide (x = y))) := by
  show (eqB x y >>= fun b => pure (D.bl b)) = _
  rw [pd_eqB hx hy, pb_M]
theorem ne_pd {x y : D} (hx : pd x = true) (hy : pd y = true) : dNe x y = pure (.bl (!decide (x = y))) := by
  show (eqB x y >>= fun b => pure (D.bl (!b))) = _
  rw [pd_eqB hx hy, pb_M]
end VL
namespace VL
open PySem
def pdn (k : Nat) (d : D) : Bool := nb d && (match toP d with
  | some p => PyData.canLay0 p && decide (PyData.depth p ≤ k)
  | none => false)
theorem pdn_pd {k : Nat} {d : D} (h : pdn k d = true) (hk : k ≤ 60 := by decide) : pd d = true := by
  unfold pdn at h
  unfold pd
  rw [Bool.and_eq_true] at h
  rw [h.1, Bool.true_and]
  cases e : toP d with
  | none => rw [e] at h; cases h.2
  | some p =>
    rw [e] at h
    simp only [Bool.and_eq_true, decide_eq_true_eq] at h ⊢
    exact ⟨h.2.1, by omega⟩
theorem pdn_all {k : Nat} : ∀ {xs : List D}, (∀ x ∈ xs, pdn k x = true) → nbL xs = true ∧ ∃ ps, toPs xs = some ps ∧ PyData.canLayAll0 ps = true ∧ PyData.depthAll ps ≤ k
  | [], _ => ⟨rfl, [], by rw [toPs], by rw [PyData.canLayAll0], by rw [PyData.depthAll]; exact Nat.zero_le _⟩
  | x :: r, h => by
    obtain ⟨h1, ps, h2, h3, h4⟩ := pdn_all (xs := r) fun y hy => h y (List.mem_cons_of_mem _ hy)
    have hx := h x List.mem_cons_self
    unfold pdn at hx
    rw [Bool.and_eq_true] at hx
    cases e : toP x with
    | none => rw [e] at hx; cases hx.2
    | some p =>
      rw [e] at hx
      simp only [Bool.and_eq_true, decide_eq_true_eq] at hx
      refine ⟨by simp only [nbL, hx.1, h1, Bool.and_self], p :: ps, by rw [toPs, e, h2], by rw [PyData.canLayAll0, hx.2.1, h3]; rfl, by rw [PyData.depthAll]; exact Nat.max_le.mpr ⟨hx.2.2, h4⟩⟩
theorem pdn_tup {k : Nat} {xs : List D} (h : ∀ x ∈ xs, pdn k x = true) : pdn (k + 1) (.tup xs) = true := by
  obtain ⟨h1, ps, h2, h3, h4⟩ := pdn_all h
  have e : toP (.tup xs) = some (.tuple ps) := by simp only [toP, h2, Option.map_some]
  unfold pdn
  rw [e, nb, h1]
  show (true && (PyData.canLay0 (.tuple ps) && decide (PyData.depth (.tuple ps) ≤ k + 1))) = true
  rw [PyData.canLay0, h3, PyData.depth]
  exact decide_eq_true (by omega)
theorem pdn_lst {k : Nat} {xs : List D} (h : ∀ x ∈ xs, pdn k x = true) : pdn (k + 1) (.lst xs) = true := by
  obtain ⟨h1, ps, h2, h3, h4⟩ := pdn_all h
  have e : toP (.lst xs) = some (.list ps) := by simp only [toP, h2, Option.map_some]
  unfold pdn
  rw [e, nb, h1]
  show (true && (PyData.canLay0 (.list ps) && decide (PyData.depth (.list ps) ≤ k + 1))) = true
  rw [PyData.canLay0, h3, PyData.depth]
  exact decide_eq_true (by omega)
theorem pdn_int {k : Nat} (i : Int) : pdn k (.int i) = true := by
  unfold pdn
  simp only [toP, PyData.canLay0, PyData.depth, nb]
  rfl
theorem pdn_non {k : Nat} : pdn k .non = true := by
  unfold pdn
  simp only [toP, PyData.canLay0, PyData.depth, nb]
  rfl
theorem pdn_str {k : Nat} {z : Str} (h : PyData.strOk z = true) : pdn k (.str z) = true := by
  unfold pdn
  simp only [toP, PyData.canLay0, PyData.depth, nb, h]
  rfl
end VL
namespace VL
open PySem
end VL
namespace VL
theorem ne_self {x : D} (h : pd x = true) : dNe x x = pure (.bl false) := by rw [ne_pd h h, decide_eq_true rfl]; rfl
theorem eq_self' {x : D} (h : pd x = true) : dEq x x = pure (.bl true) := by rw [eq_pd h h, decide_eq_true rfl]
end VL
namespace VL
def resOf : Out Flow → Option D
  | .ok (.rt d) _ => some d
  | _ => none
theorem run_res {m : M Flow} {μ : Mem} {N : Env → Mem → Prop} {R : D → Mem → Prop} {x : D} (h : resOf (m μ) = some x) (hR : ∀ μ', R x μ') : RunS m μ N R := by
  unfold RunS
  cases e : m μ with
  | ok f μ1 =>
    rw [e] at h
    cases f with
    | rt d =>
      obtain rfl : d = x := Option.some.inj h
      exact hR _
    | _ => cases h
  | _ => rw [e] at h; cases h
end VL
namespace VL
theorem toG {P : PySem.Program} {w : PySem.World} {K : PySem.W.Frag} {mg : PySem.Str → Option PySem.Value} {base : PySem.Heap} {CX : L2.CXT} {k : Nat} {f : PySem.Addr} {fd : PySem.FuncData} {ps : List PySem.Str} {sp : L2.Sp} (F : L2.FnOk P w K mg base CX k f fd ps sp) : LamX.FnG P w K mg base CX k f fd ps sp :=
  ⟨F.len, fun A outer s H args us vs Q E hr _ he => F.run A outer s H args us vs Q E hr he⟩
end VL
namespace RecT
open PySem PySem.Spec PyProof.Rows L2 NumText
def isDig (c : Nat) : Bool := decide (48 ≤ c) && decide (c ≤ 57)
theorem all_dig {p : List Nat} : p.all isDig = true ↔ AllDigits p := by
  unfold isDig AllDigits
  simp only [List.all_eq_true, Bool.and_eq_true, decide_eq_true_eq]
theorem dig_snoc (q : List Nat) (c : Nat) : digitsVal (q ++ [c]) = digitsVal q * 10 + (c - 48) := by
  unfold digitsVal
  rw [List.foldl_append]
  rfl
theorem num_strict : ∀ (n : Nat) (p : List Nat), p.length = n → AllDigits p → p ≠ [] → (p = [48] ∨ p.head? ≠ some 48) → TL.numL (digitsVal p) = p
  | 0, p, hn, _, h, _ => absurd (List.length_eq_zero_iff.mp hn) h
  | n + 1, p, hn, hd, h0, hs => by
    obtain ⟨q, c, rfl⟩ : ∃ q c, p = q ++ [c] := ⟨p.dropLast, p.getLast h0, (List.dropLast_concat_getLast h0).symm⟩
    have hc := hd c (by simp)
    cases q with
    | nil =>
      show TL.numL (digitsVal [c]) = [c]
      have e : digitsVal [c] = c - 48 := by show 0 * 10 + (c - 48) = _; omega
      rw [e, TL.numL_lt (by omega)]
      congr 1
      omega
    | cons a q =>
      have hh : a ≠ 48 := by
        rcases hs with hs | hs
        · simp at hs
        · intro z; exact hs (by rw [z]; rfl)
      have ih := num_strict n (a :: q) (by simpa using hn) (fun x hx => hd x (List.mem_append_left _ hx)) (by simp) (.inr (by simpa using hh))
      have h1 : 1 ≤ digitsVal (a :: q) := by
        cases hz : digitsVal (a :: q) with
        | zero =>
          rw [hz, TL.numL_lt (by decide)] at ih
          injection ih with e1 _
          exact absurd e1.symm hh
        | succ m => omega
      rw [dig_snoc, TL.numL_step (by omega)]
      have e1 : (digitsVal (a :: q) * 10 + (c - 48)) / 10 = digitsVal (a :: q) := by omega
      have e2 : 48 + (digitsVal (a :: q) * 10 + (c - 48)) % 10 = c := by omega
      rw [e1, e2, ih]
theorem pre1 (s c : Nat) (r : List Nat) : TL.pre [s] (c :: r) = decide (c = s) := by
  show ([c] == [s]) = _
  by_cases h : c = s
  · subst h; simp
  · simp [h]
theorem spl_cons (s c : Nat) (acc r : List Nat) : TL.spl [s] 0 acc (c :: r) = if c = s then acc :: TL.spl [s] 0 [] r else TL.spl [s] 0 (acc ++ [c]) r := by
  by_cases h : c = s
  · rw [if_pos h, TL.spl_hit (by rw [pre1, decide_eq_true h])]; rfl
  · rw [if_neg h, TL.spl_miss (by rw [pre1, decide_eq_false h])]
theorem spl_len (s : Nat) : ∀ (a acc : List Nat), (TL.spl [s] 0 acc a).length = a.count s + 1
  | [], acc => by rw [TL.spl_nil]; rfl
  | c :: r, acc => by
    rw [spl_cons, List.count_cons]
    by_cases h : c = s
    · rw [if_pos h, List.length_cons, spl_len s r, h]; simp
    · rw [if_neg h, spl_len s r]; simp [h]
theorem spl_ne (s : Nat) (a acc : List Nat) : TL.spl [s] 0 acc a ≠ [] := fun z => by
  have := spl_len s a acc
  rw [z] at this
  simp at this
theorem joinL_cons {s p : List Nat} {ps : List (List Nat)} (h : ps ≠ []) : TL.joinL s (p :: ps) = p ++ (s ++ TL.joinL s ps) := by
  cases ps with
  | nil => exact absurd rfl h
  | cons q r => rfl
theorem join_spl (s : Nat) : ∀ (a acc : List Nat), TL.joinL [s] (TL.spl [s] 0 acc a) = acc ++ a
  | [], acc => by rw [TL.spl_nil]; show acc = _; rw [List.append_nil]
  | c :: r, acc => by
    rw [spl_cons]
    by_cases h : c = s
    · rw [if_pos h, joinL_cons (spl_ne s r []), join_spl s r, h]; rfl
    · rw [if_neg h, join_spl s r, List.append_assoc]; rfl
def showI (i : Int) : List Nat := if i < 0 then [45, 49] else TL.numL i.toNat
theorem show_free {i : Int} {s : Nat} (h : s = 44 ∨ s = 58 ∨ s = 59) : s ∉ showI i := by
  unfold showI
  split
  · rcases h with rfl | rfl | rfl <;> decide
  · exact TL.numL_free (by omega)
def intIn (p : List Nat) : Option Int :=
  if p.take 1 = [45] then (if p.drop 1 ≠ [] ∧ (p.drop 1).all isDig = true then some (-((digitsVal (p.drop 1) : Nat) : Int)) else none)
  else (if p ≠ [] ∧ p.all isDig = true then some ((digitsVal p : Nat) : Int) else none)
def lnum (p : List Nat) : Option Int :=
  if p = [45, 49] then some (-1) else if p = [] ∨ p.all isDig = false ∨ (p ≠ [48] ∧ p.head? = some 48) then none else some ((digitsVal p : Nat) : Int)
theorem numL_head {n : Nat} : (TL.numL n).take 1 ≠ [45] := fun z => by
  have h := TL.numL_digits n
  cases e : TL.numL n with
  | nil => exact TL.numL_ne n e
  | cons a r =>
    rw [e] at z h
    have := h a (by simp)
    simp at z
    omega
theorem numL_strict (n : Nat) : TL.numL n = [48] ∨ (TL.numL n).head? ≠ some 48 := by
  induction n using Nat.strongRecOn with
  | _ n ih =>
    by_cases h : n < 10
    · rw [TL.numL_lt h]
      by_cases h0 : n = 0
      · subst h0; exact .inl rfl
      · exact .inr (by simp; omega)
    · refine .inr ?_
      rw [TL.numL_step (by omega)]
      have hq : TL.numL (n / 10) ≠ [48] := fun z => by
        have e0 : TL.numL 0 = [48] := TL.numL_lt (by decide)
        have := TL.numL_inj (z.trans e0.symm)
        omega
      rcases ih (n / 10) (by omega) with h1 | h1
      · exact absurd h1 hq
      · cases e : TL.numL (n / 10) with
        | nil => exact absurd e (TL.numL_ne _)
        | cons a r => rw [e] at h1; simpa using h1
theorem intIn_show {i : Int} (h : -1 ≤ i) : intIn (showI i) = some i := by
  unfold showI
  by_cases h0 : i < 0
  · obtain rfl : i = -1 := by omega
    rfl
  · rw [if_neg h0]
    obtain ⟨n, rfl⟩ := Int.eq_ofNat_of_zero_le (by omega : 0 ≤ i)
    unfold intIn
    rw [if_neg numL_head, if_pos ⟨TL.numL_ne _, all_dig.mpr (TL.numL_digits _)⟩]
    simp [TL.numL_val]
theorem lnum_show {i : Int} (h : -1 ≤ i) : lnum (showI i) = some i := by
  unfold showI
  by_cases h0 : i < 0
  · obtain rfl : i = -1 := by omega
    rfl
  · rw [if_neg h0]
    obtain ⟨n, rfl⟩ := Int.eq_ofNat_of_zero_le (by omega : 0 ≤ i)
    unfold lnum
    have hn : (Int.toNat (n : Int)) = n := Int.toNat_natCast n
    rw [hn]
    rw [if_neg (fun z => numL_head (n := n) (by rw [z]; rfl)), if_neg, TL.numL_val]
    rintro (z | z | z)
    · exact TL.numL_ne _ z
    · rw [all_dig.mpr (TL.numL_digits _)] at z; cases z
    · rcases numL_strict n with w | w
      · exact z.1 w
      · exact w z.2
theorem lnum_some {p : List Nat} {i : Int} (h : lnum p = some i) : p = showI i ∧ -1 ≤ i := by
  unfold lnum at h
  by_cases h1 : p = [45, 49]
  · rw [if_pos h1] at h
    injection h with h
    subst h
    exact ⟨h1, by decide⟩
  · rw [if_neg h1] at h
    by_cases h2 : p = [] ∨ p.all isDig = false ∨ (p ≠ [48] ∧ p.head? = some 48)
    · rw [if_pos h2] at h; cases h
    · rw [if_neg h2] at h
      injection h with h
      subst h
      refine ⟨?_, by omega⟩
      unfold showI
      rw [if_neg (by omega), Int.toNat_natCast]
      refine (num_strict _ p rfl (all_dig.mp ?_) (fun z => h2 (.inl z)) ?_).symm
      · cases e : p.all isDig with
        | true => rfl
        | false => exact absurd (.inr (.inl e)) h2
      · by_cases z : p = [48]
        · exact .inl z
        · exact .inr fun w => h2 (.inr (.inr ⟨z, w⟩))
def recL (t : Int) (js : List Int) : List Nat := TL.joinL [58] [showI t, TL.joinL [44] (js.map showI)] ++ [59]
def okE : Option Int → Bool
  | some i => decide (-1 ≤ i) && decide (i ≤ 127)
  | none => false
def progR (a : List Nat) : Option (Int × List Int) := match TL.spl [58] 0 [] (a.take (a.length - 1)) with
  | [p, q] => match intIn p with
    | some t => if 0 ≤ t ∧ ((TL.spl [44] 0 [] q).map intIn).all okE = true ∧ (TL.spl [44] 0 [] q).length ≤ 4 ∧ recL t (((TL.spl [44] 0 [] q).map intIn).map (·.getD 0)) = a then some (t, ((TL.spl [44] 0 [] q).map intIn).map (·.getD 0)) else none
    | none => none
  | _ => none
def lowE : Option Int → Bool
  | some i => decide (i ≤ 127)
  | none => false
def lawR (a : List Nat) : Option (Int × List Int) := if a.drop (a.length - 1) = [59] ∧ a.count 58 = 1 ∧ a.count 59 = 1 then (match TL.spl [58] 0 [] (a.take (a.length - 1)) with
  | [p, q] => match lnum p with
    | some t => if 0 ≤ t ∧ (TL.spl [44] 0 [] q).length ≤ 4 ∧ ((TL.spl [44] 0 [] q).map lnum).all lowE = true then some (t, ((TL.spl [44] 0 [] q).map lnum).map (·.getD 0)) else none
    | none => none
  | _ => none) else none
def okJs (t : Int) (js : List Int) : Prop := 0 ≤ t ∧ 1 ≤ js.length ∧ js.length ≤ 4 ∧ ∀ j ∈ js, -1 ≤ j ∧ j ≤ 127
theorem joined_free {js : List Int} {s : Nat} (h : s = 58 ∨ s = 59) : s ∉ TL.joinL [44] (js.map showI) := by
  induction js with
  | nil => simp [TL.joinL]
  | cons j r ih =>
    cases r with
    | nil => exact show_free (.inr h)
    | cons k r =>
      show s ∉ showI j ++ ([44] ++ TL.joinL [44] ((k :: r).map showI))
      rw [List.mem_append, List.mem_append]
      rintro (z | z | z)
      · exact show_free (.inr h) z
      · have := List.mem_singleton.mp z; omega
      · exact ih z
theorem rec_parts {t : Int} {js : List Int} : TL.spl [58] 0 [] ((recL t js).take ((recL t js).length - 1)) = [showI t, TL.joinL [44] (js.map showI)] := by
  unfold recL
  rw [List.length_append, List.length_singleton, Nat.add_sub_cancel, List.take_left]
  refine TL.spl_join (by simp) fun p hp => ?_
  simp only [List.mem_cons, List.not_mem_nil, or_false] at hp
  rcases hp with rfl | rfl
  · exact show_free (by omega)
  · exact joined_free (.inl rfl)
theorem joint_parts {js : List Int} (h : 1 ≤ js.length) : TL.spl [44] 0 [] (TL.joinL [44] (js.map showI)) = js.map showI := by
  refine TL.spl_join (fun z => ?_) fun p hp => ?_
  · have := congrArg List.length z
    rw [List.length_map, List.length_nil] at this
    omega
  · obtain ⟨j, _, rfl⟩ := List.mem_map.mp hp
    exact show_free (by omega)
theorem map_back {f : List Nat → Option Int} {js : List Int} (h : ∀ j ∈ js, f (showI j) = some j) : (js.map showI).map f = js.map some := by
  rw [List.map_map]
  exact List.map_congr_left fun j hj => h j hj
theorem getD_back (js : List Int) : (js.map some).map (·.getD 0) = js := by
  rw [List.map_map]
  exact (List.map_congr_left fun j _ => rfl).trans (List.map_id js)
theorem progR_rec {t : Int} {js : List Int} (h : okJs t js) : progR (recL t js) = some (t, js) := by
  obtain ⟨h0, h1, h2, h3⟩ := h
  unfold progR
  rw [rec_parts]
  show (match intIn (showI t) with
    | some t' => if 0 ≤ t' ∧ _ then some (t', _) else none
    | none => none) = _
  rw [intIn_show (by omega)]
  simp only [joint_parts h1, map_back (f := intIn) fun j hj => intIn_show (h3 j hj).1, getD_back]
  refine if_pos ⟨h0, ?_, by simpa using h2, trivial⟩
  rw [List.all_eq_true]
  intro o ho
  obtain ⟨j, hj, rfl⟩ := List.mem_map.mp ho
  show (decide (-1 ≤ j) && decide (j ≤ 127)) = true
  rw [decide_eq_true (h3 j hj).1, decide_eq_true (h3 j hj).2]; rfl
theorem count_free {l : List Nat} {s : Nat} (h : s ∉ l) : l.count s = 0 := List.count_eq_zero.mpr h
theorem rec_count {t : Int} {js : List Int} : (recL t js).count 58 = 1 ∧ (recL t js).count 59 = 1 := by
  have e : recL t js = showI t ++ ([58] ++ TL.joinL [44] (js.map showI)) ++ [59] := rfl
  rw [e]
  refine ⟨?_, ?_⟩ <;> simp only [List.count_append]
  · rw [count_free (show_free (by omega)), count_free (joined_free (.inl rfl))]; rfl
  · rw [count_free (show_free (by omega)), count_free (joined_free (.inr rfl))]; rfl
theorem lawR_rec {t : Int} {js : List Int} (h : okJs t js) : lawR (recL t js) = some (t, js) := by
  obtain ⟨h0, h1, h2, h3⟩ := h
  unfold lawR
  have hl : (recL t js).drop ((recL t js).length - 1) = [59] := by
    unfold recL
    rw [List.length_append, List.length_singleton, Nat.add_sub_cancel, List.drop_left]
  rw [if_pos ⟨hl, rec_count⟩, rec_parts]
  show (match lnum (showI t) with
    | some t' => if 0 ≤ t' ∧ _ then some (t', _) else none
    | none => none) = _
  rw [lnum_show (by omega)]
  simp only [joint_parts h1, map_back (f := lnum) fun j hj => lnum_show (h3 j hj).1, getD_back]
  refine if_pos ⟨h0, by simpa using h2, ?_⟩
  rw [List.all_eq_true]
  intro o ho
  obtain ⟨j, hj, rfl⟩ := List.mem_map.mp ho
  show decide (j ≤ 127) = true
  rw [decide_eq_true (h3 j hj).2]
theorem progR_some {a : List Nat} {t : Int} {js : List Int} (h : progR a = some (t, js)) : a = recL t js ∧ okJs t js := by
  unfold progR at h
  split at h
  · split at h
    · split at h
      · rename_i hc
        injection h with h
        injection h with h1 h2
        subst h1
        obtain ⟨c0, c1, c2, c3⟩ := hc
        subst h2
        refine ⟨c3.symm, c0, ?_, ?_, ?_⟩
        · simp only [List.length_map]
          exact List.length_pos_iff.mpr (spl_ne _ _ _)
        · simpa only [List.length_map] using c2
        · intro j hj
          obtain ⟨o, ho, rfl⟩ := List.mem_map.mp hj
          have := List.all_eq_true.mp c1 o ho
          cases o with
          | none => cases this
          | some i =>
            unfold okE at this
            simp only [Bool.and_eq_true, decide_eq_true_eq] at this
            exact this
      · cases h
    · cases h
  · cases h
theorem lawR_some {a : List Nat} {t : Int} {js : List Int} (h : lawR a = some (t, js)) : a = recL t js ∧ okJs t js := by
  unfold lawR at h
  split at h
  · rename_i hc
    split at h
    · rename_i p q hpq
      split at h
      · rename_i t' ht
        split at h
        · rename_i hd
          injection h with h
          injection h with h1 h2
          subst h1
          obtain ⟨c0, c2, c1⟩ := hd
          have key : ∀ o ∈ (TL.spl [44] 0 [] q).map lnum, ∃ i, o = some i ∧ i ≤ 127 := fun o ho => by
            have := List.all_eq_true.mp c1 o ho
            cases o with
            | none => cases this
            | some i => exact ⟨i, rfl, of_decide_eq_true this⟩
          have back : ((TL.spl [44] 0 [] q).map lnum).map (·.getD 0) = js := h2
          have hq : (TL.spl [44] 0 [] q) = js.map showI := by
            rw [← back, List.map_map, List.map_map]
            refine ((List.map_congr_left fun x hx => ?_).trans (List.map_id _)).symm
            obtain ⟨i, e, _⟩ := key (lnum x) (List.mem_map.mpr ⟨x, hx, rfl⟩)
            show showI ((lnum x).getD 0) = x
            rw [e]
            exact (lnum_some e).1.symm
          have e1 := join_spl 58 (a.take (a.length - 1)) []
          have e2 := join_spl 44 q []
          rw [hpq] at e1
          rw [hq] at e2
          simp only [List.nil_append] at e1 e2
          refine ⟨?_, c0, ?_, ?_, ?_⟩
          · unfold recL
            rw [e2, ← (lnum_some ht).1, e1, ← hc.1, List.take_append_drop]
          · rw [← back]
            simp only [List.length_map]
            exact List.length_pos_iff.mpr (spl_ne _ _ _)
          · rw [← back]
            simpa only [List.length_map] using c2
          · intro j hj
            rw [← back] at hj
            obtain ⟨o, ho, rfl⟩ := List.mem_map.mp hj
            obtain ⟨i, rfl, hi⟩ := key o ho
            obtain ⟨x, _, hx⟩ := List.mem_map.mp ho
            exact ⟨(lnum_some hx).2, hi⟩
        · cases h
      · cases h
    · cases h
  · cases h
theorem reads_alike (a : List Nat) : progR a = lawR a := by
  cases h : progR a with
  | some x =>
    obtain ⟨t, js⟩ := x
    obtain ⟨rfl, ok⟩ := progR_some h
    exact (lawR_rec ok).symm
  | none =>
    cases h2 : lawR a with
    | none => rfl
    | some x =>
      obtain ⟨t, js⟩ := x
      obtain ⟨rfl, ok⟩ := lawR_some h2
      rw [progR_rec ok] at h
      cases h
end RecT
namespace VL
open PySem RecT
abbrev tx (a : List Nat) : D := .str (SX.S a)
abbrev TS (c : Nat) : D := .str (SX.S [c])
section
variable {a : List Nat}
theorem cut_slice (z : Str) (lo hi : Option Int) : L2.cutS z lo hi = Txt.slice z lo hi := (L2.sliceText_cut z lo hi).symm
theorem len_S (h : a.length < 100000) : lenD [tx a] = pure (.int a.length) := by
  show (ask (small (SX.S a).length) >>= fun _ => pure (D.int (SX.S a).length)) = _
  rw [SX.S_len, ask_p (small_of h), pb_M]
theorem sl_any (h : a.length < 100000) (lo hi : Option Int) : dSl (tx a) lo hi = pure (.str (L2.cutS (SX.S a) lo hi)) := by
  show (ask (small (SX.S a).length) >>= fun _ => pure (D.str (L2.cutS (SX.S a) lo hi))) = _
  rw [SX.S_len, ask_p (small_of h), pb_M]
theorem sl_to (h : a.length < 100000) {i : Int} (hi : 0 ≤ i) : dSl (tx a) none (some i) = pure (tx (a.take i.toNat)) := by
  rw [sl_any h]
  rw [cut_slice, SX.slice_to hi]
theorem sl_from (h : a.length < 100000) {i : Int} (hi : 0 ≤ i) : dSl (tx a) (some i) none = pure (tx (a.drop i.toNat)) := by
  rw [sl_any h]
  rw [cut_slice, SX.slice_from hi]
theorem split_p {c : Nat} (h : a.length < 100000) (hc : c < 256) : splitM frzL (tx a) [TS c] = pure (.lst ((TL.spl [c] 0 [] a).map tx)) := by
  show (ask (!((SX.S [c]).length == 0) && decide ((SX.S a).length + 2 ≤ sizeLine)) >>= fun _ => frzL ((Txt.split (SX.S a) (SX.S [c])).map D.str)) = _
  rw [SX.S_len, SX.S_len, decide_eq_true (by rw [sizeLine_eq]; omega), SX.split_S (by simp) (by simpa using hc), ask_p (by rfl), pb_M, List.map_map]
  rfl
theorem it_S : itOf (tx a) = pure ⟨a.map TS, fun _ => True⟩ := Eq.trans rfl rfl
theorem in_S (c : Nat) (b : List Nat) : dInC (TS c) (tx b) = pure (.bl (decide (c ∈ b))) := by
  show (pure (D.bl (!(occC (SX.S b) (SX.S [c]) 0 (SX.S b).length 1).isEmpty)) : M D) = _
  rw [← VL.occ_eq, SX.in_one]
theorem nin_S (c : Nat) (b : List Nat) : dNinC (TS c) (tx b) = pure (.bl (!decide (c ∈ b))) := by
  show (pure (D.bl (!(!(occC (SX.S b) (SX.S [c]) 0 (SX.S b).length 1).isEmpty))) : M D) = _
  rw [← VL.occ_eq, SX.in_one]
theorem dig_mem (c : Nat) : decide (c ∈ [48, 49, 50, 51, 52, 53, 54, 55, 56, 57]) = isDig c := by
  unfold isDig
  rw [← Bool.decide_and]
  refine decide_eq_decide.mpr ?_
  simp only [List.mem_cons, List.not_mem_nil, or_false]
  omega
theorem int_pos (h : a.length ≤ 640) (hd : a.all isDig = true) (h0 : a ≠ []) : intSD [tx a] = pure (.int ((NumText.digitsVal a : Nat) : Int)) := by
  show (match PySem.intText? (SX.S a) with
    | some n => ask (decide ((SX.S a).length ≤ 640)) >>= fun _ => pure (D.int n)
    | none => stuck) = _
  rw [intText_digits (x := SX.S a) (all_dig.mp hd) h0 (by rw [SX.S_len]; omega), SX.S_len]
  show (ask _ >>= fun _ => _) = _
  rw [ask_p (decide_eq_true h), pb_M]
theorem int_neg (h : a.length ≤ 639) (hd : a.all isDig = true) (h0 : a ≠ []) : intSD [tx (45 :: a)] = pure (.int (-((NumText.digitsVal a : Nat) : Int))) := by
  show (match PySem.intText? (SX.S (45 :: a)) with
    | some n => ask (decide ((SX.S (45 :: a)).length ≤ 640)) >>= fun _ => pure (D.int n)
    | none => stuck) = _
  rw [intText_neg (x := SX.S (45 :: a)) rfl (all_dig.mp hd) h0 (by rw [SX.S_len, List.length_cons]; omega), SX.S_len]
  show (ask _ >>= fun _ => _) = _
  rw [ask_p (decide_eq_true (by rw [List.length_cons]; omega)), pb_M]
end
def oD : Option Int → D
  | some i => .int i
  | none => .non
theorem seqM_of {m : M VL.Flow} {k : VL.Env → M VL.Flow} {ρ : VL.Env} {r : M VL.Flow} (h : m = pure (.nx ρ)) (h2 : k ρ = r) : seqM m k = r := by rw [h, seqM_nx, h2]
theorem tx_eq (a b : List Nat) : dEq (tx a) (tx b) = pure (.bl (decide (a = b))) := by
  rw [eq_str]
  exact congrArg (fun z => pure (D.bl z)) (decide_eq_decide.mpr ⟨SX.S_inj, fun w => by rw [w]⟩)
theorem tx_ne (a b : List Nat) : dNe (tx a) (tx b) = pure (.bl (!decide (a = b))) := by
  rw [ne_str]
  exact congrArg (fun z => pure (D.bl (!z))) (decide_eq_decide.mpr ⟨SX.S_inj, fun w => by rw [w]⟩)
/-- a comprehension over the images of a list -/
theorem loopG_f {α : Type} {it : ItD} (hc : it.chk = fun _ => True) {n : Nat} {test : VL.Env → M Bool} {elt : VL.Env → M D} {ρ : VL.Env} {g f : α → D} {p : α → Bool} :
    ∀ (xs : List α) (acc : List D), (∀ x ∈ xs, test (ρ.set n (some (g x))) = pure (p x)) → (∀ x ∈ xs, p x = true → elt (ρ.set n (some (g x))) = pure (f x)) → loopC it (gN n) test elt ρ (xs.map g) acc = pure (acc ++ (xs.filter p).map f)
  | [], acc, _, _ => by
    show loopC it (gN n) test elt ρ [] acc = _
    rw [loopC_nil, chk_p hc]; simp
  | x :: r, acc, ht, he => by
    have ih := fun a => loopG_f hc (ρ := ρ) (g := g) (f := f) r a (fun d h => ht d (List.mem_cons_of_mem _ h)) fun d h => he d (List.mem_cons_of_mem _ h)
    show loopC it (gN n) test elt ρ (g x :: r.map g) acc = _
    have hg : gN n (g x) ρ = pure (ρ.set n (some (g x))) := Eq.trans rfl rfl
    rw [loopC_cons, chk_p hc, hg, liftT_p, ht x List.mem_cons_self, noX_p, pb_M]
    cases hp : p x with
    | true =>
      rw [if_pos rfl, he x List.mem_cons_self hp, noX_p, pb_M, ih, List.filter_cons_of_pos (by rw [hp])]
      simp
    | false =>
      rw [if_neg Bool.false_ne_true, ih, List.filter_cons_of_neg (by rw [hp]; exact Bool.false_ne_true)]
theorem loopG {α : Type} {it : ItD} (hc : it.chk = fun _ => True) {n : Nat} {elt : VL.Env → M D} {ρ : VL.Env} {g f : α → D} (xs : List α) (he : ∀ x ∈ xs, elt (ρ.set n (some (g x))) = pure (f x)) : loopC it (gN n) (fun _ => pure true) elt ρ (xs.map g) [] = pure (xs.map f) := by
  rw [loopG_f hc (p := fun _ => true) (f := f) xs [] (fun _ _ => rfl) fun d h _ => he d h, List.filter_eq_self.mpr (fun _ _ => rfl)]
  rfl
theorem frzL_p (xs : List D) : frzL xs = pure (.lst xs) := Eq.trans rfl rfl
theorem mkLst_p {xs : List D} (h : xs.length < 100000) : mkLst xs = pure (.lst xs) := by
  show (VL.ask (small xs.length) >>= fun _ => pure (D.lst xs)) = _
  rw [ask_p (small_of h), pb_M]
theorem ty_S (a : List Nat) : tyM "str" (tx a) = pure () := Eq.trans rfl rfl
theorem allX {α : Type} (f : α → Bool) (xs : List α) : allD (fun bs => bs.all id) [.lst (xs.map fun x => .bl (f x))] = pure (.bl (xs.all f)) := by
  have e : boolsOf (xs.map fun x => .bl (f x)) = some (xs.map f) := by
    induction xs with
    | nil => rfl
    | cons x r ih => simp only [List.map_cons, boolsOf, ih]; rfl
  show (match boolsOf (xs.map fun x => .bl (f x)) with
    | some bs => pure (D.bl (bs.all id))
    | none => stuck) = _
  rw [e]
  simp only [List.all_map]
  rfl
end VL
namespace WoT
open PySem PySem.Spec PyProof.Rows L2 NumText RecT
def showZ (i : Int) : List Nat := if i < 0 then 45 :: TL.numL i.natAbs else TL.numL i.toNat
theorem showZ_S (i : Int) : Str.ofString (toString i) = SX.S (showZ i) := by
  cases i with
  | ofNat n => exact SX.num_S n
  | negSucc m =>
    refine (SX.S_tl _).symm.trans (congrArg SX.S ?_)
    have e1 : (Str.ofString (toString ((m + 1 : Nat) : Int))).cps.toList = TL.numL (m + 1) := TL.tl_num (m + 1)
    have e2 : toString (Int.negSucc m) = "-" ++ Nat.repr (m + 1) := rfl
    have e3 : toString ((m + 1 : Nat) : Int) = Nat.repr (m + 1) := rfl
    rw [e3, Str.ofString_eq_toList] at e1
    rw [e2, Str.ofString_eq_toList, String.toList_append, List.map_append]
    have e4 : "-".toList.map Char.toNat = [45] := by decide
    rw [e4]
    show [45] ++ _ = _
    unfold showZ
    rw [if_pos (Int.negSucc_lt_zero m)]
    show _ = 45 :: TL.numL (m + 1)
    rw [← e1]
    rfl
theorem showZ_free {i : Int} {s : Nat} (h : s = 32 ∨ s = 59) : s ∉ showZ i := by
  unfold showZ
  split
  · rw [List.mem_cons]
    rintro (z | z)
    · omega
    · exact TL.numL_free (by omega) z
  · exact TL.numL_free (by omega)
theorem intIn_showZ (i : Int) : intIn (showZ i) = some i := by
  unfold showZ
  by_cases h0 : i < 0
  · rw [if_pos h0]
    unfold intIn
    rw [if_pos (by rfl)]
    show (if TL.numL i.natAbs ≠ [] ∧ (TL.numL i.natAbs).all isDig = true then some (-((digitsVal (TL.numL i.natAbs) : Nat) : Int)) else none) = _
    rw [if_pos ⟨TL.numL_ne _, all_dig.mpr (TL.numL_digits _)⟩, TL.numL_val]
    congr 1
    omega
  · rw [if_neg h0]
    obtain ⟨n, rfl⟩ := Int.eq_ofNat_of_zero_le (by omega : 0 ≤ i)
    unfold intIn
    rw [if_neg numL_head, if_pos ⟨TL.numL_ne _, all_dig.mpr (TL.numL_digits _)⟩]
    simp [TL.numL_val]
def lintZ (p : List Nat) : Option Int := match intIn p with
  | some i => if showZ i = p then some i else none
  | none => none
theorem lintZ_show (i : Int) : lintZ (showZ i) = some i := by
  unfold lintZ
  rw [intIn_showZ]
  exact if_pos rfl
theorem lintZ_some {p : List Nat} {i : Int} (h : lintZ p = some i) : p = showZ i := by
  unfold lintZ at h
  split at h
  · split at h
    · rename_i hc
      cases h
      exact hc.symm
    · cases h
  · cases h
def letB (c : Nat) : Bool := decide (97 ≤ c) && decide (c ≤ 122)
def nameB (k : List Nat) : Bool := decide (1 ≤ k.length) && decide (k.length ≤ 8) && k.all letB
def numO : Option Int → Bool
  | some x => decide (-(10 ^ 9) ≤ x) && decide (x ≤ 10 ^ 9)
  | none => false
def idO (least : Int) : Option Int → Bool
  | some x => decide (least ≤ x)
  | none => false
abbrev Th := Int × List Nat × List Int
def thL (t : Th) : List Nat := TL.joinL [32] (showZ t.1 :: t.2.1 :: t.2.2.map showZ)
structure OkTh (t : Th) : Prop where
  id0 : 0 ≤ t.1
  nm : nameB t.2.1 = true
  n1 : 1 ≤ t.2.2.length
  n8 : t.2.2.length ≤ 8
  nu : ∀ x ∈ t.2.2, -(10 ^ 9) ≤ x ∧ x ≤ 10 ^ 9
def readT (f : List Nat → Option Int) (least : Int) (p : List Nat) : Option Th := match TL.spl [32] 0 [] p with
  | w :: k :: ws => if (idO least (f w) && nameB k && decide (1 ≤ ws.length) && decide (ws.length ≤ 8) && (ws.map f).all numO) = true then some ((f w).getD 0, k, (ws.map f).map (·.getD 0)) else none
  | _ => none
abbrev progT := readT intIn 0
abbrev lawT := readT lintZ
theorem nameB_free {k : List Nat} (h : nameB k = true) : 32 ∉ k ∧ 59 ∉ k := by
  unfold nameB at h
  simp only [Bool.and_eq_true, List.all_eq_true] at h
  constructor <;> intro z <;> have := h.2 _ z <;> simp [letB] at this
theorem th_parts {t : Th} (h : OkTh t) : TL.spl [32] 0 [] (thL t) = showZ t.1 :: t.2.1 :: t.2.2.map showZ := by
  refine TL.spl_join (by simp) fun p hp => ?_
  rcases List.mem_cons.mp hp with rfl | hp
  · exact showZ_free (.inl rfl)
  · rcases List.mem_cons.mp hp with rfl | hp
    · exact (nameB_free h.nm).1
    · obtain ⟨x, _, rfl⟩ := List.mem_map.mp hp
      exact showZ_free (.inl rfl)
theorem joinL_free {s c : Nat} {ps : List (List Nat)} (h : ∀ p ∈ ps, s ∉ p) (hc : s ≠ c) : s ∉ TL.joinL [c] ps := by
  induction ps with
  | nil => simp [TL.joinL]
  | cons p r ih =>
    cases r with
    | nil => exact h p List.mem_cons_self
    | cons q r =>
      show s ∉ p ++ ([c] ++ TL.joinL [c] (q :: r))
      rw [List.mem_append, List.mem_append]
      rintro (z | z | z)
      · exact h p List.mem_cons_self z
      · exact hc (List.mem_singleton.mp z)
      · exact ih (fun x hx => h x (List.mem_cons_of_mem _ hx)) z
theorem th_free {t : Th} (h : OkTh t) : 59 ∉ thL t := joinL_free (fun p hp => by
  rcases List.mem_cons.mp hp with rfl | hp
  · exact showZ_free (.inr rfl)
  · rcases List.mem_cons.mp hp with rfl | hp
    · exact (nameB_free h.nm).2
    · obtain ⟨x, _, rfl⟩ := List.mem_map.mp hp
      exact showZ_free (.inr rfl)) (by decide)
theorem read_show {f : List Nat → Option Int} (hf : ∀ i, f (showZ i) = some i) {t : Th} {least : Int} (h : OkTh t) (hl : least ≤ t.1) : readT f least (thL t) = some t := by
  unfold readT
  rw [th_parts h]
  have e1 : (t.2.2.map showZ).map f = t.2.2.map some := by
    rw [List.map_map]
    exact List.map_congr_left fun j _ => hf j
  simp only [hf, e1, getD_back, List.length_map]
  rw [if_pos]
  · rfl
  · simp only [Bool.and_eq_true, decide_eq_true_eq, List.all_eq_true]
    refine ⟨⟨⟨⟨decide_eq_true hl, h.nm⟩, h.n1⟩, h.n8⟩, fun o ho => ?_⟩
    obtain ⟨x, hx, rfl⟩ := List.mem_map.mp ho
    show (decide (-(10 ^ 9) ≤ x) && decide (x ≤ 10 ^ 9)) = true
    rw [decide_eq_true (h.nu x hx).1, decide_eq_true (h.nu x hx).2]; rfl
theorem read_ok {f : List Nat → Option Int} {p : List Nat} {t : Th} {least : Int} (h0 : 0 ≤ least) (h : readT f least p = some t) : OkTh t ∧ least ≤ t.1 ∧ ∃ w ws, TL.spl [32] 0 [] p = w :: t.2.1 :: ws ∧ f w = some t.1 ∧ ws.map f = t.2.2.map some := by
  unfold readT at h
  split at h
  · rename_i w k ws hp
    split at h
    · rename_i hc
      cases h
      simp only [Bool.and_eq_true, decide_eq_true_eq, List.all_eq_true] at hc
      obtain ⟨⟨⟨⟨c1, c2⟩, c3⟩, c4⟩, c5⟩ := hc
      have hw : ∃ i, f w = some i ∧ least ≤ i := by
        cases e : f w with
        | none => rw [e] at c1; cases c1
        | some i => rw [e] at c1; exact ⟨i, rfl, of_decide_eq_true c1⟩
      obtain ⟨i, hi, hli⟩ := hw
      have hn : ∀ o ∈ ws.map f, ∃ x, o = some x ∧ -(10 ^ 9) ≤ x ∧ x ≤ 10 ^ 9 := fun o ho => by
        have := c5 o ho
        cases o with
        | none => cases this
        | some x =>
          simp only [numO, Bool.and_eq_true, decide_eq_true_eq] at this
          exact ⟨x, rfl, this⟩
      rw [hi]
      refine ⟨⟨by show 0 ≤ i; omega, c2, by simpa using c3, by simpa using c4, fun x hx => ?_⟩, hli, w, ws, hp, hi, ?_⟩
      · obtain ⟨o, ho, rfl⟩ := List.mem_map.mp hx
        obtain ⟨y, rfl, hy⟩ := hn o ho
        exact hy
      · show ws.map f = ((ws.map f).map (·.getD 0)).map some
        rw [List.map_map]
        conv => lhs; rw [← List.map_id (ws.map f)]
        refine List.map_congr_left fun o ho => ?_
        obtain ⟨y, rfl, _⟩ := hn o ho
        rfl
    · cases h
  · cases h
theorem law_text {p : List Nat} {t : Th} {least : Int} (h0 : 0 ≤ least) (h : lawT least p = some t) : p = thL t := by
  obtain ⟨_, _, w, ws, hp, hw, hws⟩ := read_ok h0 h
  have e := join_spl 32 p []
  rw [hp, List.nil_append] at e
  rw [← e]
  unfold thL
  have e2 : ws = t.2.2.map showZ := by
    have : ∀ (ws : List (List Nat)) (ns : List Int), ws.map lintZ = ns.map some → ws = ns.map showZ := by
      intro ws
      induction ws with
      | nil => intro ns h; cases ns with
        | nil => rfl
        | cons _ _ => cases h
      | cons w r ih => intro ns h; cases ns with
        | nil => cases h
        | cons n ns =>
          simp only [List.map_cons, List.cons.injEq] at h ⊢
          exact ⟨lintZ_some h.1, ih ns h.2⟩
    exact this ws t.2.2 hws
  rw [lintZ_some hw, e2]
def ascZ (l : List Int) : Bool := (l.zip (l.drop 1)).all fun p => decide (p.1 < p.2)
def ascI : Int → List Int → Int → Bool
  | least, [], n => decide (least ≤ n)
  | least, i :: r, n => decide (least ≤ i) && ascI (i + 1) r n
theorem asc_eq (n : Int) : ∀ (r : List Int) (i : Int), ascZ (i :: r ++ [n]) = ascI (i + 1) r n
  | [], i => by
    show (decide (i < n) && true) = decide (i + 1 ≤ n)
    rw [Bool.and_true]
    exact decide_eq_decide.mpr ⟨fun h => by omega, fun h => by omega⟩
  | j :: r, i => by
    have ih := asc_eq n r j
    show (decide (i < j) && ascZ (j :: r ++ [n])) = (decide (i + 1 ≤ j) && ascI (j + 1) r n)
    rw [ih]
    rfl
abbrev Wo := Int × Int × Int × List Th
def worldL (w : Wo) : List Nat := TL.joinL [59] (TL.joinL [32] [showZ w.1, showZ w.2.1, showZ w.2.2.1] :: w.2.2.2.map thL)
structure OkW (w : Wo) : Prop where
  t0 : 0 ≤ w.1
  n0 : 0 ≤ w.2.1
  l0 : 0 ≤ w.2.2.1
  l1 : w.2.2.1 ≤ 999999936
  many : w.2.2.2.length ≤ 12
  ths : ∀ t ∈ w.2.2.2, OkTh t
  asc : ascZ (w.2.2.2.map (·.1) ++ [w.2.1]) = true
def headO (f : List Nat → Option Int) (h : List Nat) : Option (Int × Int × Int) := match (TL.spl [32] 0 [] h).map f with
  | [some t, some n, some l] => if 0 ≤ t ∧ 0 ≤ n ∧ 0 ≤ l ∧ l ≤ 999999936 then some (t, n, l) else none
  | _ => none
def allS {α : Type} : List (Option α) → Option (List α)
  | [] => some []
  | some a :: r => match allS r with
    | some l => some (a :: l)
    | none => none
  | none :: _ => none
theorem allS_map {α : Type} (l : List α) : allS (l.map some) = some l := by
  induction l with
  | nil => rfl
  | cons a r ih => simp only [List.map_cons, allS, ih]
theorem allS_some {α : Type} : ∀ {os : List (Option α)} {l : List α}, allS os = some l → os = l.map some
  | [], l, h => by cases h; rfl
  | some a :: r, l, h => by
    unfold allS at h
    cases e : allS r with
    | none => rw [e] at h; cases h
    | some l2 => rw [e] at h; cases h; rw [allS_some e]; rfl
  | none :: r, l, h => by cases h
def progW (a : List Nat) : Option Wo := match TL.spl [59] 0 [] a with
  | h :: ps => match headO intIn h with
    | some (t, n, l) => match allS (ps.map progT) with
      | some ths => if ths.length ≤ 12 ∧ ascZ (ths.map (·.1) ++ [n]) = true then some (t, n, l, ths) else none
      | none => none
    | none => none
  | [] => none
def lawThs : Int → List (List Nat) → Option (List Th × Int)
  | least, [] => some ([], least)
  | least, p :: ps => match lawT least p with
    | some t => match lawThs (t.1 + 1) ps with
      | some (ths, e) => some (t :: ths, e)
      | none => none
    | none => none
def lawW (a : List Nat) : Option Wo := match TL.spl [59] 0 [] a with
  | h :: ps => match headO lintZ h with
    | some (t, n, l) => if ps.length ≤ 12 then (match lawThs 0 ps with
      | some (ths, e) => if e ≤ n then some (t, n, l, ths) else none
      | none => none) else none
    | none => none
  | [] => none
theorem head_show {f : List Nat → Option Int} (hf : ∀ i, f (showZ i) = some i) {t n l : Int} (h : 0 ≤ t ∧ 0 ≤ n ∧ 0 ≤ l ∧ l ≤ 999999936) : headO f (TL.joinL [32] [showZ t, showZ n, showZ l]) = some (t, n, l) := by
  unfold headO
  rw [TL.spl_join (by simp) fun p hp => by
    simp only [List.mem_cons, List.not_mem_nil, or_false] at hp
    rcases hp with rfl | rfl | rfl <;> exact showZ_free (.inl rfl)]
  simp only [List.map_cons, List.map_nil, hf]
  exact if_pos h
theorem head_some {f : List Nat → Option Int} {h : List Nat} {t n l : Int} (e : headO f h = some (t, n, l)) : (0 ≤ t ∧ 0 ≤ n ∧ 0 ≤ l ∧ l ≤ 999999936) ∧ (TL.spl [32] 0 [] h).map f = [some t, some n, some l] := by
  unfold headO at e
  split at e
  · rename_i t' n' l' hs
    split at e
    · rename_i hc
      cases e
      exact ⟨hc, hs⟩
    · cases e
  · cases e
theorem head_text {h : List Nat} {t n l : Int} (e : headO lintZ h = some (t, n, l)) : h = TL.joinL [32] [showZ t, showZ n, showZ l] := by
  have hs := (head_some e).2
  have ej := join_spl 32 h []
  rw [List.nil_append] at ej
  cases e1 : TL.spl [32] 0 [] h with
  | nil => rw [e1] at hs; simp at hs
  | cons a r =>
    cases r with
    | nil => rw [e1] at hs; simp at hs
    | cons b r =>
      cases r with
      | nil => rw [e1] at hs; simp at hs
      | cons c r =>
        cases r with
        | nil =>
          rw [e1] at hs ej
          simp only [List.map_cons, List.map_nil, List.cons.injEq, and_true] at hs
          rw [← ej, lintZ_some hs.1, lintZ_some hs.2.1, lintZ_some hs.2.2]
        | cons d r => rw [e1] at hs; simp at hs
theorem world_parts {w : Wo} (h : OkW w) : TL.spl [59] 0 [] (worldL w) = TL.joinL [32] [showZ w.1, showZ w.2.1, showZ w.2.2.1] :: w.2.2.2.map thL := by
  refine TL.spl_join (by simp) fun p hp => ?_
  rcases List.mem_cons.mp hp with rfl | hp
  · refine joinL_free (fun q hq => ?_) (by decide)
    simp only [List.mem_cons, List.not_mem_nil, or_false] at hq
    rcases hq with rfl | rfl | rfl <;> exact showZ_free (.inr rfl)
  · obtain ⟨t, ht, rfl⟩ := List.mem_map.mp hp
    exact th_free (h.ths t ht)
theorem progW_show {w : Wo} (h : OkW w) : progW (worldL w) = some w := by
  unfold progW
  rw [world_parts h]
  simp only [head_show intIn_showZ ⟨h.t0, h.n0, h.l0, h.l1⟩]
  have e : (w.2.2.2.map thL).map progT = w.2.2.2.map some := by
    rw [List.map_map]
    exact List.map_congr_left fun t ht => read_show intIn_showZ (h.ths t ht) (h.ths t ht).id0
  rw [e, allS_map]
  exact if_pos ⟨h.many, h.asc⟩
theorem progW_ok {a : List Nat} {w : Wo} (h : progW a = some w) : OkW w := by
  unfold progW at h
  split at h
  · rename_i hd ps _
    split at h
    · rename_i t n l hh
      split at h
      · rename_i ths hs
        split at h
        · rename_i hc
          cases h
          have h1 := (head_some hh).1
          refine ⟨h1.1, h1.2.1, h1.2.2.1, h1.2.2.2, hc.1, fun t ht => ?_, hc.2⟩
          have hm : some t ∈ ps.map progT := by rw [allS_some hs]; exact List.mem_map.mpr ⟨t, ht, rfl⟩
          obtain ⟨p, _, hp⟩ := List.mem_map.mp hm
          exact (read_ok (Int.le_refl 0) hp).1
        · cases h
      · cases h
    · cases h
  · cases h
theorem lawThs_show : ∀ {ths : List Th} {least n : Int}, (∀ t ∈ ths, OkTh t) → ascI least (ths.map (·.1)) n = true → ∃ e, lawThs least (ths.map thL) = some (ths, e) ∧ e ≤ n
  | [], least, n, _, h => ⟨least, rfl, of_decide_eq_true h⟩
  | t :: r, least, n, hk, h => by
    simp only [List.map_cons, ascI, Bool.and_eq_true, decide_eq_true_eq] at h
    obtain ⟨e, h1, h2⟩ := lawThs_show (fun x hx => hk x (List.mem_cons_of_mem _ hx)) h.2
    refine ⟨e, ?_, h2⟩
    show (match readT lintZ least (thL t) with
      | some t => match lawThs (t.1 + 1) (r.map thL) with
        | some (ths, e) => some (t :: ths, e)
        | none => none
      | none => none) = _
    rw [read_show lintZ_show (hk t List.mem_cons_self) h.1]
    simp only [h1]
theorem lawThs_some : ∀ {ps : List (List Nat)} {least e : Int} {ths : List Th}, 0 ≤ least → lawThs least ps = some (ths, e) → ps = ths.map thL ∧ (∀ t ∈ ths, OkTh t) ∧ ∀ n, e ≤ n → ascI least (ths.map (·.1)) n = true
  | [], least, e, ths, h0, h => by
    cases h
    exact ⟨rfl, (fun _ z => by cases z), fun n hn => decide_eq_true hn⟩
  | p :: ps, least, e, ths, h0, h => by
    unfold lawThs at h
    cases h1 : lawT least p with
    | none => rw [h1] at h; cases h
    | some t =>
      rw [h1] at h
      simp only at h
      cases h2 : lawThs (t.1 + 1) ps with
      | none => rw [h2] at h; cases h
      | some x =>
        rw [h2] at h
        cases h
        obtain ⟨o1, o2, _⟩ := read_ok h0 h1
        have := o1.id0
        obtain ⟨q1, q2, q3⟩ := lawThs_some (by omega) h2
        refine ⟨by rw [q1, law_text h0 h1]; rfl, fun y hy => ?_, fun n hn => ?_⟩
        · rcases List.mem_cons.mp hy with rfl | hy
          · exact o1
          · exact q2 y hy
        · show (decide (least ≤ t.1) && ascI (t.1 + 1) (x.1.map (·.1)) n) = true
          rw [decide_eq_true o2, q3 n hn]; rfl
theorem asc_zero {ths : List Th} {n : Int} (h : ∀ t ∈ ths, OkTh t) (hn : 0 ≤ n) : ascZ (ths.map (·.1) ++ [n]) = ascI 0 (ths.map (·.1)) n := by
  cases ths with
  | nil => show true = decide (0 ≤ n); rw [decide_eq_true hn]
  | cons t r =>
    have := (h t List.mem_cons_self).id0
    show ascZ (t.1 :: r.map (·.1) ++ [n]) = (decide (0 ≤ t.1) && ascI (t.1 + 1) (r.map (·.1)) n)
    rw [asc_eq, decide_eq_true this]; rfl
theorem lawW_show {w : Wo} (h : OkW w) : lawW (worldL w) = some w := by
  unfold lawW
  rw [world_parts h]
  simp only [head_show lintZ_show ⟨h.t0, h.n0, h.l0, h.l1⟩]
  have ha := h.asc
  rw [asc_zero h.ths h.n0] at ha
  obtain ⟨e, h1, h2⟩ := lawThs_show h.ths ha
  rw [if_pos (by simpa using h.many), h1]
  exact if_pos h2
theorem lawW_some {a : List Nat} {w : Wo} (h : lawW a = some w) : a = worldL w ∧ OkW w := by
  unfold lawW at h
  split at h
  · rename_i hd ps hp
    split at h
    · rename_i t n l hh
      split at h
      · rename_i hm
        split at h
        · rename_i ths e hs
          split at h
          · rename_i hc
            cases h
            obtain ⟨q1, q2, q3⟩ := lawThs_some (Int.le_refl 0) hs
            have h1 := (head_some hh).1
            have e1 := join_spl 59 a []
            rw [hp, List.nil_append] at e1
            refine ⟨?_, ⟨h1.1, h1.2.1, h1.2.2.1, h1.2.2.2, ?_, q2, ?_⟩⟩
            · rw [← e1, head_text hh, q1]
              rfl
            · show ths.length ≤ 12
              rw [q1, List.length_map] at hm
              exact hm
            · show ascZ (ths.map (·.1) ++ [n]) = true
              rw [asc_zero q2 h1.2.1]
              exact q3 n hc
          · cases h
        · cases h
      · cases h
    · cases h
  · cases h
def toldW (a : List Nat) : Option Wo := match progW a with
  | some w => if worldL w = a then some w else none
  | none => none
theorem reads_alike (a : List Nat) : toldW a = lawW a := by
  cases h : toldW a with
  | some w =>
    unfold toldW at h
    cases hp : progW a with
    | none => rw [hp] at h; cases h
    | some w' =>
      rw [hp] at h
      simp only at h
      split at h
      · rename_i hc
        cases h
        rw [← hc, lawW_show (progW_ok hp)]
      · cases h
  | none =>
    cases h2 : lawW a with
    | none => rfl
    | some w =>
      obtain ⟨rfl, ok⟩ := lawW_some h2
      unfold toldW at h
      rw [progW_show ok] at h
      simp at h
theorem worldL_inj {v w : Wo} (hv : OkW v) (hw : OkW w) (h : worldL v = worldL w) : v = w := by
  have := lawW_show hv
  rw [h, lawW_show hw] at this
  exact (Option.some.inj this).symm
end WoT
namespace Hx
open PySem PySem.Spec PyProof.Rows L2 LamX VL
theorem walk_vlE {l : PySem.W.OpenLaw} {n k : Nat} {q : Program} {loose : List Str} {XP : (Str → Option Value) → Heap → Prop} {YP : World → Heap → Prop} {d : DefRec} {CX : World → CXT} {x : Str}
    (hn : l.most = some n) (hn2 : n ≤ sizeLine) (hdf : d.params.defaults = []) (hr : Room k callerA) (xs : List Str) (hxs : (xs.all fun x => ((recsOf q).find? (fun e => e.name == x)).isSome) = true)
    (F : ∀ (w : World) (mg : Str → Option Value) (fa : Addr) (h : Heap), YP w h → h.Ns mainGlobals mg → mg d.name = some (.ref fa) → ∃ K : PySem.W.Frag, K.In h ∧
      ∃ (fd : FuncData) (ts : List (Str × Addr × Addr)) (sp : Sp), (∀ t ∈ ts, t.1 ∈ xs ∧ PySem.W.tabIn K t.1 = some t.2 ∧ K.lookup t.2.2 = none) ∧ (∀ (s : Shared) (u : Value), BindsTo s fd ⟨[u], []⟩ [(x, u)]) ∧
      (∀ (H : Hp) (a : Addr) (ns : List Int), ns.length ≤ n → (∀ t ∈ ts, H t.2.2 = some (.tbl #[])) → SqL K H a (ns.map V.int) → sp [.ref a] H (fun v _ => v = .bl true) fun _ _ _ => False) ∧
      ∀ base : Heap, K.In base → base.Ns mainGlobals mg → (∀ t ∈ ts, TabB base mg t.2.1 t.2.2) → FnG l.prog w K mg base (CX w) k fa fd [x] sp)
    (hCX : ∀ (w : World) (H : Hp) (s : Shared) (e : Value) (s' : Shared), CX w [] H s (fun _ _ _ => False) e s' → False) :
    PySem.W.WalkO q loose XP YP l.row.toRowW d [] (fun f vs => PySem.call f vs) := by
  refine Att.attach_callB hn hdf fun w s₀ s₁ mg mb fa o pm cd doc a vs ns G Y ho hd hcd hmg hobj hints hlen hbits hg => ?_
  obtain ⟨K, KX, fd, ts, sp, hts, hb, hsp, hF⟩ := F w mg fa _ Y G.T.g hmg
  have tab : ∀ t ∈ ts, PySem.W.CodeHd s₁.heap t.2.1 t.2.2 ∧ s₁.heap.get? t.2.2 = some (PySem.W.tabObj #[]) := fun t ht => by
    obtain ⟨h1, h2, h3⟩ := hts t ht
    obtain ⟨dr, hdr⟩ := Option.isSome_iff_exists.mp (List.all_eq_true.mp hxs _ h1)
    exact PySem.W.tab_of G.T KX hdr h2
  refine law_callG (cs := ts.map (·.2)) (CX := CX w) (sp := sp) (fd := fd) (k := k) KX G.T.g G.T.b G.T.builtins G.T.nolimit hg ?_ ?_ ?_ G.T.bmain hobj hints (Nat.le_trans hlen hn2) hr ?_ hb ?_ fun H e s' => hCX w H s₁ e s'
  · intro p hp
    obtain ⟨t, ht, rfl⟩ := List.mem_map.mp hp
    exact (tab t ht).2
  · intro p hp
    obtain ⟨t, ht, rfl⟩ := List.mem_map.mp hp
    exact (hts t ht).2.2
  · intro p hp
    obtain ⟨t, ht, rfl⟩ := List.mem_map.mp hp
    exact (tab t ht).1
  · intro base KB NB TB
    exact hF base KB NB fun t ht => TB _ (List.mem_map_of_mem ht)
  · exact fun H hH hS => hsp H a ns hlen (fun t ht => hH _ (List.mem_map_of_mem ht)) hS
end Hx
namespace K07
open PySem PySem.Spec PyProof.Rows L2 LamX VL OwA
abbrev N_is_whole : List Str := ["value"] -- 0:value
theorem sc_is_whole : FnScope N_is_whole ["value"] (defScope s_is_whole) := ⟨rfl, rfl, rfl, by decide +kernel, rfl, by decide +kernel, by decide +kernel⟩
abbrev N_is_short : List Str := ["value"] -- 0:value
theorem sc_is_short : FnScope N_is_short ["value"] (defScope s_is_short) := ⟨rfl, rfl, rfl, by decide +kernel, rfl, by decide +kernel, by decide +kernel⟩
abbrev N_is_from : List Str := ["value", "least", "most"] -- 0:value 1:least 2:most
theorem sc_is_from : FnScope N_is_from ["value", "least", "most"] (defScope s_is_from) := ⟨rfl, rfl, rfl, by decide +kernel, rfl, by decide +kernel, by decide +kernel⟩
abbrev N_is_tick : List Str := ["value"] -- 0:value
theorem sc_is_tick : FnScope N_is_tick ["value"] (defScope s_is_tick) := ⟨rfl, rfl, rfl, by decide +kernel, rfl, by decide +kernel, by decide +kernel⟩
abbrev N_is_luck_in : List Str := ["value"] -- 0:value
theorem sc_is_luck_in : FnScope N_is_luck_in ["value"] (defScope s_is_luck_in) := ⟨rfl, rfl, rfl, by decide +kernel, rfl, by decide +kernel, by decide +kernel⟩
abbrev N_is_luck : List Str := ["value"] -- 0:value
theorem sc_is_luck : FnScope N_is_luck ["value"] (defScope s_is_luck) := ⟨rfl, rfl, rfl, by decide +kernel, rfl, by decide +kernel, by decide +kernel⟩
abbrev N_is_number : List Str := ["value"] -- 0:value
theorem sc_is_number : FnScope N_is_number ["value"] (defScope s_is_number) := ⟨rfl, rfl, rfl, by decide +kernel, rfl, by decide +kernel, by decide +kernel⟩
abbrev N_is_name_in : List Str := ["value", "sign"] -- 0:value 1:sign
theorem sc_is_name_in : FnScope N_is_name_in ["value"] (defScope s_is_name_in) := ⟨rfl, rfl, rfl, by decide +kernel, rfl, by decide +kernel, by decide +kernel⟩
abbrev N_are_numbers_in : List Str := ["value", "one"] -- 0:value 1:one
theorem sc_are_numbers_in : FnScope N_are_numbers_in ["value"] (defScope s_are_numbers_in) := ⟨rfl, rfl, rfl, by decide +kernel, rfl, by decide +kernel, by decide +kernel⟩
abbrev N_is_thing_in : List Str := ["value"] -- 0:value
theorem sc_is_thing_in : FnScope N_is_thing_in ["value"] (defScope s_is_thing_in) := ⟨rfl, rfl, rfl, by decide +kernel, rfl, by decide +kernel, by decide +kernel⟩
abbrev N_are_things_in : List Str := ["next_id", "value", "ids", "one", "other"] -- 0:next_id 1:value 2:ids 3:one 4:other
theorem sc_are_things_in : FnScope N_are_things_in ["next_id", "value"] (defScope s_are_things_in) := ⟨rfl, rfl, rfl, by decide +kernel, rfl, by decide +kernel, by decide +kernel⟩
abbrev N_KnownParts_init : List Str := ["self", "tick", "next_id", "luck", "things"] -- 0:self 1:tick 2:next_id 3:luck 4:things
theorem sc_KnownParts_init : FnScope N_KnownParts_init ["self", "tick", "next_id", "luck", "things"] (defScope s_KnownParts_init) := ⟨rfl, rfl, rfl, by decide +kernel, rfl, by decide +kernel, by decide +kernel⟩
abbrev N_parts_told : List Str := ["tick", "next_id", "luck", "things"] -- 0:tick 1:next_id 2:luck 3:things
theorem sc_parts_told : FnScope N_parts_told ["tick", "next_id", "luck", "things"] (defScope s_parts_told) := ⟨rfl, rfl, rfl, by decide +kernel, rfl, by decide +kernel, by decide +kernel⟩
abbrev N_World_init : List Str := ["self", "tick", "next_id", "luck", "things", "known", "one"] -- 0:self 1:tick 2:next_id 3:luck 4:things 5:known 6:one
theorem sc_World_init : FnScope N_World_init ["self", "tick", "next_id", "luck", "things"] (defScope s_World_init) := ⟨rfl, rfl, rfl, by decide +kernel, rfl, by decide +kernel, by decide +kernel⟩
abbrev N_World_tick : List Str := ["self"] -- 0:self
theorem sc_World_tick : FnScope N_World_tick ["self"] (defScope s_World_tick) := ⟨rfl, rfl, rfl, by decide +kernel, rfl, by decide +kernel, by decide +kernel⟩
abbrev N_World_next_id : List Str := ["self"] -- 0:self
theorem sc_World_next_id : FnScope N_World_next_id ["self"] (defScope s_World_next_id) := ⟨rfl, rfl, rfl, by decide +kernel, rfl, by decide +kernel, by decide +kernel⟩
abbrev N_World_luck : List Str := ["self"] -- 0:self
theorem sc_World_luck : FnScope N_World_luck ["self"] (defScope s_World_luck) := ⟨rfl, rfl, rfl, by decide +kernel, rfl, by decide +kernel, by decide +kernel⟩
abbrev N_World_things : List Str := ["self"] -- 0:self
theorem sc_World_things : FnScope N_World_things ["self"] (defScope s_World_things) := ⟨rfl, rfl, rfl, by decide +kernel, rfl, by decide +kernel, by decide +kernel⟩
abbrev N_World_eq : List Str := ["self", "other"] -- 0:self 1:other
theorem sc_World_eq : FnScope N_World_eq ["self", "other"] (defScope s_World_eq) := ⟨rfl, rfl, rfl, by decide +kernel, rfl, by decide +kernel, by decide +kernel⟩
abbrev N_made_world : List Str := ["tick", "next_id", "luck", "things"] -- 0:tick 1:next_id 2:luck 3:things
theorem sc_made_world : FnScope N_made_world ["tick", "next_id", "luck", "things"] (defScope s_made_world) := ⟨rfl, rfl, rfl, by decide +kernel, rfl, by decide +kernel, by decide +kernel⟩
abbrev N_thing_text : List Str := ["thing", "number"] -- 0:thing 1:number
theorem sc_thing_text : FnScope N_thing_text ["thing"] (defScope s_thing_text) := ⟨rfl, rfl, rfl, by decide +kernel, rfl, by decide +kernel, by decide +kernel⟩
abbrev N_text_of_world : List Str := ["world", "head", "one"] -- 0:world 1:head 2:one
theorem sc_text_of_world : FnScope N_text_of_world ["world"] (defScope s_text_of_world) := ⟨rfl, rfl, rfl, by decide +kernel, rfl, by decide +kernel, by decide +kernel⟩
abbrev N_integer_in : List Str := ["part", "plain", "sign"] -- 0:part 1:plain 2:sign
theorem sc_integer_in : FnScope N_integer_in ["part"] (defScope s_integer_in) := ⟨rfl, rfl, rfl, by decide +kernel, rfl, by decide +kernel, by decide +kernel⟩
abbrev N_thing_in : List Str := ["part", "words", "found", "word"] -- 0:part 1:words 2:found 3:word
theorem sc_thing_in : FnScope N_thing_in ["part"] (defScope s_thing_in) := ⟨rfl, rfl, rfl, by decide +kernel, rfl, by decide +kernel, by decide +kernel⟩
abbrev N_world_in : List Str := ["text", "parts", "head", "things", "word", "part"] -- 0:text 1:parts 2:head 3:things 4:word 5:part
theorem sc_world_in : FnScope N_world_in ["text"] (defScope s_world_in) := ⟨rfl, rfl, rfl, by decide +kernel, rfl, by decide +kernel, by decide +kernel⟩
abbrev N_require_any_world : List Str := ["value"] -- 0:value
theorem sc_require_any_world : FnScope N_require_any_world ["value"] (defScope s_require_any_world) := ⟨rfl, rfl, rfl, by decide +kernel, rfl, by decide +kernel, by decide +kernel⟩
abbrev N_world_text : List Str := ["world"] -- 0:world
theorem sc_world_text : FnScope N_world_text ["world"] (defScope s_world_text) := ⟨rfl, rfl, rfl, by decide +kernel, rfl, by decide +kernel, by decide +kernel⟩
abbrev N_read_world : List Str := ["text", "found"] -- 0:text 1:found
theorem sc_read_world : FnScope N_read_world ["text"] (defScope s_read_world) := ⟨rfl, rfl, rfl, by decide +kernel, rfl, by decide +kernel, by decide +kernel⟩
abbrev N_l_dice : List Str := ["_law_script", "_law_spot", "_law_cell", "_law_left"] -- 0:_law_script 1:_law_spot 2:_law_cell 3:_law_left
theorem sc_l_dice : FnScope N_l_dice ["_law_script", "_law_spot"] (defScope s_l_dice) := ⟨rfl, rfl, rfl, by decide +kernel, rfl, by decide +kernel, by decide +kernel⟩
abbrev N_l_roll : List Str := ["_law_dice_here", "_law_total", "_law_one", "_law_two", "_law_found"] -- 0:_law_dice_here 1:_law_total 2:_law_one 3:_law_two 4:_law_found
theorem sc_l_roll : FnScope N_l_roll ["_law_dice_here", "_law_total"] (defScope s_l_roll) := ⟨rfl, rfl, rfl, by decide +kernel, rfl, by decide +kernel, by decide +kernel⟩
abbrev N_l_pick : List Str := ["_law_dice_here", "_law_items"] -- 0:_law_dice_here 1:_law_items
theorem sc_l_pick : FnScope N_l_pick ["_law_dice_here", "_law_items"] (defScope s_l_pick) := ⟨rfl, rfl, rfl, by decide +kernel, rfl, by decide +kernel, by decide +kernel⟩
abbrev N_l_near : List Str := ["_law_dice_here", "_law_most"] -- 0:_law_dice_here 1:_law_most
theorem sc_l_near : FnScope N_l_near ["_law_dice_here", "_law_most"] (defScope s_l_near) := ⟨rfl, rfl, rfl, by decide +kernel, rfl, by decide +kernel, by decide +kernel⟩
abbrev N_l_wd_plain : List Str := ["_law_world"] -- 0:_law_world
theorem sc_l_wd_plain : FnScope N_l_wd_plain ["_law_world"] (defScope s_l_wd_plain) := ⟨rfl, rfl, rfl, by decide +kernel, rfl, by decide +kernel, by decide +kernel⟩
abbrev N_l_world_drawn : List Str := ["_law_dice_here", "_law_things", "_law_ahead", "_law_turn", "_law_tick", "_law_here", "_law_numbers", "_law_spot"] -- 0:_law_dice_here 1:_law_things 2:_law_ahead 3:_law_turn 4:_law_tick 5:_law_here 6:_law_numbers 7:_law_spot cells _law_dice_here
theorem sc_l_world_drawn : FnScope N_l_world_drawn ["_law_dice_here"] (defScope s_l_world_drawn) := ⟨rfl, rfl, rfl, by decide +kernel, rfl, by decide +kernel, by decide +kernel⟩
abbrev N_l_written : List Str := ["_law_plain", "_law_found", "_law_thing", "_law_kind", "_law_numbers", "_law_number"] -- 0:_law_plain 1:_law_found 2:_law_thing 3:_law_kind 4:_law_numbers 5:_law_number
theorem sc_l_written : FnScope N_l_written ["_law_plain"] (defScope s_l_written) := ⟨rfl, rfl, rfl, by decide +kernel, rfl, by decide +kernel, by decide +kernel⟩
abbrev N_l_integer : List Str := ["_law_part", "_law_plain", "_law_sign"] -- 0:_law_part 1:_law_plain 2:_law_sign
theorem sc_l_integer : FnScope N_l_integer ["_law_part"] (defScope s_l_integer) := ⟨rfl, rfl, rfl, by decide +kernel, rfl, by decide +kernel, by decide +kernel⟩
abbrev N_l_read_thing : List Str := ["_law_part", "_law_least", "_law_words", "_law_thing", "_law_numbers", "_law_kind", "_law_word", "_law_sign", "_law_one"] -- 0:_law_part 1:_law_least 2:_law_words 3:_law_thing 4:_law_numbers 5:_law_kind 6:_law_word 7:_law_sign 8:_law_one
theorem sc_l_read_thing : FnScope N_l_read_thing ["_law_part", "_law_least"] (defScope s_l_read_thing) := ⟨rfl, rfl, rfl, by decide +kernel, rfl, by decide +kernel, by decide +kernel⟩
abbrev N_l_read : List Str := ["_law_text", "_law_parts", "_law_things", "_law_least", "_law_head", "_law_part", "_law_thing", "_law_word"] -- 0:_law_text 1:_law_parts 2:_law_things 3:_law_least 4:_law_head 5:_law_part 6:_law_thing 7:_law_word
theorem sc_l_read : FnScope N_l_read ["_law_text"] (defScope s_l_read) := ⟨rfl, rfl, rfl, by decide +kernel, rfl, by decide +kernel, by decide +kernel⟩
abbrev N_l_near_texts : List Str := ["_law_dice_here", "_law_text", "_law_at", "_law_parts", "_law_sign", "_law_found", "_law_place", "_law_twice", "_law_words", "_law_spot", "_law_word"] -- 0:_law_dice_here 1:_law_text 2:_law_at 3:_law_parts 4:_law_sign 5:_law_found 6:_law_place 7:_law_twice 8:_law_words 9:_law_spot 10:_law_word
theorem sc_l_near_texts : FnScope N_l_near_texts ["_law_dice_here", "_law_text"] (defScope s_l_near_texts) := ⟨rfl, rfl, rfl, by decide +kernel, rfl, by decide +kernel, by decide +kernel⟩
abbrev N_l_told : List Str := ["_law_text"] -- 0:_law_text
theorem sc_l_told : FnScope N_l_told ["_law_text"] (defScope s_l_told) := ⟨rfl, rfl, rfl, by decide +kernel, rfl, by decide +kernel, by decide +kernel⟩
abbrev N_l_right : List Str := ["_law_dice_here", "_law_one", "_law_other", "_law_first", "_law_second", "_law_text"] -- 0:_law_dice_here 1:_law_one 2:_law_other 3:_law_first 4:_law_second 5:_law_text
theorem sc_l_right : FnScope N_l_right ["_law_dice_here"] (defScope s_l_right) := ⟨rfl, rfl, rfl, by decide +kernel, rfl, by decide +kernel, by decide +kernel⟩
abbrev N_law : List Str := ["_law_script", "_law_spot", "_law_told_here", "_law_odd", "_law_dice_here", "_law_turn", "_law_text"] -- 0:_law_script 1:_law_spot 2:_law_told_here 3:_law_odd 4:_law_dice_here 5:_law_turn 6:_law_text
theorem sc_law : FnScope N_law ["_law_script"] (defScope s_law) := ⟨rfl, rfl, rfl, by decide +kernel, rfl, by decide +kernel, by decide +kernel⟩
set_option genInjectivity false
set_option genSizeOf false
set_option genSizeOfSpec false
structure Tp (P : Program) (K : PySem.W.Frag) (mg : Str → Option Value) where
  C_KnownParts : Addr
  C_World : Addr
  g_KnownParts : mg "KnownParts" = some (.ref C_KnownParts)
  cl_KnownParts : SlX.SCls K C_KnownParts
  is_KnownParts : SlX.SIsi K C_KnownParts
  ty_KnownParts : PySem.W.typeIn K (.ref C_KnownParts) = some (.type "type")
  q_KnownParts_own_luck : Addr
  t_KnownParts_own_luck : SlX.Slot1 K C_KnownParts "own_luck" q_KnownParts_own_luck 0
  q_KnownParts_own_next_id : Addr
  t_KnownParts_own_next_id : SlX.Slot1 K C_KnownParts "own_next_id" q_KnownParts_own_next_id 1
  q_KnownParts_own_things : Addr
  t_KnownParts_own_things : SlX.Slot1 K C_KnownParts "own_things" q_KnownParts_own_things 2
  q_KnownParts_own_tick : Addr
  t_KnownParts_own_tick : SlX.Slot1 K C_KnownParts "own_tick" q_KnownParts_own_tick 3
  k_KnownParts_NoneType : PySem.W.subIn K (.type "NoneType") (.ref C_KnownParts) = some false
  k_KnownParts_bool : PySem.W.subIn K (.type "bool") (.ref C_KnownParts) = some false
  k_KnownParts_int : PySem.W.subIn K (.type "int") (.ref C_KnownParts) = some false
  k_KnownParts_str : PySem.W.subIn K (.type "str") (.ref C_KnownParts) = some false
  k_KnownParts_tuple : PySem.W.subIn K (.type "tuple") (.ref C_KnownParts) = some false
  k_KnownParts_list : PySem.W.subIn K (.type "list") (.ref C_KnownParts) = some false
  k_KnownParts_dict : PySem.W.subIn K (.type "dict") (.ref C_KnownParts) = some false
  k_KnownParts_World : PySem.W.subIn K (.ref C_World) (.ref C_KnownParts) = some false
  kt_NoneType_KnownParts : PySem.W.subIn K (.ref C_KnownParts) (.type "NoneType") = some false
  kt_bool_KnownParts : PySem.W.subIn K (.ref C_KnownParts) (.type "bool") = some false
  kt_int_KnownParts : PySem.W.subIn K (.ref C_KnownParts) (.type "int") = some false
  kt_str_KnownParts : PySem.W.subIn K (.ref C_KnownParts) (.type "str") = some false
  kt_tuple_KnownParts : PySem.W.subIn K (.ref C_KnownParts) (.type "tuple") = some false
  kt_list_KnownParts : PySem.W.subIn K (.ref C_KnownParts) (.type "list") = some false
  kt_dict_KnownParts : PySem.W.subIn K (.ref C_KnownParts) (.type "dict") = some false
  kn_World_KnownParts : ((Value.ref C_World) == Value.ref C_KnownParts) = false
  g_World : mg "World" = some (.ref C_World)
  cl_World : SlX.SCls K C_World
  is_World : SlX.SIsi K C_World
  ty_World : PySem.W.typeIn K (.ref C_World) = some (.type "type")
  q_World_own_ids : Addr
  t_World_own_ids : SlX.Slot1 K C_World "own_ids" q_World_own_ids 0
  q_World_own_luck : Addr
  t_World_own_luck : SlX.Slot1 K C_World "own_luck" q_World_own_luck 1
  q_World_own_next_id : Addr
  t_World_own_next_id : SlX.Slot1 K C_World "own_next_id" q_World_own_next_id 2
  q_World_own_things : Addr
  t_World_own_things : SlX.Slot1 K C_World "own_things" q_World_own_things 3
  q_World_own_tick : Addr
  t_World_own_tick : SlX.Slot1 K C_World "own_tick" q_World_own_tick 4
  k_World_NoneType : PySem.W.subIn K (.type "NoneType") (.ref C_World) = some false
  k_World_bool : PySem.W.subIn K (.type "bool") (.ref C_World) = some false
  k_World_int : PySem.W.subIn K (.type "int") (.ref C_World) = some false
  k_World_str : PySem.W.subIn K (.type "str") (.ref C_World) = some false
  k_World_tuple : PySem.W.subIn K (.type "tuple") (.ref C_World) = some false
  k_World_list : PySem.W.subIn K (.type "list") (.ref C_World) = some false
  k_World_dict : PySem.W.subIn K (.type "dict") (.ref C_World) = some false
  k_World_KnownParts : PySem.W.subIn K (.ref C_KnownParts) (.ref C_World) = some false
  kt_NoneType_World : PySem.W.subIn K (.ref C_World) (.type "NoneType") = some false
  kt_bool_World : PySem.W.subIn K (.ref C_World) (.type "bool") = some false
  kt_int_World : PySem.W.subIn K (.ref C_World) (.type "int") = some false
  kt_str_World : PySem.W.subIn K (.ref C_World) (.type "str") = some false
  kt_tuple_World : PySem.W.subIn K (.ref C_World) (.type "tuple") = some false
  kt_list_World : PySem.W.subIn K (.ref C_World) (.type "list") = some false
  kt_dict_World : PySem.W.subIn K (.ref C_World) (.type "dict") = some false
  kn_KnownParts_World : ((Value.ref C_KnownParts) == Value.ref C_World) = false
  nf_NoneType_World : PySem.W.notFirst K C_World (.type "NoneType") = true
  nf_bool_World : PySem.W.notFirst K C_World (.type "bool") = true
  nf_int_World : PySem.W.notFirst K C_World (.type "int") = true
  nf_str_World : PySem.W.notFirst K C_World (.type "str") = true
  nf_tuple_World : PySem.W.notFirst K C_World (.type "tuple") = true
  nf_list_World : PySem.W.notFirst K C_World (.type "list") = true
  nf_dict_World : PySem.W.notFirst K C_World (.type "dict") = true
  nf_KnownParts_World : PySem.W.notFirst K C_World (.ref C_KnownParts) = true
  nf_World_World : PySem.W.notFirst K C_World (.ref C_World) = true
  ne_World : PySem.W.findIn K (.ref C_World) "__ne__" = some (some (.builtin "object.__ne__"))
  x_PlayError : Addr
  gx_PlayError : mg "PlayError" = some (.ref x_PlayError)
  kx_PlayError : PySem.W.keepIn K (.ref x_PlayError) = true
  bx_PlayError : PySem.W.subIn K (.ref x_PlayError) (.type "BaseException") = some true
  tx_PlayError : PySem.W.typeIn K (.ref x_PlayError) = some (.type "type")
  xc_PlayError : PySem.W.excIn K x_PlayError [.type "ValueError", .type "Exception", .type "BaseException", .type "object"] "ValueError.__new__" = true
  x_InvalidWorld : Addr
  gx_InvalidWorld : mg "InvalidWorld" = some (.ref x_InvalidWorld)
  kx_InvalidWorld : PySem.W.keepIn K (.ref x_InvalidWorld) = true
  bx_InvalidWorld : PySem.W.subIn K (.ref x_InvalidWorld) (.type "BaseException") = some true
  tx_InvalidWorld : PySem.W.typeIn K (.ref x_InvalidWorld) = some (.type "type")
  xc_InvalidWorld : PySem.W.excIn K x_InvalidWorld [.type "ValueError", .type "Exception", .type "BaseException", .type "object"] "ValueError.__new__" = true
  x_UnknownName : Addr
  gx_UnknownName : mg "UnknownName" = some (.ref x_UnknownName)
  kx_UnknownName : PySem.W.keepIn K (.ref x_UnknownName) = true
  bx_UnknownName : PySem.W.subIn K (.ref x_UnknownName) (.type "BaseException") = some true
  tx_UnknownName : PySem.W.typeIn K (.ref x_UnknownName) = some (.type "type")
  i_UnknownName : Addr
  es_UnknownName : VX.ExS P K mg "KeyError" "LookupError.__new__" "KeyError.__init__" [.type "KeyError", .type "LookupError", .type "Exception", .type "BaseException", .type "object"] x_UnknownName i_UnknownName "wanted"
  xf_UnknownName : XfC K x_UnknownName
  nf_UnknownName : PySem.W.findIn K (.ref x_UnknownName) "wanted" = some none
  ex_PlayError_PlayError : PySem.W.exmOne K (.ref x_PlayError) (.ref x_PlayError) = some true
  ex_PlayError_InvalidWorld : PySem.W.exmOne K (.ref x_PlayError) (.ref x_InvalidWorld) = some false
  ex_PlayError_UnknownName : PySem.W.exmOne K (.ref x_PlayError) (.ref x_UnknownName) = some false
  ex_InvalidWorld_PlayError : PySem.W.exmOne K (.ref x_InvalidWorld) (.ref x_PlayError) = some true
  ex_InvalidWorld_InvalidWorld : PySem.W.exmOne K (.ref x_InvalidWorld) (.ref x_InvalidWorld) = some true
  ex_InvalidWorld_UnknownName : PySem.W.exmOne K (.ref x_InvalidWorld) (.ref x_UnknownName) = some false
  ex_UnknownName_PlayError : PySem.W.exmOne K (.ref x_UnknownName) (.ref x_PlayError) = some false
  ex_UnknownName_InvalidWorld : PySem.W.exmOne K (.ref x_UnknownName) (.ref x_InvalidWorld) = some false
  ex_UnknownName_UnknownName : PySem.W.exmOne K (.ref x_UnknownName) (.ref x_UnknownName) = some true
  a__wall : Addr
  d__wall : FuncData
  F__wall : Fun K "_wall" "_wall" s__wall a__wall d__wall
  g__wall : mg "_wall" = some (.ref a__wall)
  b__wall : Binds K d__wall ["k"] []
  a_is_whole : Addr
  d_is_whole : FuncData
  F_is_whole : Fun K "is_whole" "is_whole" s_is_whole a_is_whole d_is_whole
  g_is_whole : mg "is_whole" = some (.ref a_is_whole)
  b_is_whole : Binds K d_is_whole ["value"] []
  a_is_short : Addr
  d_is_short : FuncData
  F_is_short : Fun K "is_short" "is_short" s_is_short a_is_short d_is_short
  g_is_short : mg "is_short" = some (.ref a_is_short)
  b_is_short : Binds K d_is_short ["value"] []
  a_is_from : Addr
  d_is_from : FuncData
  F_is_from : Fun K "is_from" "is_from" s_is_from a_is_from d_is_from
  g_is_from : mg "is_from" = some (.ref a_is_from)
  b_is_from : Binds K d_is_from ["value", "least", "most"] []
  a_is_tick : Addr
  d_is_tick : FuncData
  F_is_tick : Fun K "is_tick" "is_tick" s_is_tick a_is_tick d_is_tick
  g_is_tick : mg "is_tick" = some (.ref a_is_tick)
  b_is_tick : Binds K d_is_tick ["value"] []
  a_is_luck_in : Addr
  d_is_luck_in : FuncData
  F_is_luck_in : Fun K "is_luck_in" "is_luck_in" s_is_luck_in a_is_luck_in d_is_luck_in
  g_is_luck_in : mg "is_luck_in" = some (.ref a_is_luck_in)
  b_is_luck_in : Binds K d_is_luck_in ["value"] []
  a_is_luck : Addr
  d_is_luck : FuncData
  F_is_luck : Fun K "is_luck" "is_luck" s_is_luck a_is_luck d_is_luck
  g_is_luck : mg "is_luck" = some (.ref a_is_luck)
  b_is_luck : Binds K d_is_luck ["value"] []
  a_is_number : Addr
  d_is_number : FuncData
  F_is_number : Fun K "is_number" "is_number" s_is_number a_is_number d_is_number
  g_is_number : mg "is_number" = some (.ref a_is_number)
  b_is_number : Binds K d_is_number ["value"] []
  a_is_name_in : Addr
  d_is_name_in : FuncData
  F_is_name_in : Fun K "is_name_in" "is_name_in" s_is_name_in a_is_name_in d_is_name_in
  g_is_name_in : mg "is_name_in" = some (.ref a_is_name_in)
  b_is_name_in : Binds K d_is_name_in ["value"] []
  a_are_numbers_in : Addr
  d_are_numbers_in : FuncData
  F_are_numbers_in : Fun K "are_numbers_in" "are_numbers_in" s_are_numbers_in a_are_numbers_in d_are_numbers_in
  g_are_numbers_in : mg "are_numbers_in" = some (.ref a_are_numbers_in)
  b_are_numbers_in : Binds K d_are_numbers_in ["value"] []
  a_is_thing_in : Addr
  d_is_thing_in : FuncData
  F_is_thing_in : Fun K "is_thing_in" "is_thing_in" s_is_thing_in a_is_thing_in d_is_thing_in
  g_is_thing_in : mg "is_thing_in" = some (.ref a_is_thing_in)
  b_is_thing_in : Binds K d_is_thing_in ["value"] []
  a_are_things_in : Addr
  d_are_things_in : FuncData
  F_are_things_in : Fun K "are_things_in" "are_things_in" s_are_things_in a_are_things_in d_are_things_in
  g_are_things_in : mg "are_things_in" = some (.ref a_are_things_in)
  b_are_things_in : Binds K d_are_things_in ["next_id", "value"] []
  a_KnownParts_init : Addr
  d_KnownParts_init : FuncData
  F_KnownParts_init : Fun K "__init__" "KnownParts.__init__" s_KnownParts_init a_KnownParts_init d_KnownParts_init
  m_KnownParts_init : Meth K C_KnownParts "__init__" a_KnownParts_init
  b_KnownParts_init : Binds K d_KnownParts_init ["self", "tick", "next_id", "luck", "things"] []
  a_parts_told : Addr
  d_parts_told : FuncData
  F_parts_told : Fun K "parts_told" "parts_told" s_parts_told a_parts_told d_parts_told
  g_parts_told : mg "parts_told" = some (.ref a_parts_told)
  b_parts_told : Binds K d_parts_told ["tick", "next_id", "luck", "things"] []
  a_World_init : Addr
  d_World_init : FuncData
  F_World_init : Fun K "__init__" "World.__init__" s_World_init a_World_init d_World_init
  m_World_init : Meth K C_World "__init__" a_World_init
  b_World_init : Binds K d_World_init ["self", "tick", "next_id", "luck", "things"] []
  a_World_tick : Addr
  d_World_tick : FuncData
  F_World_tick : Fun K "tick" "World.tick" s_World_tick a_World_tick d_World_tick
  pa_World_tick : Addr
  p_World_tick : PropOf K C_World "tick" pa_World_tick a_World_tick
  b_World_tick : Binds K d_World_tick ["self"] []
  a_World_next_id : Addr
  d_World_next_id : FuncData
  F_World_next_id : Fun K "next_id" "World.next_id" s_World_next_id a_World_next_id d_World_next_id
  pa_World_next_id : Addr
  p_World_next_id : PropOf K C_World "next_id" pa_World_next_id a_World_next_id
  b_World_next_id : Binds K d_World_next_id ["self"] []
  a_World_luck : Addr
  d_World_luck : FuncData
  F_World_luck : Fun K "luck" "World.luck" s_World_luck a_World_luck d_World_luck
  pa_World_luck : Addr
  p_World_luck : PropOf K C_World "luck" pa_World_luck a_World_luck
  b_World_luck : Binds K d_World_luck ["self"] []
  a_World_things : Addr
  d_World_things : FuncData
  F_World_things : Fun K "things" "World.things" s_World_things a_World_things d_World_things
  pa_World_things : Addr
  p_World_things : PropOf K C_World "things" pa_World_things a_World_things
  b_World_things : Binds K d_World_things ["self"] []
  a_World_ids : Addr
  d_World_ids : FuncData
  F_World_ids : Fun K "ids" "World.ids" s_World_ids a_World_ids d_World_ids
  m_World_ids : Meth K C_World "ids" a_World_ids
  b_World_ids : Binds K d_World_ids ["self", "kind"] []
  a_World_kind_of : Addr
  d_World_kind_of : FuncData
  F_World_kind_of : Fun K "kind_of" "World.kind_of" s_World_kind_of a_World_kind_of d_World_kind_of
  m_World_kind_of : Meth K C_World "kind_of" a_World_kind_of
  b_World_kind_of : Binds K d_World_kind_of ["self", "place"] []
  a_World_numbers : Addr
  d_World_numbers : FuncData
  F_World_numbers : Fun K "numbers" "World.numbers" s_World_numbers a_World_numbers d_World_numbers
  m_World_numbers : Meth K C_World "numbers" a_World_numbers
  b_World_numbers : Binds K d_World_numbers ["self", "place"] []
  a_World_contains : Addr
  d_World_contains : FuncData
  F_World_contains : Fun K "__contains__" "World.__contains__" s_World_contains a_World_contains d_World_contains
  m_World_contains : Meth K C_World "__contains__" a_World_contains
  b_World_contains : Binds K d_World_contains ["self", "value"] []
  a_World_len : Addr
  d_World_len : FuncData
  F_World_len : Fun K "__len__" "World.__len__" s_World_len a_World_len d_World_len
  m_World_len : Meth K C_World "__len__" a_World_len
  b_World_len : Binds K d_World_len ["self"] []
  a_World_eq : Addr
  d_World_eq : FuncData
  F_World_eq : Fun K "__eq__" "World.__eq__" s_World_eq a_World_eq d_World_eq
  m_World_eq : Meth K C_World "__eq__" a_World_eq
  b_World_eq : Binds K d_World_eq ["self", "other"] []
  a_World_str : Addr
  d_World_str : FuncData
  F_World_str : Fun K "__str__" "World.__str__" s_World_str a_World_str d_World_str
  m_World_str : Meth K C_World "__str__" a_World_str
  b_World_str : Binds K d_World_str ["self"] []
  a_made_world : Addr
  d_made_world : FuncData
  F_made_world : Fun K "made_world" "made_world" s_made_world a_made_world d_made_world
  g_made_world : mg "made_world" = some (.ref a_made_world)
  b_made_world : Binds K d_made_world ["tick", "next_id", "luck", "things"] []
  a_thing_at : Addr
  d_thing_at : FuncData
  F_thing_at : Fun K "thing_at" "thing_at" s_thing_at a_thing_at d_thing_at
  g_thing_at : mg "thing_at" = some (.ref a_thing_at)
  b_thing_at : Binds K d_thing_at ["world", "place"] []
  a_thing_text : Addr
  d_thing_text : FuncData
  F_thing_text : Fun K "thing_text" "thing_text" s_thing_text a_thing_text d_thing_text
  g_thing_text : mg "thing_text" = some (.ref a_thing_text)
  b_thing_text : Binds K d_thing_text ["thing"] []
  a_text_of_world : Addr
  d_text_of_world : FuncData
  F_text_of_world : Fun K "text_of_world" "text_of_world" s_text_of_world a_text_of_world d_text_of_world
  g_text_of_world : mg "text_of_world" = some (.ref a_text_of_world)
  b_text_of_world : Binds K d_text_of_world ["world"] []
  a_integer_in : Addr
  d_integer_in : FuncData
  F_integer_in : Fun K "integer_in" "integer_in" s_integer_in a_integer_in d_integer_in
  g_integer_in : mg "integer_in" = some (.ref a_integer_in)
  b_integer_in : Binds K d_integer_in ["part"] []
  a_thing_in : Addr
  d_thing_in : FuncData
  F_thing_in : Fun K "thing_in" "thing_in" s_thing_in a_thing_in d_thing_in
  g_thing_in : mg "thing_in" = some (.ref a_thing_in)
  b_thing_in : Binds K d_thing_in ["part"] []
  a_world_in : Addr
  d_world_in : FuncData
  F_world_in : Fun K "world_in" "world_in" s_world_in a_world_in d_world_in
  g_world_in : mg "world_in" = some (.ref a_world_in)
  b_world_in : Binds K d_world_in ["text"] []
  a_require_any_world : Addr
  d_require_any_world : FuncData
  F_require_any_world : Fun K "require_any_world" "require_any_world" s_require_any_world a_require_any_world d_require_any_world
  g_require_any_world : mg "require_any_world" = some (.ref a_require_any_world)
  b_require_any_world : Binds K d_require_any_world ["value"] []
  a_known_thing : Addr
  d_known_thing : FuncData
  F_known_thing : Fun K "known_thing" "known_thing" s_known_thing a_known_thing d_known_thing
  g_known_thing : mg "known_thing" = some (.ref a_known_thing)
  b_known_thing : Binds K d_known_thing ["world", "place"] []
  a_world_text : Addr
  d_world_text : FuncData
  F_world_text : Fun K "world_text" "world_text" s_world_text a_world_text d_world_text
  g_world_text : mg "world_text" = some (.ref a_world_text)
  b_world_text : Binds K d_world_text ["world"] []
  a_read_world : Addr
  d_read_world : FuncData
  F_read_world : Fun K "read_world" "read_world" s_read_world a_read_world d_read_world
  g_read_world : mg "read_world" = some (.ref a_read_world)
  b_read_world : Binds K d_read_world ["text"] []
  a_l_dice : Addr
  d_l_dice : FuncData
  F_l_dice : Fun K "_law_dice" "_law_dice" s_l_dice a_l_dice d_l_dice
  g_l_dice : mg "_law_dice" = some (.ref a_l_dice)
  b_l_dice : Binds K d_l_dice ["_law_script", "_law_spot"] []
  a_l_roll : Addr
  d_l_roll : FuncData
  F_l_roll : Fun K "_law_roll" "_law_roll" s_l_roll a_l_roll d_l_roll
  g_l_roll : mg "_law_roll" = some (.ref a_l_roll)
  b_l_roll : Binds K d_l_roll ["_law_dice_here", "_law_total"] []
  a_l_pick : Addr
  d_l_pick : FuncData
  F_l_pick : Fun K "_law_pick" "_law_pick" s_l_pick a_l_pick d_l_pick
  g_l_pick : mg "_law_pick" = some (.ref a_l_pick)
  b_l_pick : Binds K d_l_pick ["_law_dice_here", "_law_items"] []
  a_l_near : Addr
  d_l_near : FuncData
  F_l_near : Fun K "_law_near" "_law_near" s_l_near a_l_near d_l_near
  g_l_near : mg "_law_near" = some (.ref a_l_near)
  b_l_near : Binds K d_l_near ["_law_dice_here", "_law_most"] []
  a_l_wd_plain : Addr
  d_l_wd_plain : FuncData
  F_l_wd_plain : Fun K "_law_wd_plain" "_law_wd_plain" s_l_wd_plain a_l_wd_plain d_l_wd_plain
  g_l_wd_plain : mg "_law_wd_plain" = some (.ref a_l_wd_plain)
  b_l_wd_plain : Binds K d_l_wd_plain ["_law_world"] []
  a_l_world_drawn : Addr
  d_l_world_drawn : FuncData
  F_l_world_drawn : Fun K "_law_world_drawn" "_law_world_drawn" s_l_world_drawn a_l_world_drawn d_l_world_drawn
  g_l_world_drawn : mg "_law_world_drawn" = some (.ref a_l_world_drawn)
  b_l_world_drawn : Binds K d_l_world_drawn ["_law_dice_here"] []
  a_l_written : Addr
  d_l_written : FuncData
  F_l_written : Fun K "_law_written" "_law_written" s_l_written a_l_written d_l_written
  g_l_written : mg "_law_written" = some (.ref a_l_written)
  b_l_written : Binds K d_l_written ["_law_plain"] []
  a_l_integer : Addr
  d_l_integer : FuncData
  F_l_integer : Fun K "_law_integer" "_law_integer" s_l_integer a_l_integer d_l_integer
  g_l_integer : mg "_law_integer" = some (.ref a_l_integer)
  b_l_integer : Binds K d_l_integer ["_law_part"] []
  a_l_read_thing : Addr
  d_l_read_thing : FuncData
  F_l_read_thing : Fun K "_law_read_thing" "_law_read_thing" s_l_read_thing a_l_read_thing d_l_read_thing
  g_l_read_thing : mg "_law_read_thing" = some (.ref a_l_read_thing)
  b_l_read_thing : Binds K d_l_read_thing ["_law_part", "_law_least"] []
  a_l_read : Addr
  d_l_read : FuncData
  F_l_read : Fun K "_law_read" "_law_read" s_l_read a_l_read d_l_read
  g_l_read : mg "_law_read" = some (.ref a_l_read)
  b_l_read : Binds K d_l_read ["_law_text"] []
  a_l_near_texts : Addr
  d_l_near_texts : FuncData
  F_l_near_texts : Fun K "_law_near_texts" "_law_near_texts" s_l_near_texts a_l_near_texts d_l_near_texts
  g_l_near_texts : mg "_law_near_texts" = some (.ref a_l_near_texts)
  b_l_near_texts : Binds K d_l_near_texts ["_law_dice_here", "_law_text"] []
  a_l_told : Addr
  d_l_told : FuncData
  F_l_told : Fun K "_law_told" "_law_told" s_l_told a_l_told d_l_told
  g_l_told : mg "_law_told" = some (.ref a_l_told)
  b_l_told : Binds K d_l_told ["_law_text"] []
  a_l_right : Addr
  d_l_right : FuncData
  F_l_right : Fun K "_law_right" "_law_right" s_l_right a_l_right d_l_right
  g_l_right : mg "_law_right" = some (.ref a_l_right)
  b_l_right : Binds K d_l_right ["_law_dice_here"] []
  a_law : Addr
  d_law : FuncData
  F_law : Fun K "law" "law" s_law a_law d_law
  g_law : mg "law" = some (.ref a_law)
  b_law : Binds K d_law ["_law_script"] []
  mk_KnownParts : Mk K C_KnownParts a_KnownParts_init
  mk_World : Mk K C_World a_World_init
  m_abs : mg "abs" = none
  m_all : mg "all" = none
  m_bool : mg "bool" = none
  m_int : mg "int" = none
  m_isinstance : mg "isinstance" = none
  m_len : mg "len" = none
  m_list : mg "list" = none
  m_max : mg "max" = none
  m_min : mg "min" = none
  m_range : mg "range" = none
  m_str : mg "str" = none
  m_tuple : mg "tuple" = none
  m_zip : mg "zip" = none
  t_GREATEST : Tok
  c_GREATEST : mg "GREATEST" = some (.int (10 ^ 60) t_GREATEST)
  t_MODULUS : Tok
  c_MODULUS : mg "MODULUS" = some (.int 999999937 t_MODULUS)
  t_MOST : Tok
  c_MOST : mg "MOST" = some (.int 1000000000 t_MOST)
  t_MAX_THINGS : Tok
  c_MAX_THINGS : mg "MAX_THINGS" = some (.int 12 t_MAX_THINGS)
  t_MOST_NUMBERS : Tok
  c_MOST_NUMBERS : mg "MOST_NUMBERS" = some (.int 8 t_MOST_NUMBERS)
  t_MOST_NAME : Tok
  c_MOST_NAME : mg "MOST_NAME" = some (.int 8 t_MOST_NAME)
  t_MOST_FIGURES : Tok
  c_MOST_FIGURES : mg "MOST_FIGURES" = some (.int 4000 t_MOST_FIGURES)
  t_THING_PARTS : Tok
  c_THING_PARTS : mg "THING_PARTS" = some (.int 3 t_THING_PARTS)
  t_LETTERS : Tok
  c_LETTERS : mg "LETTERS" = some (.str "abcdefghijklmnopqrstuvwxyz" t_LETTERS)
  t_FIGURES : Tok
  c_FIGURES : mg "FIGURES" = some (.str "0123456789" t_FIGURES)
namespace Tp
variable {P : Program} {K : PySem.W.Frag} {mg : Str → Option Value} (T : Tp P K mg)
theorem r_GREATEST : RelV (.int (10 ^ 60)) (.int (10 ^ 60) T.t_GREATEST) := ⟨_, rfl⟩
theorem r_MODULUS : RelV (.int 999999937) (.int 999999937 T.t_MODULUS) := ⟨_, rfl⟩
theorem r_MOST : RelV (.int 1000000000) (.int 1000000000 T.t_MOST) := ⟨_, rfl⟩
theorem r_MAX_THINGS : RelV (.int 12) (.int 12 T.t_MAX_THINGS) := ⟨_, rfl⟩
theorem r_MOST_NUMBERS : RelV (.int 8) (.int 8 T.t_MOST_NUMBERS) := ⟨_, rfl⟩
theorem r_MOST_NAME : RelV (.int 8) (.int 8 T.t_MOST_NAME) := ⟨_, rfl⟩
theorem r_MOST_FIGURES : RelV (.int 4000) (.int 4000 T.t_MOST_FIGURES) := ⟨_, rfl⟩
theorem r_THING_PARTS : RelV (.int 3) (.int 3 T.t_THING_PARTS) := ⟨_, rfl⟩
theorem r_LETTERS : RelV (.str "abcdefghijklmnopqrstuvwxyz") (.str "abcdefghijklmnopqrstuvwxyz" T.t_LETTERS) := ⟨_, rfl⟩
theorem r_FIGURES : RelV (.str "0123456789") (.str "0123456789" T.t_FIGURES) := ⟨_, rfl⟩
end Tp
namespace Tp
variable {P : Program} {K : PySem.W.Frag} {mg : Str → Option Value} (T : Tp P K mg)
abbrev cn : Cn := ⟨K, fun s => if s = "KnownParts" then T.C_KnownParts else if s = "World" then T.C_World else if s = "PlayError" then T.x_PlayError else if s = "InvalidWorld" then T.x_InvalidWorld else if s = "UnknownName" then T.x_UnknownName else 0, fun s => 0, ([] : List (Addr × Str)), none⟩
end Tp
def xo_InvalidWorld (n : String) : Option Bool := if n = "PlayError" then some false else if n = "InvalidWorld" then some true else if n = "UnknownName" then some false else none
theorem Tp.exO_InvalidWorld {P : Program} {K : PySem.W.Frag} {mg : Str → Option Value} (T : Tp P K mg) : ∀ n b, xo_InvalidWorld n = some b → PySem.W.exmOne K (.ref (T.cn.cl n)) (.ref (T.cn.cl "InvalidWorld")) = some b := fun n b h => by
  unfold xo_InvalidWorld at h
  by_cases e : n = "PlayError"
  · subst e; rw [if_pos rfl] at h; cases h; exact T.ex_PlayError_InvalidWorld
  rw [if_neg e] at h; clear e
  by_cases e : n = "InvalidWorld"
  · subst e; rw [if_pos rfl] at h; cases h; exact T.ex_InvalidWorld_InvalidWorld
  rw [if_neg e] at h; clear e
  by_cases e : n = "UnknownName"
  · subst e; rw [if_pos rfl] at h; cases h; exact T.ex_UnknownName_InvalidWorld
  rw [if_neg e] at h; clear e
  cases h
abbrev k_GREATEST : D := D.int (10 ^ 60)
theorem Tp.q_GREATEST {P : Program} {K : PySem.W.Frag} {mg : Str → Option Value} (T : Tp P K mg) (φ : Phi) (H : Hp) : Rep T.cn φ H k_GREATEST (.int (10 ^ 60)) := by simp only [Rep]
abbrev k_MODULUS : D := D.int 999999937
theorem Tp.q_MODULUS {P : Program} {K : PySem.W.Frag} {mg : Str → Option Value} (T : Tp P K mg) (φ : Phi) (H : Hp) : Rep T.cn φ H k_MODULUS (.int 999999937) := by simp only [Rep]
abbrev k_MOST : D := D.int 1000000000
theorem Tp.q_MOST {P : Program} {K : PySem.W.Frag} {mg : Str → Option Value} (T : Tp P K mg) (φ : Phi) (H : Hp) : Rep T.cn φ H k_MOST (.int 1000000000) := by simp only [Rep]
abbrev k_MAX_THINGS : D := D.int 12
theorem Tp.q_MAX_THINGS {P : Program} {K : PySem.W.Frag} {mg : Str → Option Value} (T : Tp P K mg) (φ : Phi) (H : Hp) : Rep T.cn φ H k_MAX_THINGS (.int 12) := by simp only [Rep]
abbrev k_MOST_NUMBERS : D := D.int 8
theorem Tp.q_MOST_NUMBERS {P : Program} {K : PySem.W.Frag} {mg : Str → Option Value} (T : Tp P K mg) (φ : Phi) (H : Hp) : Rep T.cn φ H k_MOST_NUMBERS (.int 8) := by simp only [Rep]
abbrev k_MOST_NAME : D := D.int 8
theorem Tp.q_MOST_NAME {P : Program} {K : PySem.W.Frag} {mg : Str → Option Value} (T : Tp P K mg) (φ : Phi) (H : Hp) : Rep T.cn φ H k_MOST_NAME (.int 8) := by simp only [Rep]
abbrev k_MOST_FIGURES : D := D.int 4000
theorem Tp.q_MOST_FIGURES {P : Program} {K : PySem.W.Frag} {mg : Str → Option Value} (T : Tp P K mg) (φ : Phi) (H : Hp) : Rep T.cn φ H k_MOST_FIGURES (.int 4000) := by simp only [Rep]
abbrev k_THING_PARTS : D := D.int 3
theorem Tp.q_THING_PARTS {P : Program} {K : PySem.W.Frag} {mg : Str → Option Value} (T : Tp P K mg) (φ : Phi) (H : Hp) : Rep T.cn φ H k_THING_PARTS (.int 3) := by simp only [Rep]
abbrev k_LETTERS : D := D.str "abcdefghijklmnopqrstuvwxyz"
theorem Tp.q_LETTERS {P : Program} {K : PySem.W.Frag} {mg : Str → Option Value} (T : Tp P K mg) (φ : Phi) (H : Hp) : Rep T.cn φ H k_LETTERS (.str "abcdefghijklmnopqrstuvwxyz") := by simp only [Rep]
abbrev k_FIGURES : D := D.str "0123456789"
theorem Tp.q_FIGURES {P : Program} {K : PySem.W.Frag} {mg : Str → Option Value} (T : Tp P K mg) (φ : Phi) (H : Hp) : Rep T.cn φ H k_FIGURES (.str "0123456789") := by simp only [Rep]
def st_own_luck : List (String × Nat) := [("KnownParts", 0), ("World", 1)]
theorem Tp.st_own_luck {P : Program} {K : PySem.W.Frag} {mg : Str → Option Value} (T : Tp P K mg) : SlT T.cn.K T.cn.cl "own_luck" st_own_luck := (.cons (C := "KnownParts") T.cl_KnownParts T.t_KnownParts_own_luck (.cons (C := "World") T.cl_World T.t_World_own_luck .nil))
def st_own_next_id : List (String × Nat) := [("KnownParts", 1), ("World", 2)]
theorem Tp.st_own_next_id {P : Program} {K : PySem.W.Frag} {mg : Str → Option Value} (T : Tp P K mg) : SlT T.cn.K T.cn.cl "own_next_id" st_own_next_id := (.cons (C := "KnownParts") T.cl_KnownParts T.t_KnownParts_own_next_id (.cons (C := "World") T.cl_World T.t_World_own_next_id .nil))
def st_own_things : List (String × Nat) := [("KnownParts", 2), ("World", 3)]
theorem Tp.st_own_things {P : Program} {K : PySem.W.Frag} {mg : Str → Option Value} (T : Tp P K mg) : SlT T.cn.K T.cn.cl "own_things" st_own_things := (.cons (C := "KnownParts") T.cl_KnownParts T.t_KnownParts_own_things (.cons (C := "World") T.cl_World T.t_World_own_things .nil))
def st_own_tick : List (String × Nat) := [("KnownParts", 3), ("World", 4)]
theorem Tp.st_own_tick {P : Program} {K : PySem.W.Frag} {mg : Str → Option Value} (T : Tp P K mg) : SlT T.cn.K T.cn.cl "own_tick" st_own_tick := (.cons (C := "KnownParts") T.cl_KnownParts T.t_KnownParts_own_tick (.cons (C := "World") T.cl_World T.t_World_own_tick .nil))
def st_own_ids : List (String × Nat) := [("World", 0)]
theorem Tp.st_own_ids {P : Program} {K : PySem.W.Frag} {mg : Str → Option Value} (T : Tp P K mg) : SlT T.cn.K T.cn.cl "own_ids" st_own_ids := (.cons (C := "World") T.cl_World T.t_World_own_ids .nil)
abbrev ownL : List String := ["KnownParts", "World"]
namespace Tp
variable {P : Program} {K : PySem.W.Frag} {mg : Str → Option Value} (T : Tp P K mg)
theorem cn_KnownParts : T.cn.cl "KnownParts" = T.C_KnownParts := rfl
theorem cn_World : T.cn.cl "World" = T.C_World := rfl
theorem ownAll {P : String → Prop} (h_KnownParts : P "KnownParts") (h_World : P "World") : ∀ C ∈ ownL, P C := fun C h => by
  simp only [ownL, List.mem_cons, List.not_mem_nil, or_false] at h
  rcases h with rfl | rfl <;> assumption
theorem tyAll {P : String → Prop} (h0 : P "NoneType") (h1 : P "bool") (h2 : P "int") (h3 : P "str") (h4 : P "tuple") (h5 : P "list") (h6 : P "dict") : ∀ n ∈ tyNames, P n := fun n h => by
  simp only [tyNames, List.mem_cons, List.not_mem_nil, or_false] at h
  rcases h with rfl | rfl | rfl | rfl | rfl | rfl | rfl <;> assumption
theorem ownK : OwnK T.cn ownL where
  cls := ownAll ⟨T.cl_KnownParts, T.is_KnownParts⟩ ⟨T.cl_World, T.is_World⟩
  bt := ownAll (tyAll (kit_own T.cl_KnownParts.ic T.ty_KnownParts T.k_KnownParts_NoneType rfl) (kit_own T.cl_KnownParts.ic T.ty_KnownParts T.k_KnownParts_bool rfl) (kit_own T.cl_KnownParts.ic T.ty_KnownParts T.k_KnownParts_int rfl) (kit_own T.cl_KnownParts.ic T.ty_KnownParts T.k_KnownParts_str rfl) (kit_own T.cl_KnownParts.ic T.ty_KnownParts T.k_KnownParts_tuple rfl) (kit_own T.cl_KnownParts.ic T.ty_KnownParts T.k_KnownParts_list rfl) (kit_own T.cl_KnownParts.ic T.ty_KnownParts T.k_KnownParts_dict rfl)) (tyAll (kit_own T.cl_World.ic T.ty_World T.k_World_NoneType rfl) (kit_own T.cl_World.ic T.ty_World T.k_World_bool rfl) (kit_own T.cl_World.ic T.ty_World T.k_World_int rfl) (kit_own T.cl_World.ic T.ty_World T.k_World_str rfl) (kit_own T.cl_World.ic T.ty_World T.k_World_tuple rfl) (kit_own T.cl_World.ic T.ty_World T.k_World_list rfl) (kit_own T.cl_World.ic T.ty_World T.k_World_dict rfl))
  tb := ownAll (tyAll (kit_tb rfl T.kt_NoneType_KnownParts) (kit_tb rfl T.kt_bool_KnownParts) (kit_tb rfl T.kt_int_KnownParts) (kit_tb rfl T.kt_str_KnownParts) (kit_tb rfl T.kt_tuple_KnownParts) (kit_tb rfl T.kt_list_KnownParts) (kit_tb rfl T.kt_dict_KnownParts)) (tyAll (kit_tb rfl T.kt_NoneType_World) (kit_tb rfl T.kt_bool_World) (kit_tb rfl T.kt_int_World) (kit_tb rfl T.kt_str_World) (kit_tb rfl T.kt_tuple_World) (kit_tb rfl T.kt_list_World) (kit_tb rfl T.kt_dict_World))
  oo := ownAll (ownAll kit_self (kit_own T.cl_KnownParts.ic T.ty_KnownParts T.k_KnownParts_World T.kn_World_KnownParts)) (ownAll (kit_own T.cl_World.ic T.ty_World T.k_World_KnownParts T.kn_KnownParts_World) kit_self)
theorem nf_World : Nf T.cn ownL "World" := ⟨tyAll T.nf_NoneType_World T.nf_bool_World T.nf_int_World T.nf_str_World T.nf_tuple_World T.nf_list_World T.nf_dict_World, ownAll T.nf_KnownParts_World T.nf_World_World⟩
end Tp
section
variable {P : Program} {w : World} {K : PySem.W.Frag} {mg : Str → Option Value} {base : Heap}
noncomputable def f__wall : VL.Env → M VL.Flow := fun ρ => whileF 2000 (fun ρ => ((pure (D.bl true) : M D) >>= asB)) (fun ρ => pure (VL.Flow.nx ρ)) ρ
noncomputable def m__wall : List D → M D := runF 1 f__wall
noncomputable def f_is_whole : VL.Env → M VL.Flow := fun ρ => liftS ρ (andD ((((rd 0 ρ) >>= fun x => ((pure (D.ty "int") : M D) >>= fun x => (pure [] : M (List D)) >>= fun r => pure (x :: r)) >>= fun r => pure (x :: r)) >>= (isiO ownL))) (((((rd 0 ρ) >>= fun x => ((pure (D.ty "bool") : M D) >>= fun x => (pure [] : M (List D)) >>= fun r => pure (x :: r)) >>= fun r => pure (x :: r)) >>= (isiO ownL)) >>= notD))) fun d => pure (VL.Flow.rt d)
noncomputable def m_is_whole : List D → M D := runF 1 f_is_whole
theorem ok_is_whole (T : Tp P K mg) : FnOk P w K mg base (L2.CX P w) 1 T.a_is_whole T.d_is_whole ["value"] (spD T.cn 1 m_is_whole) :=
  fnv_ok (c := T.cn) T.F_is_whole rfl sc_is_whole fun cdv A outer s0 H E hr => (vb_one (vs_ret (ve_and (ve_callB (cv_isiO rfl T.ownK) (by rfl) T.m_isinstance (by decide +kernel) (vl_cons (vv 0 (lo_none rfl)) (vl_cons (ve_bltn (n := "int") (by rfl) T.m_int (by decide +kernel)) vl_nil)) (fun _ _ p q => pe_callB p (by rfl) T.m_isinstance (by decide +kernel) q)) (ve_one (ve_not (ve_callB (cv_isiO rfl T.ownK) (by rfl) T.m_isinstance (by decide +kernel) (vl_cons (vv 0 (lo_none rfl)) (vl_cons (ve_bltn (n := "bool") (by rfl) T.m_bool (by decide +kernel)) vl_nil)) (fun _ _ p q => pe_callB p (by rfl) T.m_isinstance (by decide +kernel) q)))))))
noncomputable def f_is_short : VL.Env → M VL.Flow := fun ρ => liftS ρ (andD ((((rd 0 ρ) >>= fun x => (pure [] : M (List D)) >>= fun r => pure (x :: r)) >>= callM 1 m_is_whole)) ((((pure k_GREATEST : M D) >>= negD) >>= fun x => (rd 0 ρ) >>= fun y => andD (dLt x y) ((pure k_GREATEST : M D) >>= fun z => dLt y z)))) fun d => pure (VL.Flow.rt d)
noncomputable def m_is_short : List D → M D := runF 1 f_is_short
theorem ok_is_short (T : Tp P K mg) : FnOk P w K mg base (L2.CX P w) 2 T.a_is_short T.d_is_short ["value"] (spD T.cn 1 m_is_short) :=
  fnv_ok (c := T.cn) T.F_is_short rfl sc_is_short fun cdv A outer s0 H E hr => (vb_one (vs_ret (ve_and (ve_call (ok_is_whole T) (hr.mono (by decide)) (by rfl) T.g_is_whole T.F_is_whole.kp T.b_is_whole (takes_of rfl rfl rfl rfl) (vl_cons (vv 0 (lo_none rfl)) vl_nil) (fun _ z => pe_callS (ok_is_whole T) (hr.mono (by decide)) (by rfl) T.g_is_whole T.F_is_whole.kp T.b_is_whole (fun σ => passAt (takes_of rfl rfl rfl rfl) σ) z)) (ve_one (ve_chain opv_lt opv_lt (ve_neg (ve_glob (d := k_GREATEST) (by rfl) T.c_GREATEST T.r_GREATEST T.q_GREATEST)) (vv 0 (lo_none rfl)) (ve_glob (d := k_GREATEST) (by rfl) T.c_GREATEST T.r_GREATEST T.q_GREATEST) (fun _ _ _ _ _ a b c d e => pe_chain a b c d e))))))
noncomputable def f_is_from : VL.Env → M VL.Flow := fun ρ => liftS ρ (andD ((((rd 0 ρ) >>= fun x => (pure [] : M (List D)) >>= fun r => pure (x :: r)) >>= callM 1 m_is_whole)) (((rd 1 ρ) >>= fun x => (rd 0 ρ) >>= fun y => andD (dLe x y) ((rd 2 ρ) >>= fun z => dLe y z)))) fun d => pure (VL.Flow.rt d)
noncomputable def m_is_from : List D → M D := runF 3 f_is_from
theorem ok_is_from (T : Tp P K mg) : FnOk P w K mg base (L2.CX P w) 2 T.a_is_from T.d_is_from ["value", "least", "most"] (spD T.cn 3 m_is_from) :=
  fnv_ok (c := T.cn) T.F_is_from rfl sc_is_from fun cdv A outer s0 H E hr => (vb_one (vs_ret (ve_and (ve_call (ok_is_whole T) (hr.mono (by decide)) (by rfl) T.g_is_whole T.F_is_whole.kp T.b_is_whole (takes_of rfl rfl rfl rfl) (vl_cons (vv 0 (lo_none rfl)) vl_nil) (fun _ z => pe_callS (ok_is_whole T) (hr.mono (by decide)) (by rfl) T.g_is_whole T.F_is_whole.kp T.b_is_whole (fun σ => passAt (takes_of rfl rfl rfl rfl) σ) z)) (ve_one (ve_chain opv_le opv_le (vv 1 (lo_none rfl)) (vv 0 (lo_none rfl)) (vv 2 (lo_none rfl)) (fun _ _ _ _ _ a b c d e => pe_chain a b c d e))))))
noncomputable def f_is_tick : VL.Env → M VL.Flow := fun ρ => liftS ρ (andD ((((rd 0 ρ) >>= fun x => (pure [] : M (List D)) >>= fun r => pure (x :: r)) >>= callM 1 m_is_short)) (((rd 0 ρ) >>= fun x => (pure (D.int 0) : M D) >>= fun y => dGe x y))) fun d => pure (VL.Flow.rt d)
noncomputable def m_is_tick : List D → M D := runF 1 f_is_tick
theorem ok_is_tick (T : Tp P K mg) : FnOk P w K mg base (L2.CX P w) 3 T.a_is_tick T.d_is_tick ["value"] (spD T.cn 1 m_is_tick) :=
  fnv_ok (c := T.cn) T.F_is_tick rfl sc_is_tick fun cdv A outer s0 H E hr => (vb_one (vs_ret (ve_and (ve_call (ok_is_short T) (hr.mono (by decide)) (by rfl) T.g_is_short T.F_is_short.kp T.b_is_short (takes_of rfl rfl rfl rfl) (vl_cons (vv 0 (lo_none rfl)) vl_nil) (fun _ z => pe_callS (ok_is_short T) (hr.mono (by decide)) (by rfl) T.g_is_short T.F_is_short.kp T.b_is_short (fun σ => passAt (takes_of rfl rfl rfl rfl) σ) z)) (ve_one (ve_cmp opv_ge (vv 0 (lo_none rfl)) ve_int (nomark _))))))
noncomputable def f_is_luck_in : VL.Env → M VL.Flow := fun ρ => liftS ρ (((rd 0 ρ) >>= fun x => ((pure (D.int 0) : M D) >>= fun x => (((pure k_MODULUS : M D) >>= fun x => (pure (D.int 1) : M D) >>= fun y => dSub x y) >>= fun x => (pure [] : M (List D)) >>= fun r => pure (x :: r)) >>= fun r => pure (x :: r)) >>= fun r => pure (x :: r)) >>= callM 3 m_is_from) fun d => pure (VL.Flow.rt d)
noncomputable def m_is_luck_in : List D → M D := runF 1 f_is_luck_in
theorem ok_is_luck_in (T : Tp P K mg) : FnOk P w K mg base (L2.CX P w) 3 T.a_is_luck_in T.d_is_luck_in ["value"] (spD T.cn 1 m_is_luck_in) :=
  fnv_ok (c := T.cn) T.F_is_luck_in rfl sc_is_luck_in fun cdv A outer s0 H E hr => (vb_one (vs_ret (ve_call (ok_is_from T) (hr.mono (by decide)) (by rfl) T.g_is_from T.F_is_from.kp T.b_is_from (takes_of rfl rfl rfl rfl) (vl_cons (vv 0 (lo_none rfl)) (vl_cons ve_int (vl_cons (ve_op opv_sub (ve_glob (d := k_MODULUS) (by rfl) T.c_MODULUS T.r_MODULUS T.q_MODULUS) ve_int) vl_nil))) (fun _ z => pe_callS (ok_is_from T) (hr.mono (by decide)) (by rfl) T.g_is_from T.F_is_from.kp T.b_is_from (fun σ => passAt (takes_of rfl rfl rfl rfl) σ) z))))
noncomputable def f_is_luck : VL.Env → M VL.Flow := fun ρ => liftS ρ (((rd 0 ρ) >>= fun x => (pure [] : M (List D)) >>= fun r => pure (x :: r)) >>= callM 1 m_is_luck_in) fun d => pure (VL.Flow.rt d)
noncomputable def m_is_luck : List D → M D := runF 1 f_is_luck
theorem ok_is_luck (T : Tp P K mg) : FnOk P w K mg base (L2.CX P w) 4 T.a_is_luck T.d_is_luck ["value"] (spD T.cn 1 m_is_luck) :=
  fnv_ok (c := T.cn) T.F_is_luck rfl sc_is_luck fun cdv A outer s0 H E hr => (vb_one (vs_ret (ve_call (ok_is_luck_in T) (hr.mono (by decide)) (by rfl) T.g_is_luck_in T.F_is_luck_in.kp T.b_is_luck_in (takes_of rfl rfl rfl rfl) (vl_cons (vv 0 (lo_none rfl)) vl_nil) (fun _ z => pe_callS (ok_is_luck_in T) (hr.mono (by decide)) (by rfl) T.g_is_luck_in T.F_is_luck_in.kp T.b_is_luck_in (fun σ => passAt (takes_of rfl rfl rfl rfl) σ) z))))
noncomputable def f_is_number : VL.Env → M VL.Flow := fun ρ => liftS ρ (((rd 0 ρ) >>= fun x => (((pure k_MOST : M D) >>= negD) >>= fun x => ((pure k_MOST : M D) >>= fun x => (pure [] : M (List D)) >>= fun r => pure (x :: r)) >>= fun r => pure (x :: r)) >>= fun r => pure (x :: r)) >>= callM 3 m_is_from) fun d => pure (VL.Flow.rt d)
noncomputable def m_is_number : List D → M D := runF 1 f_is_number
theorem ok_is_number (T : Tp P K mg) : FnOk P w K mg base (L2.CX P w) 3 T.a_is_number T.d_is_number ["value"] (spD T.cn 1 m_is_number) :=
  fnv_ok (c := T.cn) T.F_is_number rfl sc_is_number fun cdv A outer s0 H E hr => (vb_one (vs_ret (ve_call (ok_is_from T) (hr.mono (by decide)) (by rfl) T.g_is_from T.F_is_from.kp T.b_is_from (takes_of rfl rfl rfl rfl) (vl_cons (vv 0 (lo_none rfl)) (vl_cons (ve_neg (ve_glob (d := k_MOST) (by rfl) T.c_MOST T.r_MOST T.q_MOST)) (vl_cons (ve_glob (d := k_MOST) (by rfl) T.c_MOST T.r_MOST T.q_MOST) vl_nil))) (fun _ z => pe_callS (ok_is_from T) (hr.mono (by decide)) (by rfl) T.g_is_from T.F_is_from.kp T.b_is_from (fun σ => passAt (takes_of rfl rfl rfl rfl) σ) z))))
noncomputable def f_is_name_in : VL.Env → M VL.Flow := fun ρ => liftS ρ (andD ((((rd 0 ρ) >>= fun x => ((pure (D.ty "str") : M D) >>= fun x => (pure [] : M (List D)) >>= fun r => pure (x :: r)) >>= fun r => pure (x :: r)) >>= (isiO ownL))) ((andD (((pure (D.int 1) : M D) >>= fun x => (((rd 0 ρ) >>= fun x => (pure [] : M (List D)) >>= fun r => pure (x :: r)) >>= lenD) >>= fun y => andD (dLe x y) ((pure k_MOST_NAME : M D) >>= fun z => dLe y z))) ((((((rd 0 ρ) >>= itOf) >>= fun it => ask (small it.items.length) >>= fun _ => loopC it (gN 1) (fun _ => pure true) (fun ρ => ((rd 1 ρ) >>= fun x => (pure k_LETTERS : M D) >>= fun y => dInC x y)) (wipeE ρ [1]) it.items [] >>= frzL) >>= fun x => (pure [] : M (List D)) >>= fun r => pure (x :: r)) >>= (allD fun bs => bs.all id)))))) fun d => pure (VL.Flow.rt d)
noncomputable def m_is_name_in : List D → M D := runF 2 f_is_name_in
theorem ok_is_name_in (T : Tp P K mg) : FnOk P w K mg base (L2.CX P w) 1 T.a_is_name_in T.d_is_name_in ["value"] (spD T.cn 1 m_is_name_in) :=
  fnv_ok (c := T.cn) T.F_is_name_in rfl sc_is_name_in fun cdv A outer s0 H E hr => (vb_one (vs_ret (ve_and (ve_callB (cv_isiO rfl T.ownK) (by rfl) T.m_isinstance (by decide +kernel) (vl_cons (vv 0 (lo_none rfl)) (vl_cons (ve_bltn (n := "str") (by rfl) T.m_str (by decide +kernel)) vl_nil)) (fun _ _ p q => pe_callB p (by rfl) T.m_isinstance (by decide +kernel) q)) (ve_and (ve_chain opv_le opv_le ve_int (ve_callB (cv_len rfl) (by rfl) T.m_len (by decide +kernel) (vl_cons (vv 0 (lo_none rfl)) vl_nil) (fun _ _ p q => pe_callB p (by rfl) T.m_len (by decide +kernel) q)) (ve_glob (d := k_MOST_NAME) (by rfl) T.c_MOST_NAME T.r_MOST_NAME T.q_MOST_NAME) (fun _ _ _ _ _ a b c d e => pe_chain a b c d e)) (ve_one (ve_callB (cv_all rfl rfl) (by rfl) T.m_all (by decide +kernel) (vl_cons (ve_lc fin_frz (own := [("sign", 1)]) (fun i hi => ⟨lo_none rfl, fun z => absurd rfl z⟩) (by rfl) sc_is_name_in.nd (blkOk_by (own := [("sign", 1)]) (N := N_is_name_in) (sc := defScope s_is_name_in) (by decide +kernel)) (vi_seq rfl (vv 0 (lo_none rfl))) (fun _ _ _ _ _ => (vg_name (i := 1) (lo_none rfl) (fun z => absurd rfl z) sc_is_name_in.nd rfl (Or.inl rfl))) (fun _ _ _ _ _ => vts_nil) (fun _ _ _ _ _ => (ve_cmp (opv_inC rfl) (vv 1 (lo_none rfl)) (ve_glob (d := k_LETTERS) (by rfl) T.c_LETTERS T.r_LETTERS T.q_LETTERS) (by rfl))) (by decide)) vl_nil) (fun _ _ p q => pe_callB p (by rfl) T.m_all (by decide +kernel) q)))))))
noncomputable def f_are_numbers_in : VL.Env → M VL.Flow := fun ρ => liftS ρ (andD ((((rd 0 ρ) >>= fun x => ((pure (D.ty "tuple") : M D) >>= fun x => (pure [] : M (List D)) >>= fun r => pure (x :: r)) >>= fun r => pure (x :: r)) >>= (isiO ownL))) ((andD (((pure (D.int 1) : M D) >>= fun x => (((rd 0 ρ) >>= fun x => (pure [] : M (List D)) >>= fun r => pure (x :: r)) >>= lenD) >>= fun y => andD (dLe x y) ((pure k_MOST_NUMBERS : M D) >>= fun z => dLe y z))) ((((((rd 0 ρ) >>= itOf) >>= fun it => ask (small it.items.length) >>= fun _ => loopC it (gN 1) (fun _ => pure true) (fun ρ => (((rd 1 ρ) >>= fun x => (pure [] : M (List D)) >>= fun r => pure (x :: r)) >>= callM 1 m_is_number)) (wipeE ρ [1]) it.items [] >>= frzL) >>= fun x => (pure [] : M (List D)) >>= fun r => pure (x :: r)) >>= (allD fun bs => bs.all id)))))) fun d => pure (VL.Flow.rt d)
noncomputable def m_are_numbers_in : List D → M D := runF 2 f_are_numbers_in
theorem ok_are_numbers_in (T : Tp P K mg) : FnOk P w K mg base (L2.CX P w) 4 T.a_are_numbers_in T.d_are_numbers_in ["value"] (spD T.cn 1 m_are_numbers_in) :=
  fnv_ok (c := T.cn) T.F_are_numbers_in rfl sc_are_numbers_in fun cdv A outer s0 H E hr => (vb_one (vs_ret (ve_and (ve_callB (cv_isiO rfl T.ownK) (by rfl) T.m_isinstance (by decide +kernel) (vl_cons (vv 0 (lo_none rfl)) (vl_cons (ve_bltn (n := "tuple") (by rfl) T.m_tuple (by decide +kernel)) vl_nil)) (fun _ _ p q => pe_callB p (by rfl) T.m_isinstance (by decide +kernel) q)) (ve_and (ve_chain opv_le opv_le ve_int (ve_callB (cv_len rfl) (by rfl) T.m_len (by decide +kernel) (vl_cons (vv 0 (lo_none rfl)) vl_nil) (fun _ _ p q => pe_callB p (by rfl) T.m_len (by decide +kernel) q)) (ve_glob (d := k_MOST_NUMBERS) (by rfl) T.c_MOST_NUMBERS T.r_MOST_NUMBERS T.q_MOST_NUMBERS) (fun _ _ _ _ _ a b c d e => pe_chain a b c d e)) (ve_one (ve_callB (cv_all rfl rfl) (by rfl) T.m_all (by decide +kernel) (vl_cons (ve_lc fin_frz (own := [("one", 1)]) (fun i hi => ⟨lo_none rfl, fun z => absurd rfl z⟩) (by rfl) sc_are_numbers_in.nd (blkOk_by (own := [("one", 1)]) (N := N_are_numbers_in) (sc := defScope s_are_numbers_in) (by decide +kernel)) (vi_seq rfl (vv 0 (lo_none rfl))) (fun _ _ _ _ _ => (vg_name (i := 1) (lo_none rfl) (fun z => absurd rfl z) sc_are_numbers_in.nd rfl (Or.inl rfl))) (fun _ _ _ _ _ => vts_nil) (fun _ _ _ _ _ => (ve_call (ok_is_number T) (hr.mono (by decide)) (by rfl) T.g_is_number T.F_is_number.kp T.b_is_number takes_none5 (vl_cons (vv 1 (lo_none rfl)) vl_nil) (fun _ z => pe_callS (ok_is_number T) (hr.mono (by decide)) (by rfl) T.g_is_number T.F_is_number.kp T.b_is_number (fun σ => passAt takes_none5 σ) z))) (by decide)) vl_nil) (fun _ _ p q => pe_callB p (by rfl) T.m_all (by decide +kernel) q)))))))
noncomputable def f_is_thing_in : VL.Env → M VL.Flow := fun ρ => seqM (liftS ρ (tOr ((((((rd 0 ρ) >>= fun x => ((pure (D.ty "tuple") : M D) >>= fun x => (pure [] : M (List D)) >>= fun r => pure (x :: r)) >>= fun r => pure (x :: r)) >>= (isiO ownL)) >>= asB) >>= fun b => pure (!b))) ((tOr ((((((rd 0 ρ) >>= fun x => (pure [] : M (List D)) >>= fun r => pure (x :: r)) >>= lenD) >>= fun x => (pure k_THING_PARTS : M D) >>= fun y => dNe x y) >>= asB)) ((tOr (((((((rd 0 ρ) >>= fun x => (pure (D.int 0) : M D) >>= fun y => dIx x y) >>= fun x => (pure [] : M (List D)) >>= fun r => pure (x :: r)) >>= callM 1 m_is_whole) >>= asB) >>= fun b => pure (!b))) (((((rd 0 ρ) >>= fun x => (pure (D.int 0) : M D) >>= fun y => dIx x y) >>= fun x => (pure (D.int 0) : M D) >>= fun y => dLt x y) >>= asB))))))) fun k => if k then (liftS ρ (pure (D.bl false) : M D) fun d => pure (VL.Flow.rt d)) else (pure (VL.Flow.nx ρ)))
    (fun ρ => liftS ρ (andD (((((rd 0 ρ) >>= fun x => (pure (D.int 1) : M D) >>= fun y => dIx x y) >>= fun x => (pure [] : M (List D)) >>= fun r => pure (x :: r)) >>= callM 1 m_is_name_in)) (((((rd 0 ρ) >>= fun x => (pure (D.int 2) : M D) >>= fun y => dIx x y) >>= fun x => (pure [] : M (List D)) >>= fun r => pure (x :: r)) >>= callM 1 m_are_numbers_in))) fun d => pure (VL.Flow.rt d))
noncomputable def m_is_thing_in : List D → M D := runF 1 f_is_thing_in
theorem ok_is_thing_in (T : Tp P K mg) : FnOk P w K mg base (L2.CX P w) 5 T.a_is_thing_in T.d_is_thing_in ["value"] (spD T.cn 1 m_is_thing_in) :=
  fnv_ok (c := T.cn) T.F_is_thing_in rfl sc_is_thing_in fun cdv A outer s0 H E hr => (vb_cons (vs_if (vt_of (vw_or (vt_not (vt_val (ve_callB (cv_isiO rfl T.ownK) (by rfl) T.m_isinstance (by decide +kernel) (vl_cons (vv 0 (lo_none rfl)) (vl_cons (ve_bltn (n := "tuple") (by rfl) T.m_tuple (by decide +kernel)) vl_nil)) (fun _ _ p q => pe_callB p (by rfl) T.m_isinstance (by decide +kernel) q)))) (vw_or (vt_cmp (opv_ne rfl hr.units) (ve_callB (cv_len rfl) (by rfl) T.m_len (by decide +kernel) (vl_cons (vv 0 (lo_none rfl)) vl_nil) (fun _ _ p q => pe_callB p (by rfl) T.m_len (by decide +kernel) q)) (ve_glob (d := k_THING_PARTS) (by rfl) T.c_THING_PARTS T.r_THING_PARTS T.q_THING_PARTS) (nomark _)) (vw_or (vt_not (vt_val (ve_call (ok_is_whole T) (hr.mono (by decide)) (by rfl) T.g_is_whole T.F_is_whole.kp T.b_is_whole (takes_of rfl rfl rfl rfl) (vl_cons (ve_ix rfl (vv 0 (lo_none rfl)) ve_int (fun _ _ => rfl)) vl_nil) (fun _ z => pe_callS (ok_is_whole T) (hr.mono (by decide)) (by rfl) T.g_is_whole T.F_is_whole.kp T.b_is_whole (fun σ => passAt (takes_of rfl rfl rfl rfl) σ) z)))) (vw_or1 (vt_cmp opv_lt (ve_ix rfl (vv 0 (lo_none rfl)) ve_int (fun _ _ => rfl)) ve_int (nomark _))))))) (vb_one (vs_ret ve_bl)) vb_nil)
    (vb_one (vs_ret (ve_and (ve_call (ok_is_name_in T) (hr.mono (by decide)) (by rfl) T.g_is_name_in T.F_is_name_in.kp T.b_is_name_in (takes_of rfl rfl rfl rfl) (vl_cons (ve_ix rfl (vv 0 (lo_none rfl)) ve_int (fun _ _ => rfl)) vl_nil) (fun _ z => pe_callS (ok_is_name_in T) (hr.mono (by decide)) (by rfl) T.g_is_name_in T.F_is_name_in.kp T.b_is_name_in (fun σ => passAt (takes_of rfl rfl rfl rfl) σ) z)) (ve_one (ve_call (ok_are_numbers_in T) (hr.mono (by decide)) (by rfl) T.g_are_numbers_in T.F_are_numbers_in.kp T.b_are_numbers_in (takes_of rfl rfl rfl rfl) (vl_cons (ve_ix rfl (vv 0 (lo_none rfl)) ve_int (fun _ _ => rfl)) vl_nil) (fun _ z => pe_callS (ok_are_numbers_in T) (hr.mono (by decide)) (by rfl) T.g_are_numbers_in T.F_are_numbers_in.kp T.b_are_numbers_in (fun σ => passAt (takes_of rfl rfl rfl rfl) σ) z)))))))
noncomputable def f_are_things_in : VL.Env → M VL.Flow := fun ρ => seqM (liftS ρ (tOr ((((((rd 1 ρ) >>= fun x => ((pure (D.ty "tuple") : M D) >>= fun x => (pure [] : M (List D)) >>= fun r => pure (x :: r)) >>= fun r => pure (x :: r)) >>= (isiO ownL)) >>= asB) >>= fun b => pure (!b))) ((tOr ((((((rd 1 ρ) >>= fun x => (pure [] : M (List D)) >>= fun r => pure (x :: r)) >>= lenD) >>= fun x => (pure k_MAX_THINGS : M D) >>= fun y => dGt x y) >>= asB)) ((((((((rd 1 ρ) >>= itOf) >>= fun it => ask (small it.items.length) >>= fun _ => loopC it (gN 3) (fun _ => pure true) (fun ρ => (((rd 3 ρ) >>= fun x => (pure [] : M (List D)) >>= fun r => pure (x :: r)) >>= callM 1 m_is_thing_in)) (wipeE ρ [3]) it.items [] >>= frzL) >>= fun x => (pure [] : M (List D)) >>= fun r => pure (x :: r)) >>= (allD fun bs => bs.all id)) >>= asB) >>= fun b => pure (!b)))))) fun k => if k then (liftS ρ (pure (D.bl false) : M D) fun d => pure (VL.Flow.rt d)) else (pure (VL.Flow.nx ρ)))
    (fun ρ => seqM (liftS ρ ((((rd 1 ρ) >>= itOf) >>= fun it => ask (small it.items.length) >>= fun _ => loopC it (gN 3) (fun _ => pure true) (fun ρ => ((rd 3 ρ) >>= fun x => (pure (D.int 0) : M D) >>= fun y => dIx x y)) (wipeE ρ [3]) it.items [] >>= frzL) >>= fun x => (((rd 0 ρ) >>= fun x => (pure [] : M (List D)) >>= fun r => pure (x :: r)) >>= mkLst) >>= fun y => dAdd x y) fun d => pure (VL.Flow.nx (ρ.set 2 (some d))))
    (fun ρ => liftS ρ ((((((rd 2 ρ) >>= fun x => (((rd 2 ρ) >>= fun x => ((pure (D.int 1) : M D) >>= asPart) >>= fun l => (pure none : M (Option Int)) >>= fun h => dSl x l h) >>= fun x => (pure [] : M (List D)) >>= fun r => pure (x :: r)) >>= fun r => pure (x :: r)) >>= zipM) >>= fun it => ask (small it.items.length) >>= fun _ => loopC it (gT 2 (gsCons (gN 3) (gsCons (gN 4) gsNil))) (fun _ => pure true) (fun ρ => ((rd 3 ρ) >>= fun x => (rd 4 ρ) >>= fun y => dLt x y)) (wipeE ρ [3, 4]) it.items [] >>= frzL) >>= fun x => (pure [] : M (List D)) >>= fun r => pure (x :: r)) >>= (allD fun bs => bs.all id)) fun d => pure (VL.Flow.rt d)))
noncomputable def m_are_things_in : List D → M D := runF 5 f_are_things_in
theorem ok_are_things_in (T : Tp P K mg) : FnOk P w K mg base (L2.CX P w) 6 T.a_are_things_in T.d_are_things_in ["next_id", "value"] (spD T.cn 2 m_are_things_in) :=
  fnv_ok (c := T.cn) T.F_are_things_in rfl sc_are_things_in fun cdv A outer s0 H E hr => (vb_cons (vs_if (vt_of (vw_or (vt_not (vt_val (ve_callB (cv_isiO rfl T.ownK) (by rfl) T.m_isinstance (by decide +kernel) (vl_cons (vv 1 (lo_none rfl)) (vl_cons (ve_bltn (n := "tuple") (by rfl) T.m_tuple (by decide +kernel)) vl_nil)) (fun _ _ p q => pe_callB p (by rfl) T.m_isinstance (by decide +kernel) q)))) (vw_or (vt_cmp opv_gt (ve_callB (cv_len rfl) (by rfl) T.m_len (by decide +kernel) (vl_cons (vv 1 (lo_none rfl)) vl_nil) (fun _ _ p q => pe_callB p (by rfl) T.m_len (by decide +kernel) q)) (ve_glob (d := k_MAX_THINGS) (by rfl) T.c_MAX_THINGS T.r_MAX_THINGS T.q_MAX_THINGS) (nomark _)) (vw_or1 (vt_not (vt_val (ve_callB (cv_all rfl rfl) (by rfl) T.m_all (by decide +kernel) (vl_cons (ve_lc fin_frz (own := [("one", 3)]) (fun i hi => ⟨lo_none rfl, fun z => absurd rfl z⟩) (by rfl) sc_are_things_in.nd (blkOk_by (own := [("one", 3)]) (N := N_are_things_in) (sc := defScope s_are_things_in) (by decide +kernel)) (vi_seq rfl (vv 1 (lo_none rfl))) (fun _ _ _ _ _ => (vg_name (i := 3) (lo_none rfl) (fun z => absurd rfl z) sc_are_things_in.nd rfl (Or.inl rfl))) (fun _ _ _ _ _ => vts_nil) (fun _ _ _ _ _ => (ve_call (ok_is_thing_in T) (hr.mono (by decide)) (by rfl) T.g_is_thing_in T.F_is_thing_in.kp T.b_is_thing_in takes_none5 (vl_cons (vv 3 (lo_none rfl)) vl_nil) (fun _ z => pe_callS (ok_is_thing_in T) (hr.mono (by decide)) (by rfl) T.g_is_thing_in T.F_is_thing_in.kp T.b_is_thing_in (fun σ => passAt takes_none5 σ) z))) (by decide)) vl_nil) (fun _ _ p q => pe_callB p (by rfl) T.m_all (by decide +kernel) q)))))))) (vb_one (vs_ret ve_bl)) vb_nil)
    (vb_cons (vs_set (i := 2) (lo_none rfl) (fun z => absurd rfl z) sc_are_things_in.nd rfl (Or.inl rfl) (ve_op (opv_add rfl) (ve_lc fin_frz (own := [("one", 3)]) (fun i hi => ⟨lo_none rfl, fun z => absurd rfl z⟩) (by rfl) sc_are_things_in.nd (blkOk_by (own := [("one", 3)]) (N := N_are_things_in) (sc := defScope s_are_things_in) (by decide +kernel)) (vi_seq rfl (vv 1 (lo_none rfl))) (fun _ _ _ _ _ => (vg_name (i := 3) (lo_none rfl) (fun z => absurd rfl z) sc_are_things_in.nd rfl (Or.inl rfl))) (fun _ _ _ _ _ => vts_nil) (fun _ _ _ _ _ => (ve_ix rfl (vv 3 (lo_none rfl)) ve_int (fun _ _ => rfl))) (by decide)) (ve_lst (vl_cons (vv 0 (lo_none rfl)) vl_nil))))
    (vb_one (vs_ret (ve_callB (cv_all rfl rfl) (by rfl) T.m_all (by decide +kernel) (vl_cons (ve_lc fin_frz (own := [("one", 3), ("other", 4)]) (fun i hi => ⟨lo_none rfl, fun z => absurd rfl z⟩) (by rfl) sc_are_things_in.nd (blkOk_by (own := [("one", 3), ("other", 4)]) (N := N_are_things_in) (sc := defScope s_are_things_in) (by decide +kernel)) (vi_zip rfl (by rfl) T.m_zip (vl_cons (vv 2 (lo_none rfl)) (vl_cons (ve_slice rfl (vv 2 (lo_none rfl)) (vo_some ve_int) vo_none) vl_nil))) (fun _ _ _ _ _ => (vg_tup rfl (vgs_cons (vg_name (i := 3) (lo_none rfl) (fun z => absurd rfl z) sc_are_things_in.nd rfl (Or.inl rfl)) (vgs_cons (vg_name (i := 4) (lo_none rfl) (fun z => absurd rfl z) sc_are_things_in.nd rfl (Or.inl rfl)) vgs_nil)) (fun _ z => pg_tup (by rfl) z))) (fun _ _ _ _ _ => vts_nil) (fun _ _ _ _ _ => (ve_cmp opv_lt (vv 3 (lo_none rfl)) (vv 4 (lo_none rfl)) (nomark _))) (by decide)) vl_nil) (fun _ _ p q => pe_callB p (by rfl) T.m_all (by decide +kernel) q))))))
noncomputable def f_KnownParts_init : VL.Env → M VL.Flow := fun ρ => seqM (liftS ρ (rd 1 ρ) fun d => pure (VL.Flow.nx (ρ.set (5 + 3) (some d))))
    (fun ρ => seqM (liftS ρ (rd 2 ρ) fun d => pure (VL.Flow.nx (ρ.set (5 + 1) (some d))))
    (fun ρ => seqM (liftS ρ (rd 3 ρ) fun d => pure (VL.Flow.nx (ρ.set (5 + 0) (some d))))
    (fun ρ => liftS ρ (rd 4 ρ) fun d => pure (VL.Flow.nx (ρ.set (5 + 2) (some d))))))
noncomputable def m_KnownParts_init : List D → M (List D) := runI 5 4 f_KnownParts_init
theorem ok_KnownParts_init (T : Tp P K mg) : FnOk P w K mg base (L2.CX P w) 1 T.a_KnownParts_init T.d_KnownParts_init ["self", "tick", "next_id", "luck", "things"] (spI T.cn "KnownParts" 5 m_KnownParts_init) :=
  fni_ok (c := T.cn) T.F_KnownParts_init (by decide) sc_KnownParts_init fun a dx cdv A outer s0 H E hr => (vb_cons (vs_self (I := ⟨a, dx, "KnownParts", N_KnownParts_init.length⟩) (j := 3) rfl rfl T.cl_KnownParts T.t_KnownParts_own_tick (vv 1 (lo_at (Nat.le_of_ble_eq_true rfl))) (fun _ z => SlX.ps_sl (pv 0) z))
    (vb_cons (vs_self (I := ⟨a, dx, "KnownParts", N_KnownParts_init.length⟩) (j := 1) rfl rfl T.cl_KnownParts T.t_KnownParts_own_next_id (vv 2 (lo_at (Nat.le_of_ble_eq_true rfl))) (fun _ z => SlX.ps_sl (pv 0) z))
    (vb_cons (vs_self (I := ⟨a, dx, "KnownParts", N_KnownParts_init.length⟩) (j := 0) rfl rfl T.cl_KnownParts T.t_KnownParts_own_luck (vv 3 (lo_at (Nat.le_of_ble_eq_true rfl))) (fun _ z => SlX.ps_sl (pv 0) z))
    (vb_one (vs_self (I := ⟨a, dx, "KnownParts", N_KnownParts_init.length⟩) (j := 2) rfl rfl T.cl_KnownParts T.t_KnownParts_own_things (vv 4 (lo_at (Nat.le_of_ble_eq_true rfl))) (fun _ z => SlX.ps_sl (pv 0) z))))))
noncomputable def f_parts_told : VL.Env → M VL.Flow := fun ρ => seqM (liftS ρ (tOr ((((((rd 0 ρ) >>= fun x => (pure [] : M (List D)) >>= fun r => pure (x :: r)) >>= callM 1 m_is_tick) >>= asB) >>= fun b => pure (!b))) ((tOr ((((((rd 1 ρ) >>= fun x => (pure [] : M (List D)) >>= fun r => pure (x :: r)) >>= callM 1 m_is_tick) >>= asB) >>= fun b => pure (!b))) ((((((rd 2 ρ) >>= fun x => (pure [] : M (List D)) >>= fun r => pure (x :: r)) >>= callM 1 m_is_luck) >>= asB) >>= fun b => pure (!b)))))) fun k => if k then (pure (VL.Flow.xc ρ ⟨"InvalidWorld", none⟩)) else (pure (VL.Flow.nx ρ)))
    (fun ρ => seqM (liftS ρ (((((rd 1 ρ) >>= fun x => ((rd 3 ρ) >>= fun x => (pure [] : M (List D)) >>= fun r => pure (x :: r)) >>= fun r => pure (x :: r)) >>= callM 2 m_are_things_in) >>= asB) >>= fun b => pure (!b)) fun k => if k then (pure (VL.Flow.xc ρ ⟨"InvalidWorld", none⟩)) else (pure (VL.Flow.nx ρ)))
    (fun ρ => liftS ρ (((rd 0 ρ) >>= fun x => ((rd 1 ρ) >>= fun x => ((rd 2 ρ) >>= fun x => ((rd 3 ρ) >>= fun x => (pure [] : M (List D)) >>= fun r => pure (x :: r)) >>= fun r => pure (x :: r)) >>= fun r => pure (x :: r)) >>= fun r => pure (x :: r)) >>= fun ds => newM "KnownParts" 5 m_KnownParts_init (ds ++ [])) fun d => pure (VL.Flow.rt d)))
noncomputable def m_parts_told : List D → M D := runF 4 f_parts_told
theorem ok_parts_told (T : Tp P K mg) : FnOk P w K mg base (L2.CX P w) 7 T.a_parts_told T.d_parts_told ["tick", "next_id", "luck", "things"] (spD T.cn 4 m_parts_told) :=
  fnv_ok (c := T.cn) T.F_parts_told rfl sc_parts_told fun cdv A outer s0 H E hr => (vb_cons (vs_if (vt_of (vw_or (vt_not (vt_val (ve_call (ok_is_tick T) (hr.mono (by decide)) (by rfl) T.g_is_tick T.F_is_tick.kp T.b_is_tick (takes_of rfl rfl rfl rfl) (vl_cons (vv 0 (lo_none rfl)) vl_nil) (fun _ z => pe_callS (ok_is_tick T) (hr.mono (by decide)) (by rfl) T.g_is_tick T.F_is_tick.kp T.b_is_tick (fun σ => passAt (takes_of rfl rfl rfl rfl) σ) z)))) (vw_or (vt_not (vt_val (ve_call (ok_is_tick T) (hr.mono (by decide)) (by rfl) T.g_is_tick T.F_is_tick.kp T.b_is_tick (takes_of rfl rfl rfl rfl) (vl_cons (vv 1 (lo_none rfl)) vl_nil) (fun _ z => pe_callS (ok_is_tick T) (hr.mono (by decide)) (by rfl) T.g_is_tick T.F_is_tick.kp T.b_is_tick (fun σ => passAt (takes_of rfl rfl rfl rfl) σ) z)))) (vw_or1 (vt_not (vt_val (ve_call (ok_is_luck T) (hr.mono (by decide)) (by rfl) T.g_is_luck T.F_is_luck.kp T.b_is_luck (takes_of rfl rfl rfl rfl) (vl_cons (vv 2 (lo_none rfl)) vl_nil) (fun _ z => pe_callS (ok_is_luck T) (hr.mono (by decide)) (by rfl) T.g_is_luck T.F_is_luck.kp T.b_is_luck (fun σ => passAt (takes_of rfl rfl rfl rfl) σ) z)))))))) (vb_one (vs_raise (C := "InvalidWorld") rfl (takes_of rfl rfl rfl rfl) (pmk_own PySem.F.excBase_ValueError T.xc_InvalidWorld T.gx_InvalidWorld T.kx_InvalidWorld (raises_own T.bx_InvalidWorld T.tx_InvalidWorld) (by rfl)))) vb_nil)
    (vb_cons (vs_if (vt_not (vt_val (ve_call (ok_are_things_in T) (hr.mono (by decide)) (by rfl) T.g_are_things_in T.F_are_things_in.kp T.b_are_things_in (takes_of rfl rfl rfl rfl) (vl_cons (vv 1 (lo_none rfl)) (vl_cons (vv 3 (lo_none rfl)) vl_nil)) (fun _ z => pe_callS (ok_are_things_in T) (hr.mono (by decide)) (by rfl) T.g_are_things_in T.F_are_things_in.kp T.b_are_things_in (fun σ => passAt (takes_of rfl rfl rfl rfl) σ) z)))) (vb_one (vs_raise (C := "InvalidWorld") rfl (takes_of rfl rfl rfl rfl) (pmk_own PySem.F.excBase_ValueError T.xc_InvalidWorld T.gx_InvalidWorld T.kx_InvalidWorld (raises_own T.bx_InvalidWorld T.tx_InvalidWorld) (by rfl)))) vb_nil)
    (vb_one (vs_ret (ve_make (C := "KnownParts") T.mk_KnownParts (ok_KnownParts_init T) (hr.mono (by decide)) (by rfl) T.g_KnownParts T.b_KnownParts_init .nil (fun _ _ => by simp only [RepL]) (takes_of rfl rfl rfl rfl) (vl_cons (vv 0 (lo_none rfl)) (vl_cons (vv 1 (lo_none rfl)) (vl_cons (vv 2 (lo_none rfl)) (vl_cons (vv 3 (lo_none rfl)) vl_nil)))))))))
noncomputable def f_World_init : VL.Env → M VL.Flow := fun ρ => seqM (liftS ρ (((((rd 1 ρ) >>= fun x => ((pure (D.cls "KnownParts") : M D) >>= fun x => (pure [] : M (List D)) >>= fun r => pure (x :: r)) >>= fun r => pure (x :: r)) >>= (isiO ownL)) >>= asB) >>= fun k => if k then (rd 1 ρ) else (((rd 1 ρ) >>= fun x => ((rd 2 ρ) >>= fun x => ((rd 3 ρ) >>= fun x => ((rd 4 ρ) >>= fun x => (pure [] : M (List D)) >>= fun r => pure (x :: r)) >>= fun r => pure (x :: r)) >>= fun r => pure (x :: r)) >>= fun r => pure (x :: r)) >>= callM 4 m_parts_told)) fun d => pure (VL.Flow.nx (ρ.set 5 (some d))))
    (fun ρ => seqM (liftS ρ ((rd 5 ρ) >>= attrM st_own_tick) fun d => pure (VL.Flow.nx (ρ.set (7 + 4) (some d))))
    (fun ρ => seqM (liftS ρ ((rd 5 ρ) >>= attrM st_own_next_id) fun d => pure (VL.Flow.nx (ρ.set (7 + 2) (some d))))
    (fun ρ => seqM (liftS ρ ((rd 5 ρ) >>= attrM st_own_luck) fun d => pure (VL.Flow.nx (ρ.set (7 + 1) (some d))))
    (fun ρ => seqM (liftS ρ ((rd 5 ρ) >>= attrM st_own_things) fun d => pure (VL.Flow.nx (ρ.set (7 + 3) (some d))))
    (fun ρ => liftS ρ ((((rd 5 ρ) >>= attrM st_own_things) >>= itOf) >>= fun it => ask (small it.items.length) >>= fun _ => loopC it (gN 6) (fun _ => pure true) (fun ρ => ((rd 6 ρ) >>= fun x => (pure (D.int 0) : M D) >>= fun y => dIx x y)) (wipeE ρ [6]) it.items [] >>= frzL) fun d => pure (VL.Flow.nx (ρ.set (7 + 0) (some d))))))))
noncomputable def m_World_init : List D → M (List D) := runI 7 5 f_World_init
theorem ok_World_init (T : Tp P K mg) : FnOk P w K mg base (L2.CX P w) 8 T.a_World_init T.d_World_init ["self", "tick", "next_id", "luck", "things"] (spI T.cn "World" 5 m_World_init) :=
  fni_ok (c := T.cn) T.F_World_init (by decide) sc_World_init fun a dx cdv A outer s0 H E hr => (vb_cons (vs_set (i := 5) (lo_at (Nat.le_of_ble_eq_true rfl)) (fun _ => by decide) sc_World_init.nd rfl (Or.inl rfl) (ve_if (vt_val (ve_callB (cv_isiO rfl (OwnK.at_ T.ownK)) (by rfl) T.m_isinstance (by decide +kernel) (vl_cons (vv 1 (lo_at (Nat.le_of_ble_eq_true rfl))) (vl_cons (ve_glob (d := .cls "KnownParts") (v := .ref T.C_KnownParts) (by rfl) T.g_KnownParts rfl (by intro φ H; simp only [Rep]; rfl)) vl_nil)) (fun _ _ p q => pe_callB p (by rfl) T.m_isinstance (by decide +kernel) q))) (vv 1 (lo_at (Nat.le_of_ble_eq_true rfl))) (ve_call (FnOk.at_ (ok_parts_told T)) (hr.mono (by decide)) (by rfl) T.g_parts_told T.F_parts_told.kp T.b_parts_told (takes_of rfl rfl rfl rfl) (vl_cons (vv 1 (lo_at (Nat.le_of_ble_eq_true rfl))) (vl_cons (vv 2 (lo_at (Nat.le_of_ble_eq_true rfl))) (vl_cons (vv 3 (lo_at (Nat.le_of_ble_eq_true rfl))) (vl_cons (vv 4 (lo_at (Nat.le_of_ble_eq_true rfl))) vl_nil)))) (fun _ z => pe_callS (FnOk.at_ (ok_parts_told T)) (hr.mono (by decide)) (by rfl) T.g_parts_told T.F_parts_told.kp T.b_parts_told (fun σ => passAt (takes_of rfl rfl rfl rfl) σ) z))))
    (vb_cons (vs_self (I := ⟨a, dx, "World", N_World_init.length⟩) (j := 4) rfl rfl T.cl_World T.t_World_own_tick (ve_attr rfl T.st_own_tick (vv 5 (lo_at (Nat.le_of_ble_eq_true rfl)))) (fun _ z => SlX.ps_sl (pv 0) z))
    (vb_cons (vs_self (I := ⟨a, dx, "World", N_World_init.length⟩) (j := 2) rfl rfl T.cl_World T.t_World_own_next_id (ve_attr rfl T.st_own_next_id (vv 5 (lo_at (Nat.le_of_ble_eq_true rfl)))) (fun _ z => SlX.ps_sl (pv 0) z))
    (vb_cons (vs_self (I := ⟨a, dx, "World", N_World_init.length⟩) (j := 1) rfl rfl T.cl_World T.t_World_own_luck (ve_attr rfl T.st_own_luck (vv 5 (lo_at (Nat.le_of_ble_eq_true rfl)))) (fun _ z => SlX.ps_sl (pv 0) z))
    (vb_cons (vs_self (I := ⟨a, dx, "World", N_World_init.length⟩) (j := 3) rfl rfl T.cl_World T.t_World_own_things (ve_attr rfl T.st_own_things (vv 5 (lo_at (Nat.le_of_ble_eq_true rfl)))) (fun _ z => SlX.ps_sl (pv 0) z))
    (vb_one (vs_self (I := ⟨a, dx, "World", N_World_init.length⟩) (j := 0) rfl rfl T.cl_World T.t_World_own_ids (ve_lc fin_frz (own := [("one", 6)]) (fun i hi => by obtain rfl := List.mem_singleton.mp hi; exact ⟨lo_at (Nat.le_of_ble_eq_true rfl), fun _ => by decide⟩) (by rfl) sc_World_init.nd (blkOk_by (own := [("one", 6)]) (N := N_World_init) (sc := defScope s_World_init) (by decide +kernel)) (vi_seq rfl (ve_attr rfl T.st_own_things (vv 5 (lo_at (Nat.le_of_ble_eq_true rfl))))) (fun _ _ _ _ _ => (vg_name (i := 6) (lo_at (Nat.le_of_ble_eq_true rfl)) (fun _ => by decide) sc_World_init.nd rfl (Or.inl rfl))) (fun _ _ _ _ _ => vts_nil) (fun _ _ _ _ _ => (ve_ix rfl (vv 6 (lo_at (Nat.le_of_ble_eq_true rfl))) ve_int (fun _ _ => rfl))) (by decide)) (fun _ z => SlX.ps_sl (pv 0) z))))))))
noncomputable def f_World_tick : VL.Env → M VL.Flow := fun ρ => liftS ρ ((rd 0 ρ) >>= attrM st_own_tick) fun d => pure (VL.Flow.rt d)
noncomputable def m_World_tick : List D → M D := runF 1 f_World_tick
theorem ok_World_tick (T : Tp P K mg) : FnOk P w K mg base (L2.CX P w) 1 T.a_World_tick T.d_World_tick ["self"] (spD T.cn 1 m_World_tick) :=
  fnv_ok (c := T.cn) T.F_World_tick rfl sc_World_tick fun cdv A outer s0 H E hr => (vb_one (vs_ret (ve_attr rfl T.st_own_tick (vv 0 (lo_none rfl)))))
noncomputable def f_World_next_id : VL.Env → M VL.Flow := fun ρ => liftS ρ ((rd 0 ρ) >>= attrM st_own_next_id) fun d => pure (VL.Flow.rt d)
noncomputable def m_World_next_id : List D → M D := runF 1 f_World_next_id
theorem ok_World_next_id (T : Tp P K mg) : FnOk P w K mg base (L2.CX P w) 1 T.a_World_next_id T.d_World_next_id ["self"] (spD T.cn 1 m_World_next_id) :=
  fnv_ok (c := T.cn) T.F_World_next_id rfl sc_World_next_id fun cdv A outer s0 H E hr => (vb_one (vs_ret (ve_attr rfl T.st_own_next_id (vv 0 (lo_none rfl)))))
noncomputable def f_World_luck : VL.Env → M VL.Flow := fun ρ => liftS ρ ((rd 0 ρ) >>= attrM st_own_luck) fun d => pure (VL.Flow.rt d)
noncomputable def m_World_luck : List D → M D := runF 1 f_World_luck
theorem ok_World_luck (T : Tp P K mg) : FnOk P w K mg base (L2.CX P w) 1 T.a_World_luck T.d_World_luck ["self"] (spD T.cn 1 m_World_luck) :=
  fnv_ok (c := T.cn) T.F_World_luck rfl sc_World_luck fun cdv A outer s0 H E hr => (vb_one (vs_ret (ve_attr rfl T.st_own_luck (vv 0 (lo_none rfl)))))
noncomputable def f_World_things : VL.Env → M VL.Flow := fun ρ => liftS ρ ((rd 0 ρ) >>= attrM st_own_things) fun d => pure (VL.Flow.rt d)
noncomputable def m_World_things : List D → M D := runF 1 f_World_things
theorem ok_World_things (T : Tp P K mg) : FnOk P w K mg base (L2.CX P w) 1 T.a_World_things T.d_World_things ["self"] (spD T.cn 1 m_World_things) :=
  fnv_ok (c := T.cn) T.F_World_things rfl sc_World_things fun cdv A outer s0 H E hr => (vb_one (vs_ret (ve_attr rfl T.st_own_things (vv 0 (lo_none rfl)))))
noncomputable def f_World_ids : VL.Env → M VL.Flow := fun ρ => liftS ρ ((((((rd 0 ρ) >>= attrM st_own_things) >>= itOf) >>= fun it => ask (small it.items.length) >>= fun _ => loopC it (gN 2) (fun ρ => ((((rd 2 ρ) >>= fun x => (pure (D.int 1) : M D) >>= fun y => dIx x y) >>= fun x => (rd 1 ρ) >>= fun y => dEq x y) >>= asB)) (fun ρ => ((rd 2 ρ) >>= fun x => (pure (D.int 0) : M D) >>= fun y => dIx x y)) (wipeE ρ [2]) it.items [] >>= frzL) >>= fun x => (pure [] : M (List D)) >>= fun r => pure (x :: r)) >>= tupleD) fun d => pure (VL.Flow.rt d)
noncomputable def m_World_ids : List D → M D := runF 3 f_World_ids
noncomputable def f_World_kind_of : VL.Env → M VL.Flow := fun ρ => liftS ρ (((pure (D.int 0) : M D) >>= fun x => (pure [] : M (List D)) >>= fun r => pure (x :: r)) >>= callM 1 m__wall) fun _ => pure (VL.Flow.nx ρ)
noncomputable def m_World_kind_of : List D → M D := runF 2 f_World_kind_of
noncomputable def f_World_contains : VL.Env → M VL.Flow := fun ρ => liftS ρ (andD ((((rd 1 ρ) >>= fun x => (pure [] : M (List D)) >>= fun r => pure (x :: r)) >>= callM 1 m_is_whole)) (((rd 1 ρ) >>= fun x => ((rd 0 ρ) >>= attrM st_own_ids) >>= fun y => dInC x y))) fun d => pure (VL.Flow.rt d)
noncomputable def m_World_contains : List D → M D := runF 2 f_World_contains
noncomputable def f_World_len : VL.Env → M VL.Flow := fun ρ => liftS ρ ((((rd 0 ρ) >>= attrM st_own_ids) >>= fun x => (pure [] : M (List D)) >>= fun r => pure (x :: r)) >>= lenD) fun d => pure (VL.Flow.rt d)
noncomputable def m_World_len : List D → M D := runF 1 f_World_len
noncomputable def f_World_eq : VL.Env → M VL.Flow := fun ρ => seqM (liftS ρ (((((rd 1 ρ) >>= fun x => ((pure (D.cls "World") : M D) >>= fun x => (pure [] : M (List D)) >>= fun r => pure (x :: r)) >>= fun r => pure (x :: r)) >>= (isiO ownL)) >>= asB) >>= fun b => pure (!b)) fun k => if k then (liftS ρ (pure (D.bl false) : M D) fun d => pure (VL.Flow.rt d)) else (pure (VL.Flow.nx ρ)))
    (fun ρ => seqM (liftS ρ ((((((rd 0 ρ) >>= attrM st_own_tick) >>= fun x => (((rd 0 ρ) >>= attrM st_own_next_id) >>= fun x => (((rd 0 ρ) >>= attrM st_own_luck) >>= fun x => (pure [] : M (List D)) >>= fun r => pure (x :: r)) >>= fun r => pure (x :: r)) >>= fun r => pure (x :: r)) >>= mkTup) >>= fun x => ((((rd 1 ρ) >>= attrM st_own_tick) >>= fun x => (((rd 1 ρ) >>= attrM st_own_next_id) >>= fun x => (((rd 1 ρ) >>= attrM st_own_luck) >>= fun x => (pure [] : M (List D)) >>= fun r => pure (x :: r)) >>= fun r => pure (x :: r)) >>= fun r => pure (x :: r)) >>= mkTup) >>= fun y => dNe x y) >>= asB) fun k => if k then (liftS ρ (pure (D.bl false) : M D) fun d => pure (VL.Flow.rt d)) else (pure (VL.Flow.nx ρ)))
    (fun ρ => liftS ρ (((rd 0 ρ) >>= attrM st_own_things) >>= fun x => ((rd 1 ρ) >>= attrM st_own_things) >>= fun y => dEq x y) fun d => pure (VL.Flow.rt d)))
noncomputable def m_World_eq : List D → M D := runF 2 f_World_eq
theorem ok_World_eq (T : Tp P K mg) : FnOk P w K mg base (L2.CX P w) 1 T.a_World_eq T.d_World_eq ["self", "other"] (spD T.cn 2 m_World_eq) :=
  fnv_ok (c := T.cn) T.F_World_eq rfl sc_World_eq fun cdv A outer s0 H E hr => (vb_cons (vs_if (vt_not (vt_val (ve_callB (cv_isiO rfl T.ownK) (by rfl) T.m_isinstance (by decide +kernel) (vl_cons (vv 1 (lo_none rfl)) (vl_cons (ve_glob (d := .cls "World") (v := .ref T.C_World) (by rfl) T.g_World rfl (by intro φ H; simp only [Rep]; rfl)) vl_nil)) (fun _ _ p q => pe_callB p (by rfl) T.m_isinstance (by decide +kernel) q)))) (vb_one (vs_ret ve_bl)) vb_nil)
    (vb_cons (vs_if (vt_cmp (opv_ne rfl hr.units) (ve_tup (vl_cons (ve_attr rfl T.st_own_tick (vv 0 (lo_none rfl))) (vl_cons (ve_attr rfl T.st_own_next_id (vv 0 (lo_none rfl))) (vl_cons (ve_attr rfl T.st_own_luck (vv 0 (lo_none rfl))) vl_nil)))) (ve_tup (vl_cons (ve_attr rfl T.st_own_tick (vv 1 (lo_none rfl))) (vl_cons (ve_attr rfl T.st_own_next_id (vv 1 (lo_none rfl))) (vl_cons (ve_attr rfl T.st_own_luck (vv 1 (lo_none rfl))) vl_nil)))) (nomark _)) (vb_one (vs_ret ve_bl)) vb_nil)
    (vb_one (vs_ret (ve_cmp (opv_eq rfl hr.units) (ve_attr rfl T.st_own_things (vv 0 (lo_none rfl))) (ve_attr rfl T.st_own_things (vv 1 (lo_none rfl))) (nomark _))))))
noncomputable def f_World_str : VL.Env → M VL.Flow := fun ρ => liftS ρ (joinM ρ [fun ρ => (pure (D.str "world at ") : M D), fun ρ => (((rd 0 ρ) >>= attrM st_own_tick) >>= fmtD), fun ρ => (pure (D.str " of ") : M D), fun ρ => (((((rd 0 ρ) >>= attrM st_own_things) >>= fun x => (pure [] : M (List D)) >>= fun r => pure (x :: r)) >>= lenD) >>= fmtD), fun ρ => (pure (D.str " things") : M D)] Str.empty) fun d => pure (VL.Flow.rt d)
noncomputable def m_World_str : List D → M D := runF 1 f_World_str
noncomputable def f_made_world : VL.Env → M VL.Flow := fun ρ => liftS ρ (((((rd 0 ρ) >>= fun x => ((rd 1 ρ) >>= fun x => ((rd 2 ρ) >>= fun x => ((rd 3 ρ) >>= fun x => (pure [] : M (List D)) >>= fun r => pure (x :: r)) >>= fun r => pure (x :: r)) >>= fun r => pure (x :: r)) >>= fun r => pure (x :: r)) >>= fun ds => newM "KnownParts" 5 m_KnownParts_init (ds ++ [])) >>= fun x => ((pure D.non : M D) >>= fun x => ((pure D.non : M D) >>= fun x => ((pure D.non : M D) >>= fun x => (pure [] : M (List D)) >>= fun r => pure (x :: r)) >>= fun r => pure (x :: r)) >>= fun r => pure (x :: r)) >>= fun r => pure (x :: r)) >>= fun ds => newM "World" 5 m_World_init (ds ++ [])) fun d => pure (VL.Flow.rt d)
noncomputable def m_made_world : List D → M D := runF 4 f_made_world
theorem ok_made_world (T : Tp P K mg) : FnOk P w K mg base (L2.CX P w) 10 T.a_made_world T.d_made_world ["tick", "next_id", "luck", "things"] (spD T.cn 4 m_made_world) :=
  fnv_ok (c := T.cn) T.F_made_world rfl sc_made_world fun cdv A outer s0 H E hr => (vb_one (vs_ret (ve_make (C := "World") T.mk_World (ok_World_init T) (hr.mono (by decide)) (by rfl) T.g_World T.b_World_init .nil (fun _ _ => by simp only [RepL]) (takes_of rfl rfl rfl rfl) (vl_cons (ve_make (C := "KnownParts") T.mk_KnownParts (ok_KnownParts_init T) (hr.mono (by decide)) (by rfl) T.g_KnownParts T.b_KnownParts_init .nil (fun _ _ => by simp only [RepL]) (takes_of rfl rfl rfl rfl) (vl_cons (vv 0 (lo_none rfl)) (vl_cons (vv 1 (lo_none rfl)) (vl_cons (vv 2 (lo_none rfl)) (vl_cons (vv 3 (lo_none rfl)) vl_nil))))) (vl_cons ve_non (vl_cons ve_non (vl_cons ve_non vl_nil)))))))
noncomputable def f_thing_at : VL.Env → M VL.Flow := fun ρ => seqM (liftS ρ ((((rd 0 ρ) >>= attrM st_own_things) >>= itOf) >>= fun it => ask (small it.items.length) >>= fun _ => loopC it (gN 3) (fun ρ => (tAnd (((((rd 1 ρ) >>= fun x => (pure [] : M (List D)) >>= fun r => pure (x :: r)) >>= callM 1 m_is_whole) >>= asB)) (((((rd 3 ρ) >>= fun x => (pure (D.int 0) : M D) >>= fun y => dIx x y) >>= fun x => (rd 1 ρ) >>= fun y => dEq x y) >>= asB)))) (fun ρ => (rd 3 ρ)) (wipeE ρ [3]) it.items [] >>= frzL) fun d => pure (VL.Flow.nx (ρ.set 2 (some d))))
    (fun ρ => liftS ρ ((((rd 2 ρ) >>= fun x => ((pure [] : M (List D)) >>= mkLst) >>= fun y => dNe x y) >>= asB) >>= fun k => if k then ((rd 2 ρ) >>= fun x => (pure (D.int 0) : M D) >>= fun y => dIx x y) else (pure D.non : M D)) fun d => pure (VL.Flow.rt d))
noncomputable def m_thing_at : List D → M D := runF 4 f_thing_at
noncomputable def f_thing_text : VL.Env → M VL.Flow := fun ρ => liftS ρ ((pure (D.str " ") : M D) >>= fun x => tyM "str" x >>= fun _ => (((((((rd 0 ρ) >>= fun x => (pure (D.int 0) : M D) >>= fun y => dIx x y) >>= fun x => (pure [] : M (List D)) >>= fun r => pure (x :: r)) >>= strD) >>= fun x => (((rd 0 ρ) >>= fun x => (pure (D.int 1) : M D) >>= fun y => dIx x y) >>= fun x => (((((rd 0 ρ) >>= fun x => (pure (D.int 2) : M D) >>= fun y => dIx x y) >>= itOf) >>= fun it => ask (small it.items.length) >>= fun _ => loopC it (gN 1) (fun _ => pure true) (fun ρ => (((rd 1 ρ) >>= fun x => (pure [] : M (List D)) >>= fun r => pure (x :: r)) >>= strD)) (wipeE ρ [1]) it.items [] >>= frzL) >>= fun x => seqOf x >>= fun xs => (pure [] : M (List D)) >>= fun ys => pure (xs ++ ys)) >>= fun r => pure (x :: r)) >>= fun r => pure (x :: r)) >>= mkLst) >>= fun x => (pure [] : M (List D)) >>= fun r => pure (x :: r)) >>= fun xs => joinS x xs) fun d => pure (VL.Flow.rt d)
noncomputable def m_thing_text : List D → M D := runF 2 f_thing_text
theorem ok_thing_text (T : Tp P K mg) : FnOk P w K mg base (L2.CX P w) 1 T.a_thing_text T.d_thing_text ["thing"] (spD T.cn 1 m_thing_text) :=
  fnv_ok (c := T.cn) T.F_thing_text rfl sc_thing_text fun cdv A outer s0 H E hr => (vb_one (vs_ret (ve_bm rfl PySem.F.plainAttrs_str PySem.F.slot_str_join PySem.F.type_str_join (mv_join rfl) ve_str (vl_cons (ve_lst (vl_cons (ve_callT cv_str (by rfl) T.m_str (by decide +kernel) (vl_cons (ve_ix rfl (vv 0 (lo_none rfl)) ve_int (fun _ _ => rfl)) vl_nil) (fun _ _ p q => pe_callTy p (by rfl) T.m_str (by decide +kernel) q)) (vl_cons (ve_ix rfl (vv 0 (lo_none rfl)) ve_int (fun _ _ => rfl)) (vl_star rfl (ve_lc fin_frz (own := [("number", 1)]) (fun i hi => ⟨lo_none rfl, fun z => absurd rfl z⟩) (by rfl) sc_thing_text.nd (blkOk_by (own := [("number", 1)]) (N := N_thing_text) (sc := defScope s_thing_text) (by decide +kernel)) (vi_seq rfl (ve_ix rfl (vv 0 (lo_none rfl)) ve_int (fun _ _ => rfl))) (fun _ _ _ _ _ => (vg_name (i := 1) (lo_none rfl) (fun z => absurd rfl z) sc_thing_text.nd rfl (Or.inl rfl))) (fun _ _ _ _ _ => vts_nil) (fun _ _ _ _ _ => (ve_callT cv_str (by rfl) T.m_str (by decide +kernel) (vl_cons (vv 1 (lo_none rfl)) vl_nil) (fun _ _ p q => pe_callTy p (by rfl) T.m_str (by decide +kernel) q))) (by decide)) vl_nil)))) vl_nil) (fun _ _ _ p q z => pe_bm PySem.F.plainAttrs_str PySem.F.slot_str_join PySem.F.type_str_join p q z))))
noncomputable def f_text_of_world : VL.Env → M VL.Flow := fun ρ => seqM (liftS ρ (joinM ρ [fun ρ => (((rd 0 ρ) >>= attrM st_own_tick) >>= fmtD), fun ρ => (pure (D.str " ") : M D), fun ρ => (((rd 0 ρ) >>= attrM st_own_next_id) >>= fmtD), fun ρ => (pure (D.str " ") : M D), fun ρ => (((rd 0 ρ) >>= attrM st_own_luck) >>= fmtD)] Str.empty) fun d => pure (VL.Flow.nx (ρ.set 1 (some d))))
    (fun ρ => liftS ρ ((pure (D.str ";") : M D) >>= fun x => tyM "str" x >>= fun _ => ((((rd 1 ρ) >>= fun x => (((((rd 0 ρ) >>= attrM st_own_things) >>= itOf) >>= fun it => ask (small it.items.length) >>= fun _ => loopC it (gN 2) (fun _ => pure true) (fun ρ => (((rd 2 ρ) >>= fun x => (pure [] : M (List D)) >>= fun r => pure (x :: r)) >>= callM 1 m_thing_text)) (wipeE ρ [2]) it.items [] >>= frzL) >>= fun x => seqOf x >>= fun xs => (pure [] : M (List D)) >>= fun ys => pure (xs ++ ys)) >>= fun r => pure (x :: r)) >>= mkLst) >>= fun x => (pure [] : M (List D)) >>= fun r => pure (x :: r)) >>= fun xs => joinS x xs) fun d => pure (VL.Flow.rt d))
noncomputable def m_text_of_world : List D → M D := runF 3 f_text_of_world
theorem ok_text_of_world (T : Tp P K mg) : FnOk P w K mg base (L2.CX P w) 2 T.a_text_of_world T.d_text_of_world ["world"] (spD T.cn 1 m_text_of_world) :=
  fnv_ok (c := T.cn) T.F_text_of_world rfl sc_text_of_world fun cdv A outer s0 H E hr => (vb_cons (vs_set (i := 1) (lo_none rfl) (fun z => absurd rfl z) sc_text_of_world.nd rfl (Or.inl rfl) (ve_joined (.cons (ve_fmt (ve_attr rfl T.st_own_tick (vv 0 (lo_none rfl)))) (.cons ve_str (.cons (ve_fmt (ve_attr rfl T.st_own_next_id (vv 0 (lo_none rfl)))) (.cons ve_str (.cons (ve_fmt (ve_attr rfl T.st_own_luck (vv 0 (lo_none rfl)))) .nil)))))))
    (vb_one (vs_ret (ve_bm rfl PySem.F.plainAttrs_str PySem.F.slot_str_join PySem.F.type_str_join (mv_join rfl) ve_str (vl_cons (ve_lst (vl_cons (vv 1 (lo_none rfl)) (vl_star rfl (ve_lc fin_frz (own := [("one", 2)]) (fun i hi => ⟨lo_none rfl, fun z => absurd rfl z⟩) (by rfl) sc_text_of_world.nd (blkOk_by (own := [("one", 2)]) (N := N_text_of_world) (sc := defScope s_text_of_world) (by decide +kernel)) (vi_seq rfl (ve_attr rfl T.st_own_things (vv 0 (lo_none rfl)))) (fun _ _ _ _ _ => (vg_name (i := 2) (lo_none rfl) (fun z => absurd rfl z) sc_text_of_world.nd rfl (Or.inl rfl))) (fun _ _ _ _ _ => vts_nil) (fun _ _ _ _ _ => (ve_call (ok_thing_text T) (hr.mono (by decide)) (by rfl) T.g_thing_text T.F_thing_text.kp T.b_thing_text takes_none5 (vl_cons (vv 2 (lo_none rfl)) vl_nil) (fun _ z => pe_callS (ok_thing_text T) (hr.mono (by decide)) (by rfl) T.g_thing_text T.F_thing_text.kp T.b_thing_text (fun σ => passAt takes_none5 σ) z))) (by decide)) vl_nil))) vl_nil) (fun _ _ _ p q z => pe_bm PySem.F.plainAttrs_str PySem.F.slot_str_join PySem.F.type_str_join p q z)))))
noncomputable def f_integer_in : VL.Env → M VL.Flow := fun ρ => seqM (liftS ρ (((((rd 0 ρ) >>= fun x => (pure none : M (Option Int)) >>= fun l => ((pure (D.int 1) : M D) >>= asPart) >>= fun h => dSl x l h) >>= fun x => (pure (D.str "-") : M D) >>= fun y => dEq x y) >>= asB) >>= fun k => if k then ((rd 0 ρ) >>= fun x => ((pure (D.int 1) : M D) >>= asPart) >>= fun l => (pure none : M (Option Int)) >>= fun h => dSl x l h) else (rd 0 ρ)) fun d => pure (VL.Flow.nx (ρ.set 1 (some d))))
    (fun ρ => seqM (liftS ρ (tOr (((((pure (D.int 1) : M D) >>= fun x => (((rd 1 ρ) >>= fun x => (pure [] : M (List D)) >>= fun r => pure (x :: r)) >>= lenD) >>= fun y => andD (dLe x y) ((pure k_MOST_FIGURES : M D) >>= fun z => dLe y z)) >>= asB) >>= fun b => pure (!b))) ((((((((rd 1 ρ) >>= itOf) >>= fun it => ask (small it.items.length) >>= fun _ => loopC it (gN 2) (fun _ => pure true) (fun ρ => ((rd 2 ρ) >>= fun x => (pure k_FIGURES : M D) >>= fun y => dInC x y)) (wipeE ρ [2]) it.items [] >>= frzL) >>= fun x => (pure [] : M (List D)) >>= fun r => pure (x :: r)) >>= (allD fun bs => bs.all id)) >>= asB) >>= fun b => pure (!b)))) fun k => if k then (liftS ρ (pure D.non : M D) fun d => pure (VL.Flow.rt d)) else (pure (VL.Flow.nx ρ)))
    (fun ρ => liftS ρ (((rd 0 ρ) >>= fun x => (pure [] : M (List D)) >>= fun r => pure (x :: r)) >>= intSD) fun d => pure (VL.Flow.rt d)))
noncomputable def m_integer_in : List D → M D := runF 3 f_integer_in
theorem ok_integer_in (T : Tp P K mg) : FnOk P w K mg base (L2.CX P w) 1 T.a_integer_in T.d_integer_in ["part"] (spD T.cn 1 m_integer_in) :=
  fnv_ok (c := T.cn) T.F_integer_in rfl sc_integer_in fun cdv A outer s0 H E hr => (vb_cons (vs_set (i := 1) (lo_none rfl) (fun z => absurd rfl z) sc_integer_in.nd rfl (Or.inl rfl) (ve_if (vt_cmp (opv_eq rfl hr.units) (ve_slice rfl (vv 0 (lo_none rfl)) vo_none (vo_some ve_int)) ve_str (nomark _)) (ve_slice rfl (vv 0 (lo_none rfl)) (vo_some ve_int) vo_none) (vv 0 (lo_none rfl))))
    (vb_cons (vs_if (vt_of (vw_or (vt_not (vt_chain opv_le opv_le ve_int (ve_callB (cv_len rfl) (by rfl) T.m_len (by decide +kernel) (vl_cons (vv 1 (lo_none rfl)) vl_nil) (fun _ _ p q => pe_callB p (by rfl) T.m_len (by decide +kernel) q)) (ve_glob (d := k_MOST_FIGURES) (by rfl) T.c_MOST_FIGURES T.r_MOST_FIGURES T.q_MOST_FIGURES) (fun _ _ _ _ _ a b c d e => pt_chain a b c d e))) (vw_or1 (vt_not (vt_val (ve_callB (cv_all rfl rfl) (by rfl) T.m_all (by decide +kernel) (vl_cons (ve_lc fin_frz (own := [("sign", 2)]) (fun i hi => ⟨lo_none rfl, fun z => absurd rfl z⟩) (by rfl) sc_integer_in.nd (blkOk_by (own := [("sign", 2)]) (N := N_integer_in) (sc := defScope s_integer_in) (by decide +kernel)) (vi_seq rfl (vv 1 (lo_none rfl))) (fun _ _ _ _ _ => (vg_name (i := 2) (lo_none rfl) (fun z => absurd rfl z) sc_integer_in.nd rfl (Or.inl rfl))) (fun _ _ _ _ _ => vts_nil) (fun _ _ _ _ _ => (ve_cmp (opv_inC rfl) (vv 2 (lo_none rfl)) (ve_glob (d := k_FIGURES) (by rfl) T.c_FIGURES T.r_FIGURES T.q_FIGURES) (by rfl))) (by decide)) vl_nil) (fun _ _ p q => pe_callB p (by rfl) T.m_all (by decide +kernel) q))))))) (vb_one (vs_ret ve_non)) vb_nil)
    (vb_one (vs_ret (ve_callT cv_intS (by rfl) T.m_int (by decide +kernel) (vl_cons (vv 0 (lo_none rfl)) vl_nil) (fun _ _ p q => pe_callTy p (by rfl) T.m_int (by decide +kernel) q))))))
noncomputable def f_thing_in : VL.Env → M VL.Flow := fun ρ => seqM (liftS ρ ((rd 0 ρ) >>= fun x => tyM "str" x >>= fun _ => ((pure (D.str " ") : M D) >>= fun x => (pure [] : M (List D)) >>= fun r => pure (x :: r)) >>= fun xs => (splitM frzL) x xs) fun d => pure (VL.Flow.nx (ρ.set 1 (some d))))
    (fun ρ => seqM (liftS ρ ((((((rd 1 ρ) >>= fun x => (pure (D.int 0) : M D) >>= fun y => dIx x y) >>= fun x => (pure [] : M (List D)) >>= fun r => pure (x :: r)) >>= callM 1 m_integer_in) >>= fun x => (((rd 1 ρ) >>= fun x => ((pure (D.int 1) : M D) >>= asPart) >>= fun l => ((pure (D.int 2) : M D) >>= asPart) >>= fun h => dSl x l h) >>= fun x => seqOf x >>= fun xs => (((((((rd 1 ρ) >>= fun x => ((pure (D.int 2) : M D) >>= asPart) >>= fun l => (pure none : M (Option Int)) >>= fun h => dSl x l h) >>= itOf) >>= fun it => ask (small it.items.length) >>= fun _ => loopC it (gN 3) (fun _ => pure true) (fun ρ => (((rd 3 ρ) >>= fun x => (pure [] : M (List D)) >>= fun r => pure (x :: r)) >>= callM 1 m_integer_in)) (wipeE ρ [3]) it.items [] >>= frzL) >>= fun x => (pure [] : M (List D)) >>= fun r => pure (x :: r)) >>= tupleD) >>= fun x => (pure [] : M (List D)) >>= fun r => pure (x :: r)) >>= fun ys => pure (xs ++ ys)) >>= fun r => pure (x :: r)) >>= mkTup) fun d => pure (VL.Flow.nx (ρ.set 2 (some d))))
    (fun ρ => liftS ρ (((((rd 2 ρ) >>= fun x => (pure [] : M (List D)) >>= fun r => pure (x :: r)) >>= callM 1 m_is_thing_in) >>= asB) >>= fun k => if k then (rd 2 ρ) else (pure D.non : M D)) fun d => pure (VL.Flow.rt d)))
noncomputable def m_thing_in : List D → M D := runF 4 f_thing_in
theorem ok_thing_in (T : Tp P K mg) : FnOk P w K mg base (L2.CX P w) 6 T.a_thing_in T.d_thing_in ["part"] (spD T.cn 1 m_thing_in) :=
  fnv_ok (c := T.cn) T.F_thing_in rfl sc_thing_in fun cdv A outer s0 H E hr => (vb_cons (vs_set (i := 1) (lo_none rfl) (fun z => absurd rfl z) sc_thing_in.nd rfl (Or.inl rfl) (ve_bm rfl PySem.F.plainAttrs_str PySem.F.slot_str_split PySem.F.type_str_split (mv_split new_frz) (vv 0 (lo_none rfl)) (vl_cons ve_str vl_nil) (fun _ _ _ p q z => pe_bm PySem.F.plainAttrs_str PySem.F.slot_str_split PySem.F.type_str_split p q z)))
    (vb_cons (vs_set (i := 2) (lo_none rfl) (fun z => absurd rfl z) sc_thing_in.nd rfl (Or.inl rfl) (ve_tup (vl_cons (ve_call (ok_integer_in T) (hr.mono (by decide)) (by rfl) T.g_integer_in T.F_integer_in.kp T.b_integer_in (takes_of rfl rfl rfl rfl) (vl_cons (ve_ix rfl (vv 1 (lo_none rfl)) ve_int (fun _ _ => rfl)) vl_nil) (fun _ z => pe_callS (ok_integer_in T) (hr.mono (by decide)) (by rfl) T.g_integer_in T.F_integer_in.kp T.b_integer_in (fun σ => passAt (takes_of rfl rfl rfl rfl) σ) z)) (vl_star rfl (ve_slice rfl (vv 1 (lo_none rfl)) (vo_some ve_int) (vo_some ve_int)) (vl_cons (ve_callT (cv_tuple rfl) (by rfl) T.m_tuple (by decide +kernel) (vl_cons (ve_lc fin_frz (own := [("word", 3)]) (fun i hi => ⟨lo_none rfl, fun z => absurd rfl z⟩) (by rfl) sc_thing_in.nd (blkOk_by (own := [("word", 3)]) (N := N_thing_in) (sc := defScope s_thing_in) (by decide +kernel)) (vi_seq rfl (ve_slice rfl (vv 1 (lo_none rfl)) (vo_some ve_int) vo_none)) (fun _ _ _ _ _ => (vg_name (i := 3) (lo_none rfl) (fun z => absurd rfl z) sc_thing_in.nd rfl (Or.inl rfl))) (fun _ _ _ _ _ => vts_nil) (fun _ _ _ _ _ => (ve_call (ok_integer_in T) (hr.mono (by decide)) (by rfl) T.g_integer_in T.F_integer_in.kp T.b_integer_in takes_none5 (vl_cons (vv 3 (lo_none rfl)) vl_nil) (fun _ z => pe_callS (ok_integer_in T) (hr.mono (by decide)) (by rfl) T.g_integer_in T.F_integer_in.kp T.b_integer_in (fun σ => passAt takes_none5 σ) z))) (by decide)) vl_nil) (fun _ _ p q => pe_callTy p (by rfl) T.m_tuple (by decide +kernel) q)) vl_nil)))))
    (vb_one (vs_ret (ve_if (vt_val (ve_call (ok_is_thing_in T) (hr.mono (by decide)) (by rfl) T.g_is_thing_in T.F_is_thing_in.kp T.b_is_thing_in (takes_of rfl rfl rfl rfl) (vl_cons (vv 2 (lo_none rfl)) vl_nil) (fun _ z => pe_callS (ok_is_thing_in T) (hr.mono (by decide)) (by rfl) T.g_is_thing_in T.F_is_thing_in.kp T.b_is_thing_in (fun σ => passAt (takes_of rfl rfl rfl rfl) σ) z))) (vv 2 (lo_none rfl)) ve_non)))))
noncomputable def f_world_in : VL.Env → M VL.Flow := fun ρ => seqM (liftS ρ ((rd 0 ρ) >>= fun x => tyM "str" x >>= fun _ => ((pure (D.str ";") : M D) >>= fun x => (pure [] : M (List D)) >>= fun r => pure (x :: r)) >>= fun xs => (splitM frzL) x xs) fun d => pure (VL.Flow.nx (ρ.set 1 (some d))))
    (fun ρ => seqM (liftS ρ ((((((rd 1 ρ) >>= fun x => (pure (D.int 0) : M D) >>= fun y => dIx x y) >>= fun x => tyM "str" x >>= fun _ => ((pure (D.str " ") : M D) >>= fun x => (pure [] : M (List D)) >>= fun r => pure (x :: r)) >>= fun xs => (splitM frzL) x xs) >>= itOf) >>= fun it => ask (small it.items.length) >>= fun _ => loopC it (gN 4) (fun _ => pure true) (fun ρ => (((rd 4 ρ) >>= fun x => (pure [] : M (List D)) >>= fun r => pure (x :: r)) >>= callM 1 m_integer_in)) (wipeE ρ [4]) it.items [] >>= frzL) >>= fun x => (((((((rd 1 ρ) >>= fun x => ((pure (D.int 1) : M D) >>= asPart) >>= fun l => (pure none : M (Option Int)) >>= fun h => dSl x l h) >>= itOf) >>= fun it => ask (small it.items.length) >>= fun _ => loopC it (gN 5) (fun _ => pure true) (fun ρ => (((rd 5 ρ) >>= fun x => (pure [] : M (List D)) >>= fun r => pure (x :: r)) >>= callM 1 m_thing_in)) (wipeE ρ [5]) it.items [] >>= frzL) >>= fun x => (pure [] : M (List D)) >>= fun r => pure (x :: r)) >>= tupleD) >>= fun x => (pure [] : M (List D)) >>= fun r => pure (x :: r)) >>= fun r => pure (x :: r)) fun ds => set2 ρ 2 3 ds)
    (fun ρ => seqM (liftS ρ (tOr ((((((rd 2 ρ) >>= fun x => (pure [] : M (List D)) >>= fun r => pure (x :: r)) >>= lenD) >>= fun x => (pure k_THING_PARTS : M D) >>= fun y => dNe x y) >>= asB)) ((tOr ((((pure D.non : M D) >>= fun x => (rd 2 ρ) >>= fun y => dInC x y) >>= asB)) ((tOr ((((((rd 2 ρ) >>= fun x => (pure [] : M (List D)) >>= fun r => pure (x :: r)) >>= minD) >>= fun x => (pure (D.int 0) : M D) >>= fun y => dLt x y) >>= asB)) (((((((rd 2 ρ) >>= fun x => (pure (D.int 2) : M D) >>= fun y => dIx x y) >>= fun x => (pure [] : M (List D)) >>= fun r => pure (x :: r)) >>= callM 1 m_is_luck) >>= asB) >>= fun b => pure (!b)))))))) fun k => if k then (liftS ρ (pure D.non : M D) fun d => pure (VL.Flow.rt d)) else (pure (VL.Flow.nx ρ)))
    (fun ρ => liftS ρ ((((((rd 2 ρ) >>= fun x => (pure (D.int 1) : M D) >>= fun y => dIx x y) >>= fun x => ((rd 3 ρ) >>= fun x => (pure [] : M (List D)) >>= fun r => pure (x :: r)) >>= fun r => pure (x :: r)) >>= callM 2 m_are_things_in) >>= asB) >>= fun k => if k then ((((rd 2 ρ) >>= fun x => (pure (D.int 0) : M D) >>= fun y => dIx x y) >>= fun x => (((rd 2 ρ) >>= fun x => (pure (D.int 1) : M D) >>= fun y => dIx x y) >>= fun x => (((rd 2 ρ) >>= fun x => (pure (D.int 2) : M D) >>= fun y => dIx x y) >>= fun x => ((rd 3 ρ) >>= fun x => (pure [] : M (List D)) >>= fun r => pure (x :: r)) >>= fun r => pure (x :: r)) >>= fun r => pure (x :: r)) >>= fun r => pure (x :: r)) >>= callM 4 m_made_world) else (pure D.non : M D)) fun d => pure (VL.Flow.rt d))))
noncomputable def m_world_in : List D → M D := runF 6 f_world_in
theorem ok_world_in (T : Tp P K mg) : FnOk P w K mg base (L2.CX P w) 11 T.a_world_in T.d_world_in ["text"] (spD T.cn 1 m_world_in) :=
  fnv_ok (c := T.cn) T.F_world_in rfl sc_world_in fun cdv A outer s0 H E hr => (vb_cons (vs_set (i := 1) (lo_none rfl) (fun z => absurd rfl z) sc_world_in.nd rfl (Or.inl rfl) (ve_bm rfl PySem.F.plainAttrs_str PySem.F.slot_str_split PySem.F.type_str_split (mv_split new_frz) (vv 0 (lo_none rfl)) (vl_cons ve_str vl_nil) (fun _ _ _ p q z => pe_bm PySem.F.plainAttrs_str PySem.F.slot_str_split PySem.F.type_str_split p q z)))
    (vb_cons (vs_par (i := 2) (j := 3) ⟨(lo_none rfl), (fun z => absurd rfl z)⟩ ⟨(lo_none rfl), (fun z => absurd rfl z)⟩ (vl_cons (ve_lc fin_frz (own := [("word", 4)]) (fun i hi => ⟨lo_none rfl, fun z => absurd rfl z⟩) (by rfl) sc_world_in.nd (blkOk_by (own := [("word", 4)]) (N := N_world_in) (sc := defScope s_world_in) (by decide +kernel)) (vi_seq rfl (ve_bm rfl PySem.F.plainAttrs_str PySem.F.slot_str_split PySem.F.type_str_split (mv_split new_frz) (ve_ix rfl (vv 1 (lo_none rfl)) ve_int (fun _ _ => rfl)) (vl_cons ve_str vl_nil) (fun _ _ _ p q z => pe_bm PySem.F.plainAttrs_str PySem.F.slot_str_split PySem.F.type_str_split p q z))) (fun _ _ _ _ _ => (vg_name (i := 4) (lo_none rfl) (fun z => absurd rfl z) sc_world_in.nd rfl (Or.inl rfl))) (fun _ _ _ _ _ => vts_nil) (fun _ _ _ _ _ => (ve_call (ok_integer_in T) (hr.mono (by decide)) (by rfl) T.g_integer_in T.F_integer_in.kp T.b_integer_in takes_none5 (vl_cons (vv 4 (lo_none rfl)) vl_nil) (fun _ z => pe_callS (ok_integer_in T) (hr.mono (by decide)) (by rfl) T.g_integer_in T.F_integer_in.kp T.b_integer_in (fun σ => passAt takes_none5 σ) z))) (by decide)) (vl_cons (ve_callT (cv_tuple rfl) (by rfl) T.m_tuple (by decide +kernel) (vl_cons (ve_lc fin_frz (own := [("part", 5)]) (fun i hi => ⟨lo_none rfl, fun z => absurd rfl z⟩) (by rfl) sc_world_in.nd (blkOk_by (own := [("part", 5)]) (N := N_world_in) (sc := defScope s_world_in) (by decide +kernel)) (vi_seq rfl (ve_slice rfl (vv 1 (lo_none rfl)) (vo_some ve_int) vo_none)) (fun _ _ _ _ _ => (vg_name (i := 5) (lo_none rfl) (fun z => absurd rfl z) sc_world_in.nd rfl (Or.inl rfl))) (fun _ _ _ _ _ => vts_nil) (fun _ _ _ _ _ => (ve_call (ok_thing_in T) (hr.mono (by decide)) (by rfl) T.g_thing_in T.F_thing_in.kp T.b_thing_in takes_none5 (vl_cons (vv 5 (lo_none rfl)) vl_nil) (fun _ z => pe_callS (ok_thing_in T) (hr.mono (by decide)) (by rfl) T.g_thing_in T.F_thing_in.kp T.b_thing_in (fun σ => passAt takes_none5 σ) z))) (by decide)) vl_nil) (fun _ _ p q => pe_callTy p (by rfl) T.m_tuple (by decide +kernel) q)) vl_nil)) (fun _ z => ps_par (by rfl) sc_world_in.nd rfl rfl (by decide) rfl rfl z (by rfl)))
    (vb_cons (vs_if (vt_of (vw_or (vt_cmp (opv_ne rfl hr.units) (ve_callB (cv_len rfl) (by rfl) T.m_len (by decide +kernel) (vl_cons (vv 2 (lo_none rfl)) vl_nil) (fun _ _ p q => pe_callB p (by rfl) T.m_len (by decide +kernel) q)) (ve_glob (d := k_THING_PARTS) (by rfl) T.c_THING_PARTS T.r_THING_PARTS T.q_THING_PARTS) (nomark _)) (vw_or (vt_cmp (opv_inC rfl) ve_non (vv 2 (lo_none rfl)) (by rfl)) (vw_or (vt_cmp opv_lt (ve_callB (cv_min rfl rfl) (by rfl) T.m_min (by decide +kernel) (vl_cons (vv 2 (lo_none rfl)) vl_nil) (fun _ _ p q => pe_callB p (by rfl) T.m_min (by decide +kernel) q)) ve_int (nomark _)) (vw_or1 (vt_not (vt_val (ve_call (ok_is_luck T) (hr.mono (by decide)) (by rfl) T.g_is_luck T.F_is_luck.kp T.b_is_luck (takes_of rfl rfl rfl rfl) (vl_cons (ve_ix rfl (vv 2 (lo_none rfl)) ve_int (fun _ _ => rfl)) vl_nil) (fun _ z => pe_callS (ok_is_luck T) (hr.mono (by decide)) (by rfl) T.g_is_luck T.F_is_luck.kp T.b_is_luck (fun σ => passAt (takes_of rfl rfl rfl rfl) σ) z))))))))) (vb_one (vs_ret ve_non)) vb_nil)
    (vb_one (vs_ret (ve_if (vt_val (ve_call (ok_are_things_in T) (hr.mono (by decide)) (by rfl) T.g_are_things_in T.F_are_things_in.kp T.b_are_things_in (takes_of rfl rfl rfl rfl) (vl_cons (ve_ix rfl (vv 2 (lo_none rfl)) ve_int (fun _ _ => rfl)) (vl_cons (vv 3 (lo_none rfl)) vl_nil)) (fun _ z => pe_callS (ok_are_things_in T) (hr.mono (by decide)) (by rfl) T.g_are_things_in T.F_are_things_in.kp T.b_are_things_in (fun σ => passAt (takes_of rfl rfl rfl rfl) σ) z))) (ve_call (ok_made_world T) (hr.mono (by decide)) (by rfl) T.g_made_world T.F_made_world.kp T.b_made_world (takes_of rfl rfl rfl rfl) (vl_cons (ve_ix rfl (vv 2 (lo_none rfl)) ve_int (fun _ _ => rfl)) (vl_cons (ve_ix rfl (vv 2 (lo_none rfl)) ve_int (fun _ _ => rfl)) (vl_cons (ve_ix rfl (vv 2 (lo_none rfl)) ve_int (fun _ _ => rfl)) (vl_cons (vv 3 (lo_none rfl)) vl_nil)))) (fun _ z => pe_callS (ok_made_world T) (hr.mono (by decide)) (by rfl) T.g_made_world T.F_made_world.kp T.b_made_world (fun σ => passAt (takes_of rfl rfl rfl rfl) σ) z)) ve_non))))))
noncomputable def f_require_any_world : VL.Env → M VL.Flow := fun ρ => liftS ρ (((((rd 0 ρ) >>= fun x => ((pure (D.cls "World") : M D) >>= fun x => (pure [] : M (List D)) >>= fun r => pure (x :: r)) >>= fun r => pure (x :: r)) >>= (isiO ownL)) >>= asB) >>= fun b => pure (!b)) fun k => if k then (pure (VL.Flow.xc ρ ⟨"InvalidWorld", none⟩)) else (pure (VL.Flow.nx ρ))
noncomputable def m_require_any_world : List D → M D := runF 1 f_require_any_world
theorem ok_require_any_world (T : Tp P K mg) : FnOk P w K mg base (L2.CX P w) 1 T.a_require_any_world T.d_require_any_world ["value"] (spD T.cn 1 m_require_any_world) :=
  fnv_ok (c := T.cn) T.F_require_any_world rfl sc_require_any_world fun cdv A outer s0 H E hr => (vb_one (vs_if (vt_not (vt_val (ve_callB (cv_isiO rfl T.ownK) (by rfl) T.m_isinstance (by decide +kernel) (vl_cons (vv 0 (lo_none rfl)) (vl_cons (ve_glob (d := .cls "World") (v := .ref T.C_World) (by rfl) T.g_World rfl (by intro φ H; simp only [Rep]; rfl)) vl_nil)) (fun _ _ p q => pe_callB p (by rfl) T.m_isinstance (by decide +kernel) q)))) (vb_one (vs_raise (C := "InvalidWorld") rfl (takes_of rfl rfl rfl rfl) (pmk_own PySem.F.excBase_ValueError T.xc_InvalidWorld T.gx_InvalidWorld T.kx_InvalidWorld (raises_own T.bx_InvalidWorld T.tx_InvalidWorld) (by rfl)))) vb_nil))
noncomputable def f_known_thing : VL.Env → M VL.Flow := fun ρ => seqM (liftS ρ (((rd 0 ρ) >>= fun x => ((rd 1 ρ) >>= fun x => (pure [] : M (List D)) >>= fun r => pure (x :: r)) >>= fun r => pure (x :: r)) >>= callM 2 m_thing_at) fun d => pure (VL.Flow.nx (ρ.set 2 (some d))))
    (fun ρ => seqM (liftS ρ ((rd 2 ρ) >>= fun x => pure (isN x)) fun k => if k then (liftS ρ ((rd 1 ρ) >>= fun x => (pure [] : M (List D)) >>= fun r => pure (x :: r)) (xcF "UnknownName" "wanted" ρ)) else (pure (VL.Flow.nx ρ)))
    (fun ρ => liftS ρ (rd 2 ρ) fun d => pure (VL.Flow.rt d)))
noncomputable def m_known_thing : List D → M D := runF 3 f_known_thing
noncomputable def f_world_text : VL.Env → M VL.Flow := fun ρ => seqM (liftS ρ (((rd 0 ρ) >>= fun x => (pure [] : M (List D)) >>= fun r => pure (x :: r)) >>= callM 1 m_require_any_world) fun _ => pure (VL.Flow.nx ρ))
    (fun ρ => liftS ρ (((rd 0 ρ) >>= fun x => (pure [] : M (List D)) >>= fun r => pure (x :: r)) >>= callM 1 m_text_of_world) fun d => pure (VL.Flow.rt d))
noncomputable def m_world_text : List D → M D := runF 1 f_world_text
theorem ok_world_text (T : Tp P K mg) : FnOk P w K mg base (L2.CX P w) 3 T.a_world_text T.d_world_text ["world"] (spD T.cn 1 m_world_text) :=
  fnv_ok (c := T.cn) T.F_world_text rfl sc_world_text fun cdv A outer s0 H E hr => (vb_cons (vs_expr (ve_call (ok_require_any_world T) (hr.mono (by decide)) (by rfl) T.g_require_any_world T.F_require_any_world.kp T.b_require_any_world (takes_of rfl rfl rfl rfl) (vl_cons (vv 0 (lo_none rfl)) vl_nil) (fun _ z => pe_callS (ok_require_any_world T) (hr.mono (by decide)) (by rfl) T.g_require_any_world T.F_require_any_world.kp T.b_require_any_world (fun σ => passAt (takes_of rfl rfl rfl rfl) σ) z)))
    (vb_one (vs_ret (ve_call (ok_text_of_world T) (hr.mono (by decide)) (by rfl) T.g_text_of_world T.F_text_of_world.kp T.b_text_of_world (takes_of rfl rfl rfl rfl) (vl_cons (vv 0 (lo_none rfl)) vl_nil) (fun _ z => pe_callS (ok_text_of_world T) (hr.mono (by decide)) (by rfl) T.g_text_of_world T.F_text_of_world.kp T.b_text_of_world (fun σ => passAt (takes_of rfl rfl rfl rfl) σ) z)))))
noncomputable def f_read_world : VL.Env → M VL.Flow := fun ρ => seqM (liftS ρ (((((rd 0 ρ) >>= fun x => ((pure (D.ty "str") : M D) >>= fun x => (pure [] : M (List D)) >>= fun r => pure (x :: r)) >>= fun r => pure (x :: r)) >>= (isiO ownL)) >>= asB) >>= fun k => if k then (((rd 0 ρ) >>= fun x => (pure [] : M (List D)) >>= fun r => pure (x :: r)) >>= callM 1 m_world_in) else (pure D.non : M D)) fun d => pure (VL.Flow.nx (ρ.set 1 (some d))))
    (fun ρ => seqM (liftS ρ (tOr (((rd 1 ρ) >>= fun x => pure (isN x))) ((((((rd 1 ρ) >>= fun x => (pure [] : M (List D)) >>= fun r => pure (x :: r)) >>= callM 1 m_text_of_world) >>= fun x => (rd 0 ρ) >>= fun y => dNe x y) >>= asB))) fun k => if k then (pure (VL.Flow.xc ρ ⟨"InvalidWorld", none⟩)) else (pure (VL.Flow.nx ρ)))
    (fun ρ => liftS ρ (rd 1 ρ) fun d => pure (VL.Flow.rt d)))
noncomputable def m_read_world : List D → M D := runF 2 f_read_world
theorem ok_read_world (T : Tp P K mg) : FnOk P w K mg base (L2.CX P w) 12 T.a_read_world T.d_read_world ["text"] (spD T.cn 1 m_read_world) :=
  fnv_ok (c := T.cn) T.F_read_world rfl sc_read_world fun cdv A outer s0 H E hr => (vb_cons (vs_set (i := 1) (lo_none rfl) (fun z => absurd rfl z) sc_read_world.nd rfl (Or.inl rfl) (ve_if (vt_val (ve_callB (cv_isiO rfl T.ownK) (by rfl) T.m_isinstance (by decide +kernel) (vl_cons (vv 0 (lo_none rfl)) (vl_cons (ve_bltn (n := "str") (by rfl) T.m_str (by decide +kernel)) vl_nil)) (fun _ _ p q => pe_callB p (by rfl) T.m_isinstance (by decide +kernel) q))) (ve_call (ok_world_in T) (hr.mono (by decide)) (by rfl) T.g_world_in T.F_world_in.kp T.b_world_in (takes_of rfl rfl rfl rfl) (vl_cons (vv 0 (lo_none rfl)) vl_nil) (fun _ z => pe_callS (ok_world_in T) (hr.mono (by decide)) (by rfl) T.g_world_in T.F_world_in.kp T.b_world_in (fun σ => passAt (takes_of rfl rfl rfl rfl) σ) z)) ve_non))
    (vb_cons (vs_if (vt_of (vw_or (vt_isN (vv 1 (lo_none rfl))) (vw_or1 (vt_cmp (opv_ne rfl hr.units) (ve_call (ok_text_of_world T) (hr.mono (by decide)) (by rfl) T.g_text_of_world T.F_text_of_world.kp T.b_text_of_world (takes_of rfl rfl rfl rfl) (vl_cons (vv 1 (lo_none rfl)) vl_nil) (fun _ z => pe_callS (ok_text_of_world T) (hr.mono (by decide)) (by rfl) T.g_text_of_world T.F_text_of_world.kp T.b_text_of_world (fun σ => passAt (takes_of rfl rfl rfl rfl) σ) z)) (vv 0 (lo_none rfl)) (nomark _))))) (vb_one (vs_raise (C := "InvalidWorld") rfl (takes_of rfl rfl rfl rfl) (pmk_own PySem.F.excBase_ValueError T.xc_InvalidWorld T.gx_InvalidWorld T.kx_InvalidWorld (raises_own T.bx_InvalidWorld T.tx_InvalidWorld) (by rfl)))) vb_nil)
    (vb_one (vs_ret (vv 1 (lo_none rfl))))))
noncomputable def f_l_dice : VL.Env → M VL.Flow := fun ρ => seqM (liftS ρ ((((rd 1 ρ) >>= fun x => (((rd 0 ρ) >>= fun x => (pure [] : M (List D)) >>= fun r => pure (x :: r)) >>= lenD) >>= fun y => dLt x y) >>= asB) >>= fun k => if k then ((((rd 0 ρ) >>= fun x => (rd 1 ρ) >>= fun y => dIx x y) >>= fun x => (pure [] : M (List D)) >>= fun r => pure (x :: r)) >>= intD) else (((pure (D.int 89) : M D) >>= fun x => (rd 1 ρ) >>= fun y => dMul x y) >>= fun x => (pure (D.int 53) : M D) >>= fun y => dAdd x y)) fun d => pure (VL.Flow.nx (ρ.set 2 (some d))))
    (fun ρ => seqM (liftS ρ ((((pure (D.int 0) : M D) >>= fun x => (((((rd 2 ρ) >>= fun x => (pure [] : M (List D)) >>= fun r => pure (x :: r)) >>= absD) >>= fun x => ((pure (D.int 10) : M D) >>= fun x => (pure (D.int 17) : M D) >>= fun y => dPow x y) >>= fun y => dSub x y) >>= fun x => (pure [] : M (List D)) >>= fun r => pure (x :: r)) >>= fun r => pure (x :: r)) >>= maxD) >>= fun x => (((pure (D.int 10) : M D) >>= fun x => (pure (D.int 57) : M D) >>= fun y => dPow x y) >>= fun x => ((pure (D.int 10) : M D) >>= fun x => (pure (D.int 60) : M D) >>= fun y => dPow x y) >>= fun y => dMul x y) >>= fun y => dMod x y) fun d => pure (VL.Flow.nx (ρ.set 3 (some d))))
    (fun ρ => liftS ρ (((rd 3 ρ) >>= fun x => (((((((((rd 2 ρ) >>= fun x => (pure [] : M (List D)) >>= fun r => pure (x :: r)) >>= absD) >>= fun x => (pure (D.int 1152921504606846817) : M D) >>= fun y => dMod x y) >>= fun x => (pure (D.int 83) : M D) >>= fun y => dMul x y) >>= fun x => ((pure (D.int 1009) : M D) >>= fun x => (rd 1 ρ) >>= fun y => dMul x y) >>= fun y => dAdd x y) >>= fun x => ((pure (D.int 43) : M D) >>= fun x => ((((rd 2 ρ) >>= fun x => (pure (D.int 0) : M D) >>= fun y => dLt x y) >>= fun x => (pure [] : M (List D)) >>= fun r => pure (x :: r)) >>= intD) >>= fun y => dMul x y) >>= fun y => dAdd x y) >>= fun x => (pure (D.int 29) : M D) >>= fun y => dAdd x y) >>= fun x => ((pure (D.int 0) : M D) >>= fun x => (pure [] : M (List D)) >>= fun r => pure (x :: r)) >>= fun r => pure (x :: r)) >>= fun r => pure (x :: r)) >>= mkNew) fun d => pure (VL.Flow.rt d)))
noncomputable def m_l_dice : List D → M D := runF 4 f_l_dice
theorem ok_l_dice (T : Tp P K mg) : FnOk P w K mg base (L2.CX P w) 1 T.a_l_dice T.d_l_dice ["_law_script", "_law_spot"] (spD T.cn 2 m_l_dice) :=
  fnv_ok (c := T.cn) T.F_l_dice rfl sc_l_dice fun cdv A outer s0 H E hr => (vb_cons (vs_set (i := 2) (lo_none rfl) (fun z => absurd rfl z) sc_l_dice.nd rfl (Or.inl rfl) (ve_if (vt_cmp opv_lt (vv 1 (lo_none rfl)) (ve_callB (cv_len rfl) (by rfl) T.m_len (by decide +kernel) (vl_cons (vv 0 (lo_none rfl)) vl_nil) (fun _ _ p q => pe_callB p (by rfl) T.m_len (by decide +kernel) q)) (nomark _)) (ve_callT cv_int (by rfl) T.m_int (by decide +kernel) (vl_cons (ve_ix rfl (vv 0 (lo_none rfl)) (vv 1 (lo_none rfl)) (fun _ _ => rfl)) vl_nil) (fun _ _ p q => pe_callTy p (by rfl) T.m_int (by decide +kernel) q)) (ve_op (opv_add rfl) (ve_op opv_mul ve_int (vv 1 (lo_none rfl))) ve_int)))
    (vb_cons (vs_set (i := 3) (lo_none rfl) (fun z => absurd rfl z) sc_l_dice.nd rfl (Or.inl rfl) (ve_op opv_mod (ve_callB (cv_max rfl rfl) (by rfl) T.m_max (by decide +kernel) (vl_cons ve_int (vl_cons (ve_op opv_sub (ve_callB cv_abs (by rfl) T.m_abs (by decide +kernel) (vl_cons (vv 2 (lo_none rfl)) vl_nil) (fun _ _ p q => pe_callB p (by rfl) T.m_abs (by decide +kernel) q)) (ve_op opv_pow ve_int ve_int)) vl_nil)) (fun _ _ p q => pe_callB p (by rfl) T.m_max (by decide +kernel) q)) (ve_op opv_mul (ve_op opv_pow ve_int ve_int) (ve_op opv_pow ve_int ve_int))))
    (vb_one (vs_ret (ve_lstM (vl_cons (vv 3 (lo_none rfl)) (vl_cons (ve_op (opv_add rfl) (ve_op (opv_add rfl) (ve_op (opv_add rfl) (ve_op opv_mul (ve_op opv_mod (ve_callB cv_abs (by rfl) T.m_abs (by decide +kernel) (vl_cons (vv 2 (lo_none rfl)) vl_nil) (fun _ _ p q => pe_callB p (by rfl) T.m_abs (by decide +kernel) q)) ve_int) ve_int) (ve_op opv_mul ve_int (vv 1 (lo_none rfl)))) (ve_op opv_mul ve_int (ve_callT cv_int (by rfl) T.m_int (by decide +kernel) (vl_cons (ve_cmp opv_lt (vv 2 (lo_none rfl)) ve_int (nomark _)) vl_nil) (fun _ _ p q => pe_callTy p (by rfl) T.m_int (by decide +kernel) q)))) ve_int) (vl_cons ve_int vl_nil))))))))
noncomputable def f_l_roll : VL.Env → M VL.Flow := fun ρ => seqM (liftS ρ ((((rd 0 ρ) >>= fun x => (pure (D.int 0) : M D) >>= fun y => dIx x y) >>= fun x => (pure (D.int 0) : M D) >>= fun y => dGt x y) >>= asB) fun k => if k then (seqM (liftS ρ (((((rd 0 ρ) >>= fun x => (pure (D.int 0) : M D) >>= fun y => dIx x y) >>= fun x => (pure [] : M (List D)) >>= fun r => pure (x :: r)) >>= intD) >>= fun x => (rd 1 ρ) >>= fun y => dMod x y) fun d => pure (VL.Flow.nx (ρ.set 4 (some d))))
    (fun ρ => seqM (liftS ρ (((rd 0 ρ) >>= fun x => (pure (D.int 0) : M D) >>= fun y => dIx x y) >>= fun x => (rd 1 ρ) >>= fun y => dDiv x y) fun d => liftT ((gIx (fun ρ => (rd 0 ρ)) (fun ρ => (pure (D.int 0) : M D))) d ρ) fun ρ1 => pure (VL.Flow.nx ρ1))
    (fun ρ => liftS ρ (rd 4 ρ) fun d => pure (VL.Flow.rt d)))) else (pure (VL.Flow.nx ρ)))
    (fun ρ => seqM (liftS ρ (((rd 0 ρ) >>= fun x => (pure (D.int 2) : M D) >>= fun y => dIx x y) >>= fun x => (pure (D.int 1) : M D) >>= fun y => dAdd x y) fun d => liftT ((gIx (fun ρ => (rd 0 ρ)) (fun ρ => (pure (D.int 2) : M D))) d ρ) fun ρ1 => pure (VL.Flow.nx ρ1))
    (fun ρ => seqM (liftS ρ ((((((rd 0 ρ) >>= fun x => (pure (D.int 1) : M D) >>= fun y => dIx x y) >>= fun x => ((pure (D.int 67867979) : M D) >>= fun x => ((rd 0 ρ) >>= fun x => (pure (D.int 2) : M D) >>= fun y => dIx x y) >>= fun y => dMul x y) >>= fun y => dAdd x y) >>= fun x => (pure [] : M (List D)) >>= fun r => pure (x :: r)) >>= intD) >>= fun x => (pure (D.int 2305843009213693723) : M D) >>= fun y => dMod x y) fun d => pure (VL.Flow.nx (ρ.set 2 (some d))))
    (fun ρ => seqM (liftS ρ ((((((((rd 2 ρ) >>= fun x => (rd 2 ρ) >>= fun y => dMul x y) >>= fun x => ((pure (D.int 113) : M D) >>= fun x => ((rd 0 ρ) >>= fun x => (pure (D.int 2) : M D) >>= fun y => dIx x y) >>= fun y => dMul x y) >>= fun y => dAdd x y) >>= fun x => (pure [] : M (List D)) >>= fun r => pure (x :: r)) >>= intD) >>= fun x => (pure (D.int 2305843009213693487) : M D) >>= fun y => dMod x y) >>= fun x => (pure (D.int 6700417) : M D) >>= fun y => dMul x y) >>= fun x => (rd 2 ρ) >>= fun y => dAdd x y) fun d => pure (VL.Flow.nx (ρ.set 3 (some d))))
    (fun ρ => liftS ρ (((((rd 3 ρ) >>= fun x => (pure (D.int 65537) : M D) >>= fun y => dDiv x y) >>= fun x => (pure [] : M (List D)) >>= fun r => pure (x :: r)) >>= intD) >>= fun x => (rd 1 ρ) >>= fun y => dMod x y) fun d => pure (VL.Flow.rt d)))))
noncomputable def m_l_roll : List D → M D := runF 5 f_l_roll
theorem ok_l_roll (T : Tp P K mg) : FnOk P w K mg base (L2.CX P w) 1 T.a_l_roll T.d_l_roll ["_law_dice_here", "_law_total"] (spD T.cn 2 m_l_roll) :=
  fnv_ok (c := T.cn) T.F_l_roll rfl sc_l_roll fun cdv A outer s0 H E hr => (vb_cons (vs_if (vt_cmp opv_gt (ve_ix rfl (vv 0 (lo_none rfl)) ve_int (fun _ _ => rfl)) ve_int (nomark _)) (vb_cons (vs_set (i := 4) (lo_none rfl) (fun z => absurd rfl z) sc_l_roll.nd rfl (Or.inl rfl) (ve_op opv_mod (ve_callT cv_int (by rfl) T.m_int (by decide +kernel) (vl_cons (ve_ix rfl (vv 0 (lo_none rfl)) ve_int (fun _ _ => rfl)) vl_nil) (fun _ _ p q => pe_callTy p (by rfl) T.m_int (by decide +kernel) q)) (vv 1 (lo_none rfl))))
    (vb_cons (vs_asg (ve_op opv_div (ve_ix rfl (vv 0 (lo_none rfl)) ve_int (fun _ _ => rfl)) (vv 1 (lo_none rfl))) (vg_ix rfl (vv 0 (lo_none rfl)) ve_int (fun _ _ z y => pg_sub z y set_list)))
    (vb_one (vs_ret (vv 4 (lo_none rfl)))))) vb_nil)
    (vb_cons (vs_asg (ve_op (opv_add rfl) (ve_ix rfl (vv 0 (lo_none rfl)) ve_int (fun _ _ => rfl)) ve_int) (vg_ix rfl (vv 0 (lo_none rfl)) ve_int (fun _ _ z y => pg_sub z y set_list)))
    (vb_cons (vs_set (i := 2) (lo_none rfl) (fun z => absurd rfl z) sc_l_roll.nd rfl (Or.inl rfl) (ve_op opv_mod (ve_callT cv_int (by rfl) T.m_int (by decide +kernel) (vl_cons (ve_op (opv_add rfl) (ve_ix rfl (vv 0 (lo_none rfl)) ve_int (fun _ _ => rfl)) (ve_op opv_mul ve_int (ve_ix rfl (vv 0 (lo_none rfl)) ve_int (fun _ _ => rfl)))) vl_nil) (fun _ _ p q => pe_callTy p (by rfl) T.m_int (by decide +kernel) q)) ve_int))
    (vb_cons (vs_set (i := 3) (lo_none rfl) (fun z => absurd rfl z) sc_l_roll.nd rfl (Or.inl rfl) (ve_op (opv_add rfl) (ve_op opv_mul (ve_op opv_mod (ve_callT cv_int (by rfl) T.m_int (by decide +kernel) (vl_cons (ve_op (opv_add rfl) (ve_op opv_mul (vv 2 (lo_none rfl)) (vv 2 (lo_none rfl))) (ve_op opv_mul ve_int (ve_ix rfl (vv 0 (lo_none rfl)) ve_int (fun _ _ => rfl)))) vl_nil) (fun _ _ p q => pe_callTy p (by rfl) T.m_int (by decide +kernel) q)) ve_int) ve_int) (vv 2 (lo_none rfl))))
    (vb_one (vs_ret (ve_op opv_mod (ve_callT cv_int (by rfl) T.m_int (by decide +kernel) (vl_cons (ve_op opv_div (vv 3 (lo_none rfl)) ve_int) vl_nil) (fun _ _ p q => pe_callTy p (by rfl) T.m_int (by decide +kernel) q)) (vv 1 (lo_none rfl)))))))))
noncomputable def f_l_pick : VL.Env → M VL.Flow := fun ρ => liftS ρ ((rd 1 ρ) >>= fun x => (((rd 0 ρ) >>= fun x => ((((rd 1 ρ) >>= fun x => (pure [] : M (List D)) >>= fun r => pure (x :: r)) >>= lenD) >>= fun x => (pure [] : M (List D)) >>= fun r => pure (x :: r)) >>= fun r => pure (x :: r)) >>= callM 2 m_l_roll) >>= fun y => dIx x y) fun d => pure (VL.Flow.rt d)
noncomputable def m_l_pick : List D → M D := runF 2 f_l_pick
theorem ok_l_pick (T : Tp P K mg) : FnOk P w K mg base (L2.CX P w) 2 T.a_l_pick T.d_l_pick ["_law_dice_here", "_law_items"] (spD T.cn 2 m_l_pick) :=
  fnv_ok (c := T.cn) T.F_l_pick rfl sc_l_pick fun cdv A outer s0 H E hr => (vb_one (vs_ret (ve_ix rfl (vv 1 (lo_none rfl)) (ve_call (ok_l_roll T) (hr.mono (by decide)) (by rfl) T.g_l_roll T.F_l_roll.kp T.b_l_roll (takes_of rfl rfl rfl rfl) (vl_cons (vv 0 (lo_none rfl)) (vl_cons (ve_callB (cv_len rfl) (by rfl) T.m_len (by decide +kernel) (vl_cons (vv 1 (lo_none rfl)) vl_nil) (fun _ _ p q => pe_callB p (by rfl) T.m_len (by decide +kernel) q)) vl_nil)) (fun _ z => pe_callS (ok_l_roll T) (hr.mono (by decide)) (by rfl) T.g_l_roll T.F_l_roll.kp T.b_l_roll (fun σ => passAt (takes_of rfl rfl rfl rfl) σ) z)) (fun _ _ => rfl))))
noncomputable def f_l_near : VL.Env → M VL.Flow := fun ρ => liftS ρ ((((rd 0 ρ) >>= fun x => ((((pure (D.int 2) : M D) >>= fun x => (rd 1 ρ) >>= fun y => dMul x y) >>= fun x => (pure (D.int 1) : M D) >>= fun y => dAdd x y) >>= fun x => (pure [] : M (List D)) >>= fun r => pure (x :: r)) >>= fun r => pure (x :: r)) >>= callM 2 m_l_roll) >>= fun x => (rd 1 ρ) >>= fun y => dSub x y) fun d => pure (VL.Flow.rt d)
noncomputable def m_l_near : List D → M D := runF 2 f_l_near
theorem ok_l_near (T : Tp P K mg) : FnOk P w K mg base (L2.CX P w) 2 T.a_l_near T.d_l_near ["_law_dice_here", "_law_most"] (spD T.cn 2 m_l_near) :=
  fnv_ok (c := T.cn) T.F_l_near rfl sc_l_near fun cdv A outer s0 H E hr => (vb_one (vs_ret (ve_op opv_sub (ve_call (ok_l_roll T) (hr.mono (by decide)) (by rfl) T.g_l_roll T.F_l_roll.kp T.b_l_roll (takes_of rfl rfl rfl rfl) (vl_cons (vv 0 (lo_none rfl)) (vl_cons (ve_op (opv_add rfl) (ve_op opv_mul ve_int (vv 1 (lo_none rfl))) ve_int) vl_nil)) (fun _ z => pe_callS (ok_l_roll T) (hr.mono (by decide)) (by rfl) T.g_l_roll T.F_l_roll.kp T.b_l_roll (fun σ => passAt (takes_of rfl rfl rfl rfl) σ) z)) (vv 1 (lo_none rfl)))))
noncomputable def f_l_wd_plain : VL.Env → M VL.Flow := fun ρ => liftS ρ ((((rd 0 ρ) >>= fun x => isI "World" x >>= fun _ => noX (m_World_tick [x])) >>= fun x => (((rd 0 ρ) >>= fun x => isI "World" x >>= fun _ => noX (m_World_next_id [x])) >>= fun x => (((rd 0 ρ) >>= fun x => isI "World" x >>= fun _ => noX (m_World_luck [x])) >>= fun x => (((rd 0 ρ) >>= fun x => isI "World" x >>= fun _ => noX (m_World_things [x])) >>= fun x => (pure [] : M (List D)) >>= fun r => pure (x :: r)) >>= fun r => pure (x :: r)) >>= fun r => pure (x :: r)) >>= fun r => pure (x :: r)) >>= mkTup) fun d => pure (VL.Flow.rt d)
noncomputable def m_l_wd_plain : List D → M D := runF 1 f_l_wd_plain
theorem ok_l_wd_plain (T : Tp P K mg) : FnOk P w K mg base (L2.CX P w) 3 T.a_l_wd_plain T.d_l_wd_plain ["_law_world"] (spD T.cn 1 m_l_wd_plain) :=
  fnv_ok (c := T.cn) T.F_l_wd_plain rfl sc_l_wd_plain fun cdv A outer s0 H E hr => (vb_one (vs_ret (ve_tup (vl_cons (ve_prop (C := "World") rfl (vv 0 (lo_none rfl)) T.cl_World T.p_World_tick.at_ T.p_World_tick.get T.p_World_tick.tak T.p_World_tick.rec_ (ok_World_tick T) T.b_World_tick (hr.mono (by decide))) (vl_cons (ve_prop (C := "World") rfl (vv 0 (lo_none rfl)) T.cl_World T.p_World_next_id.at_ T.p_World_next_id.get T.p_World_next_id.tak T.p_World_next_id.rec_ (ok_World_next_id T) T.b_World_next_id (hr.mono (by decide))) (vl_cons (ve_prop (C := "World") rfl (vv 0 (lo_none rfl)) T.cl_World T.p_World_luck.at_ T.p_World_luck.get T.p_World_luck.tak T.p_World_luck.rec_ (ok_World_luck T) T.b_World_luck (hr.mono (by decide))) (vl_cons (ve_prop (C := "World") rfl (vv 0 (lo_none rfl)) T.cl_World T.p_World_things.at_ T.p_World_things.get T.p_World_things.tak T.p_World_things.rec_ (ok_World_things T) T.b_World_things (hr.mono (by decide))) vl_nil)))))))
noncomputable def f_l_world_drawn : VL.Env → M VL.Flow := fun ρ => seqM (liftS ρ (((pure [] : M (List D)) >>= mkNew) >>= fun x => ((pure (D.int 0) : M D) >>= fun x => (pure [] : M (List D)) >>= fun r => pure (x :: r)) >>= fun r => pure (x :: r)) fun ds => set2 ρ 1 2 ds)
    (fun ρ => seqM (liftS ρ (((((rd 0 ρ) >>= fun x => ((((pure (D.int 0) : M D) >>= fun x => ((pure (D.int 1) : M D) >>= fun x => ((pure (D.int 2) : M D) >>= fun x => ((pure (D.int 4) : M D) >>= fun x => ((pure (D.int 12) : M D) >>= fun x => (pure [] : M (List D)) >>= fun r => pure (x :: r)) >>= fun r => pure (x :: r)) >>= fun r => pure (x :: r)) >>= fun r => pure (x :: r)) >>= fun r => pure (x :: r)) >>= mkLst) >>= fun x => (pure [] : M (List D)) >>= fun r => pure (x :: r)) >>= fun r => pure (x :: r)) >>= callM 2 m_l_pick) >>= fun x => (pure [] : M (List D)) >>= fun r => pure (x :: r)) >>= rng1) fun it => loopI it (gN 3) (fun ρ => seqM (liftS ρ ((rd 2 ρ) >>= fun x => (((rd 0 ρ) >>= fun x => ((((rd 0 ρ) >>= fun x => ((((pure (D.int 1) : M D) >>= fun x => ((pure (D.int 1) : M D) >>= fun x => ((pure (D.int 3) : M D) >>= fun x => (((pure (D.int 10) : M D) >>= fun x => (pure (D.int 30) : M D) >>= fun y => dPow x y) >>= fun x => (pure [] : M (List D)) >>= fun r => pure (x :: r)) >>= fun r => pure (x :: r)) >>= fun r => pure (x :: r)) >>= fun r => pure (x :: r)) >>= mkLst) >>= fun x => (pure [] : M (List D)) >>= fun r => pure (x :: r)) >>= fun r => pure (x :: r)) >>= callM 2 m_l_pick) >>= fun x => (pure [] : M (List D)) >>= fun r => pure (x :: r)) >>= fun r => pure (x :: r)) >>= callM 2 m_l_roll) >>= fun y => dAdd x y) fun d => pure (VL.Flow.nx (ρ.set 5 (some d))))
    (fun ρ => seqM (liftS ρ (((((pure (D.int 1) : M D) >>= fun x => (((rd 0 ρ) >>= fun x => ((pure (D.int 8) : M D) >>= fun x => (pure [] : M (List D)) >>= fun r => pure (x :: r)) >>= fun r => pure (x :: r)) >>= callM 2 m_l_roll) >>= fun y => dAdd x y) >>= fun x => (pure [] : M (List D)) >>= fun r => pure (x :: r)) >>= rng1) >>= fun it => ask (small it.items.length) >>= fun _ => loopC it (gN 7) (fun _ => pure true) (fun ρ => (((rd 0 ρ) >>= fun x => ((((pure (D.int 0) : M D) >>= fun x => ((pure (D.int 1) : M D) >>= fun x => (((pure (D.int 1) : M D) >>= negD) >>= fun x => (((pure (D.int 10) : M D) >>= fun x => (pure (D.int 9) : M D) >>= fun y => dPow x y) >>= fun x => ((((pure (D.int 10) : M D) >>= fun x => (pure (D.int 9) : M D) >>= fun y => dPow x y) >>= negD) >>= fun x => ((((rd 0 ρ) >>= fun x => ((pure (D.int 99) : M D) >>= fun x => (pure [] : M (List D)) >>= fun r => pure (x :: r)) >>= fun r => pure (x :: r)) >>= callM 2 m_l_near) >>= fun x => (pure [] : M (List D)) >>= fun r => pure (x :: r)) >>= fun r => pure (x :: r)) >>= fun r => pure (x :: r)) >>= fun r => pure (x :: r)) >>= fun r => pure (x :: r)) >>= fun r => pure (x :: r)) >>= mkLst) >>= fun x => (pure [] : M (List D)) >>= fun r => pure (x :: r)) >>= fun r => pure (x :: r)) >>= callM 2 m_l_pick)) (wipeE ρ [7]) it.items [] >>= frzL) fun d => pure (VL.Flow.nx (ρ.set 6 (some d))))
    (fun ρ => seqM (liftS ρ ((rd 1 ρ) >>= fun x => tyM "list" x >>= fun _ => ((((rd 5 ρ) >>= fun x => ((((rd 0 ρ) >>= fun x => ((((pure (D.str "hero") : M D) >>= fun x => ((pure (D.str "a") : M D) >>= fun x => ((pure (D.str "zzzzzzzz") : M D) >>= fun x => ((pure (D.str "ab") : M D) >>= fun x => (pure [] : M (List D)) >>= fun r => pure (x :: r)) >>= fun r => pure (x :: r)) >>= fun r => pure (x :: r)) >>= fun r => pure (x :: r)) >>= mkLst) >>= fun x => (pure [] : M (List D)) >>= fun r => pure (x :: r)) >>= fun r => pure (x :: r)) >>= callM 2 m_l_pick) >>= fun x => ((((rd 6 ρ) >>= fun x => (pure [] : M (List D)) >>= fun r => pure (x :: r)) >>= tupleD) >>= fun x => (pure [] : M (List D)) >>= fun r => pure (x :: r)) >>= fun r => pure (x :: r)) >>= fun r => pure (x :: r)) >>= mkTup) >>= fun x => (pure [] : M (List D)) >>= fun r => pure (x :: r)) >>= fun xs => appM x xs) fun _ => pure (VL.Flow.nx ρ))
    (fun ρ => liftS ρ ((rd 5 ρ) >>= fun x => (pure (D.int 1) : M D) >>= fun y => dAdd x y) fun d => pure (VL.Flow.nx (ρ.set 2 (some d))))))) it.items ρ)
    (fun ρ => seqM (liftS ρ (((rd 0 ρ) >>= fun x => ((((pure (D.int 0) : M D) >>= fun x => ((pure (D.int 7) : M D) >>= fun x => ((((rd 0 ρ) >>= fun x => ((pure (D.int 1000) : M D) >>= fun x => (pure [] : M (List D)) >>= fun r => pure (x :: r)) >>= fun r => pure (x :: r)) >>= callM 2 m_l_roll) >>= fun x => ((((pure (D.int 10) : M D) >>= fun x => (pure (D.int 59) : M D) >>= fun y => dPow x y) >>= fun x => (pure (D.int 1) : M D) >>= fun y => dAdd x y) >>= fun x => (pure [] : M (List D)) >>= fun r => pure (x :: r)) >>= fun r => pure (x :: r)) >>= fun r => pure (x :: r)) >>= fun r => pure (x :: r)) >>= mkLst) >>= fun x => (pure [] : M (List D)) >>= fun r => pure (x :: r)) >>= fun r => pure (x :: r)) >>= callM 2 m_l_pick) fun d => pure (VL.Flow.nx (ρ.set 4 (some d))))
    (fun ρ => liftS ρ (((rd 4 ρ) >>= fun x => (((rd 2 ρ) >>= fun x => (((rd 0 ρ) >>= fun x => ((pure (D.int 3) : M D) >>= fun x => (pure [] : M (List D)) >>= fun r => pure (x :: r)) >>= fun r => pure (x :: r)) >>= callM 2 m_l_roll) >>= fun y => dAdd x y) >>= fun x => ((((rd 0 ρ) >>= fun x => ((((pure (D.int 0) : M D) >>= fun x => ((pure (D.int 10) : M D) >>= fun x => ((pure (D.int 999999936) : M D) >>= fun x => ((((rd 0 ρ) >>= fun x => ((pure (D.int 999999937) : M D) >>= fun x => (pure [] : M (List D)) >>= fun r => pure (x :: r)) >>= fun r => pure (x :: r)) >>= callM 2 m_l_roll) >>= fun x => (pure [] : M (List D)) >>= fun r => pure (x :: r)) >>= fun r => pure (x :: r)) >>= fun r => pure (x :: r)) >>= fun r => pure (x :: r)) >>= mkLst) >>= fun x => (pure [] : M (List D)) >>= fun r => pure (x :: r)) >>= fun r => pure (x :: r)) >>= callM 2 m_l_pick) >>= fun x => ((((rd 1 ρ) >>= fun x => (pure [] : M (List D)) >>= fun r => pure (x :: r)) >>= tupleD) >>= fun x => (pure [] : M (List D)) >>= fun r => pure (x :: r)) >>= fun r => pure (x :: r)) >>= fun r => pure (x :: r)) >>= fun r => pure (x :: r)) >>= mkTup) fun d => pure (VL.Flow.rt d))))
noncomputable def m_l_world_drawn : List D → M D := runF 8 f_l_world_drawn
theorem ok_l_world_drawn (T : Tp P K mg) : FnOk P w K mg base (L2.CX P w) 3 T.a_l_world_drawn T.d_l_world_drawn ["_law_dice_here"] (spD T.cn 1 m_l_world_drawn) :=
  fnv_ok (c := T.cn) T.F_l_world_drawn rfl sc_l_world_drawn fun cdv A outer s0 H E hr => (vb_cons (vs_par (i := 1) (j := 2) ⟨(lo_none rfl), (fun z => absurd rfl z)⟩ ⟨(lo_none rfl), (fun z => absurd rfl z)⟩ (vl_cons (ve_lstM vl_nil) (vl_cons ve_int vl_nil)) (fun _ z => ps_par (by rfl) sc_l_world_drawn.nd rfl rfl (by decide) rfl rfl z (by rfl)))
    (vb_cons (vs_for (vi_range1 (by rfl) T.m_range (vl_cons (ve_call (ok_l_pick T) (hr.mono (by decide)) (by rfl) T.g_l_pick T.F_l_pick.kp T.b_l_pick (takes_of rfl rfl rfl rfl) (vl_cons (vv 0 (lo_none rfl)) (vl_cons (ve_lst (vl_cons ve_int (vl_cons ve_int (vl_cons ve_int (vl_cons ve_int (vl_cons ve_int vl_nil)))))) vl_nil)) (fun _ z => pe_callS (ok_l_pick T) (hr.mono (by decide)) (by rfl) T.g_l_pick T.F_l_pick.kp T.b_l_pick (fun σ => passAt (takes_of rfl rfl rfl rfl) σ) z)) vl_nil)) (vg_name (i := 3) (lo_none rfl) (fun z => absurd rfl z) sc_l_world_drawn.nd rfl (Or.inl rfl)) (vb_cons (vs_set (i := 5) (lo_none rfl) (fun z => absurd rfl z) sc_l_world_drawn.nd rfl (Or.inl rfl) (ve_op (opv_add rfl) (vv 2 (lo_none rfl)) (ve_call (ok_l_roll T) (hr.mono (by decide)) (by rfl) T.g_l_roll T.F_l_roll.kp T.b_l_roll (takes_of rfl rfl rfl rfl) (vl_cons (vv 0 (lo_none rfl)) (vl_cons (ve_call (ok_l_pick T) (hr.mono (by decide)) (by rfl) T.g_l_pick T.F_l_pick.kp T.b_l_pick (takes_of rfl rfl rfl rfl) (vl_cons (vv 0 (lo_none rfl)) (vl_cons (ve_lst (vl_cons ve_int (vl_cons ve_int (vl_cons ve_int (vl_cons (ve_op opv_pow ve_int ve_int) vl_nil))))) vl_nil)) (fun _ z => pe_callS (ok_l_pick T) (hr.mono (by decide)) (by rfl) T.g_l_pick T.F_l_pick.kp T.b_l_pick (fun σ => passAt (takes_of rfl rfl rfl rfl) σ) z)) vl_nil)) (fun _ z => pe_callS (ok_l_roll T) (hr.mono (by decide)) (by rfl) T.g_l_roll T.F_l_roll.kp T.b_l_roll (fun σ => passAt (takes_of rfl rfl rfl rfl) σ) z))))
    (vb_cons (vs_setLc (i := 6) fin_frz (own := [("_law_spot", 7)]) (lo_none rfl) (fun z => absurd rfl z) (fun i hi => ⟨lo_none rfl, fun z => absurd rfl z⟩) (by rfl) sc_l_world_drawn.nd rfl rfl (sw_true rfl rfl rfl (by decide +kernel)) (blkOk_by (own := [("_law_spot", 7)]) (N := N_l_world_drawn) (sc := defScope s_l_world_drawn) (by decide +kernel)) (vi_range1 (by rfl) T.m_range (vl_cons (ve_op (opv_add rfl) ve_int (ve_call (ok_l_roll T) (hr.mono (by decide)) (by rfl) T.g_l_roll T.F_l_roll.kp T.b_l_roll (takes_of rfl rfl rfl rfl) (vl_cons (vv 0 (lo_none rfl)) (vl_cons ve_int vl_nil)) (fun _ z => pe_callS (ok_l_roll T) (hr.mono (by decide)) (by rfl) T.g_l_roll T.F_l_roll.kp T.b_l_roll (fun σ => passAt (takes_of rfl rfl rfl rfl) σ) z))) vl_nil)) (fun _ _ _ _ _ => (vg_name (i := 7) (lo_none rfl) (fun z => absurd rfl z) sc_l_world_drawn.nd rfl (Or.inl rfl))) (fun _ _ _ _ _ => vts_nil) (fun _ _ _ _ _ => (ve_call (ok_l_pick T) (hr.mono (by decide)) (by rfl) T.g_l_pick T.F_l_pick.kp T.b_l_pick takes_none5 (vl_cons (vv 0 (lo_none rfl)) (vl_cons (ve_lst (vl_cons ve_int (vl_cons ve_int (vl_cons (ve_neg ve_int) (vl_cons (ve_op opv_pow ve_int ve_int) (vl_cons (ve_neg (ve_op opv_pow ve_int ve_int)) (vl_cons (ve_call (ok_l_near T) (hr.mono (by decide)) (by rfl) T.g_l_near T.F_l_near.kp T.b_l_near takes_none5 (vl_cons (vv 0 (lo_none rfl)) (vl_cons ve_int vl_nil)) (fun _ z => pe_callS (ok_l_near T) (hr.mono (by decide)) (by rfl) T.g_l_near T.F_l_near.kp T.b_l_near (fun σ => passAt takes_none5 σ) z)) vl_nil))))))) vl_nil)) (fun _ z => pe_callS (ok_l_pick T) (hr.mono (by decide)) (by rfl) T.g_l_pick T.F_l_pick.kp T.b_l_pick (fun σ => passAt takes_none5 σ) z))) (by decide))
    (vb_cons (vs_expr (ve_bm rfl PySem.F.plainAttrs_list PySem.F.slot_list_append PySem.F.type_list_append mv_append (vv 1 (lo_none rfl)) (vl_cons (ve_tup (vl_cons (vv 5 (lo_none rfl)) (vl_cons (ve_call (ok_l_pick T) (hr.mono (by decide)) (by rfl) T.g_l_pick T.F_l_pick.kp T.b_l_pick (takes_of rfl rfl rfl rfl) (vl_cons (vv 0 (lo_none rfl)) (vl_cons (ve_lst (vl_cons ve_str (vl_cons ve_str (vl_cons ve_str (vl_cons ve_str vl_nil))))) vl_nil)) (fun _ z => pe_callS (ok_l_pick T) (hr.mono (by decide)) (by rfl) T.g_l_pick T.F_l_pick.kp T.b_l_pick (fun σ => passAt (takes_of rfl rfl rfl rfl) σ) z)) (vl_cons (ve_callT (cv_tuple rfl) (by rfl) T.m_tuple (by decide +kernel) (vl_cons (vv 6 (lo_none rfl)) vl_nil) (fun _ _ p q => pe_callTy p (by rfl) T.m_tuple (by decide +kernel) q)) vl_nil)))) vl_nil) (fun _ _ _ p q z => pe_bm PySem.F.plainAttrs_list PySem.F.slot_list_append PySem.F.type_list_append p q z)))
    (vb_one (vs_set (i := 2) (lo_none rfl) (fun z => absurd rfl z) sc_l_world_drawn.nd rfl (Or.inl rfl) (ve_op (opv_add rfl) (vv 5 (lo_none rfl)) ve_int)))))) (fun _ _ _ p q r => ps_for (passes_of rfl) rfl p q r))
    (vb_cons (vs_set (i := 4) (lo_none rfl) (fun z => absurd rfl z) sc_l_world_drawn.nd rfl (Or.inl rfl) (ve_call (ok_l_pick T) (hr.mono (by decide)) (by rfl) T.g_l_pick T.F_l_pick.kp T.b_l_pick (takes_of rfl rfl rfl rfl) (vl_cons (vv 0 (lo_none rfl)) (vl_cons (ve_lst (vl_cons ve_int (vl_cons ve_int (vl_cons (ve_call (ok_l_roll T) (hr.mono (by decide)) (by rfl) T.g_l_roll T.F_l_roll.kp T.b_l_roll (takes_of rfl rfl rfl rfl) (vl_cons (vv 0 (lo_none rfl)) (vl_cons ve_int vl_nil)) (fun _ z => pe_callS (ok_l_roll T) (hr.mono (by decide)) (by rfl) T.g_l_roll T.F_l_roll.kp T.b_l_roll (fun σ => passAt (takes_of rfl rfl rfl rfl) σ) z)) (vl_cons (ve_op (opv_add rfl) (ve_op opv_pow ve_int ve_int) ve_int) vl_nil))))) vl_nil)) (fun _ z => pe_callS (ok_l_pick T) (hr.mono (by decide)) (by rfl) T.g_l_pick T.F_l_pick.kp T.b_l_pick (fun σ => passAt (takes_of rfl rfl rfl rfl) σ) z)))
    (vb_one (vs_ret (ve_tup (vl_cons (vv 4 (lo_none rfl)) (vl_cons (ve_op (opv_add rfl) (vv 2 (lo_none rfl)) (ve_call (ok_l_roll T) (hr.mono (by decide)) (by rfl) T.g_l_roll T.F_l_roll.kp T.b_l_roll (takes_of rfl rfl rfl rfl) (vl_cons (vv 0 (lo_none rfl)) (vl_cons ve_int vl_nil)) (fun _ z => pe_callS (ok_l_roll T) (hr.mono (by decide)) (by rfl) T.g_l_roll T.F_l_roll.kp T.b_l_roll (fun σ => passAt (takes_of rfl rfl rfl rfl) σ) z))) (vl_cons (ve_call (ok_l_pick T) (hr.mono (by decide)) (by rfl) T.g_l_pick T.F_l_pick.kp T.b_l_pick (takes_of rfl rfl rfl rfl) (vl_cons (vv 0 (lo_none rfl)) (vl_cons (ve_lst (vl_cons ve_int (vl_cons ve_int (vl_cons ve_int (vl_cons (ve_call (ok_l_roll T) (hr.mono (by decide)) (by rfl) T.g_l_roll T.F_l_roll.kp T.b_l_roll (takes_of rfl rfl rfl rfl) (vl_cons (vv 0 (lo_none rfl)) (vl_cons ve_int vl_nil)) (fun _ z => pe_callS (ok_l_roll T) (hr.mono (by decide)) (by rfl) T.g_l_roll T.F_l_roll.kp T.b_l_roll (fun σ => passAt (takes_of rfl rfl rfl rfl) σ) z)) vl_nil))))) vl_nil)) (fun _ z => pe_callS (ok_l_pick T) (hr.mono (by decide)) (by rfl) T.g_l_pick T.F_l_pick.kp T.b_l_pick (fun σ => passAt (takes_of rfl rfl rfl rfl) σ) z)) (vl_cons (ve_callT (cv_tuple rfl) (by rfl) T.m_tuple (by decide +kernel) (vl_cons (vv 1 (lo_none rfl)) vl_nil) (fun _ _ p q => pe_callTy p (by rfl) T.m_tuple (by decide +kernel) q)) vl_nil))))))))))
noncomputable def f_l_written : VL.Env → M VL.Flow := fun ρ => seqM (liftS ρ ((((((((rd 0 ρ) >>= fun x => (pure (D.int 0) : M D) >>= fun y => dIx x y) >>= fun x => (pure [] : M (List D)) >>= fun r => pure (x :: r)) >>= strD) >>= fun x => (pure (D.str " ") : M D) >>= fun y => dAdd x y) >>= fun x => ((((rd 0 ρ) >>= fun x => (pure (D.int 1) : M D) >>= fun y => dIx x y) >>= fun x => (pure [] : M (List D)) >>= fun r => pure (x :: r)) >>= strD) >>= fun y => dAdd x y) >>= fun x => (pure (D.str " ") : M D) >>= fun y => dAdd x y) >>= fun x => ((((rd 0 ρ) >>= fun x => (pure (D.int 2) : M D) >>= fun y => dIx x y) >>= fun x => (pure [] : M (List D)) >>= fun r => pure (x :: r)) >>= strD) >>= fun y => dAdd x y) fun d => pure (VL.Flow.nx (ρ.set 1 (some d))))
    (fun ρ => seqM (liftS ρ (((rd 0 ρ) >>= fun x => (pure (D.int 3) : M D) >>= fun y => dIx x y) >>= itOf) fun it => loopI it (gT 3 (gsCons (gN 2) (gsCons (gN 3) (gsCons (gN 4) gsNil)))) (fun ρ => liftS ρ (((rd 1 ρ) >>= fun x => (pure (D.str ";") : M D) >>= fun y => dAdd x y) >>= fun x => ((pure (D.str " ") : M D) >>= fun x => tyM "str" x >>= fun _ => (((((((rd 2 ρ) >>= fun x => (pure [] : M (List D)) >>= fun r => pure (x :: r)) >>= strD) >>= fun x => ((rd 3 ρ) >>= fun x => (pure [] : M (List D)) >>= fun r => pure (x :: r)) >>= fun r => pure (x :: r)) >>= mkLst) >>= fun x => (((rd 4 ρ) >>= itOf) >>= fun it => ask (small it.items.length) >>= fun _ => loopC it (gN 5) (fun _ => pure true) (fun ρ => (((rd 5 ρ) >>= fun x => (pure [] : M (List D)) >>= fun r => pure (x :: r)) >>= strD)) (wipeE ρ [5]) it.items [] >>= frzL) >>= fun y => dAdd x y) >>= fun x => (pure [] : M (List D)) >>= fun r => pure (x :: r)) >>= fun xs => joinS x xs) >>= fun y => dAdd x y) fun d => pure (VL.Flow.nx (ρ.set 1 (some d)))) it.items ρ)
    (fun ρ => liftS ρ (rd 1 ρ) fun d => pure (VL.Flow.rt d)))
noncomputable def m_l_written : List D → M D := runF 6 f_l_written
theorem ok_l_written (T : Tp P K mg) : FnOk P w K mg base (L2.CX P w) 1 T.a_l_written T.d_l_written ["_law_plain"] (spD T.cn 1 m_l_written) :=
  fnv_ok (c := T.cn) T.F_l_written rfl sc_l_written fun cdv A outer s0 H E hr => (vb_cons (vs_set (i := 1) (lo_none rfl) (fun z => absurd rfl z) sc_l_written.nd rfl (Or.inl rfl) (ve_op (opv_add rfl) (ve_op (opv_add rfl) (ve_op (opv_add rfl) (ve_op (opv_add rfl) (ve_callT cv_str (by rfl) T.m_str (by decide +kernel) (vl_cons (ve_ix rfl (vv 0 (lo_none rfl)) ve_int (fun _ _ => rfl)) vl_nil) (fun _ _ p q => pe_callTy p (by rfl) T.m_str (by decide +kernel) q)) ve_str) (ve_callT cv_str (by rfl) T.m_str (by decide +kernel) (vl_cons (ve_ix rfl (vv 0 (lo_none rfl)) ve_int (fun _ _ => rfl)) vl_nil) (fun _ _ p q => pe_callTy p (by rfl) T.m_str (by decide +kernel) q))) ve_str) (ve_callT cv_str (by rfl) T.m_str (by decide +kernel) (vl_cons (ve_ix rfl (vv 0 (lo_none rfl)) ve_int (fun _ _ => rfl)) vl_nil) (fun _ _ p q => pe_callTy p (by rfl) T.m_str (by decide +kernel) q))))
    (vb_cons (vs_for (vi_seq rfl (ve_ix rfl (vv 0 (lo_none rfl)) ve_int (fun _ _ => rfl))) (vg_tup rfl (vgs_cons (vg_name (i := 2) (lo_none rfl) (fun z => absurd rfl z) sc_l_written.nd rfl (Or.inl rfl)) (vgs_cons (vg_name (i := 3) (lo_none rfl) (fun z => absurd rfl z) sc_l_written.nd rfl (Or.inl rfl)) (vgs_cons (vg_name (i := 4) (lo_none rfl) (fun z => absurd rfl z) sc_l_written.nd rfl (Or.inl rfl)) vgs_nil))) (fun _ z => pg_tup (by rfl) z)) (vb_one (vs_set (i := 1) (lo_none rfl) (fun z => absurd rfl z) sc_l_written.nd rfl (Or.inl rfl) (ve_op (opv_add rfl) (ve_op (opv_add rfl) (vv 1 (lo_none rfl)) ve_str) (ve_bm rfl PySem.F.plainAttrs_str PySem.F.slot_str_join PySem.F.type_str_join (mv_join rfl) ve_str (vl_cons (ve_op (opv_add rfl) (ve_lst (vl_cons (ve_callT cv_str (by rfl) T.m_str (by decide +kernel) (vl_cons (vv 2 (lo_none rfl)) vl_nil) (fun _ _ p q => pe_callTy p (by rfl) T.m_str (by decide +kernel) q)) (vl_cons (vv 3 (lo_none rfl)) vl_nil))) (ve_lc fin_frz (own := [("_law_number", 5)]) (fun i hi => ⟨lo_none rfl, fun z => absurd rfl z⟩) (by rfl) sc_l_written.nd (blkOk_by (own := [("_law_number", 5)]) (N := N_l_written) (sc := defScope s_l_written) (by decide +kernel)) (vi_seq rfl (vv 4 (lo_none rfl))) (fun _ _ _ _ _ => (vg_name (i := 5) (lo_none rfl) (fun z => absurd rfl z) sc_l_written.nd rfl (Or.inl rfl))) (fun _ _ _ _ _ => vts_nil) (fun _ _ _ _ _ => (ve_callT cv_str (by rfl) T.m_str (by decide +kernel) (vl_cons (vv 5 (lo_none rfl)) vl_nil) (fun _ _ p q => pe_callTy p (by rfl) T.m_str (by decide +kernel) q))) (by decide))) vl_nil) (fun _ _ _ p q z => pe_bm PySem.F.plainAttrs_str PySem.F.slot_str_join PySem.F.type_str_join p q z))))) (fun _ _ _ p q r => ps_for (passes_of rfl) rfl p q r))
    (vb_one (vs_ret (vv 1 (lo_none rfl))))))
noncomputable def f_l_integer : VL.Env → M VL.Flow := fun ρ => seqM (liftS ρ (((((rd 0 ρ) >>= fun x => (pure none : M (Option Int)) >>= fun l => ((pure (D.int 1) : M D) >>= asPart) >>= fun h => dSl x l h) >>= fun x => (pure (D.str "-") : M D) >>= fun y => dEq x y) >>= asB) >>= fun k => if k then ((rd 0 ρ) >>= fun x => ((pure (D.int 1) : M D) >>= asPart) >>= fun l => (pure none : M (Option Int)) >>= fun h => dSl x l h) else (rd 0 ρ)) fun d => pure (VL.Flow.nx (ρ.set 1 (some d))))
    (fun ρ => seqM (liftS ρ (tOr ((((rd 1 ρ) >>= fun x => (pure (D.str "") : M D) >>= fun y => dEq x y) >>= asB)) ((((((rd 1 ρ) >>= itOf) >>= fun it => ask (small it.items.length) >>= fun _ => loopC it (gN 2) (fun ρ => (((rd 2 ρ) >>= fun x => (pure (D.str "0123456789") : M D) >>= fun y => dNinC x y) >>= asB)) (fun ρ => (rd 2 ρ)) (wipeE ρ [2]) it.items [] >>= frzL) >>= fun x => ((pure [] : M (List D)) >>= mkLst) >>= fun y => dNe x y) >>= asB))) fun k => if k then (liftS ρ (pure D.non : M D) fun d => pure (VL.Flow.rt d)) else (pure (VL.Flow.nx ρ)))
    (fun ρ => liftS ρ ((((((((rd 0 ρ) >>= fun x => (pure [] : M (List D)) >>= fun r => pure (x :: r)) >>= intSD) >>= fun x => (pure [] : M (List D)) >>= fun r => pure (x :: r)) >>= strD) >>= fun x => (rd 0 ρ) >>= fun y => dEq x y) >>= asB) >>= fun k => if k then (((rd 0 ρ) >>= fun x => (pure [] : M (List D)) >>= fun r => pure (x :: r)) >>= intSD) else (pure D.non : M D)) fun d => pure (VL.Flow.rt d)))
noncomputable def m_l_integer : List D → M D := runF 3 f_l_integer
theorem ok_l_integer (T : Tp P K mg) : FnOk P w K mg base (L2.CX P w) 1 T.a_l_integer T.d_l_integer ["_law_part"] (spD T.cn 1 m_l_integer) :=
  fnv_ok (c := T.cn) T.F_l_integer rfl sc_l_integer fun cdv A outer s0 H E hr => (vb_cons (vs_set (i := 1) (lo_none rfl) (fun z => absurd rfl z) sc_l_integer.nd rfl (Or.inl rfl) (ve_if (vt_cmp (opv_eq rfl hr.units) (ve_slice rfl (vv 0 (lo_none rfl)) vo_none (vo_some ve_int)) ve_str (nomark _)) (ve_slice rfl (vv 0 (lo_none rfl)) (vo_some ve_int) vo_none) (vv 0 (lo_none rfl))))
    (vb_cons (vs_if (vt_of (vw_or (vt_cmp (opv_eq rfl hr.units) (vv 1 (lo_none rfl)) ve_str (nomark _)) (vw_or1 (vt_cmp (opv_ne rfl hr.units) (ve_lc fin_frz (own := [("_law_sign", 2)]) (fun i hi => ⟨lo_none rfl, fun z => absurd rfl z⟩) (by rfl) sc_l_integer.nd (blkOk_by (own := [("_law_sign", 2)]) (N := N_l_integer) (sc := defScope s_l_integer) (by decide +kernel)) (vi_seq rfl (vv 1 (lo_none rfl))) (fun _ _ _ _ _ => (vg_name (i := 2) (lo_none rfl) (fun z => absurd rfl z) sc_l_integer.nd rfl (Or.inl rfl))) (fun _ _ _ _ _ => (vts_one (vt_cmp (opv_ninC rfl) (vv 2 (lo_none rfl)) ve_str (by rfl)))) (fun _ _ _ _ _ => (vv 2 (lo_none rfl))) (by decide)) (ve_lst vl_nil) (nomark _))))) (vb_one (vs_ret ve_non)) vb_nil)
    (vb_one (vs_ret (ve_if (vt_cmp (opv_eq rfl hr.units) (ve_callT cv_str (by rfl) T.m_str (by decide +kernel) (vl_cons (ve_callT cv_intS (by rfl) T.m_int (by decide +kernel) (vl_cons (vv 0 (lo_none rfl)) vl_nil) (fun _ _ p q => pe_callTy p (by rfl) T.m_int (by decide +kernel) q)) vl_nil) (fun _ _ p q => pe_callTy p (by rfl) T.m_str (by decide +kernel) q)) (vv 0 (lo_none rfl)) (nomark _)) (ve_callT cv_intS (by rfl) T.m_int (by decide +kernel) (vl_cons (vv 0 (lo_none rfl)) vl_nil) (fun _ _ p q => pe_callTy p (by rfl) T.m_int (by decide +kernel) q)) ve_non)))))
noncomputable def f_l_read_thing : VL.Env → M VL.Flow := fun ρ => seqM (liftS ρ ((rd 0 ρ) >>= fun x => tyM "str" x >>= fun _ => ((pure (D.str " ") : M D) >>= fun x => (pure [] : M (List D)) >>= fun r => pure (x :: r)) >>= fun xs => (splitM frzL) x xs) fun d => pure (VL.Flow.nx (ρ.set 2 (some d))))
    (fun ρ => seqM (liftS ρ (((((rd 2 ρ) >>= fun x => (pure (D.int 0) : M D) >>= fun y => dIx x y) >>= fun x => (pure [] : M (List D)) >>= fun r => pure (x :: r)) >>= callM 1 m_l_integer) >>= fun x => (((((rd 2 ρ) >>= fun x => ((pure (D.int 2) : M D) >>= asPart) >>= fun l => (pure none : M (Option Int)) >>= fun h => dSl x l h) >>= itOf) >>= fun it => ask (small it.items.length) >>= fun _ => loopC it (gN 6) (fun _ => pure true) (fun ρ => (((rd 6 ρ) >>= fun x => (pure [] : M (List D)) >>= fun r => pure (x :: r)) >>= callM 1 m_l_integer)) (wipeE ρ [6]) it.items [] >>= frzL) >>= fun x => (pure [] : M (List D)) >>= fun r => pure (x :: r)) >>= fun r => pure (x :: r)) fun ds => set2 ρ 3 4 ds)
    (fun ρ => seqM (liftS ρ (tOr (((rd 3 ρ) >>= fun x => pure (isN x))) ((tOr ((((rd 3 ρ) >>= fun x => (rd 1 ρ) >>= fun y => dLt x y) >>= asB)) ((tOr (((((pure (D.int 1) : M D) >>= fun x => (((rd 4 ρ) >>= fun x => (pure [] : M (List D)) >>= fun r => pure (x :: r)) >>= lenD) >>= fun y => andD (dLe x y) ((pure (D.int 8) : M D) >>= fun z => dLe y z)) >>= asB) >>= fun b => pure (!b))) ((tOr ((((pure D.non : M D) >>= fun x => (rd 4 ρ) >>= fun y => dInC x y) >>= asB)) ((((((((rd 4 ρ) >>= itOf) >>= fun it => ask (small it.items.length) >>= fun _ => loopC it (gN 8) (fun _ => pure true) (fun ρ => (((rd 8 ρ) >>= fun x => (pure [] : M (List D)) >>= fun r => pure (x :: r)) >>= absD)) (wipeE ρ [8]) it.items [] >>= frzL) >>= fun x => (pure [] : M (List D)) >>= fun r => pure (x :: r)) >>= maxD) >>= fun x => ((pure (D.int 10) : M D) >>= fun x => (pure (D.int 9) : M D) >>= fun y => dPow x y) >>= fun y => dGt x y) >>= asB))))))))) fun k => if k then (liftS ρ (pure D.non : M D) fun d => pure (VL.Flow.rt d)) else (pure (VL.Flow.nx ρ)))
    (fun ρ => seqM (liftS ρ ((rd 2 ρ) >>= fun x => (pure (D.int 1) : M D) >>= fun y => dIx x y) fun d => pure (VL.Flow.nx (ρ.set 5 (some d))))
    (fun ρ => seqM (liftS ρ (tOr (((((pure (D.int 1) : M D) >>= fun x => (((rd 5 ρ) >>= fun x => (pure [] : M (List D)) >>= fun r => pure (x :: r)) >>= lenD) >>= fun y => andD (dLe x y) ((pure (D.int 8) : M D) >>= fun z => dLe y z)) >>= asB) >>= fun b => pure (!b))) ((((((rd 5 ρ) >>= itOf) >>= fun it => ask (small it.items.length) >>= fun _ => loopC it (gN 7) (fun ρ => (((rd 7 ρ) >>= fun x => (pure (D.str "abcdefghijklmnopqrstuvwxyz") : M D) >>= fun y => dNinC x y) >>= asB)) (fun ρ => (rd 7 ρ)) (wipeE ρ [7]) it.items [] >>= frzL) >>= fun x => ((pure [] : M (List D)) >>= mkLst) >>= fun y => dNe x y) >>= asB))) fun k => if k then (liftS ρ (pure D.non : M D) fun d => pure (VL.Flow.rt d)) else (pure (VL.Flow.nx ρ)))
    (fun ρ => liftS ρ (((rd 3 ρ) >>= fun x => ((rd 5 ρ) >>= fun x => ((((rd 4 ρ) >>= fun x => (pure [] : M (List D)) >>= fun r => pure (x :: r)) >>= tupleD) >>= fun x => (pure [] : M (List D)) >>= fun r => pure (x :: r)) >>= fun r => pure (x :: r)) >>= fun r => pure (x :: r)) >>= mkTup) fun d => pure (VL.Flow.rt d))))))
noncomputable def m_l_read_thing : List D → M D := runF 9 f_l_read_thing
theorem ok_l_read_thing (T : Tp P K mg) : FnOk P w K mg base (L2.CX P w) 2 T.a_l_read_thing T.d_l_read_thing ["_law_part", "_law_least"] (spD T.cn 2 m_l_read_thing) :=
  fnv_ok (c := T.cn) T.F_l_read_thing rfl sc_l_read_thing fun cdv A outer s0 H E hr => (vb_cons (vs_set (i := 2) (lo_none rfl) (fun z => absurd rfl z) sc_l_read_thing.nd rfl (Or.inl rfl) (ve_bm rfl PySem.F.plainAttrs_str PySem.F.slot_str_split PySem.F.type_str_split (mv_split new_frz) (vv 0 (lo_none rfl)) (vl_cons ve_str vl_nil) (fun _ _ _ p q z => pe_bm PySem.F.plainAttrs_str PySem.F.slot_str_split PySem.F.type_str_split p q z)))
    (vb_cons (vs_par (i := 3) (j := 4) ⟨(lo_none rfl), (fun z => absurd rfl z)⟩ ⟨(lo_none rfl), (fun z => absurd rfl z)⟩ (vl_cons (ve_call (ok_l_integer T) (hr.mono (by decide)) (by rfl) T.g_l_integer T.F_l_integer.kp T.b_l_integer (takes_of rfl rfl rfl rfl) (vl_cons (ve_ix rfl (vv 2 (lo_none rfl)) ve_int (fun _ _ => rfl)) vl_nil) (fun _ z => pe_callS (ok_l_integer T) (hr.mono (by decide)) (by rfl) T.g_l_integer T.F_l_integer.kp T.b_l_integer (fun σ => passAt (takes_of rfl rfl rfl rfl) σ) z)) (vl_cons (ve_lc fin_frz (own := [("_law_word", 6)]) (fun i hi => ⟨lo_none rfl, fun z => absurd rfl z⟩) (by rfl) sc_l_read_thing.nd (blkOk_by (own := [("_law_word", 6)]) (N := N_l_read_thing) (sc := defScope s_l_read_thing) (by decide +kernel)) (vi_seq rfl (ve_slice rfl (vv 2 (lo_none rfl)) (vo_some ve_int) vo_none)) (fun _ _ _ _ _ => (vg_name (i := 6) (lo_none rfl) (fun z => absurd rfl z) sc_l_read_thing.nd rfl (Or.inl rfl))) (fun _ _ _ _ _ => vts_nil) (fun _ _ _ _ _ => (ve_call (ok_l_integer T) (hr.mono (by decide)) (by rfl) T.g_l_integer T.F_l_integer.kp T.b_l_integer takes_none5 (vl_cons (vv 6 (lo_none rfl)) vl_nil) (fun _ z => pe_callS (ok_l_integer T) (hr.mono (by decide)) (by rfl) T.g_l_integer T.F_l_integer.kp T.b_l_integer (fun σ => passAt takes_none5 σ) z))) (by decide)) vl_nil)) (fun _ z => ps_par (by rfl) sc_l_read_thing.nd rfl rfl (by decide) rfl rfl z (by rfl)))
    (vb_cons (vs_if (vt_of (vw_or (vt_isN (vv 3 (lo_none rfl))) (vw_or (vt_cmp opv_lt (vv 3 (lo_none rfl)) (vv 1 (lo_none rfl)) (nomark _)) (vw_or (vt_not (vt_chain opv_le opv_le ve_int (ve_callB (cv_len rfl) (by rfl) T.m_len (by decide +kernel) (vl_cons (vv 4 (lo_none rfl)) vl_nil) (fun _ _ p q => pe_callB p (by rfl) T.m_len (by decide +kernel) q)) ve_int (fun _ _ _ _ _ a b c d e => pt_chain a b c d e))) (vw_or (vt_cmp (opv_inC rfl) ve_non (vv 4 (lo_none rfl)) (by rfl)) (vw_or1 (vt_cmp opv_gt (ve_callB (cv_max rfl rfl) (by rfl) T.m_max (by decide +kernel) (vl_cons (ve_lc fin_frz (own := [("_law_one", 8)]) (fun i hi => ⟨lo_none rfl, fun z => absurd rfl z⟩) (by rfl) sc_l_read_thing.nd (blkOk_by (own := [("_law_one", 8)]) (N := N_l_read_thing) (sc := defScope s_l_read_thing) (by decide +kernel)) (vi_seq rfl (vv 4 (lo_none rfl))) (fun _ _ _ _ _ => (vg_name (i := 8) (lo_none rfl) (fun z => absurd rfl z) sc_l_read_thing.nd rfl (Or.inl rfl))) (fun _ _ _ _ _ => vts_nil) (fun _ _ _ _ _ => (ve_callB cv_abs (by rfl) T.m_abs (by decide +kernel) (vl_cons (vv 8 (lo_none rfl)) vl_nil) (fun _ _ p q => pe_callB p (by rfl) T.m_abs (by decide +kernel) q))) (by decide)) vl_nil) (fun _ _ p q => pe_callB p (by rfl) T.m_max (by decide +kernel) q)) (ve_op opv_pow ve_int ve_int) (nomark _)))))))) (vb_one (vs_ret ve_non)) vb_nil)
    (vb_cons (vs_set (i := 5) (lo_none rfl) (fun z => absurd rfl z) sc_l_read_thing.nd rfl (Or.inl rfl) (ve_ix rfl (vv 2 (lo_none rfl)) ve_int (fun _ _ => rfl)))
    (vb_cons (vs_if (vt_of (vw_or (vt_not (vt_chain opv_le opv_le ve_int (ve_callB (cv_len rfl) (by rfl) T.m_len (by decide +kernel) (vl_cons (vv 5 (lo_none rfl)) vl_nil) (fun _ _ p q => pe_callB p (by rfl) T.m_len (by decide +kernel) q)) ve_int (fun _ _ _ _ _ a b c d e => pt_chain a b c d e))) (vw_or1 (vt_cmp (opv_ne rfl hr.units) (ve_lc fin_frz (own := [("_law_sign", 7)]) (fun i hi => ⟨lo_none rfl, fun z => absurd rfl z⟩) (by rfl) sc_l_read_thing.nd (blkOk_by (own := [("_law_sign", 7)]) (N := N_l_read_thing) (sc := defScope s_l_read_thing) (by decide +kernel)) (vi_seq rfl (vv 5 (lo_none rfl))) (fun _ _ _ _ _ => (vg_name (i := 7) (lo_none rfl) (fun z => absurd rfl z) sc_l_read_thing.nd rfl (Or.inl rfl))) (fun _ _ _ _ _ => (vts_one (vt_cmp (opv_ninC rfl) (vv 7 (lo_none rfl)) ve_str (by rfl)))) (fun _ _ _ _ _ => (vv 7 (lo_none rfl))) (by decide)) (ve_lst vl_nil) (nomark _))))) (vb_one (vs_ret ve_non)) vb_nil)
    (vb_one (vs_ret (ve_tup (vl_cons (vv 3 (lo_none rfl)) (vl_cons (vv 5 (lo_none rfl)) (vl_cons (ve_callT (cv_tuple rfl) (by rfl) T.m_tuple (by decide +kernel) (vl_cons (vv 4 (lo_none rfl)) vl_nil) (fun _ _ p q => pe_callTy p (by rfl) T.m_tuple (by decide +kernel) q)) vl_nil)))))))))))
noncomputable def f_l_read : VL.Env → M VL.Flow := fun ρ => seqM (liftS ρ (((rd 0 ρ) >>= fun x => tyM "str" x >>= fun _ => ((pure (D.str ";") : M D) >>= fun x => (pure [] : M (List D)) >>= fun r => pure (x :: r)) >>= fun xs => (splitM frzL) x xs) >>= fun x => (((pure [] : M (List D)) >>= mkNew) >>= fun x => ((pure (D.int 0) : M D) >>= fun x => (pure [] : M (List D)) >>= fun r => pure (x :: r)) >>= fun r => pure (x :: r)) >>= fun r => pure (x :: r)) fun ds => set3 ρ 1 2 3 ds)
    (fun ρ => seqM (liftS ρ (((((rd 1 ρ) >>= fun x => (pure (D.int 0) : M D) >>= fun y => dIx x y) >>= fun x => tyM "str" x >>= fun _ => ((pure (D.str " ") : M D) >>= fun x => (pure [] : M (List D)) >>= fun r => pure (x :: r)) >>= fun xs => (splitM frzL) x xs) >>= itOf) >>= fun it => ask (small it.items.length) >>= fun _ => loopC it (gN 7) (fun _ => pure true) (fun ρ => (((rd 7 ρ) >>= fun x => (pure [] : M (List D)) >>= fun r => pure (x :: r)) >>= callM 1 m_l_integer)) (wipeE ρ [7]) it.items [] >>= frzL) fun d => pure (VL.Flow.nx (ρ.set 4 (some d))))
    (fun ρ => seqM (liftS ρ (tOr ((((((rd 4 ρ) >>= fun x => (pure [] : M (List D)) >>= fun r => pure (x :: r)) >>= lenD) >>= fun x => (pure (D.int 3) : M D) >>= fun y => dNe x y) >>= asB)) ((tOr ((((pure D.non : M D) >>= fun x => (rd 4 ρ) >>= fun y => dInC x y) >>= asB)) ((tOr ((((((rd 4 ρ) >>= fun x => (pure [] : M (List D)) >>= fun r => pure (x :: r)) >>= minD) >>= fun x => (pure (D.int 0) : M D) >>= fun y => dLt x y) >>= asB)) ((tOr (((((rd 4 ρ) >>= fun x => (pure (D.int 2) : M D) >>= fun y => dIx x y) >>= fun x => (pure (D.int 999999936) : M D) >>= fun y => dGt x y) >>= asB)) ((((((rd 1 ρ) >>= fun x => (pure [] : M (List D)) >>= fun r => pure (x :: r)) >>= lenD) >>= fun x => (pure (D.int 13) : M D) >>= fun y => dGt x y) >>= asB))))))))) fun k => if k then (liftS ρ (pure D.non : M D) fun d => pure (VL.Flow.rt d)) else (pure (VL.Flow.nx ρ)))
    (fun ρ => seqM (liftS ρ (((rd 1 ρ) >>= fun x => ((pure (D.int 1) : M D) >>= asPart) >>= fun l => (pure none : M (Option Int)) >>= fun h => dSl x l h) >>= itOf) fun it => loopI it (gN 5) (fun ρ => seqM (liftS ρ (((rd 5 ρ) >>= fun x => ((rd 3 ρ) >>= fun x => (pure [] : M (List D)) >>= fun r => pure (x :: r)) >>= fun r => pure (x :: r)) >>= callM 2 m_l_read_thing) fun d => pure (VL.Flow.nx (ρ.set 6 (some d))))
    (fun ρ => seqM (liftS ρ ((rd 6 ρ) >>= fun x => pure (isN x)) fun k => if k then (liftS ρ (pure D.non : M D) fun d => pure (VL.Flow.rt d)) else (pure (VL.Flow.nx ρ)))
    (fun ρ => seqM (liftS ρ ((rd 2 ρ) >>= fun x => tyM "list" x >>= fun _ => ((rd 6 ρ) >>= fun x => (pure [] : M (List D)) >>= fun r => pure (x :: r)) >>= fun xs => appM x xs) fun _ => pure (VL.Flow.nx ρ))
    (fun ρ => liftS ρ (((rd 6 ρ) >>= fun x => (pure (D.int 0) : M D) >>= fun y => dIx x y) >>= fun x => (pure (D.int 1) : M D) >>= fun y => dAdd x y) fun d => pure (VL.Flow.nx (ρ.set 3 (some d))))))) it.items ρ)
    (fun ρ => liftS ρ ((((rd 3 ρ) >>= fun x => ((rd 4 ρ) >>= fun x => (pure (D.int 1) : M D) >>= fun y => dIx x y) >>= fun y => dLe x y) >>= asB) >>= fun k => if k then ((((rd 4 ρ) >>= fun x => (pure (D.int 0) : M D) >>= fun y => dIx x y) >>= fun x => (((rd 4 ρ) >>= fun x => (pure (D.int 1) : M D) >>= fun y => dIx x y) >>= fun x => (((rd 4 ρ) >>= fun x => (pure (D.int 2) : M D) >>= fun y => dIx x y) >>= fun x => ((((rd 2 ρ) >>= fun x => (pure [] : M (List D)) >>= fun r => pure (x :: r)) >>= tupleD) >>= fun x => (pure [] : M (List D)) >>= fun r => pure (x :: r)) >>= fun r => pure (x :: r)) >>= fun r => pure (x :: r)) >>= fun r => pure (x :: r)) >>= mkTup) else (pure D.non : M D)) fun d => pure (VL.Flow.rt d)))))
noncomputable def m_l_read : List D → M D := locM (runF 8 f_l_read)
theorem ok_l_read (T : Tp P K mg) : FnOk P w K mg base (L2.CX P w) 3 T.a_l_read T.d_l_read ["_law_text"] (spD T.cn 1 m_l_read) :=
  VL.FnOk.loc (fnv_ok (c := T.cn) T.F_l_read rfl sc_l_read fun cdv A outer s0 H E hr => (vb_cons (vs_par3 (i := 1) (j := 2) (l := 3) ⟨(lo_none rfl), (fun z => absurd rfl z)⟩ ⟨(lo_none rfl), (fun z => absurd rfl z)⟩ ⟨(lo_none rfl), (fun z => absurd rfl z)⟩ (vl_cons (ve_bm rfl PySem.F.plainAttrs_str PySem.F.slot_str_split PySem.F.type_str_split (mv_split new_frz) (vv 0 (lo_none rfl)) (vl_cons ve_str vl_nil) (fun _ _ _ p q z => pe_bm PySem.F.plainAttrs_str PySem.F.slot_str_split PySem.F.type_str_split p q z)) (vl_cons (ve_lstM vl_nil) (vl_cons ve_int vl_nil))) (fun _ z => ps_par3 (by rfl) sc_l_read.nd rfl rfl rfl (by decide) (by decide) (by decide) rfl rfl rfl z (by rfl)))
    (vb_cons (vs_setLc (i := 4) fin_frz (own := [("_law_word", 7)]) (lo_none rfl) (fun z => absurd rfl z) (fun i hi => ⟨lo_none rfl, fun z => absurd rfl z⟩) (by rfl) sc_l_read.nd rfl rfl (sw_true rfl rfl rfl (by decide +kernel)) (blkOk_by (own := [("_law_word", 7)]) (N := N_l_read) (sc := defScope s_l_read) (by decide +kernel)) (vi_seq rfl (ve_bm rfl PySem.F.plainAttrs_str PySem.F.slot_str_split PySem.F.type_str_split (mv_split new_frz) (ve_ix rfl (vv 1 (lo_none rfl)) ve_int (fun _ _ => rfl)) (vl_cons ve_str vl_nil) (fun _ _ _ p q z => pe_bm PySem.F.plainAttrs_str PySem.F.slot_str_split PySem.F.type_str_split p q z))) (fun _ _ _ _ _ => (vg_name (i := 7) (lo_none rfl) (fun z => absurd rfl z) sc_l_read.nd rfl (Or.inl rfl))) (fun _ _ _ _ _ => vts_nil) (fun _ _ _ _ _ => (ve_call (ok_l_integer T) (hr.mono (by decide)) (by rfl) T.g_l_integer T.F_l_integer.kp T.b_l_integer takes_none5 (vl_cons (vv 7 (lo_none rfl)) vl_nil) (fun _ z => pe_callS (ok_l_integer T) (hr.mono (by decide)) (by rfl) T.g_l_integer T.F_l_integer.kp T.b_l_integer (fun σ => passAt takes_none5 σ) z))) (by decide))
    (vb_cons (vs_if (vt_of (vw_or (vt_cmp (opv_ne rfl hr.units) (ve_callB (cv_len rfl) (by rfl) T.m_len (by decide +kernel) (vl_cons (vv 4 (lo_none rfl)) vl_nil) (fun _ _ p q => pe_callB p (by rfl) T.m_len (by decide +kernel) q)) ve_int (nomark _)) (vw_or (vt_cmp (opv_inC rfl) ve_non (vv 4 (lo_none rfl)) (by rfl)) (vw_or (vt_cmp opv_lt (ve_callB (cv_min rfl rfl) (by rfl) T.m_min (by decide +kernel) (vl_cons (vv 4 (lo_none rfl)) vl_nil) (fun _ _ p q => pe_callB p (by rfl) T.m_min (by decide +kernel) q)) ve_int (nomark _)) (vw_or (vt_cmp opv_gt (ve_ix rfl (vv 4 (lo_none rfl)) ve_int (fun _ _ => rfl)) ve_int (nomark _)) (vw_or1 (vt_cmp opv_gt (ve_callB (cv_len rfl) (by rfl) T.m_len (by decide +kernel) (vl_cons (vv 1 (lo_none rfl)) vl_nil) (fun _ _ p q => pe_callB p (by rfl) T.m_len (by decide +kernel) q)) ve_int (nomark _)))))))) (vb_one (vs_ret ve_non)) vb_nil)
    (vb_cons (vs_for (vi_seq rfl (ve_slice rfl (vv 1 (lo_none rfl)) (vo_some ve_int) vo_none)) (vg_name (i := 5) (lo_none rfl) (fun z => absurd rfl z) sc_l_read.nd rfl (Or.inl rfl)) (vb_cons (vs_set (i := 6) (lo_none rfl) (fun z => absurd rfl z) sc_l_read.nd rfl (Or.inl rfl) (ve_call (ok_l_read_thing T) (hr.mono (by decide)) (by rfl) T.g_l_read_thing T.F_l_read_thing.kp T.b_l_read_thing (takes_of rfl rfl rfl rfl) (vl_cons (vv 5 (lo_none rfl)) (vl_cons (vv 3 (lo_none rfl)) vl_nil)) (fun _ z => pe_callS (ok_l_read_thing T) (hr.mono (by decide)) (by rfl) T.g_l_read_thing T.F_l_read_thing.kp T.b_l_read_thing (fun σ => passAt (takes_of rfl rfl rfl rfl) σ) z)))
    (vb_cons (vs_if (vt_isN (vv 6 (lo_none rfl))) (vb_one (vs_ret ve_non)) vb_nil)
    (vb_cons (vs_expr (ve_bm rfl PySem.F.plainAttrs_list PySem.F.slot_list_append PySem.F.type_list_append mv_append (vv 2 (lo_none rfl)) (vl_cons (vv 6 (lo_none rfl)) vl_nil) (fun _ _ _ p q z => pe_bm PySem.F.plainAttrs_list PySem.F.slot_list_append PySem.F.type_list_append p q z)))
    (vb_one (vs_set (i := 3) (lo_none rfl) (fun z => absurd rfl z) sc_l_read.nd rfl (Or.inl rfl) (ve_op (opv_add rfl) (ve_ix rfl (vv 6 (lo_none rfl)) ve_int (fun _ _ => rfl)) ve_int)))))) (fun _ _ _ p q r => ps_for (passes_of rfl) rfl p q r))
    (vb_one (vs_ret (ve_if (vt_cmp opv_le (vv 3 (lo_none rfl)) (ve_ix rfl (vv 4 (lo_none rfl)) ve_int (fun _ _ => rfl)) (nomark _)) (ve_tup (vl_cons (ve_ix rfl (vv 4 (lo_none rfl)) ve_int (fun _ _ => rfl)) (vl_cons (ve_ix rfl (vv 4 (lo_none rfl)) ve_int (fun _ _ => rfl)) (vl_cons (ve_ix rfl (vv 4 (lo_none rfl)) ve_int (fun _ _ => rfl)) (vl_cons (ve_callT (cv_tuple rfl) (by rfl) T.m_tuple (by decide +kernel) (vl_cons (vv 2 (lo_none rfl)) vl_nil) (fun _ _ p q => pe_callTy p (by rfl) T.m_tuple (by decide +kernel) q)) vl_nil))))) ve_non))))))))
noncomputable def f_l_near_texts : VL.Env → M VL.Flow := fun ρ => seqM (liftS ρ ((((rd 0 ρ) >>= fun x => ((((rd 1 ρ) >>= fun x => (pure [] : M (List D)) >>= fun r => pure (x :: r)) >>= lenD) >>= fun x => (pure [] : M (List D)) >>= fun r => pure (x :: r)) >>= fun r => pure (x :: r)) >>= callM 2 m_l_roll) >>= fun x => (((rd 1 ρ) >>= fun x => tyM "str" x >>= fun _ => ((pure (D.str ";") : M D) >>= fun x => (pure [] : M (List D)) >>= fun r => pure (x :: r)) >>= fun xs => (splitM frzL) x xs) >>= fun x => (pure [] : M (List D)) >>= fun r => pure (x :: r)) >>= fun r => pure (x :: r)) fun ds => set2 ρ 2 3 ds)
    (fun ρ => seqM (liftS ρ (((rd 0 ρ) >>= fun x => ((((pure (D.str "0019-+ ;azA_.") : M D) >>= fun x => (pure [] : M (List D)) >>= fun r => pure (x :: r)) >>= (listT frzL)) >>= fun x => (pure [] : M (List D)) >>= fun r => pure (x :: r)) >>= fun r => pure (x :: r)) >>= callM 2 m_l_pick) fun d => pure (VL.Flow.nx (ρ.set 4 (some d))))
    (fun ρ => seqM (liftS ρ ((((((rd 1 ρ) >>= fun x => (pure none : M (Option Int)) >>= fun l => ((rd 2 ρ) >>= asPart) >>= fun h => dSl x l h) >>= fun x => (rd 4 ρ) >>= fun y => dAdd x y) >>= fun x => ((rd 1 ρ) >>= fun x => (((rd 2 ρ) >>= fun x => (pure (D.int 1) : M D) >>= fun y => dAdd x y) >>= asPart) >>= fun l => (pure none : M (Option Int)) >>= fun h => dSl x l h) >>= fun y => dAdd x y) >>= fun x => ((((rd 1 ρ) >>= fun x => (pure none : M (Option Int)) >>= fun l => ((rd 2 ρ) >>= asPart) >>= fun h => dSl x l h) >>= fun x => ((rd 1 ρ) >>= fun x => (((rd 2 ρ) >>= fun x => (pure (D.int 1) : M D) >>= fun y => dAdd x y) >>= asPart) >>= fun l => (pure none : M (Option Int)) >>= fun h => dSl x l h) >>= fun y => dAdd x y) >>= fun x => (((((rd 1 ρ) >>= fun x => (pure none : M (Option Int)) >>= fun l => ((rd 2 ρ) >>= asPart) >>= fun h => dSl x l h) >>= fun x => (rd 4 ρ) >>= fun y => dAdd x y) >>= fun x => ((rd 1 ρ) >>= fun x => ((rd 2 ρ) >>= asPart) >>= fun l => (pure none : M (Option Int)) >>= fun h => dSl x l h) >>= fun y => dAdd x y) >>= fun x => (((rd 1 ρ) >>= fun x => (rd 4 ρ) >>= fun y => dAdd x y) >>= fun x => (((rd 4 ρ) >>= fun x => (rd 1 ρ) >>= fun y => dAdd x y) >>= fun x => (pure [] : M (List D)) >>= fun r => pure (x :: r)) >>= fun r => pure (x :: r)) >>= fun r => pure (x :: r)) >>= fun r => pure (x :: r)) >>= fun r => pure (x :: r)) >>= mkNew) fun d => pure (VL.Flow.nx (ρ.set 5 (some d))))
    (fun ρ => seqM (liftS ρ (((rd 0 ρ) >>= fun x => ((((rd 3 ρ) >>= fun x => (pure [] : M (List D)) >>= fun r => pure (x :: r)) >>= lenD) >>= fun x => (pure [] : M (List D)) >>= fun r => pure (x :: r)) >>= fun r => pure (x :: r)) >>= callM 2 m_l_roll) fun d => pure (VL.Flow.nx (ρ.set 6 (some d))))
    (fun ρ => seqM (liftS ρ (((rd 3 ρ) >>= fun x => (pure none : M (Option Int)) >>= fun l => (((rd 6 ρ) >>= fun x => (pure (D.int 1) : M D) >>= fun y => dAdd x y) >>= asPart) >>= fun h => dSl x l h) >>= fun x => ((rd 3 ρ) >>= fun x => ((rd 6 ρ) >>= asPart) >>= fun l => (pure none : M (Option Int)) >>= fun h => dSl x l h) >>= fun y => dAdd x y) fun d => pure (VL.Flow.nx (ρ.set 7 (some d))))
    (fun ρ => seqM (liftS ρ ((rd 5 ρ) >>= fun x => tyM "list" x >>= fun _ => (((pure (D.str ";") : M D) >>= fun x => tyM "str" x >>= fun _ => ((rd 7 ρ) >>= fun x => (pure [] : M (List D)) >>= fun r => pure (x :: r)) >>= fun xs => joinS x xs) >>= fun x => (pure [] : M (List D)) >>= fun r => pure (x :: r)) >>= fun xs => appM x xs) fun _ => pure (VL.Flow.nx ρ))
    (fun ρ => seqM (liftS ρ ((rd 5 ρ) >>= fun x => tyM "list" x >>= fun _ => (((pure (D.str ";") : M D) >>= fun x => tyM "str" x >>= fun _ => ((((rd 3 ρ) >>= fun x => (pure none : M (Option Int)) >>= fun l => ((pure (D.int 1) : M D) >>= asPart) >>= fun h => dSl x l h) >>= fun x => (((rd 3 ρ) >>= fun x => ((pure (D.int 1) : M D) >>= asPart) >>= fun l => (pure none : M (Option Int)) >>= fun h => dSl x l h) >>= revD) >>= fun y => dAdd x y) >>= fun x => (pure [] : M (List D)) >>= fun r => pure (x :: r)) >>= fun xs => joinS x xs) >>= fun x => (pure [] : M (List D)) >>= fun r => pure (x :: r)) >>= fun xs => appM x xs) fun _ => pure (VL.Flow.nx ρ))
    (fun ρ => seqM (liftS ρ ((rd 1 ρ) >>= fun x => tyM "str" x >>= fun _ => ((pure (D.str " ") : M D) >>= fun x => (pure [] : M (List D)) >>= fun r => pure (x :: r)) >>= fun xs => (splitM frzL) x xs) fun d => pure (VL.Flow.nx (ρ.set 8 (some d))))
    (fun ρ => seqM (liftS ρ (((rd 0 ρ) >>= fun x => ((((rd 8 ρ) >>= fun x => (pure [] : M (List D)) >>= fun r => pure (x :: r)) >>= lenD) >>= fun x => (pure [] : M (List D)) >>= fun r => pure (x :: r)) >>= fun r => pure (x :: r)) >>= callM 2 m_l_roll) fun d => pure (VL.Flow.nx (ρ.set 9 (some d))))
    (fun ρ => seqM (liftS ρ (((rd 0 ρ) >>= fun x => ((((pure (D.str "") : M D) >>= fun x => ((pure (D.str "0") : M D) >>= fun x => ((pure (D.str "-0") : M D) >>= fun x => ((pure (D.str "00") : M D) >>= fun x => ((pure (D.str "-1") : M D) >>= fun x => ((pure (D.str "1000000001") : M D) >>= fun x => ((pure (D.str "-1000000000") : M D) >>= fun x => ((pure (D.str "999999937") : M D) >>= fun x => ((pure (D.str "hero") : M D) >>= fun x => ((pure (D.str "9") : M D) >>= fun x => ((pure (D.str "07") : M D) >>= fun x => ((pure (D.str "1_0") : M D) >>= fun x => (pure [] : M (List D)) >>= fun r => pure (x :: r)) >>= fun r => pure (x :: r)) >>= fun r => pure (x :: r)) >>= fun r => pure (x :: r)) >>= fun r => pure (x :: r)) >>= fun r => pure (x :: r)) >>= fun r => pure (x :: r)) >>= fun r => pure (x :: r)) >>= fun r => pure (x :: r)) >>= fun r => pure (x :: r)) >>= fun r => pure (x :: r)) >>= fun r => pure (x :: r)) >>= mkLst) >>= fun x => (pure [] : M (List D)) >>= fun r => pure (x :: r)) >>= fun r => pure (x :: r)) >>= callM 2 m_l_pick) fun d => pure (VL.Flow.nx (ρ.set 10 (some d))))
    (fun ρ => liftS ρ ((rd 5 ρ) >>= fun x => ((((pure (D.str " ") : M D) >>= fun x => tyM "str" x >>= fun _ => (((((rd 8 ρ) >>= fun x => (pure none : M (Option Int)) >>= fun l => ((rd 9 ρ) >>= asPart) >>= fun h => dSl x l h) >>= fun x => (((rd 10 ρ) >>= fun x => (pure [] : M (List D)) >>= fun r => pure (x :: r)) >>= mkLst) >>= fun y => dAdd x y) >>= fun x => ((rd 8 ρ) >>= fun x => (((rd 9 ρ) >>= fun x => (pure (D.int 1) : M D) >>= fun y => dAdd x y) >>= asPart) >>= fun l => (pure none : M (Option Int)) >>= fun h => dSl x l h) >>= fun y => dAdd x y) >>= fun x => (pure [] : M (List D)) >>= fun r => pure (x :: r)) >>= fun xs => joinS x xs) >>= fun x => (((pure (D.str " ") : M D) >>= fun x => tyM "str" x >>= fun _ => ((((rd 8 ρ) >>= fun x => (pure none : M (Option Int)) >>= fun l => ((rd 9 ρ) >>= asPart) >>= fun h => dSl x l h) >>= fun x => ((rd 8 ρ) >>= fun x => (((rd 9 ρ) >>= fun x => (pure (D.int 1) : M D) >>= fun y => dAdd x y) >>= asPart) >>= fun l => (pure none : M (Option Int)) >>= fun h => dSl x l h) >>= fun y => dAdd x y) >>= fun x => (pure [] : M (List D)) >>= fun r => pure (x :: r)) >>= fun xs => joinS x xs) >>= fun x => (((rd 1 ρ) >>= fun x => (pure (D.str "\n") : M D) >>= fun y => dAdd x y) >>= fun x => (((rd 1 ρ) >>= fun x => tyM "str" x >>= fun _ => sUpper x []) >>= fun x => (pure [] : M (List D)) >>= fun r => pure (x :: r)) >>= fun r => pure (x :: r)) >>= fun r => pure (x :: r)) >>= fun r => pure (x :: r)) >>= mkLst) >>= fun y => dAdd x y) fun d => pure (VL.Flow.rt d)))))))))))
noncomputable def m_l_near_texts : List D → M D := runF 11 f_l_near_texts
theorem ok_l_near_texts (T : Tp P K mg) : FnOk P w K mg base (L2.CX P w) 3 T.a_l_near_texts T.d_l_near_texts ["_law_dice_here", "_law_text"] (spD T.cn 2 m_l_near_texts) :=
  fnv_ok (c := T.cn) T.F_l_near_texts rfl sc_l_near_texts fun cdv A outer s0 H E hr => (vb_cons (vs_par (i := 2) (j := 3) ⟨(lo_none rfl), (fun z => absurd rfl z)⟩ ⟨(lo_none rfl), (fun z => absurd rfl z)⟩ (vl_cons (ve_call (ok_l_roll T) (hr.mono (by decide)) (by rfl) T.g_l_roll T.F_l_roll.kp T.b_l_roll (takes_of rfl rfl rfl rfl) (vl_cons (vv 0 (lo_none rfl)) (vl_cons (ve_callB (cv_len rfl) (by rfl) T.m_len (by decide +kernel) (vl_cons (vv 1 (lo_none rfl)) vl_nil) (fun _ _ p q => pe_callB p (by rfl) T.m_len (by decide +kernel) q)) vl_nil)) (fun _ z => pe_callS (ok_l_roll T) (hr.mono (by decide)) (by rfl) T.g_l_roll T.F_l_roll.kp T.b_l_roll (fun σ => passAt (takes_of rfl rfl rfl rfl) σ) z)) (vl_cons (ve_bm rfl PySem.F.plainAttrs_str PySem.F.slot_str_split PySem.F.type_str_split (mv_split new_frz) (vv 1 (lo_none rfl)) (vl_cons ve_str vl_nil) (fun _ _ _ p q z => pe_bm PySem.F.plainAttrs_str PySem.F.slot_str_split PySem.F.type_str_split p q z)) vl_nil)) (fun _ z => ps_par (by rfl) sc_l_near_texts.nd rfl rfl (by decide) rfl rfl z (by rfl)))
    (vb_cons (vs_set (i := 4) (lo_none rfl) (fun z => absurd rfl z) sc_l_near_texts.nd rfl (Or.inl rfl) (ve_call (ok_l_pick T) (hr.mono (by decide)) (by rfl) T.g_l_pick T.F_l_pick.kp T.b_l_pick (takes_of rfl rfl rfl rfl) (vl_cons (vv 0 (lo_none rfl)) (vl_cons (ve_callT (cv_listT new_frz rfl rfl) (by rfl) T.m_list (by decide +kernel) (vl_cons ve_str vl_nil) (fun _ _ p q => pe_callTy p (by rfl) T.m_list (by decide +kernel) q)) vl_nil)) (fun _ z => pe_callS (ok_l_pick T) (hr.mono (by decide)) (by rfl) T.g_l_pick T.F_l_pick.kp T.b_l_pick (fun σ => passAt (takes_of rfl rfl rfl rfl) σ) z)))
    (vb_cons (vs_set (i := 5) (lo_none rfl) (fun z => absurd rfl z) sc_l_near_texts.nd rfl (Or.inl rfl) (ve_lstM (vl_cons (ve_op (opv_add rfl) (ve_op (opv_add rfl) (ve_slice rfl (vv 1 (lo_none rfl)) vo_none (vo_some (vv 2 (lo_none rfl)))) (vv 4 (lo_none rfl))) (ve_slice rfl (vv 1 (lo_none rfl)) (vo_some (ve_op (opv_add rfl) (vv 2 (lo_none rfl)) ve_int)) vo_none)) (vl_cons (ve_op (opv_add rfl) (ve_slice rfl (vv 1 (lo_none rfl)) vo_none (vo_some (vv 2 (lo_none rfl)))) (ve_slice rfl (vv 1 (lo_none rfl)) (vo_some (ve_op (opv_add rfl) (vv 2 (lo_none rfl)) ve_int)) vo_none)) (vl_cons (ve_op (opv_add rfl) (ve_op (opv_add rfl) (ve_slice rfl (vv 1 (lo_none rfl)) vo_none (vo_some (vv 2 (lo_none rfl)))) (vv 4 (lo_none rfl))) (ve_slice rfl (vv 1 (lo_none rfl)) (vo_some (vv 2 (lo_none rfl))) vo_none)) (vl_cons (ve_op (opv_add rfl) (vv 1 (lo_none rfl)) (vv 4 (lo_none rfl))) (vl_cons (ve_op (opv_add rfl) (vv 4 (lo_none rfl)) (vv 1 (lo_none rfl))) vl_nil)))))))
    (vb_cons (vs_set (i := 6) (lo_none rfl) (fun z => absurd rfl z) sc_l_near_texts.nd rfl (Or.inl rfl) (ve_call (ok_l_roll T) (hr.mono (by decide)) (by rfl) T.g_l_roll T.F_l_roll.kp T.b_l_roll (takes_of rfl rfl rfl rfl) (vl_cons (vv 0 (lo_none rfl)) (vl_cons (ve_callB (cv_len rfl) (by rfl) T.m_len (by decide +kernel) (vl_cons (vv 3 (lo_none rfl)) vl_nil) (fun _ _ p q => pe_callB p (by rfl) T.m_len (by decide +kernel) q)) vl_nil)) (fun _ z => pe_callS (ok_l_roll T) (hr.mono (by decide)) (by rfl) T.g_l_roll T.F_l_roll.kp T.b_l_roll (fun σ => passAt (takes_of rfl rfl rfl rfl) σ) z)))
    (vb_cons (vs_set (i := 7) (lo_none rfl) (fun z => absurd rfl z) sc_l_near_texts.nd rfl (Or.inl rfl) (ve_op (opv_add rfl) (ve_slice rfl (vv 3 (lo_none rfl)) vo_none (vo_some (ve_op (opv_add rfl) (vv 6 (lo_none rfl)) ve_int))) (ve_slice rfl (vv 3 (lo_none rfl)) (vo_some (vv 6 (lo_none rfl))) vo_none)))
    (vb_cons (vs_expr (ve_bm rfl PySem.F.plainAttrs_list PySem.F.slot_list_append PySem.F.type_list_append mv_append (vv 5 (lo_none rfl)) (vl_cons (ve_bm rfl PySem.F.plainAttrs_str PySem.F.slot_str_join PySem.F.type_str_join (mv_join rfl) ve_str (vl_cons (vv 7 (lo_none rfl)) vl_nil) (fun _ _ _ p q z => pe_bm PySem.F.plainAttrs_str PySem.F.slot_str_join PySem.F.type_str_join p q z)) vl_nil) (fun _ _ _ p q z => pe_bm PySem.F.plainAttrs_list PySem.F.slot_list_append PySem.F.type_list_append p q z)))
    (vb_cons (vs_expr (ve_bm rfl PySem.F.plainAttrs_list PySem.F.slot_list_append PySem.F.type_list_append mv_append (vv 5 (lo_none rfl)) (vl_cons (ve_bm rfl PySem.F.plainAttrs_str PySem.F.slot_str_join PySem.F.type_str_join (mv_join rfl) ve_str (vl_cons (ve_op (opv_add rfl) (ve_slice rfl (vv 3 (lo_none rfl)) vo_none (vo_some ve_int)) (ve_rev rfl (ve_slice rfl (vv 3 (lo_none rfl)) (vo_some ve_int) vo_none) (PE.weak (pe_un un_neg pe_int) fun σ H Q q => ⟨1, rfl, q⟩))) vl_nil) (fun _ _ _ p q z => pe_bm PySem.F.plainAttrs_str PySem.F.slot_str_join PySem.F.type_str_join p q z)) vl_nil) (fun _ _ _ p q z => pe_bm PySem.F.plainAttrs_list PySem.F.slot_list_append PySem.F.type_list_append p q z)))
    (vb_cons (vs_set (i := 8) (lo_none rfl) (fun z => absurd rfl z) sc_l_near_texts.nd rfl (Or.inl rfl) (ve_bm rfl PySem.F.plainAttrs_str PySem.F.slot_str_split PySem.F.type_str_split (mv_split new_frz) (vv 1 (lo_none rfl)) (vl_cons ve_str vl_nil) (fun _ _ _ p q z => pe_bm PySem.F.plainAttrs_str PySem.F.slot_str_split PySem.F.type_str_split p q z)))
    (vb_cons (vs_set (i := 9) (lo_none rfl) (fun z => absurd rfl z) sc_l_near_texts.nd rfl (Or.inl rfl) (ve_call (ok_l_roll T) (hr.mono (by decide)) (by rfl) T.g_l_roll T.F_l_roll.kp T.b_l_roll (takes_of rfl rfl rfl rfl) (vl_cons (vv 0 (lo_none rfl)) (vl_cons (ve_callB (cv_len rfl) (by rfl) T.m_len (by decide +kernel) (vl_cons (vv 8 (lo_none rfl)) vl_nil) (fun _ _ p q => pe_callB p (by rfl) T.m_len (by decide +kernel) q)) vl_nil)) (fun _ z => pe_callS (ok_l_roll T) (hr.mono (by decide)) (by rfl) T.g_l_roll T.F_l_roll.kp T.b_l_roll (fun σ => passAt (takes_of rfl rfl rfl rfl) σ) z)))
    (vb_cons (vs_set (i := 10) (lo_none rfl) (fun z => absurd rfl z) sc_l_near_texts.nd rfl (Or.inl rfl) (ve_call (ok_l_pick T) (hr.mono (by decide)) (by rfl) T.g_l_pick T.F_l_pick.kp T.b_l_pick (takes_of rfl rfl rfl rfl) (vl_cons (vv 0 (lo_none rfl)) (vl_cons (ve_lst (vl_cons ve_str (vl_cons ve_str (vl_cons ve_str (vl_cons ve_str (vl_cons ve_str (vl_cons ve_str (vl_cons ve_str (vl_cons ve_str (vl_cons ve_str (vl_cons ve_str (vl_cons ve_str (vl_cons ve_str vl_nil))))))))))))) vl_nil)) (fun _ z => pe_callS (ok_l_pick T) (hr.mono (by decide)) (by rfl) T.g_l_pick T.F_l_pick.kp T.b_l_pick (fun σ => passAt (takes_of rfl rfl rfl rfl) σ) z)))
    (vb_one (vs_ret (ve_op (opv_add rfl) (vv 5 (lo_none rfl)) (ve_lst (vl_cons (ve_bm rfl PySem.F.plainAttrs_str PySem.F.slot_str_join PySem.F.type_str_join (mv_join rfl) ve_str (vl_cons (ve_op (opv_add rfl) (ve_op (opv_add rfl) (ve_slice rfl (vv 8 (lo_none rfl)) vo_none (vo_some (vv 9 (lo_none rfl)))) (ve_lst (vl_cons (vv 10 (lo_none rfl)) vl_nil))) (ve_slice rfl (vv 8 (lo_none rfl)) (vo_some (ve_op (opv_add rfl) (vv 9 (lo_none rfl)) ve_int)) vo_none)) vl_nil) (fun _ _ _ p q z => pe_bm PySem.F.plainAttrs_str PySem.F.slot_str_join PySem.F.type_str_join p q z)) (vl_cons (ve_bm rfl PySem.F.plainAttrs_str PySem.F.slot_str_join PySem.F.type_str_join (mv_join rfl) ve_str (vl_cons (ve_op (opv_add rfl) (ve_slice rfl (vv 8 (lo_none rfl)) vo_none (vo_some (vv 9 (lo_none rfl)))) (ve_slice rfl (vv 8 (lo_none rfl)) (vo_some (ve_op (opv_add rfl) (vv 9 (lo_none rfl)) ve_int)) vo_none)) vl_nil) (fun _ _ _ p q z => pe_bm PySem.F.plainAttrs_str PySem.F.slot_str_join PySem.F.type_str_join p q z)) (vl_cons (ve_op (opv_add rfl) (vv 1 (lo_none rfl)) ve_str) (vl_cons (ve_bm0 rfl PySem.F.plainAttrs_str PySem.F.slot_str_upper PySem.F.type_str_upper mv_upper (vv 1 (lo_none rfl)) (fun _ _ p q => pe_bm0 PySem.F.plainAttrs_str PySem.F.slot_str_upper PySem.F.type_str_upper p q)) vl_nil))))))))))))))))))
noncomputable def f_l_told : VL.Env → M VL.Flow := fun ρ => tryM xo_InvalidWorld (fun ρ => liftS ρ (((((rd 0 ρ) >>= fun x => (pure [] : M (List D)) >>= fun r => pure (x :: r)) >>= callM 1 m_read_world) >>= fun x => (pure [] : M (List D)) >>= fun r => pure (x :: r)) >>= callM 1 m_l_wd_plain) fun d => pure (VL.Flow.rt d)) (fun ρ => liftS ρ (pure D.non : M D) fun d => pure (VL.Flow.rt d)) ρ
noncomputable def m_l_told : List D → M D := runF 1 f_l_told
theorem ok_l_told (T : Tp P K mg) : FnOk P w K mg base (L2.CX P w) 13 T.a_l_told T.d_l_told ["_law_text"] (spD T.cn 1 m_l_told) :=
  fnv_ok (c := T.cn) T.F_l_told rfl sc_l_told fun cdv A outer s0 H E hr => (vb_one (vs_try1 (C := "InvalidWorld") (ex := xo_InvalidWorld) rfl rfl rfl ⟨by rfl, by decide, .inl T.gx_InvalidWorld⟩ (takes_of rfl rfl rfl rfl) T.exO_InvalidWorld (fun _ _ _ tk1 po1 => (vb_one (vs_ret (ve_call (ok_l_wd_plain T) (hr.mono (by decide)) (by rfl) T.g_l_wd_plain T.F_l_wd_plain.kp T.b_l_wd_plain tk1 (vl_cons (ve_call (ok_read_world T) (hr.mono (by decide)) (by rfl) T.g_read_world T.F_read_world.kp T.b_read_world tk1 (vl_cons (vv 0 (lo_none rfl)) vl_nil) (fun _ z => pe_callS (ok_read_world T) (hr.mono (by decide)) (by rfl) T.g_read_world T.F_read_world.kp T.b_read_world (fun σ => passAt tk1 σ) z)) vl_nil) (fun _ z => pe_callS (ok_l_wd_plain T) (hr.mono (by decide)) (by rfl) T.g_l_wd_plain T.F_l_wd_plain.kp T.b_l_wd_plain (fun σ => passAt tk1 σ) z))))) (fun _ _ _ _ _ _ _ => (vb_one (vs_ret ve_non)))))
noncomputable def f_l_right : VL.Env → M VL.Flow := fun ρ => seqM (liftS ρ ((((rd 0 ρ) >>= fun x => (pure [] : M (List D)) >>= fun r => pure (x :: r)) >>= callM 1 m_l_world_drawn) >>= fun x => ((((rd 0 ρ) >>= fun x => (pure [] : M (List D)) >>= fun r => pure (x :: r)) >>= callM 1 m_l_world_drawn) >>= fun x => (pure [] : M (List D)) >>= fun r => pure (x :: r)) >>= fun r => pure (x :: r)) fun ds => set2 ρ 1 2 ds)
    (fun ρ => seqM (liftS ρ (((((rd 1 ρ) >>= fun x => (pure (D.int 0) : M D) >>= fun y => dIx x y) >>= fun x => (((rd 1 ρ) >>= fun x => (pure (D.int 1) : M D) >>= fun y => dIx x y) >>= fun x => (((rd 1 ρ) >>= fun x => (pure (D.int 2) : M D) >>= fun y => dIx x y) >>= fun x => (((rd 1 ρ) >>= fun x => (pure (D.int 3) : M D) >>= fun y => dIx x y) >>= fun x => (pure [] : M (List D)) >>= fun r => pure (x :: r)) >>= fun r => pure (x :: r)) >>= fun r => pure (x :: r)) >>= fun r => pure (x :: r)) >>= fun ds => newM "World" 5 m_World_init (ds ++ [])) >>= fun x => (((((rd 2 ρ) >>= fun x => (pure (D.int 0) : M D) >>= fun y => dIx x y) >>= fun x => (((rd 2 ρ) >>= fun x => (pure (D.int 1) : M D) >>= fun y => dIx x y) >>= fun x => (((rd 2 ρ) >>= fun x => (pure (D.int 2) : M D) >>= fun y => dIx x y) >>= fun x => (((rd 2 ρ) >>= fun x => (pure (D.int 3) : M D) >>= fun y => dIx x y) >>= fun x => (pure [] : M (List D)) >>= fun r => pure (x :: r)) >>= fun r => pure (x :: r)) >>= fun r => pure (x :: r)) >>= fun r => pure (x :: r)) >>= fun ds => newM "World" 5 m_World_init (ds ++ [])) >>= fun x => (pure [] : M (List D)) >>= fun r => pure (x :: r)) >>= fun r => pure (x :: r)) fun ds => set2 ρ 3 4 ds)
    (fun ρ => seqM (liftS ρ (tOr ((((((rd 3 ρ) >>= fun x => (pure [] : M (List D)) >>= fun r => pure (x :: r)) >>= callM 1 m_world_text) >>= fun x => (((rd 1 ρ) >>= fun x => (pure [] : M (List D)) >>= fun r => pure (x :: r)) >>= callM 1 m_l_written) >>= fun y => dNe x y) >>= asB)) ((tOr ((((((((rd 3 ρ) >>= fun x => (pure [] : M (List D)) >>= fun r => pure (x :: r)) >>= callM 1 m_world_text) >>= fun x => (pure [] : M (List D)) >>= fun r => pure (x :: r)) >>= callM 1 m_read_world) >>= fun x => (rd 3 ρ) >>= fun y => (dNeO ownL "World" m_World_eq) x y) >>= asB)) (((((((rd 3 ρ) >>= fun x => (pure [] : M (List D)) >>= fun r => pure (x :: r)) >>= callM 1 m_world_text) >>= fun x => (((rd 4 ρ) >>= fun x => (pure [] : M (List D)) >>= fun r => pure (x :: r)) >>= callM 1 m_world_text) >>= fun y => dEq x y) >>= fun x => ((rd 1 ρ) >>= fun x => (rd 2 ρ) >>= fun y => dEq x y) >>= fun y => dNe x y) >>= asB))))) fun k => if k then (liftS ρ (pure (D.bl false) : M D) fun d => pure (VL.Flow.rt d)) else (pure (VL.Flow.nx ρ)))
    (fun ρ => seqM (liftS ρ ((((((rd 0 ρ) >>= fun x => ((((rd 1 ρ) >>= fun x => (pure [] : M (List D)) >>= fun r => pure (x :: r)) >>= callM 1 m_l_written) >>= fun x => (pure [] : M (List D)) >>= fun r => pure (x :: r)) >>= fun r => pure (x :: r)) >>= callM 2 m_l_near_texts) >>= fun x => (((rd 0 ρ) >>= fun x => ((((rd 2 ρ) >>= fun x => (pure [] : M (List D)) >>= fun r => pure (x :: r)) >>= callM 1 m_l_written) >>= fun x => (pure [] : M (List D)) >>= fun r => pure (x :: r)) >>= fun r => pure (x :: r)) >>= callM 2 m_l_near_texts) >>= fun y => dAdd x y) >>= fun x => (((((rd 1 ρ) >>= fun x => (pure [] : M (List D)) >>= fun r => pure (x :: r)) >>= callM 1 m_l_written) >>= fun x => (pure [] : M (List D)) >>= fun r => pure (x :: r)) >>= mkLst) >>= fun y => dAdd x y) >>= itOf) fun it => loopI it (gN 5) (fun ρ => liftS ρ (((((rd 5 ρ) >>= fun x => (pure [] : M (List D)) >>= fun r => pure (x :: r)) >>= callM 1 m_l_told) >>= fun x => (((rd 5 ρ) >>= fun x => (pure [] : M (List D)) >>= fun r => pure (x :: r)) >>= callM 1 m_l_read) >>= fun y => dNe x y) >>= asB) fun k => if k then (liftS ρ (pure (D.bl false) : M D) fun d => pure (VL.Flow.rt d)) else (pure (VL.Flow.nx ρ))) it.items ρ)
    (fun ρ => liftS ρ ((((((rd 0 ρ) >>= fun x => ((((pure D.non : M D) >>= fun x => ((pure (D.int 0) : M D) >>= fun x => ((pure (D.str "") : M D) >>= fun x => ((((pure (D.int 0) : M D) >>= fun x => ((pure (D.int 0) : M D) >>= fun x => ((pure (D.int 0) : M D) >>= fun x => (((pure [] : M (List D)) >>= mkTup) >>= fun x => (pure [] : M (List D)) >>= fun r => pure (x :: r)) >>= fun r => pure (x :: r)) >>= fun r => pure (x :: r)) >>= fun r => pure (x :: r)) >>= mkTup) >>= fun x => ((((pure (D.str "0 0 0") : M D) >>= fun x => (pure [] : M (List D)) >>= fun r => pure (x :: r)) >>= mkLst) >>= fun x => ((pure (D.dct [] []) : M D) >>= fun x => ((pure (D.bl true) : M D) >>= fun x => (pure [] : M (List D)) >>= fun r => pure (x :: r)) >>= fun r => pure (x :: r)) >>= fun r => pure (x :: r)) >>= fun r => pure (x :: r)) >>= fun r => pure (x :: r)) >>= fun r => pure (x :: r)) >>= fun r => pure (x :: r)) >>= mkLst) >>= fun x => (pure [] : M (List D)) >>= fun r => pure (x :: r)) >>= fun r => pure (x :: r)) >>= callM 2 m_l_pick) >>= fun x => (pure [] : M (List D)) >>= fun r => pure (x :: r)) >>= callM 1 m_l_told) >>= fun x => pure (D.bl (isN x))) fun d => pure (VL.Flow.rt d)))))
noncomputable def m_l_right : List D → M D := locM (runF 6 f_l_right)
theorem ok_l_right (T : Tp P K mg) : FnOk P w K mg base (L2.CX P w) 14 T.a_l_right T.d_l_right ["_law_dice_here"] (spD T.cn 1 m_l_right) :=
  VL.FnOk.loc (fnv_ok (c := T.cn) T.F_l_right rfl sc_l_right fun cdv A outer s0 H E hr => (vb_cons (vs_par (i := 1) (j := 2) ⟨(lo_none rfl), (fun z => absurd rfl z)⟩ ⟨(lo_none rfl), (fun z => absurd rfl z)⟩ (vl_cons (ve_call (ok_l_world_drawn T) (hr.mono (by decide)) (by rfl) T.g_l_world_drawn T.F_l_world_drawn.kp T.b_l_world_drawn (takes_of rfl rfl rfl rfl) (vl_cons (vv 0 (lo_none rfl)) vl_nil) (fun _ z => pe_callS (ok_l_world_drawn T) (hr.mono (by decide)) (by rfl) T.g_l_world_drawn T.F_l_world_drawn.kp T.b_l_world_drawn (fun σ => passAt (takes_of rfl rfl rfl rfl) σ) z)) (vl_cons (ve_call (ok_l_world_drawn T) (hr.mono (by decide)) (by rfl) T.g_l_world_drawn T.F_l_world_drawn.kp T.b_l_world_drawn (takes_of rfl rfl rfl rfl) (vl_cons (vv 0 (lo_none rfl)) vl_nil) (fun _ z => pe_callS (ok_l_world_drawn T) (hr.mono (by decide)) (by rfl) T.g_l_world_drawn T.F_l_world_drawn.kp T.b_l_world_drawn (fun σ => passAt (takes_of rfl rfl rfl rfl) σ) z)) vl_nil)) (fun _ z => ps_par (by rfl) sc_l_right.nd rfl rfl (by decide) rfl rfl z (by rfl)))
    (vb_cons (vs_par (i := 3) (j := 4) ⟨(lo_none rfl), (fun z => absurd rfl z)⟩ ⟨(lo_none rfl), (fun z => absurd rfl z)⟩ (vl_cons (ve_make (C := "World") T.mk_World (ok_World_init T) (hr.mono (by decide)) (by rfl) T.g_World T.b_World_init .nil (fun _ _ => by simp only [RepL]) (takes_of rfl rfl rfl rfl) (vl_cons (ve_ix rfl (vv 1 (lo_none rfl)) ve_int (fun _ _ => rfl)) (vl_cons (ve_ix rfl (vv 1 (lo_none rfl)) ve_int (fun _ _ => rfl)) (vl_cons (ve_ix rfl (vv 1 (lo_none rfl)) ve_int (fun _ _ => rfl)) (vl_cons (ve_ix rfl (vv 1 (lo_none rfl)) ve_int (fun _ _ => rfl)) vl_nil))))) (vl_cons (ve_make (C := "World") T.mk_World (ok_World_init T) (hr.mono (by decide)) (by rfl) T.g_World T.b_World_init .nil (fun _ _ => by simp only [RepL]) (takes_of rfl rfl rfl rfl) (vl_cons (ve_ix rfl (vv 2 (lo_none rfl)) ve_int (fun _ _ => rfl)) (vl_cons (ve_ix rfl (vv 2 (lo_none rfl)) ve_int (fun _ _ => rfl)) (vl_cons (ve_ix rfl (vv 2 (lo_none rfl)) ve_int (fun _ _ => rfl)) (vl_cons (ve_ix rfl (vv 2 (lo_none rfl)) ve_int (fun _ _ => rfl)) vl_nil))))) vl_nil)) (fun _ z => ps_par (by rfl) sc_l_right.nd rfl rfl (by decide) rfl rfl z (by rfl)))
    (vb_cons (vs_if (vt_of (vw_or (vt_cmp (opv_ne rfl hr.units) (ve_call (ok_world_text T) (hr.mono (by decide)) (by rfl) T.g_world_text T.F_world_text.kp T.b_world_text (takes_of rfl rfl rfl rfl) (vl_cons (vv 3 (lo_none rfl)) vl_nil) (fun _ z => pe_callS (ok_world_text T) (hr.mono (by decide)) (by rfl) T.g_world_text T.F_world_text.kp T.b_world_text (fun σ => passAt (takes_of rfl rfl rfl rfl) σ) z)) (ve_call (ok_l_written T) (hr.mono (by decide)) (by rfl) T.g_l_written T.F_l_written.kp T.b_l_written (takes_of rfl rfl rfl rfl) (vl_cons (vv 1 (lo_none rfl)) vl_nil) (fun _ z => pe_callS (ok_l_written T) (hr.mono (by decide)) (by rfl) T.g_l_written T.F_l_written.kp T.b_l_written (fun σ => passAt (takes_of rfl rfl rfl rfl) σ) z)) (nomark _)) (vw_or (vt_cmp (opv_neO (C := "World") rfl hr.units T.ownK T.nf_World T.m_World_eq T.ne_World T.is_World.cm (ok_World_eq T) T.b_World_eq (hr.mono (by decide))) (ve_call (ok_read_world T) (hr.mono (by decide)) (by rfl) T.g_read_world T.F_read_world.kp T.b_read_world (takes_of rfl rfl rfl rfl) (vl_cons (ve_call (ok_world_text T) (hr.mono (by decide)) (by rfl) T.g_world_text T.F_world_text.kp T.b_world_text (takes_of rfl rfl rfl rfl) (vl_cons (vv 3 (lo_none rfl)) vl_nil) (fun _ z => pe_callS (ok_world_text T) (hr.mono (by decide)) (by rfl) T.g_world_text T.F_world_text.kp T.b_world_text (fun σ => passAt (takes_of rfl rfl rfl rfl) σ) z)) vl_nil) (fun _ z => pe_callS (ok_read_world T) (hr.mono (by decide)) (by rfl) T.g_read_world T.F_read_world.kp T.b_read_world (fun σ => passAt (takes_of rfl rfl rfl rfl) σ) z)) (vv 3 (lo_none rfl)) (nomark _)) (vw_or1 (vt_cmp (opv_ne rfl hr.units) (ve_cmp (opv_eq rfl hr.units) (ve_call (ok_world_text T) (hr.mono (by decide)) (by rfl) T.g_world_text T.F_world_text.kp T.b_world_text (takes_of rfl rfl rfl rfl) (vl_cons (vv 3 (lo_none rfl)) vl_nil) (fun _ z => pe_callS (ok_world_text T) (hr.mono (by decide)) (by rfl) T.g_world_text T.F_world_text.kp T.b_world_text (fun σ => passAt (takes_of rfl rfl rfl rfl) σ) z)) (ve_call (ok_world_text T) (hr.mono (by decide)) (by rfl) T.g_world_text T.F_world_text.kp T.b_world_text (takes_of rfl rfl rfl rfl) (vl_cons (vv 4 (lo_none rfl)) vl_nil) (fun _ z => pe_callS (ok_world_text T) (hr.mono (by decide)) (by rfl) T.g_world_text T.F_world_text.kp T.b_world_text (fun σ => passAt (takes_of rfl rfl rfl rfl) σ) z)) (nomark _)) (ve_cmp (opv_eq rfl hr.units) (vv 1 (lo_none rfl)) (vv 2 (lo_none rfl)) (nomark _)) (nomark _)))))) (vb_one (vs_ret ve_bl)) vb_nil)
    (vb_cons (vs_for (vi_seq rfl (ve_op (opv_add rfl) (ve_op (opv_add rfl) (ve_call (ok_l_near_texts T) (hr.mono (by decide)) (by rfl) T.g_l_near_texts T.F_l_near_texts.kp T.b_l_near_texts (takes_of rfl rfl rfl rfl) (vl_cons (vv 0 (lo_none rfl)) (vl_cons (ve_call (ok_l_written T) (hr.mono (by decide)) (by rfl) T.g_l_written T.F_l_written.kp T.b_l_written (takes_of rfl rfl rfl rfl) (vl_cons (vv 1 (lo_none rfl)) vl_nil) (fun _ z => pe_callS (ok_l_written T) (hr.mono (by decide)) (by rfl) T.g_l_written T.F_l_written.kp T.b_l_written (fun σ => passAt (takes_of rfl rfl rfl rfl) σ) z)) vl_nil)) (fun _ z => pe_callS (ok_l_near_texts T) (hr.mono (by decide)) (by rfl) T.g_l_near_texts T.F_l_near_texts.kp T.b_l_near_texts (fun σ => passAt (takes_of rfl rfl rfl rfl) σ) z)) (ve_call (ok_l_near_texts T) (hr.mono (by decide)) (by rfl) T.g_l_near_texts T.F_l_near_texts.kp T.b_l_near_texts (takes_of rfl rfl rfl rfl) (vl_cons (vv 0 (lo_none rfl)) (vl_cons (ve_call (ok_l_written T) (hr.mono (by decide)) (by rfl) T.g_l_written T.F_l_written.kp T.b_l_written (takes_of rfl rfl rfl rfl) (vl_cons (vv 2 (lo_none rfl)) vl_nil) (fun _ z => pe_callS (ok_l_written T) (hr.mono (by decide)) (by rfl) T.g_l_written T.F_l_written.kp T.b_l_written (fun σ => passAt (takes_of rfl rfl rfl rfl) σ) z)) vl_nil)) (fun _ z => pe_callS (ok_l_near_texts T) (hr.mono (by decide)) (by rfl) T.g_l_near_texts T.F_l_near_texts.kp T.b_l_near_texts (fun σ => passAt (takes_of rfl rfl rfl rfl) σ) z))) (ve_lst (vl_cons (ve_call (ok_l_written T) (hr.mono (by decide)) (by rfl) T.g_l_written T.F_l_written.kp T.b_l_written (takes_of rfl rfl rfl rfl) (vl_cons (vv 1 (lo_none rfl)) vl_nil) (fun _ z => pe_callS (ok_l_written T) (hr.mono (by decide)) (by rfl) T.g_l_written T.F_l_written.kp T.b_l_written (fun σ => passAt (takes_of rfl rfl rfl rfl) σ) z)) vl_nil)))) (vg_name (i := 5) (lo_none rfl) (fun z => absurd rfl z) sc_l_right.nd rfl (Or.inl rfl)) (vb_one (vs_if (vt_cmp (opv_ne rfl hr.units) (ve_call (ok_l_told T) (hr.mono (by decide)) (by rfl) T.g_l_told T.F_l_told.kp T.b_l_told (takes_of rfl rfl rfl rfl) (vl_cons (vv 5 (lo_none rfl)) vl_nil) (fun _ z => pe_callS (ok_l_told T) (hr.mono (by decide)) (by rfl) T.g_l_told T.F_l_told.kp T.b_l_told (fun σ => passAt (takes_of rfl rfl rfl rfl) σ) z)) (ve_call (ok_l_read T) (hr.mono (by decide)) (by rfl) T.g_l_read T.F_l_read.kp T.b_l_read (takes_of rfl rfl rfl rfl) (vl_cons (vv 5 (lo_none rfl)) vl_nil) (fun _ z => pe_callS (ok_l_read T) (hr.mono (by decide)) (by rfl) T.g_l_read T.F_l_read.kp T.b_l_read (fun σ => passAt (takes_of rfl rfl rfl rfl) σ) z)) (nomark _)) (vb_one (vs_ret ve_bl)) vb_nil)) (fun _ _ _ p q r => ps_for (passes_of rfl) rfl p q r))
    (vb_one (vs_ret (ve_isN (ve_call (ok_l_told T) (hr.mono (by decide)) (by rfl) T.g_l_told T.F_l_told.kp T.b_l_told (takes_of rfl rfl rfl rfl) (vl_cons (ve_call (ok_l_pick T) (hr.mono (by decide)) (by rfl) T.g_l_pick T.F_l_pick.kp T.b_l_pick (takes_of rfl rfl rfl rfl) (vl_cons (vv 0 (lo_none rfl)) (vl_cons (ve_lst (vl_cons ve_non (vl_cons ve_int (vl_cons ve_str (vl_cons (ve_tup (vl_cons ve_int (vl_cons ve_int (vl_cons ve_int (vl_cons (ve_tup vl_nil) vl_nil))))) (vl_cons (ve_lst (vl_cons ve_str vl_nil)) (vl_cons ve_dnewF (vl_cons ve_bl vl_nil)))))))) vl_nil)) (fun _ z => pe_callS (ok_l_pick T) (hr.mono (by decide)) (by rfl) T.g_l_pick T.F_l_pick.kp T.b_l_pick (fun σ => passAt (takes_of rfl rfl rfl rfl) σ) z)) vl_nil) (fun _ z => pe_callS (ok_l_told T) (hr.mono (by decide)) (by rfl) T.g_l_told T.F_l_told.kp T.b_l_told (fun σ => passAt (takes_of rfl rfl rfl rfl) σ) z))))))))))
noncomputable def f_law : VL.Env → M VL.Flow := fun ρ => seqM (liftS ρ (((((pure (D.int 1) : M D) >>= fun x => ((((pure (D.int 3) : M D) >>= fun x => ((((rd 0 ρ) >>= fun x => (pure [] : M (List D)) >>= fun r => pure (x :: r)) >>= lenD) >>= fun x => (pure [] : M (List D)) >>= fun r => pure (x :: r)) >>= fun r => pure (x :: r)) >>= minD) >>= fun x => (pure [] : M (List D)) >>= fun r => pure (x :: r)) >>= fun r => pure (x :: r)) >>= maxD) >>= fun x => (pure [] : M (List D)) >>= fun r => pure (x :: r)) >>= rng1) fun it => loopI it (gN 1) (fun ρ => seqM (liftS ρ (((rd 0 ρ) >>= fun x => ((rd 1 ρ) >>= fun x => (pure [] : M (List D)) >>= fun r => pure (x :: r)) >>= fun r => pure (x :: r)) >>= callM 2 m_l_dice) fun d => pure (VL.Flow.nx (ρ.set 4 (some d))))
    (fun ρ => liftS ρ (((pure (D.int 2) : M D) >>= fun x => (pure [] : M (List D)) >>= fun r => pure (x :: r)) >>= rng1) fun it => loopI it (gN 5) (fun ρ => liftS ρ (((((rd 4 ρ) >>= fun x => (pure [] : M (List D)) >>= fun r => pure (x :: r)) >>= callM 1 m_l_right) >>= asB) >>= fun b => pure (!b)) fun k => if k then (liftS ρ (pure (D.bl false) : M D) fun d => pure (VL.Flow.rt d)) else (pure (VL.Flow.nx ρ))) it.items ρ)) it.items ρ)
    (fun ρ => seqM (liftS ρ (((((((pure (D.int 0) : M D) >>= fun x => ((pure (D.int 0) : M D) >>= fun x => ((pure (D.int 0) : M D) >>= fun x => (((pure [] : M (List D)) >>= mkTup) >>= fun x => (pure [] : M (List D)) >>= fun r => pure (x :: r)) >>= fun r => pure (x :: r)) >>= fun r => pure (x :: r)) >>= fun r => pure (x :: r)) >>= fun ds => newM "World" 5 m_World_init (ds ++ [])) >>= fun x => (pure [] : M (List D)) >>= fun r => pure (x :: r)) >>= callM 1 m_world_text) >>= fun x => ((((((pure (D.int 12) : M D) >>= fun x => ((pure (D.int 9) : M D) >>= fun x => ((pure (D.int 5) : M D) >>= fun x => ((((((pure (D.int 3) : M D) >>= fun x => ((pure (D.str "a") : M D) >>= fun x => (((((pure (D.int 4) : M D) >>= negD) >>= fun x => ((pure (D.int 0) : M D) >>= fun x => (pure [] : M (List D)) >>= fun r => pure (x :: r)) >>= fun r => pure (x :: r)) >>= mkTup) >>= fun x => (pure [] : M (List D)) >>= fun r => pure (x :: r)) >>= fun r => pure (x :: r)) >>= fun r => pure (x :: r)) >>= mkTup) >>= fun x => ((((pure (D.int 8) : M D) >>= fun x => ((pure (D.str "bc") : M D) >>= fun x => (((((pure (D.int 10) : M D) >>= fun x => (pure (D.int 9) : M D) >>= fun y => dPow x y) >>= fun x => (pure [] : M (List D)) >>= fun r => pure (x :: r)) >>= mkTup) >>= fun x => (pure [] : M (List D)) >>= fun r => pure (x :: r)) >>= fun r => pure (x :: r)) >>= fun r => pure (x :: r)) >>= mkTup) >>= fun x => (pure [] : M (List D)) >>= fun r => pure (x :: r)) >>= fun r => pure (x :: r)) >>= mkTup) >>= fun x => (pure [] : M (List D)) >>= fun r => pure (x :: r)) >>= fun r => pure (x :: r)) >>= fun r => pure (x :: r)) >>= fun r => pure (x :: r)) >>= fun ds => newM "World" 5 m_World_init (ds ++ [])) >>= fun x => (pure [] : M (List D)) >>= fun r => pure (x :: r)) >>= callM 1 m_world_text) >>= fun x => (pure [] : M (List D)) >>= fun r => pure (x :: r)) >>= fun r => pure (x :: r)) >>= mkLst) fun d => pure (VL.Flow.nx (ρ.set 2 (some d))))
    (fun ρ => seqM (liftS ρ (tOr ((((rd 2 ρ) >>= fun x => (((pure (D.str "0 0 0") : M D) >>= fun x => ((pure (D.str "12 9 5;3 a -4 0;8 bc 1000000000") : M D) >>= fun x => (pure [] : M (List D)) >>= fun r => pure (x :: r)) >>= fun r => pure (x :: r)) >>= mkLst) >>= fun y => dNe x y) >>= asB)) ((((((pure (D.str "0 1 0;0 a 0") : M D) >>= fun x => (pure [] : M (List D)) >>= fun r => pure (x :: r)) >>= callM 1 m_l_told) >>= fun x => (((pure (D.int 0) : M D) >>= fun x => ((pure (D.int 1) : M D) >>= fun x => ((pure (D.int 0) : M D) >>= fun x => ((((((pure (D.int 0) : M D) >>= fun x => ((pure (D.str "a") : M D) >>= fun x => ((((pure (D.int 0) : M D) >>= fun x => (pure [] : M (List D)) >>= fun r => pure (x :: r)) >>= mkTup) >>= fun x => (pure [] : M (List D)) >>= fun r => pure (x :: r)) >>= fun r => pure (x :: r)) >>= fun r => pure (x :: r)) >>= mkTup) >>= fun x => (pure [] : M (List D)) >>= fun r => pure (x :: r)) >>= mkTup) >>= fun x => (pure [] : M (List D)) >>= fun r => pure (x :: r)) >>= fun r => pure (x :: r)) >>= fun r => pure (x :: r)) >>= fun r => pure (x :: r)) >>= mkTup) >>= fun y => dNe x y) >>= asB))) fun k => if k then (liftS ρ (pure (D.bl false) : M D) fun d => pure (VL.Flow.rt d)) else (pure (VL.Flow.nx ρ)))
    (fun ρ => seqM (liftS ρ (((pure (D.str "0 0") : M D) >>= fun x => ((pure (D.str "0 0 0 ") : M D) >>= fun x => ((pure (D.str "0 0 0;") : M D) >>= fun x => ((pure (D.str "0 1 0;1 a 0") : M D) >>= fun x => ((pure (D.str "0 2 0;1 a 0;0 a 0") : M D) >>= fun x => ((pure (D.str "0 1 0;0 a") : M D) >>= fun x => ((pure (D.str "0 1 0;0  a 0") : M D) >>= fun x => ((pure (D.str "0 1 0;0 a 00") : M D) >>= fun x => ((pure (D.str "0 1 0;0 a -0") : M D) >>= fun x => ((pure (D.str "-1 0 0") : M D) >>= fun x => (pure [] : M (List D)) >>= fun r => pure (x :: r)) >>= fun r => pure (x :: r)) >>= fun r => pure (x :: r)) >>= fun r => pure (x :: r)) >>= fun r => pure (x :: r)) >>= fun r => pure (x :: r)) >>= fun r => pure (x :: r)) >>= fun r => pure (x :: r)) >>= fun r => pure (x :: r)) >>= fun r => pure (x :: r)) >>= mkLst) fun d => pure (VL.Flow.nx (ρ.set 3 (some d))))
    (fun ρ => liftS ρ (andD (((((rd 3 ρ) >>= itOf) >>= fun it => ask (small it.items.length) >>= fun _ => loopC it (gN 6) (fun ρ => ((((rd 6 ρ) >>= fun x => (pure [] : M (List D)) >>= fun r => pure (x :: r)) >>= callM 1 m_l_told) >>= fun x => pure (!isN x))) (fun ρ => (rd 6 ρ)) (wipeE ρ [6]) it.items [] >>= frzL) >>= fun x => ((pure [] : M (List D)) >>= mkLst) >>= fun y => dEq x y)) (((((pure (D.str "0 1 0;0 a 00") : M D) >>= fun x => (pure [] : M (List D)) >>= fun r => pure (x :: r)) >>= callM 1 m_l_read) >>= fun x => pure (D.bl (isN x))))) fun d => pure (VL.Flow.rt d)))))
noncomputable def m_law : List D → M D := runF 7 f_law
theorem ok_law (T : Tp P K mg) : FnOk P w K mg base (L2.CX P w) 15 T.a_law T.d_law ["_law_script"] (spD T.cn 1 m_law) :=
  fnv_ok (c := T.cn) T.F_law rfl sc_law fun cdv A outer s0 H E hr => (vb_cons (vs_for (vi_range1 (by rfl) T.m_range (vl_cons (ve_callB (cv_max rfl rfl) (by rfl) T.m_max (by decide +kernel) (vl_cons ve_int (vl_cons (ve_callB (cv_min rfl rfl) (by rfl) T.m_min (by decide +kernel) (vl_cons ve_int (vl_cons (ve_callB (cv_len rfl) (by rfl) T.m_len (by decide +kernel) (vl_cons (vv 0 (lo_none rfl)) vl_nil) (fun _ _ p q => pe_callB p (by rfl) T.m_len (by decide +kernel) q)) vl_nil)) (fun _ _ p q => pe_callB p (by rfl) T.m_min (by decide +kernel) q)) vl_nil)) (fun _ _ p q => pe_callB p (by rfl) T.m_max (by decide +kernel) q)) vl_nil)) (vg_name (i := 1) (lo_none rfl) (fun z => absurd rfl z) sc_law.nd rfl (Or.inl rfl)) (vb_cons (vs_set (i := 4) (lo_none rfl) (fun z => absurd rfl z) sc_law.nd rfl (Or.inl rfl) (ve_call (ok_l_dice T) (hr.mono (by decide)) (by rfl) T.g_l_dice T.F_l_dice.kp T.b_l_dice (takes_of rfl rfl rfl rfl) (vl_cons (vv 0 (lo_none rfl)) (vl_cons (vv 1 (lo_none rfl)) vl_nil)) (fun _ z => pe_callS (ok_l_dice T) (hr.mono (by decide)) (by rfl) T.g_l_dice T.F_l_dice.kp T.b_l_dice (fun σ => passAt (takes_of rfl rfl rfl rfl) σ) z)))
    (vb_one (vs_for (vi_range1 (by rfl) T.m_range (vl_cons ve_int vl_nil)) (vg_name (i := 5) (lo_none rfl) (fun z => absurd rfl z) sc_law.nd rfl (Or.inl rfl)) (vb_one (vs_if (vt_not (vt_val (ve_call (ok_l_right T) (hr.mono (by decide)) (by rfl) T.g_l_right T.F_l_right.kp T.b_l_right (takes_of rfl rfl rfl rfl) (vl_cons (vv 4 (lo_none rfl)) vl_nil) (fun _ z => pe_callS (ok_l_right T) (hr.mono (by decide)) (by rfl) T.g_l_right T.F_l_right.kp T.b_l_right (fun σ => passAt (takes_of rfl rfl rfl rfl) σ) z)))) (vb_one (vs_ret ve_bl)) vb_nil)) (fun _ _ _ p q r => ps_for (passes_of rfl) rfl p q r)))) (fun _ _ _ p q r => ps_for (passes_of rfl) rfl p q r))
    (vb_cons (vs_set (i := 2) (lo_none rfl) (fun z => absurd rfl z) sc_law.nd rfl (Or.inl rfl) (ve_lst (vl_cons (ve_call (ok_world_text T) (hr.mono (by decide)) (by rfl) T.g_world_text T.F_world_text.kp T.b_world_text (takes_of rfl rfl rfl rfl) (vl_cons (ve_make (C := "World") T.mk_World (ok_World_init T) (hr.mono (by decide)) (by rfl) T.g_World T.b_World_init .nil (fun _ _ => by simp only [RepL]) (takes_of rfl rfl rfl rfl) (vl_cons ve_int (vl_cons ve_int (vl_cons ve_int (vl_cons (ve_tup vl_nil) vl_nil))))) vl_nil) (fun _ z => pe_callS (ok_world_text T) (hr.mono (by decide)) (by rfl) T.g_world_text T.F_world_text.kp T.b_world_text (fun σ => passAt (takes_of rfl rfl rfl rfl) σ) z)) (vl_cons (ve_call (ok_world_text T) (hr.mono (by decide)) (by rfl) T.g_world_text T.F_world_text.kp T.b_world_text (takes_of rfl rfl rfl rfl) (vl_cons (ve_make (C := "World") T.mk_World (ok_World_init T) (hr.mono (by decide)) (by rfl) T.g_World T.b_World_init .nil (fun _ _ => by simp only [RepL]) (takes_of rfl rfl rfl rfl) (vl_cons ve_int (vl_cons ve_int (vl_cons ve_int (vl_cons (ve_tup (vl_cons (ve_tup (vl_cons ve_int (vl_cons ve_str (vl_cons (ve_tup (vl_cons (ve_neg ve_int) (vl_cons ve_int vl_nil))) vl_nil)))) (vl_cons (ve_tup (vl_cons ve_int (vl_cons ve_str (vl_cons (ve_tup (vl_cons (ve_op opv_pow ve_int ve_int) vl_nil)) vl_nil)))) vl_nil))) vl_nil))))) vl_nil) (fun _ z => pe_callS (ok_world_text T) (hr.mono (by decide)) (by rfl) T.g_world_text T.F_world_text.kp T.b_world_text (fun σ => passAt (takes_of rfl rfl rfl rfl) σ) z)) vl_nil))))
    (vb_cons (vs_if (vt_of (vw_or (vt_cmp (opv_ne rfl hr.units) (vv 2 (lo_none rfl)) (ve_lst (vl_cons ve_str (vl_cons ve_str vl_nil))) (nomark _)) (vw_or1 (vt_cmp (opv_ne rfl hr.units) (ve_call (ok_l_told T) (hr.mono (by decide)) (by rfl) T.g_l_told T.F_l_told.kp T.b_l_told (takes_of rfl rfl rfl rfl) (vl_cons ve_str vl_nil) (fun _ z => pe_callS (ok_l_told T) (hr.mono (by decide)) (by rfl) T.g_l_told T.F_l_told.kp T.b_l_told (fun σ => passAt (takes_of rfl rfl rfl rfl) σ) z)) (ve_tup (vl_cons ve_int (vl_cons ve_int (vl_cons ve_int (vl_cons (ve_tup (vl_cons (ve_tup (vl_cons ve_int (vl_cons ve_str (vl_cons (ve_tup (vl_cons ve_int vl_nil)) vl_nil)))) vl_nil)) vl_nil))))) (nomark _))))) (vb_one (vs_ret ve_bl)) vb_nil)
    (vb_cons (vs_set (i := 3) (lo_none rfl) (fun z => absurd rfl z) sc_law.nd rfl (Or.inl rfl) (ve_lst (vl_cons ve_str (vl_cons ve_str (vl_cons ve_str (vl_cons ve_str (vl_cons ve_str (vl_cons ve_str (vl_cons ve_str (vl_cons ve_str (vl_cons ve_str (vl_cons ve_str vl_nil))))))))))))
    (vb_one (vs_ret (ve_and (ve_cmp (opv_eq rfl hr.units) (ve_lc fin_frz (own := [("_law_text", 6)]) (fun i hi => ⟨lo_none rfl, fun z => absurd rfl z⟩) (by rfl) sc_law.nd (blkOk_by (own := [("_law_text", 6)]) (N := N_law) (sc := defScope s_law) (by decide +kernel)) (vi_seq rfl (vv 3 (lo_none rfl))) (fun _ _ _ _ _ => (vg_name (i := 6) (lo_none rfl) (fun z => absurd rfl z) sc_law.nd rfl (Or.inl rfl))) (fun _ _ _ _ _ => (vts_one (vt_notN (ve_call (ok_l_told T) (hr.mono (by decide)) (by rfl) T.g_l_told T.F_l_told.kp T.b_l_told takes_none5 (vl_cons (vv 6 (lo_none rfl)) vl_nil) (fun _ z => pe_callS (ok_l_told T) (hr.mono (by decide)) (by rfl) T.g_l_told T.F_l_told.kp T.b_l_told (fun σ => passAt takes_none5 σ) z))))) (fun _ _ _ _ _ => (vv 6 (lo_none rfl))) (by decide)) (ve_lst vl_nil) (nomark _)) (ve_one (ve_isN (ve_call (ok_l_read T) (hr.mono (by decide)) (by rfl) T.g_l_read T.F_l_read.kp T.b_l_read (takes_of rfl rfl rfl rfl) (vl_cons ve_str vl_nil) (fun _ z => pe_callS (ok_l_read T) (hr.mono (by decide)) (by rfl) T.g_l_read T.F_l_read.kp T.b_l_read (fun σ => passAt (takes_of rfl rfl rfl rfl) σ) z)))))))))))
noncomputable def f_World_numbers : VL.Env → M VL.Flow := fun ρ => liftS ρ ((((rd 0 ρ) >>= fun x => ((rd 1 ρ) >>= fun x => (pure [] : M (List D)) >>= fun r => pure (x :: r)) >>= fun r => pure (x :: r)) >>= callM 2 m_known_thing) >>= fun x => (pure (D.int 2) : M D) >>= fun y => dIx x y) fun d => pure (VL.Flow.rt d)
noncomputable def m_World_numbers : List D → M D := runF 2 f_World_numbers
end
end K07
namespace K07
open PySem VL RecT WoT
theorem figs_S : k_FIGURES = tx [48, 49, 50, 51, 52, 53, 54, 55, 56, 57] := congrArg D.str (by decide +kernel : (Str.ofString "0123456789") = SX.S [48, 49, 50, 51, 52, 53, 54, 55, 56, 57])
theorem in_figs (c : Nat) : dInC (TS c) k_FIGURES = pure (.bl (isDig c)) := by
  rw [figs_S, in_S, dig_mem]
theorem integer_p {p : List Nat} (h : p.length ≤ 640) : m_integer_in [tx p] = pure (oD (intIn p)) := by
  refine runF_rt ?_
  show f_integer_in [some (tx p), none, none] = _
  unfold f_integer_in
  have e1 : dSl (tx p) none (some 1) = pure (tx (p.take 1)) := sl_to (by omega) (by decide)
  have e2 : dSl (tx p) (some 1) none = pure (tx (p.drop 1)) := sl_from (by omega) (by decide)
  have z : D.str "-" = tx [45] := congrArg D.str (by decide +kernel)
  have e3 : dEq (tx (p.take 1)) (tx [45]) = pure (.bl (decide (p.take 1 = [45]))) := tx_eq _ _
  refine seqM_of (ρ := [some (tx p), some (tx (if p.take 1 = [45] then p.drop 1 else p)), none]) ?_ ?_
  · rw [z]
    simp only [rd, List.getElem?_cons_zero, List.getElem?_cons_succ, List.set_cons_succ, List.set_cons_zero, pb_M, asPart, e1, e2, e3, asB_p, M.assoc]
    by_cases hm : p.take 1 = [45]
    · rw [decide_eq_true hm, if_pos hm, if_pos rfl, liftS_p]
    · rw [decide_eq_false hm, if_neg hm, if_neg (by decide), liftS_p]
  · generalize hqe : (if p.take 1 = [45] then p.drop 1 else p) = q
    have hql : q.length ≤ 640 := by
      rw [← hqe]
      split
      · rw [List.length_drop]; omega
      · exact h
    have l1 : lenD [tx q] = pure (.int q.length) := len_S (by omega)
    have l2 : dLe (D.int (q.length : Int)) k_MOST_FIGURES = pure (.bl true) := by
      show (pure (D.bl (decide ((q.length : Int) ≤ 4000))) : M D) = _
      rw [decide_eq_true (by omega)]
    have a1 : ∀ (elt : VL.Env → M D), (∀ c, elt [some (tx p), some (tx q), some (TS c)] = pure (.bl (isDig c))) → loopC ⟨q.map TS, fun _ => True⟩ (gN 2) (fun _ => pure true) elt (wipeE [some (tx p), some (tx q), none] [2]) (q.map TS) [] = pure (q.map fun c => .bl (isDig c)) := fun elt he => loopG (ρ := wipeE [some (tx p), some (tx q), none] [2]) rfl q fun c _ => he c
    have hi : (q ≠ [] ∧ q.all isDig = true) → intSD [tx p] = pure (oD (intIn p)) := fun hz => by
      unfold intIn
      by_cases hm : p.take 1 = [45]
      · rw [if_pos hm] at hqe ⊢
        subst hqe
        rw [if_pos hz]
        have ep : p = 45 :: p.drop 1 := by
          have := List.take_append_drop 1 p
          rw [hm] at this
          exact this.symm
        have := int_neg (a := p.drop 1) (by rw [ep] at h; simp at h ⊢; omega) hz.2 hz.1
        rw [← ep] at this
        rw [this]; rfl
      · rw [if_neg hm] at hqe ⊢
        subst hqe
        rw [if_pos hz, int_pos h hz.2 hz.1]; rfl
    have hn : ¬ (q ≠ [] ∧ q.all isDig = true) → oD (intIn p) = .non := fun hz => by
      unfold intIn
      by_cases hm : p.take 1 = [45]
      · rw [if_pos hm] at hqe ⊢
        subst hqe
        rw [if_neg hz]; rfl
      · rw [if_neg hm] at hqe ⊢
        subst hqe
        rw [if_neg hz]; rfl
    simp only [rd, List.getElem?_cons_zero, List.getElem?_cons_succ, pb_M, l1, le_int, l2, andD_p, asB_p, it_S, List.length_map, ask_p (small_of (by omega : q.length < 100000)), M.assoc]
    rw [a1 _ fun c => (pb_M (TS c) fun x => dInC x k_FIGURES).trans (in_figs c)]
    simp only [pb_M, frzL_p, allX, asB_p]
    cases q with
    | nil =>
      have := hn (fun z => z.1 rfl)
      rw [this]; rfl
    | cons c r =>
      have e0 : decide ((1 : Int) ≤ ((c :: r).length : Int)) = true := decide_eq_true (by simp; omega)
      rw [e0]
      simp only [if_true, asB_p, pb_M, Bool.not_true, tOr_p, Bool.false_eq_true, if_false, liftS_p]
      cases hd : (c :: r).all isDig with
      | true =>
        simp only [Bool.not_true, Bool.false_eq_true, if_false, seqM_nx, List.getElem?_cons_zero, pb_M, hi ⟨by simp, hd⟩, liftS_p]
      | false =>
        rw [hn (fun z => by rw [hd] at z; cases z.2)]
        rfl
theorem s0 : D.str "" = tx [] := congrArg D.str (by decide +kernel)
theorem sfig : D.str "0123456789" = tx [48, 49, 50, 51, 52, 53, 54, 55, 56, 57] := congrArg D.str (by decide +kernel)
theorem ne_nil_map {α : Type} (f : α → D) (xs : List α) (hp : ∀ x ∈ xs, pdn 3 (f x) = true) : dNe (.lst (xs.map f)) (.lst []) = pure (.bl (!xs.isEmpty)) := by
  rw [ne_pd (pdn_pd (pdn_lst fun y hy => by
    obtain ⟨x, hx, rfl⟩ := List.mem_map.mp hy
    exact hp x hx)) (pdn_pd (pdn_lst (k := 3) fun y hy => by cases hy))]
  cases xs with
  | nil => rfl
  | cons x r => simp
theorem pdn_tx {k : Nat} {a : List Nat} (h : PyData.strOk (SX.S a) = true) : pdn k (tx a) = true := pdn_str h
/-- signs that may be laid -/
def asc (a : List Nat) : Prop := ∀ c ∈ a, c < 128
theorem laid1 : ∀ c, c < 128 → PyData.strOk (SX.S [c]) = true := by decide +kernel
theorem digs_lt {p : List Nat} (h : p.all isDig = true) : NumText.digitsVal p < 10 ^ p.length := by
  have : ∀ (n : Nat) (p : List Nat), p.length = n → NumText.AllDigits p → NumText.digitsVal p < 10 ^ p.length := by
    intro n
    induction n with
    | zero => intro p hn _; obtain rfl := List.length_eq_zero_iff.mp hn; decide
    | succ n ih =>
      intro p hn hd
      obtain ⟨q, c, rfl⟩ : ∃ q c, p = q ++ [c] := ⟨p.dropLast, p.getLast (by intro z; rw [z] at hn; cases hn), (List.dropLast_concat_getLast _).symm⟩
      have hc := hd c (by simp)
      have := ih q (by simpa using hn) fun x hx => hd x (List.mem_append_left _ hx)
      rw [dig_snoc, List.length_append, List.length_singleton, Nat.pow_succ]
      omega
  exact this _ p rfl (all_dig.mp h)
theorem intIn_lt {p : List Nat} {i : Int} (h : p.length ≤ 500) (e : intIn p = some i) : i.natAbs < 10 ^ 500 := by
  have up : ∀ q : List Nat, q.length ≤ 500 → q.all isDig = true → NumText.digitsVal q < 10 ^ 500 := fun q hq hd => Nat.lt_of_lt_of_le (digs_lt hd) (Nat.pow_le_pow_right (by decide) hq)
  unfold intIn at e
  split at e
  · split at e
    · rename_i hc
      cases e
      have := up _ (by rw [List.length_drop]; omega) hc.2
      rw [Int.natAbs_neg, Int.natAbs_natCast]
      exact this
    · cases e
  · split at e
    · rename_i hc
      cases e
      rw [Int.natAbs_natCast]
      exact up _ h hc.2
    · cases e
theorem int_log {i : Int} (h : i.natAbs < 10 ^ 500) : i.natAbs.log2 < 1920 := by
  by_cases h0 : i.natAbs = 0
  · rw [h0]; decide
  · refine (Nat.log2_lt h0).mpr ?_
    have e2 : (10 ^ 500 : Nat) < 2 ^ 1920 := by decide +kernel
    exact Nat.lt_trans h e2
theorem str_Z {i : Int} (h : i.natAbs < 10 ^ 500) : strD [.int i] = pure (tx (showZ i)) := by
  show (VL.ask (decide (i.natAbs.log2 < 1920)) >>= fun _ => pure (D.str (Str.ofString (toString i)))) = _
  rw [ask_p (decide_eq_true (int_log h)), pb_M, showZ_S]
theorem fmt_Z {i : Int} (h : i.natAbs < 10 ^ 500) : fmtD (.int i) = pure (tx (showZ i)) := by
  show (VL.ask (decide (i.natAbs.log2 < 1920)) >>= fun _ => pure (D.str (Str.ofString (toString i)))) = _
  rw [ask_p (decide_eq_true (int_log h)), pb_M, showZ_S]
theorem int_tx {p : List Nat} {i : Int} (h : p.length ≤ 500) (e : intIn p = some i) : intSD [tx p] = pure (.int i) := by
  unfold intIn at e
  split at e
  · rename_i hm
    split at e
    · rename_i hz
      cases e
      have ep : p = 45 :: p.drop 1 := by
        have := List.take_append_drop 1 p
        rw [hm] at this
        exact this.symm
      have := int_neg (a := p.drop 1) (by rw [List.length_drop]; omega) hz.2 hz.1
      rw [← ep] at this
      exact this
    · cases e
  · split at e
    · rename_i hz
      cases e
      exact int_pos (by omega) hz.2 hz.1
    · cases e
theorem l_integer_p {p : List Nat} (h : p.length ≤ 500) (hk : asc p) : m_l_integer [tx p] = pure (oD (lintZ p)) := by
  refine runF_rt ?_
  show f_l_integer [some (tx p), none, none] = _
  unfold f_l_integer
  have e1 : dSl (tx p) none (some 1) = pure (tx (p.take 1)) := sl_to (by omega) (by decide)
  have e2 : dSl (tx p) (some 1) none = pure (tx (p.drop 1)) := sl_from (by omega) (by decide)
  have z : D.str "-" = tx [45] := congrArg D.str (by decide +kernel)
  have e3 : dEq (tx (p.take 1)) (tx [45]) = pure (.bl (decide (p.take 1 = [45]))) := tx_eq _ _
  refine seqM_of (ρ := [some (tx p), some (tx (if p.take 1 = [45] then p.drop 1 else p)), none]) ?_ ?_
  · rw [z]
    simp only [rd, List.getElem?_cons_zero, List.getElem?_cons_succ, List.set_cons_succ, List.set_cons_zero, pb_M, asPart, e1, e2, e3, asB_p, M.assoc]
    by_cases hm : p.take 1 = [45]
    · rw [decide_eq_true hm, if_pos hm, if_pos rfl, liftS_p]
    · rw [decide_eq_false hm, if_neg hm, if_neg (by decide), liftS_p]
  · generalize hqe : (if p.take 1 = [45] then p.drop 1 else p) = q
    have hql : q.length ≤ 500 := by
      rw [← hqe]
      split
      · rw [List.length_drop]; omega
      · exact h
    have hqk : asc q := by
      rw [← hqe]
      split
      · exact fun c hc => hk c (List.mem_of_mem_drop hc)
      · exact hk
    have hin : intIn p = if q ≠ [] ∧ q.all isDig = true then intIn p else none := by
      unfold intIn
      by_cases hm : p.take 1 = [45]
      · rw [if_pos hm] at hqe ⊢
        subst hqe
        by_cases hz : p.drop 1 ≠ [] ∧ (p.drop 1).all isDig = true
        · simp only [if_pos hz]
        · simp only [if_neg hz]
      · rw [if_neg hm] at hqe ⊢
        subst hqe
        by_cases hz : p ≠ [] ∧ p.all isDig = true
        · simp only [if_pos hz]
        · simp only [if_neg hz]
    have hsome : q ≠ [] ∧ q.all isDig = true → ∃ i, intIn p = some i := fun hz => by
      unfold intIn
      by_cases hm : p.take 1 = [45]
      · rw [if_pos hm] at hqe ⊢
        subst hqe
        rw [if_pos hz]; exact ⟨_, rfl⟩
      · rw [if_neg hm] at hqe ⊢
        subst hqe
        rw [if_pos hz]; exact ⟨_, rfl⟩
    have hnm := ne_nil_map TS (q.filter fun c => !isDig c) fun c hc => pdn_tx (laid1 c (hqk c (List.mem_filter.mp hc).1))
    have hfe : (!(q.filter fun c => !isDig c).isEmpty) = !q.all isDig := by
      congr 1
      rw [Bool.eq_iff_iff, List.isEmpty_iff, List.filter_eq_nil_iff, List.all_eq_true]
      exact ⟨fun z c hc => by simpa using z c hc, fun z c hc => by simpa using z c hc⟩
    rw [hfe] at hnm
    have a1 : ∀ (test : VL.Env → M Bool) (elt : VL.Env → M D), (∀ c, test [some (tx p), some (tx q), some (TS c)] = pure (!isDig c)) → (∀ c, elt [some (tx p), some (tx q), some (TS c)] = pure (TS c)) → loopC ⟨q.map TS, fun _ => True⟩ (gN 2) test elt (wipeE [some (tx p), some (tx q), none] [2]) (q.map TS) [] = pure ((q.filter fun c => !isDig c).map TS) := fun test elt ht he => loopG_f (ρ := wipeE [some (tx p), some (tx q), none] [2]) rfl q [] (fun c _ => ht c) (fun c _ _ => he c)
    rw [s0, sfig]
    simp only [rd, List.getElem?_cons_zero, List.getElem?_cons_succ, pb_M, tx_eq, asB_p, it_S, List.length_map, ask_p (small_of (by omega : q.length < 100000)), M.assoc]
    rw [a1 _ _ (fun c => by
      show (pure (TS c) >>= fun x => dNinC x (tx _) >>= asB) = _
      rw [pb_M, nin_S, dig_mem, pb_M, asB_p]) fun c => rfl]
    simp only [pb_M, frzL_p, mkLst_p (show ([] : List D).length < 100000 by decide), hnm, asB_p]
    by_cases hz : q ≠ [] ∧ q.all isDig = true
    · obtain ⟨i, hi⟩ := hsome hz
      have hl := intIn_lt h hi
      have c1 := int_tx h hi
      have c2 := str_Z hl
      rw [decide_eq_false hz.1, hz.2]
      simp only [tOr_p, Bool.not_true, Bool.false_eq_true, if_false, liftS_p, seqM_nx, List.getElem?_cons_zero, pb_M, c1, c2, tx_eq, asB_p]
      unfold lintZ
      rw [hi]
      by_cases hs : showZ i = p
      · simp only [hs, decide_true, if_true, c1, liftS_p, oD]
      · simp only [hs, decide_false, Bool.false_eq_true, if_false, liftS_p, oD]
    · have hn : lintZ p = none := by
        unfold lintZ
        rw [hin, if_neg hz]
      rw [hn]
      by_cases h0 : q = []
      · subst h0
        rfl
      · have ha : q.all isDig = false := by
          cases e : q.all isDig with
          | false => rfl
          | true => exact absurd ⟨h0, e⟩ hz
        rw [decide_eq_false h0, ha]
        rfl
end K07
namespace K07
open PySem VL RecT WoT
def okD : D → Bool
  | .non | .bl _ | .int _ | .str _ | .tup _ | .lst _ | .dct _ _ => true
  | _ => false
def isWhole : D → Bool
  | .int _ => true
  | _ => false
theorem is_whole_p {v : D} (h : okD v = true) : m_is_whole [v] = pure (.bl (isWhole v)) := by
  cases v <;> first
    | exact absurd h Bool.false_ne_true
    | kernel_rfl
def isFrom : D → Int → Int → Bool
  | .int i, a, b => decide (a ≤ i) && decide (i ≤ b)
  | _, _, _ => false
theorem is_from_p {v : D} {a b : Int} (h : okD v = true) : m_is_from [v, .int a, .int b] = pure (.bl (isFrom v a b)) := by
  refine runF_rt ?_
  show liftS _ (andD (callM 1 m_is_whole [v]) (andD (dLe (.int a) v) (dLe v (.int b)))) (fun d => pure (.rt d)) = _
  rw [callM_t rfl, is_whole_p h]
  cases v with
  | int i =>
    show liftS _ (andD (pure (.bl (decide (a ≤ i)))) (pure (.bl (decide (i ≤ b))))) _ = (pure (.rt (.bl (decide (a ≤ i) && decide (i ≤ b)))) : M VL.Flow)
    by_cases h1 : a ≤ i
    · rw [decide_eq_true h1]; rfl
    · rw [decide_eq_false h1]; rfl
  | _ => rfl

theorem okD_o (o : Option Int) : okD (oD o) = true := by cases o <;> rfl
theorem number_p (o : Option Int) : m_is_number [oD o] = pure (.bl (numO o)) := by
  refine runF_rt ?_
  show f_is_number [some (oD o)] = _
  unfold f_is_number
  have ng : negD k_MOST = pure (.int (-1000000000)) := Eq.trans rfl rfl
  have c : callM 3 m_is_from [oD o, .int (-1000000000), k_MOST] = pure (.bl (numO o)) := by
    rw [callM_t rfl]
    refine (is_from_p (okD_o o)).trans ?_
    cases o with
    | none => rfl
    | some x => rfl
  simp -failIfUnchanged only [rd, List.getElem?_cons_zero, List.getElem?_cons_succ, List.set_cons_zero, List.set_cons_succ, pb_M, M.assoc, run_bind, run_pure, run_lift, run_seq, run_liftTS, run_liftT, run_noX, run_nx, run_rtn, run_set2, run_gN, run_gT2, run_iteS, run_ite, run_tAnd, run_tOr, run_andD, run_orD, asB_p, liftS_p, seqM_nx, seqM_rt, liftT_p, noX_p, tOr_p, tAnd_p, andD_p, orD_p, notD_p, wipeE, it_tup, it_lst, frzL, Bool.not_true, Bool.not_false, Bool.false_eq_true, if_true, if_false, ng, c]
theorem lets_S : k_LETTERS = tx [97, 98, 99, 100, 101, 102, 103, 104, 105, 106, 107, 108, 109, 110, 111, 112, 113, 114, 115, 116, 117, 118, 119, 120, 121, 122] := congrArg D.str (by decide +kernel)
theorem let_mem (c : Nat) : decide (c ∈ [97, 98, 99, 100, 101, 102, 103, 104, 105, 106, 107, 108, 109, 110, 111, 112, 113, 114, 115, 116, 117, 118, 119, 120, 121, 122]) = letB c := by
  unfold letB
  rw [← Bool.decide_and]
  refine decide_eq_decide.mpr ?_
  simp only [List.mem_cons, List.not_mem_nil, or_false]
  omega
theorem in_lets (c : Nat) : dInC (TS c) k_LETTERS = pure (.bl (letB c)) := by
  rw [lets_S, in_S, let_mem]
theorem isi_str (k : List Nat) : isiO ownL [tx k, .ty "str"] = pure (.bl true) := Eq.trans rfl rfl
theorem isi_tup (xs : List D) : isiO ownL [.tup xs, .ty "tuple"] = pure (.bl true) := Eq.trans rfl rfl
theorem name_p {k : List Nat} (h : k.length < 100000) : m_is_name_in [tx k] = pure (.bl (nameB k)) := by
  refine runF_rt ?_
  show f_is_name_in [some (tx k), none] = _
  unfold f_is_name_in
  have a1 : ∀ (elt : VL.Env → M D), (∀ c, elt [some (tx k), some (TS c)] = pure (.bl (letB c))) → loopC ⟨k.map TS, fun _ => True⟩ (gN 1) (fun _ => pure true) elt (wipeE [some (tx k), none] [1]) (k.map TS) [] = pure (k.map fun c => .bl (letB c)) := fun elt he => loopG (ρ := wipeE [some (tx k), none] [1]) rfl k (fun c _ => he c)
  have l2 : dLe (.int (k.length : Int)) k_MOST_NAME = pure (.bl (decide ((k.length : Int) ≤ 8))) := Eq.trans rfl rfl
  simp only [rd, List.getElem?_cons_zero, List.getElem?_cons_succ, pb_M, isi_str, len_S h, le_int, l2, andD_p, it_S, List.length_map, ask_p (small_of h), M.assoc, if_true]
  rw [a1 _ fun c => (pb_M (TS c) fun x => dInC x k_LETTERS).trans (in_lets c)]
  simp only [pb_M, frzL_p, allX]
  unfold nameB
  by_cases h1 : 1 ≤ k.length
  · rw [decide_eq_true (show (1 : Int) ≤ (k.length : Int) by omega), decide_eq_true h1, if_pos rfl]
    by_cases h2 : k.length ≤ 8
    · rw [decide_eq_true (show (k.length : Int) ≤ 8 by omega), decide_eq_true h2]
      simp only [andD_p, if_true, liftS_p, Bool.true_and]
    · rw [decide_eq_false (show ¬ (k.length : Int) ≤ 8 by omega), decide_eq_false h2]
      simp only [andD_p, Bool.false_eq_true, if_false, liftS_p, Bool.true_and, Bool.false_and]
  · rw [decide_eq_false (show ¬ (1 : Int) ≤ (k.length : Int) by omega), decide_eq_false h1]
    simp only [andD_p, Bool.false_eq_true, if_false, liftS_p, Bool.false_and]
def numsB (os : List (Option Int)) : Bool := decide (1 ≤ os.length) && decide (os.length ≤ 8) && os.all numO
theorem numbers_p {os : List (Option Int)} (h : os.length < 100000) : m_are_numbers_in [.tup (os.map oD)] = pure (.bl (numsB os)) := by
  refine runF_rt ?_
  show f_are_numbers_in [some (.tup (os.map oD)), none] = _
  unfold f_are_numbers_in
  have a1 : ∀ (elt : VL.Env → M D), (∀ c, elt [some (.tup (os.map oD)), some (oD c)] = pure (.bl (numO c))) → loopC ⟨os.map oD, fun _ => True⟩ (gN 1) (fun _ => pure true) elt (wipeE [some (.tup (os.map oD)), none] [1]) (os.map oD) [] = pure (os.map fun c => .bl (numO c)) := fun elt he => loopG (ρ := wipeE [some (.tup (os.map oD)), none] [1]) rfl os (fun c _ => he c)
  have l1 : lenD [.tup (os.map oD)] = pure (.int (os.length : Int)) := by rw [len_tup, List.length_map]
  have l2 : dLe (.int (os.length : Int)) k_MOST_NUMBERS = pure (.bl (decide ((os.length : Int) ≤ 8))) := Eq.trans rfl rfl
  have it : itOf (.tup (os.map oD)) = pure ⟨os.map oD, fun _ => True⟩ := Eq.trans rfl rfl
  simp only [rd, List.getElem?_cons_zero, List.getElem?_cons_succ, pb_M, isi_tup, l1, le_int, l2, andD_p, it, List.length_map, ask_p (small_of h), M.assoc, if_true]
  rw [a1 _ fun c => by
    show (pure (oD c) >>= fun x => callM 1 m_is_number [x]) = _
    rw [pb_M, callM_t rfl, number_p]]
  simp only [pb_M, frzL_p, allX]
  unfold numsB
  by_cases h1 : 1 ≤ os.length
  · rw [decide_eq_true (show (1 : Int) ≤ (os.length : Int) by omega), decide_eq_true h1, if_pos rfl]
    by_cases h2 : os.length ≤ 8
    · rw [decide_eq_true (show (os.length : Int) ≤ 8 by omega), decide_eq_true h2]
      simp only [andD_p, if_true, liftS_p, Bool.true_and]
    · rw [decide_eq_false (show ¬ (os.length : Int) ≤ 8 by omega), decide_eq_false h2]
      simp only [andD_p, Bool.false_eq_true, if_false, liftS_p, Bool.true_and, Bool.false_and]
  · rw [decide_eq_false (show ¬ (1 : Int) ≤ (os.length : Int) by omega), decide_eq_false h1]
    simp only [andD_p, Bool.false_eq_true, if_false, liftS_p, Bool.false_and]
def thD (t : Th) : D := .tup [.int t.1, tx t.2.1, .tup (t.2.2.map D.int)]
def otD : Option Th → D
  | some t => thD t
  | none => .non
theorem thing_is {o : Option Int} {k : List Nat} {os : List (Option Int)} (hk : k.length < 100000) (ho : os.length < 100000) : m_is_thing_in [.tup [oD o, tx k, .tup (os.map oD)]] = pure (.bl (idO 0 o && nameB k && numsB os)) := by
  refine runF_rt ?_
  show f_is_thing_in [some (.tup [oD o, tx k, .tup (os.map oD)])] = _
  unfold f_is_thing_in
  have l1 : ∀ a b c : D, lenD [.tup [a, b, c]] = pure (.int 3) := fun _ _ _ => Eq.trans rfl rfl
  have n1 : dNe (.int 3) k_THING_PARTS = pure (.bl false) := Eq.trans rfl rfl
  have x0 : ∀ a b c : D, dIx (.tup [a, b, c]) (.int 0) = pure a := fun _ _ _ => Eq.trans rfl rfl
  have x1 : ∀ a b c : D, dIx (.tup [a, b, c]) (.int 1) = pure b := fun _ _ _ => Eq.trans rfl rfl
  have x2 : ∀ a b c : D, dIx (.tup [a, b, c]) (.int 2) = pure c := fun _ _ _ => Eq.trans rfl rfl
  have c1 : callM 1 m_is_name_in [tx k] = pure (.bl (nameB k)) := by rw [callM_t rfl, name_p hk]
  have c2 : callM 1 m_are_numbers_in [.tup (os.map oD)] = pure (.bl (numsB os)) := by rw [callM_t rfl, numbers_p ho]
  have c0 : callM 1 m_is_whole [oD o] = pure (.bl (isWhole (oD o))) := by rw [callM_t rfl, is_whole_p (okD_o o)]
  cases o with
  | none =>
    have w : isWhole (oD none) = false := rfl
    simp -failIfUnchanged only [rd, List.getElem?_cons_zero, List.getElem?_cons_succ, List.set_cons_zero, List.set_cons_succ, pb_M, M.assoc, run_bind, run_pure, run_lift, run_seq, run_liftTS, run_liftT, run_noX, run_nx, run_rtn, run_set2, run_gN, run_gT2, run_iteS, run_ite, run_tAnd, run_tOr, run_andD, run_orD, asB_p, liftS_p, seqM_nx, seqM_rt, liftT_p, noX_p, tOr_p, tAnd_p, andD_p, orD_p, notD_p, wipeE, it_tup, it_lst, frzL, Bool.not_true, Bool.not_false, Bool.false_eq_true, if_true, if_false, isi_tup, l1, n1, x0, c0, w]
    rfl
  | some i =>
    have w : isWhole (oD (some i)) = true := rfl
    have e : oD (some i) = .int i := rfl
    have ci : callM 1 m_is_whole [.int i] = pure (.bl true) := by
      rw [callM_t rfl, is_whole_p rfl]; rfl
    by_cases h0 : i < 0
    · have h1 : idO 0 (some i) = false := decide_eq_false (by omega)
      simp -failIfUnchanged only [rd, List.getElem?_cons_zero, List.getElem?_cons_succ, List.set_cons_zero, List.set_cons_succ, pb_M, M.assoc, run_bind, run_pure, run_lift, run_seq, run_liftTS, run_liftT, run_noX, run_nx, run_rtn, run_set2, run_gN, run_gT2, run_iteS, run_ite, run_tAnd, run_tOr, run_andD, run_orD, asB_p, liftS_p, seqM_nx, seqM_rt, liftT_p, noX_p, tOr_p, tAnd_p, andD_p, orD_p, notD_p, wipeE, it_tup, it_lst, frzL, Bool.not_true, Bool.not_false, Bool.false_eq_true, if_true, if_false, isi_tup, l1, n1, x0, ci, e, lt_int, decide_eq_true h0, h1]
      rfl
    · have h1 : idO 0 (some i) = true := decide_eq_true (by omega)
      simp -failIfUnchanged only [rd, List.getElem?_cons_zero, List.getElem?_cons_succ, List.set_cons_zero, List.set_cons_succ, pb_M, M.assoc, run_bind, run_pure, run_lift, run_seq, run_liftTS, run_liftT, run_noX, run_nx, run_rtn, run_set2, run_gN, run_gT2, run_iteS, run_ite, run_tAnd, run_tOr, run_andD, run_orD, asB_p, liftS_p, seqM_nx, seqM_rt, liftT_p, noX_p, tOr_p, tAnd_p, andD_p, orD_p, notD_p, wipeE, it_tup, it_lst, frzL, Bool.not_true, Bool.not_false, Bool.false_eq_true, if_true, if_false, isi_tup, l1, n1, x0, x1, x2, ci, c1, c2, e, lt_int, decide_eq_false h0, h1, Bool.true_and]
      cases nameB k <;> simp only [Bool.false_eq_true, if_false, if_true, Bool.false_and, Bool.true_and, liftS_p]
theorem thing_short {o : Option Int} : m_is_thing_in [.tup [oD o, .tup []]] = pure (.bl false) := by cases o <;> kernel_rfl
theorem thing_non : m_is_thing_in [.non] = pure (.bl false) := by kernel_rfl
end K07
namespace K07
open PySem VL RecT WoT
theorem s32 : D.str " " = TS 32 := congrArg D.str (by decide +kernel)
theorem s59 : D.str ";" = TS 59 := congrArg D.str (by decide +kernel)
theorem cut_take {α : Type} (xs : List α) (m : Nat) : cutL xs none (some (m : Int)) = xs.take m := by
  unfold cutL
  rw [HT.sIx_none, HT.sIx_nat]
  simp
theorem cut_drop {α : Type} (xs : List α) (m : Nat) : cutL xs (some (m : Int)) none = xs.drop m := by
  unfold cutL
  rw [HT.sIx_none, HT.sIx_nat]
  rcases Nat.le_total m xs.length with h | h
  · rw [Nat.min_eq_left h, List.take_of_length_le (by simp)]
  · rw [Nat.min_eq_right h, List.drop_eq_nil_of_le (Nat.le_refl _), List.drop_eq_nil_of_le h]
    simp
theorem sl_lst (xs : List D) (lo hi : Option Int) : dSl (.lst xs) lo hi = pure (.lst (cutL xs lo hi)) := Eq.trans rfl rfl
theorem seq_lst (xs : List D) : seqOf (.lst xs) = pure xs := Eq.trans rfl rfl
theorem tup_lst (xs : List D) : tupleD [.lst xs] = pure (.tup xs) := Eq.trans rfl rfl
theorem len_lst (xs : List D) : lenD [.lst xs] = pure (.int xs.length) := Eq.trans rfl rfl
theorem ix_l0 (x : D) (xs : List D) : dIx (.lst (x :: xs)) (.int 0) = pure x := by
  have hl : 0 < (x :: xs).length := by simp
  exact (show dIx (.lst (x :: xs)) (.int 0) = dIx (.tup (x :: xs)) (.int ((0 : Nat) : Int)) from rfl).trans (ix_nat hl)
theorem ix_l1 (x y : D) (xs : List D) : dIx (.lst (x :: y :: xs)) (.int 1) = pure y := by
  have hl : 1 < (x :: y :: xs).length := by simp
  exact (show dIx (.lst (x :: y :: xs)) (.int 1) = dIx (.tup (x :: y :: xs)) (.int ((1 : Nat) : Int)) from rfl).trans (ix_nat hl)
theorem ix_l2 (x y z : D) (xs : List D) : dIx (.lst (x :: y :: z :: xs)) (.int 2) = pure z := by
  have hl : 2 < (x :: y :: z :: xs).length := by simp
  exact (show dIx (.lst (x :: y :: z :: xs)) (.int 2) = dIx (.tup (x :: y :: z :: xs)) (.int ((2 : Nat) : Int)) from rfl).trans (ix_nat hl)
theorem cut12 (x : D) (xs : List D) : cutL (x :: xs) (some 1) (some 2) = xs.take 1 := by
  have e : cutL (x :: xs) (some 1) (some 2) = ((x :: xs).take 2).drop 1 := by
    unfold cutL
    rw [show (1 : Int) = ((1 : Nat) : Int) from rfl, show (2 : Int) = ((2 : Nat) : Int) from rfl, HT.sIx_nat, HT.sIx_nat]
    cases xs with
    | nil => rfl
    | cons y r =>
      rw [Nat.min_eq_left (by simp), Nat.min_eq_left (by simp)]
      rfl
  rw [e]
  rfl
theorem cut2 (xs : List D) : cutL xs (some 2) none = xs.drop 2 := cut_drop xs 2
theorem cut1 (xs : List D) : cutL xs (some 1) none = xs.drop 1 := cut_drop xs 1
theorem ap (i : Int) : asPart (.int i) = pure (some i) := rfl
def short (p : List Nat) : Prop := ∀ w ∈ TL.spl [32] 0 [] p, w.length ≤ 500
theorem len_spl (s : Nat) (p : List Nat) : (TL.spl [s] 0 [] p).length ≤ p.length + 1 := by
  rw [spl_len]
  have := List.count_le_length (a := s) (l := p)
  omega
theorem nums_back {f : List Nat → Option Int} {ws : List (List Nat)} (h : (ws.map f).all numO = true) : (ws.map f).map oD = ((ws.map f).map (·.getD 0)).map D.int := by
  refine (List.map_congr_left (g := D.int ∘ fun (o : Option Int) => o.getD 0) fun o ho => ?_).trans List.map_map.symm
  have := List.all_eq_true.mp h o ho
  cases o with
  | none => cases this
  | some i => rfl
theorem spl_sub {s : Nat} : ∀ (p acc w : List Nat), w ∈ TL.spl [s] 0 acc p → ∀ c ∈ w, c ∈ acc ∨ c ∈ p
  | [], acc, w, h => by
    rw [TL.spl_nil] at h
    have := List.mem_singleton.mp h
    subst this
    exact fun c hc => .inl hc
  | x :: r, acc, w, h => by
    rw [spl_cons] at h
    by_cases hx : x = s
    · rw [if_pos hx] at h
      rcases List.mem_cons.mp h with rfl | h
      · exact fun c hc => .inl hc
      · intro c hc
        rcases spl_sub r [] w h c hc with z | z
        · cases z
        · exact .inr (List.mem_cons_of_mem _ z)
    · rw [if_neg hx] at h
      intro c hc
      rcases spl_sub r (acc ++ [x]) w h c hc with z | z
      · rcases List.mem_append.mp z with z | z
        · exact .inl z
        · exact .inr (by rw [List.mem_singleton.mp z]; exact List.mem_cons_self)
      · exact .inr (List.mem_cons_of_mem _ z)
theorem asc_word {s : Nat} {p w : List Nat} (h : asc p) (hw : w ∈ TL.spl [s] 0 [] p) : asc w := fun c hc => by
  rcases spl_sub p [] w hw c hc with z | z
  · cases z
  · exact h c z
theorem word_len {s : Nat} {p w : List Nat} (h : w ∈ TL.spl [s] 0 [] p) : w.length ≤ p.length := by
  have key : ∀ (p acc w : List Nat), w ∈ TL.spl [s] 0 acc p → w.length ≤ acc.length + p.length := by
    intro p
    induction p with
    | nil =>
      intro acc w h
      rw [TL.spl_nil] at h
      have := List.mem_singleton.mp h
      subst this
      simp
    | cons x r ih =>
      intro acc w h
      rw [spl_cons] at h
      by_cases hx : x = s
      · rw [if_pos hx] at h
        rcases List.mem_cons.mp h with rfl | h
        · omega
        · have := ih [] w h
          simp at this ⊢
          omega
      · rw [if_neg hx] at h
        have := ih (acc ++ [x]) w h
        simp at this ⊢
        omega
  have := key p [] w h
  simpa using this
section
variable {p : List Nat}
theorem thing_in_p (hl : p.length < 50000) (hs : short p) : m_thing_in [tx p] = pure (otD (progT p)) := by
  refine runF_rt ?_
  show f_thing_in [some (tx p), none, none, none] = _
  unfold f_thing_in
  have sp : splitM frzL (tx p) [TS 32] = pure (.lst ((TL.spl [32] 0 [] p).map tx)) := split_p (by omega) (by decide)
  have hlen := len_spl 32 p
  obtain ⟨w, r, hwr⟩ : ∃ w r, TL.spl [32] 0 [] p = w :: r := by
    cases e : TL.spl [32] 0 [] p with
    | nil => exact absurd e (spl_ne 32 p [])
    | cons w r => exact ⟨w, r, rfl⟩
  have hw := hs w (by rw [hwr]; exact List.mem_cons_self)
  have hr : ∀ x ∈ r, x.length ≤ 500 := fun x hx => hs x (by rw [hwr]; exact List.mem_cons_of_mem _ hx)
  rw [hwr] at sp hlen
  have ci : ∀ x : List Nat, x.length ≤ 500 → callM 1 m_integer_in [tx x] = pure (oD (intIn x)) := fun x hx => by rw [callM_t rfl, integer_p (by omega)]
  have a1 : ∀ (ρ : VL.Env) (elt : VL.Env → M D) (ws : List (List Nat)), (∀ x ∈ ws, elt (ρ.set 3 (some (tx x))) = callM 1 m_integer_in [tx x]) → (∀ x ∈ ws, x.length ≤ 500) → loopC ⟨ws.map tx, fun _ => True⟩ (gN 3) (fun _ => pure true) elt ρ (ws.map tx) [] = pure ((ws.map intIn).map oD) := fun ρ elt ws he hh => by
    rw [loopG (ρ := ρ) (g := tx) (f := fun x => oD (intIn x)) rfl ws fun x hx => by rw [he x hx, ci x (hh x hx)], List.map_map]
    rfl
  cases r with
  | nil =>
    have e1 : cutL [tx w] (some 1) (some 2) = [] := cut12 _ _
    have e2 : cutL [tx w] (some 2) none = [] := cut2 _
    have m2 : mkTup [oD (intIn w), .tup []] = pure (.tup [oD (intIn w), .tup []]) := Eq.trans rfl rfl
    have c3 : callM 1 m_is_thing_in [.tup [oD (intIn w), .tup []]] = pure (.bl false) := by rw [callM_t rfl, thing_short]
    have lz : ∀ (elt : VL.Env → M D) (ρ : VL.Env), loopC ⟨[], fun _ => True⟩ (gN 3) (fun _ => pure true) elt ρ [] [] = pure [] := fun elt ρ => Eq.trans rfl rfl
    have hp : progT p = none := by
      show readT intIn 0 p = none
      unfold readT
      rw [hwr]
    rw [s32, hp]
    simp -failIfUnchanged only [rd, List.getElem?_cons_zero, List.getElem?_cons_succ, List.set_cons_zero, List.set_cons_succ, pb_M, M.assoc, run_bind, run_pure, run_lift, run_seq, run_liftTS, run_liftT, run_noX, run_nx, run_rtn, run_set2, run_gN, run_gT2, run_iteS, run_ite, run_tAnd, run_tOr, run_andD, run_orD, asB_p, liftS_p, seqM_nx, seqM_rt, liftT_p, noX_p, tOr_p, tAnd_p, andD_p, orD_p, notD_p, wipeE, it_tup, it_lst, frzL, Bool.not_true, Bool.not_false, Bool.false_eq_true, if_true, if_false, ty_S, ap, sp, List.map_cons, List.map_nil, ix_l0, ci w hw, sl_lst, e1, e2, seq_lst, List.length_nil, ask_p (show small 0 = true from rfl), lz, tup_lst, List.nil_append, m2, c3]
    rfl
  | cons k ws =>
    have e1 : cutL (tx w :: tx k :: ws.map tx) (some 1) (some 2) = [tx k] := cut12 _ _
    have e2 : cutL (tx w :: tx k :: ws.map tx) (some 2) none = ws.map tx := cut2 _
    have m3 : ∀ a b c : D, mkTup [a, b, c] = pure (.tup [a, b, c]) := fun _ _ _ => Eq.trans rfl rfl
    have hwl : ws.length < 100000 := by simp at hlen; omega
    have hk : k.length < 100000 := by have := hr k List.mem_cons_self; omega
    have c3 : callM 1 m_is_thing_in [.tup [oD (intIn w), tx k, .tup ((ws.map intIn).map oD)]] = pure (.bl (idO 0 (intIn w) && nameB k && numsB (ws.map intIn))) := by rw [callM_t rfl, thing_is hk (by simpa using hwl)]
    have hp : progT p = if (idO 0 (intIn w) && nameB k && numsB (ws.map intIn)) = true then some ((intIn w).getD 0, k, (ws.map intIn).map (·.getD 0)) else none := by
      show readT intIn 0 p = _
      unfold readT
      rw [hwr]
      simp only [numsB, List.length_map, Bool.and_assoc]
    rw [s32, hp]
    simp -failIfUnchanged only [rd, List.getElem?_cons_zero, List.getElem?_cons_succ, List.set_cons_zero, List.set_cons_succ, pb_M, M.assoc, run_bind, run_pure, run_lift, run_seq, run_liftTS, run_liftT, run_noX, run_nx, run_rtn, run_set2, run_gN, run_gT2, run_iteS, run_ite, run_tAnd, run_tOr, run_andD, run_orD, asB_p, liftS_p, seqM_nx, seqM_rt, liftT_p, noX_p, tOr_p, tAnd_p, andD_p, orD_p, notD_p, wipeE, it_tup, it_lst, frzL, Bool.not_true, Bool.not_false, Bool.false_eq_true, if_true, if_false, ty_S, ap, sp, List.map_cons, ix_l0, ci w hw, sl_lst, e1, e2, seq_lst, List.length_map, ask_p (small_of hwl)]
    rw [a1 _ _ ws (fun x _ => rfl) fun x hx => hr x (List.mem_cons_of_mem _ hx)]
    simp -failIfUnchanged only [rd, List.getElem?_cons_zero, List.getElem?_cons_succ, List.set_cons_zero, List.set_cons_succ, pb_M, M.assoc, run_bind, run_pure, run_lift, run_seq, run_liftTS, run_liftT, run_noX, run_nx, run_rtn, run_set2, run_gN, run_gT2, run_iteS, run_ite, run_tAnd, run_tOr, run_andD, run_orD, asB_p, liftS_p, seqM_nx, seqM_rt, liftT_p, noX_p, tOr_p, tAnd_p, andD_p, orD_p, notD_p, wipeE, it_tup, it_lst, frzL, Bool.not_true, Bool.not_false, Bool.false_eq_true, if_true, if_false, tup_lst, List.cons_append, List.nil_append, m3, c3]
    cases hb : (idO 0 (intIn w) && nameB k && numsB (ws.map intIn)) with
    | false => rfl
    | true =>
      simp only [Bool.and_eq_true] at hb
      obtain ⟨⟨b1, b2⟩, b3⟩ := hb
      unfold numsB at b3
      simp only [Bool.and_eq_true] at b3
      cases e : intIn w with
      | none => rw [e] at b1; cases b1
      | some i =>
        simp only [if_true, rd, List.getElem?_cons_zero, List.getElem?_cons_succ, liftS_p]
        rw [nums_back b3.2]
        rfl
end
end K07
namespace K07
open PySem VL RecT WoT
theorem non_in (os : List (Option Int)) : dInC .non (.lst (os.map oD)) = pure (.bl (os.any (·.isNone))) := by
  have hf : (os.map oD).all flatD = true := by
    rw [List.all_map, List.all_eq_true]
    intro o _
    cases o <;> rfl
  have ha : ((os.map oD).any fun y => eqF y .non) = os.any (·.isNone) := by
    rw [List.any_map]
    congr 1
    funext o
    cases o <;> rfl
  show ((readL (.lst (os.map oD)) >>= fun ys => VL.ask (flatD .non && ys.all flatD) >>= fun _ => pure (ys.any fun y => eqF y .non)) >>= fun b => pure (D.bl b)) = _
  have hr : readL (.lst (os.map oD)) = pure (os.map oD) := rfl
  rw [hr, pb_M, hf, ha]
  rfl
theorem ints_oD : ∀ ns : List Int, intsOf (ns.map D.int) = some ns
  | [] => rfl
  | n :: r => by simp only [List.map_cons, intsOf, ints_oD r]; rfl
theorem maxL_le {m : Int} : ∀ (x : Int) (r : List Int), (∀ y ∈ x :: r, y ≤ m) ↔ maxL (x :: r) ≤ m
  | x, [] => by simp [maxL]
  | x, y :: r => by
    have ih := maxL_le (m := m) y r
    show _ ↔ max x (maxL (y :: r)) ≤ m
    rw [Int.max_le, ← ih]
    simp only [List.mem_cons, forall_eq_or_imp]
theorem minL_ge {m : Int} : ∀ (x : Int) (r : List Int), (∀ y ∈ x :: r, m ≤ y) ↔ m ≤ minL (x :: r)
  | x, [] => by simp [minL]
  | x, y :: r => by
    have ih := minL_ge (m := m) y r
    show _ ↔ m ≤ min x (minL (y :: r))
    rw [Int.le_min, ← ih]
    simp only [List.mem_cons, forall_eq_or_imp]
def absZ (i : Int) : Int := if i < 0 then -i else i
theorem abs_p (i : Int) : absD [.int i] = pure (.int (absZ i)) := Eq.trans rfl rfl
theorem no_none {os : List (Option Int)} (h : os.any (·.isNone) = false) : os = (os.map (·.getD 0)).map some := by
  rw [List.map_map]
  conv => lhs; rw [← List.map_id os]
  refine List.map_congr_left fun o ho => ?_
  cases o with
  | some i => rfl
  | none =>
    rw [List.any_eq_false] at h
    exact absurd rfl (h _ ho)
theorem isN_o (o : Option Int) : isN (oD o) = o.isNone := by cases o <;> rfl
theorem not_all {os : List (Option Int)} (h : os.any (·.isNone) = true) : os.all numO = false := by
  obtain ⟨o, ho, hn⟩ := List.any_eq_true.mp h
  cases e : os.all numO with
  | false => rfl
  | true =>
    have := List.all_eq_true.mp e o ho
    cases o with
    | none => cases this
    | some i => cases hn
theorem big_num {ns : List Int} (x : Int) (r : List Int) (h : ns = x :: r) : (ns.map some).all numO = !decide ((10 ^ 9 : Int) < maxL (ns.map absZ)) := by
  subst h
  have hm := maxL_le (m := 10 ^ 9) (absZ x) (r.map absZ)
  by_cases hb : ∀ y ∈ x :: r, absZ y ≤ 10 ^ 9
  · have h1 : maxL ((x :: r).map absZ) ≤ 10 ^ 9 := by
      rw [List.map_cons, ← hm]
      intro y hy
      rw [← List.map_cons] at hy
      obtain ⟨z, hz, rfl⟩ := List.mem_map.mp hy
      exact hb z hz
    rw [decide_eq_false (by omega)]
    rw [List.all_map, Bool.not_false, List.all_eq_true]
    intro y hy
    have := hb y hy
    unfold absZ at this
    show (decide (-(10 ^ 9) ≤ y) && decide (y ≤ 10 ^ 9)) = true
    rw [decide_eq_true (by split at this <;> omega), decide_eq_true (by split at this <;> omega)]; rfl
  · have h1 : ¬ maxL ((x :: r).map absZ) ≤ 10 ^ 9 := fun z => hb fun y hy => by
      rw [List.map_cons, ← hm] at z
      exact z _ (by rw [← List.map_cons]; exact List.mem_map.mpr ⟨y, hy, rfl⟩)
    rw [decide_eq_true (by omega), Bool.not_true]
    cases e : ((x :: r).map some).all numO with
    | false => rfl
    | true =>
      refine absurd (fun y hy => ?_) hb
      have := List.all_eq_true.mp e (some y) (List.mem_map.mpr ⟨y, hy, rfl⟩)
      simp only [numO, Bool.and_eq_true, decide_eq_true_eq] at this
      unfold absZ
      split <;> omega
theorem name_ok {k : List Nat} : nameB k = (decide (1 ≤ k.length) && decide (k.length ≤ 8) && (k.filter fun c => !letB c).isEmpty) := by
  unfold nameB
  congr 1
  rw [Bool.eq_iff_iff, List.isEmpty_iff, List.filter_eq_nil_iff, List.all_eq_true]
  exact ⟨fun z c hc => by simpa using z c hc, fun z c hc => by simpa using z c hc⟩
theorem slet : D.str "abcdefghijklmnopqrstuvwxyz" = tx [97, 98, 99, 100, 101, 102, 103, 104, 105, 106, 107, 108, 109, 110, 111, 112, 113, 114, 115, 116, 117, 118, 119, 120, 121, 122] := congrArg D.str (by decide +kernel)
section
variable {p : List Nat} {least : Int}
theorem l_thing_p (hl : p.length < 50000) (ha : asc p) (hs : short p) : m_l_read_thing [tx p, .int least] = pure (otD (lawT least p)) := by
  refine runF_rt ?_
  show f_l_read_thing [some (tx p), some (.int least), none, none, none, none, none, none, none] = _
  unfold f_l_read_thing
  have sp : splitM frzL (tx p) [TS 32] = pure (.lst ((TL.spl [32] 0 [] p).map tx)) := split_p (by omega) (by decide)
  have hlen := len_spl 32 p
  obtain ⟨w, r, hwr⟩ : ∃ w r, TL.spl [32] 0 [] p = w :: r := by
    cases e : TL.spl [32] 0 [] p with
    | nil => exact absurd e (spl_ne 32 p [])
    | cons w r => exact ⟨w, r, rfl⟩
  have hw := hs w (by rw [hwr]; exact List.mem_cons_self)
  have hr : ∀ x ∈ r, x.length ≤ 500 := fun x hx => hs x (by rw [hwr]; exact List.mem_cons_of_mem _ hx)
  have hwa : asc w := asc_word ha (by rw [hwr]; exact List.mem_cons_self)
  have hra : ∀ x ∈ r, asc x := fun x hx => asc_word ha (by rw [hwr]; exact List.mem_cons_of_mem _ hx)
  rw [hwr] at sp hlen
  have ci : ∀ x : List Nat, x.length ≤ 500 → asc x → callM 1 m_l_integer [tx x] = pure (oD (lintZ x)) := fun x hx hy => by rw [callM_t rfl, l_integer_p hx hy]
  have a1 : ∀ (ρ : VL.Env) (elt : VL.Env → M D) (ws : List (List Nat)), (∀ x ∈ ws, elt (ρ.set 6 (some (tx x))) = callM 1 m_l_integer [tx x]) → (∀ x ∈ ws, x.length ≤ 500) → (∀ x ∈ ws, asc x) → loopC ⟨ws.map tx, fun _ => True⟩ (gN 6) (fun _ => pure true) elt ρ (ws.map tx) [] = pure ((ws.map lintZ).map oD) := fun ρ elt ws he hh hy => by
    rw [loopG (ρ := ρ) (g := tx) (f := fun x => oD (lintZ x)) rfl ws fun x hx => by rw [he x hx, ci x (hh x hx) (hy x hx)], List.map_map]
    rfl
  have lz : ∀ (elt : VL.Env → M D) (ρ : VL.Env), loopC ⟨[], fun _ => True⟩ (gN 6) (fun _ => pure true) elt ρ [] [] = pure [] := fun elt ρ => Eq.trans rfl rfl
  have l10 : dLe (.int 1) (.int 0) = pure (.bl false) := Eq.trans rfl rfl
  have short2 : r.length ≤ 1 → lawT least p = none := fun h => by
    show readT lintZ least p = none
    unfold readT
    rw [hwr]
    cases r with
    | nil => rfl
    | cons k ws =>
      cases ws with
      | nil => simp
      | cons _ _ => simp at h
  have st2 : ∀ (ρ : VL.Env) (a b : D), set2 ρ 3 4 [a, b] = pure (.nx ((ρ.set 3 (some a)).set 4 (some b))) := fun ρ a b => Eq.trans rfl rfl
  match r, hr, hra, hwr, sp, hlen, short2 with
  | [], _, _, _, sp, _, short2 =>
    have e2 : cutL [tx w] (some 2) none = [] := cut2 _
    rw [s32, short2 (by simp)]
    simp -failIfUnchanged only [rd, List.getElem?_cons_zero, List.getElem?_cons_succ, List.set_cons_zero, List.set_cons_succ, pb_M, M.assoc, run_bind, run_pure, run_lift, run_seq, run_liftTS, run_liftT, run_noX, run_nx, run_rtn, run_set2, run_gN, run_gT2, run_iteS, run_ite, run_tAnd, run_tOr, run_andD, run_orD, asB_p, liftS_p, seqM_nx, seqM_rt, liftT_p, noX_p, tOr_p, tAnd_p, andD_p, orD_p, notD_p, wipeE, it_tup, it_lst, frzL, Bool.not_true, Bool.not_false, Bool.false_eq_true, if_true, if_false, ty_S, ap, sp, List.map_cons, List.map_nil, ix_l0, ci w hw hwa, sl_lst, e2, List.length_nil, ask_p (show small 0 = true from rfl), lz, st2, isN_o]
    cases lintZ w with
    | none => rfl
    | some i =>
      have e : oD (some i) = .int i := rfl
      simp -failIfUnchanged only [rd, List.getElem?_cons_zero, List.getElem?_cons_succ, List.set_cons_zero, List.set_cons_succ, pb_M, M.assoc, run_bind, run_pure, run_lift, run_seq, run_liftTS, run_liftT, run_noX, run_nx, run_rtn, run_set2, run_gN, run_gT2, run_iteS, run_ite, run_tAnd, run_tOr, run_andD, run_orD, asB_p, liftS_p, seqM_nx, seqM_rt, liftT_p, noX_p, tOr_p, tAnd_p, andD_p, orD_p, notD_p, wipeE, it_tup, it_lst, frzL, Bool.not_true, Bool.not_false, Bool.false_eq_true, if_true, if_false, Option.isNone_some, e, lt_int, len_lst, List.length_nil]
      by_cases h1 : i < least
      · rw [decide_eq_true h1]; rfl
      · rw [decide_eq_false h1]; rfl
  | [k], _, _, _, sp, _, short2 =>
    have e2 : cutL [tx w, tx k] (some 2) none = [] := cut2 _
    rw [s32, short2 (by simp)]
    simp -failIfUnchanged only [rd, List.getElem?_cons_zero, List.getElem?_cons_succ, List.set_cons_zero, List.set_cons_succ, pb_M, M.assoc, run_bind, run_pure, run_lift, run_seq, run_liftTS, run_liftT, run_noX, run_nx, run_rtn, run_set2, run_gN, run_gT2, run_iteS, run_ite, run_tAnd, run_tOr, run_andD, run_orD, asB_p, liftS_p, seqM_nx, seqM_rt, liftT_p, noX_p, tOr_p, tAnd_p, andD_p, orD_p, notD_p, wipeE, it_tup, it_lst, frzL, Bool.not_true, Bool.not_false, Bool.false_eq_true, if_true, if_false, ty_S, ap, sp, List.map_cons, List.map_nil, ix_l0, ci w hw hwa, sl_lst, e2, List.length_nil, ask_p (show small 0 = true from rfl), lz, st2, isN_o]
    cases lintZ w with
    | none => rfl
    | some i =>
      have e : oD (some i) = .int i := rfl
      simp -failIfUnchanged only [rd, List.getElem?_cons_zero, List.getElem?_cons_succ, List.set_cons_zero, List.set_cons_succ, pb_M, M.assoc, run_bind, run_pure, run_lift, run_seq, run_liftTS, run_liftT, run_noX, run_nx, run_rtn, run_set2, run_gN, run_gT2, run_iteS, run_ite, run_tAnd, run_tOr, run_andD, run_orD, asB_p, liftS_p, seqM_nx, seqM_rt, liftT_p, noX_p, tOr_p, tAnd_p, andD_p, orD_p, notD_p, wipeE, it_tup, it_lst, frzL, Bool.not_true, Bool.not_false, Bool.false_eq_true, if_true, if_false, Option.isNone_some, e, lt_int, len_lst, List.length_nil]
      by_cases h1 : i < least
      · rw [decide_eq_true h1]; rfl
      · rw [decide_eq_false h1]; rfl
  | k :: x :: ws', hr, hra, hwr, sp, hlen, short2 =>
    obtain ⟨ws, hws⟩ : ∃ ws, ws = x :: ws' := ⟨_, rfl⟩
    rw [← hws] at hr hra hwr sp hlen
    have hwl : ws.length < 100000 := by simp at hlen; omega
    have hw1 : 1 ≤ ws.length := by rw [hws]; simp
    have e2 : cutL (tx w :: tx k :: ws.map tx) (some 2) none = ws.map tx := cut2 _
    have hkl : k.length < 100000 := by have := hr k List.mem_cons_self; omega
    have hka := hra k List.mem_cons_self
    have hp : lawT least p = if (idO least (lintZ w) && nameB k && decide (1 ≤ ws.length) && decide (ws.length ≤ 8) && (ws.map lintZ).all numO) = true then some ((lintZ w).getD 0, k, (ws.map lintZ).map (·.getD 0)) else none := by
      show readT lintZ least p = _
      unfold readT
      rw [hwr]
    rw [s32, hp]
    simp -failIfUnchanged only [rd, List.getElem?_cons_zero, List.getElem?_cons_succ, List.set_cons_zero, List.set_cons_succ, pb_M, M.assoc, run_bind, run_pure, run_lift, run_seq, run_liftTS, run_liftT, run_noX, run_nx, run_rtn, run_set2, run_gN, run_gT2, run_iteS, run_ite, run_tAnd, run_tOr, run_andD, run_orD, asB_p, liftS_p, seqM_nx, seqM_rt, liftT_p, noX_p, tOr_p, tAnd_p, andD_p, orD_p, notD_p, wipeE, it_tup, it_lst, frzL, Bool.not_true, Bool.not_false, Bool.false_eq_true, if_true, if_false, ty_S, ap, sp, List.map_cons, ix_l0, ix_l1, ci w hw hwa, sl_lst, e2, List.length_map, ask_p (small_of hwl)]
    rw [a1 _ _ ws (fun x _ => rfl) (fun x hx => hr x (List.mem_cons_of_mem _ hx)) fun x hx => hra x (List.mem_cons_of_mem _ hx)]
    have l1 : lenD [.lst ((ws.map lintZ).map oD)] = pure (.int (ws.length : Int)) := by rw [len_lst, List.length_map, List.length_map]
    simp -failIfUnchanged only [rd, List.getElem?_cons_zero, List.getElem?_cons_succ, List.set_cons_zero, List.set_cons_succ, pb_M, M.assoc, run_bind, run_pure, run_lift, run_seq, run_liftTS, run_liftT, run_noX, run_nx, run_rtn, run_set2, run_gN, run_gT2, run_iteS, run_ite, run_tAnd, run_tOr, run_andD, run_orD, asB_p, liftS_p, seqM_nx, seqM_rt, liftT_p, noX_p, tOr_p, tAnd_p, andD_p, orD_p, notD_p, wipeE, it_tup, it_lst, frzL, Bool.not_true, Bool.not_false, Bool.false_eq_true, if_true, if_false, st2, isN_o]
    cases hi : lintZ w with
    | none => rfl
    | some i =>
      have e : oD (some i) = .int i := rfl
      simp -failIfUnchanged only [rd, List.getElem?_cons_zero, List.getElem?_cons_succ, List.set_cons_zero, List.set_cons_succ, pb_M, M.assoc, run_bind, run_pure, run_lift, run_seq, run_liftTS, run_liftT, run_noX, run_nx, run_rtn, run_set2, run_gN, run_gT2, run_iteS, run_ite, run_tAnd, run_tOr, run_andD, run_orD, asB_p, liftS_p, seqM_nx, seqM_rt, liftT_p, noX_p, tOr_p, tAnd_p, andD_p, orD_p, notD_p, wipeE, it_tup, it_lst, frzL, Bool.not_true, Bool.not_false, Bool.false_eq_true, if_true, if_false, Option.isNone_some, e, lt_int, l1, le_int]
      by_cases h1 : i < least
      · have : idO least (some i) = false := decide_eq_false (by omega)
        rw [decide_eq_true h1, this]; rfl
      · have hid : idO least (some i) = true := decide_eq_true (by omega)
        rw [decide_eq_false h1, hid, decide_eq_true (show (1 : Int) ≤ (ws.length : Int) by omega), decide_eq_true hw1]
        by_cases h8 : ws.length ≤ 8
        · rw [decide_eq_true (show (ws.length : Int) ≤ 8 by omega), decide_eq_true h8]
          simp -failIfUnchanged only [rd, List.getElem?_cons_zero, List.getElem?_cons_succ, List.set_cons_zero, List.set_cons_succ, pb_M, M.assoc, run_bind, run_pure, run_lift, run_seq, run_liftTS, run_liftT, run_noX, run_nx, run_rtn, run_set2, run_gN, run_gT2, run_iteS, run_ite, run_tAnd, run_tOr, run_andD, run_orD, asB_p, liftS_p, seqM_nx, seqM_rt, liftT_p, noX_p, tOr_p, tAnd_p, andD_p, orD_p, notD_p, wipeE, it_tup, it_lst, frzL, Bool.not_true, Bool.not_false, Bool.false_eq_true, if_true, if_false, non_in]
          cases hn : (ws.map lintZ).any (·.isNone) with
          | true =>
            rw [not_all hn]
            simp -failIfUnchanged only [rd, List.getElem?_cons_zero, List.getElem?_cons_succ, List.set_cons_zero, List.set_cons_succ, pb_M, M.assoc, run_bind, run_pure, run_lift, run_seq, run_liftTS, run_liftT, run_noX, run_nx, run_rtn, run_set2, run_gN, run_gT2, run_iteS, run_ite, run_tAnd, run_tOr, run_andD, run_orD, asB_p, liftS_p, seqM_nx, seqM_rt, liftT_p, noX_p, tOr_p, tAnd_p, andD_p, orD_p, notD_p, wipeE, it_tup, it_lst, frzL, Bool.not_true, Bool.not_false, Bool.false_eq_true, if_true, if_false, Bool.and_false]
            rfl
          | false =>
            have hns := no_none hn
            obtain ⟨ns, hns2⟩ : ∃ ns, ns = (ws.map lintZ).map (·.getD 0) := ⟨_, rfl⟩
            rw [← hns2] at hns ⊢
            have hnl : ns.length = ws.length := by rw [hns2]; simp
            have hno : (ws.map lintZ).map oD = ns.map D.int := by
              rw [hns, List.map_map]; rfl
            obtain ⟨y, ys, hy⟩ : ∃ y ys, ns = y :: ys := by
              cases ns with
              | nil => simp at hnl; omega
              | cons y ys => exact ⟨y, ys, rfl⟩
            have hb := big_num y ys hy
            rw [hno, hns, hb]
            have a2 : ∀ (ρ : VL.Env) (elt : VL.Env → M D), (∀ i : Int, elt (ρ.set 8 (some (.int i))) = absD [.int i]) → loopC ⟨ns.map D.int, fun _ => True⟩ (gN 8) (fun _ => pure true) elt ρ (ns.map D.int) [] = pure ((ns.map absZ).map D.int) := fun ρ elt he => by
              rw [loopG (ρ := ρ) (g := D.int) (f := fun i => .int (absZ i)) rfl ns fun i _ => by rw [he, abs_p], List.map_map]
              rfl
            have it : itOf (.lst (ns.map D.int)) = pure ⟨ns.map D.int, fun _ => True⟩ := Eq.trans rfl rfl
            have mx : maxD [.lst ((ns.map absZ).map D.int)] = pure (.int (maxL (ns.map absZ))) := by
              have hr2 : readL (.lst ((ns.map absZ).map D.int)) = pure ((ns.map absZ).map D.int) := rfl
              show (readL (.lst ((ns.map absZ).map D.int)) >>= fun xs => match intsOf xs with
                | some ns => VL.ask (!ns.isEmpty) >>= fun _ => pure (D.int (maxL ns))
                | none => stuck) = _
              rw [hr2, pb_M, ints_oD]
              show (VL.ask _ >>= fun _ => _) = _
              rw [ask_p (by rw [hy]; rfl), pb_M]
            have pw : dPow (.int 10) (.int 9) = pure (.int (10 ^ 9)) := by kernel_rfl
            simp -failIfUnchanged only [rd, List.getElem?_cons_zero, List.getElem?_cons_succ, List.set_cons_zero, List.set_cons_succ, pb_M, M.assoc, run_bind, run_pure, run_lift, run_seq, run_liftTS, run_liftT, run_noX, run_nx, run_rtn, run_set2, run_gN, run_gT2, run_iteS, run_ite, run_tAnd, run_tOr, run_andD, run_orD, asB_p, liftS_p, seqM_nx, seqM_rt, liftT_p, noX_p, tOr_p, tAnd_p, andD_p, orD_p, notD_p, wipeE, it_tup, it_lst, frzL, Bool.not_true, Bool.not_false, Bool.false_eq_true, if_true, if_false, it, List.length_map, ask_p (small_of (show ns.length < 100000 by omega))]
            rw [a2 _ _ fun i => rfl]
            simp -failIfUnchanged only [rd, List.getElem?_cons_zero, List.getElem?_cons_succ, List.set_cons_zero, List.set_cons_succ, pb_M, M.assoc, run_bind, run_pure, run_lift, run_seq, run_liftTS, run_liftT, run_noX, run_nx, run_rtn, run_set2, run_gN, run_gT2, run_iteS, run_ite, run_tAnd, run_tOr, run_andD, run_orD, asB_p, liftS_p, seqM_nx, seqM_rt, liftT_p, noX_p, tOr_p, tAnd_p, andD_p, orD_p, notD_p, wipeE, it_tup, it_lst, frzL, Bool.not_true, Bool.not_false, Bool.false_eq_true, if_true, if_false, mx, pw, gt_int]
            cases hbig : decide ((10 ^ 9 : Int) < maxL (ns.map absZ)) with
            | true =>
              simp -failIfUnchanged only [rd, List.getElem?_cons_zero, List.getElem?_cons_succ, List.set_cons_zero, List.set_cons_succ, pb_M, M.assoc, run_bind, run_pure, run_lift, run_seq, run_liftTS, run_liftT, run_noX, run_nx, run_rtn, run_set2, run_gN, run_gT2, run_iteS, run_ite, run_tAnd, run_tOr, run_andD, run_orD, asB_p, liftS_p, seqM_nx, seqM_rt, liftT_p, noX_p, tOr_p, tAnd_p, andD_p, orD_p, notD_p, wipeE, it_tup, it_lst, frzL, Bool.not_true, Bool.not_false, Bool.false_eq_true, if_true, if_false, Bool.and_false]
              rfl
            | false =>
              have hnm := ne_nil_map TS (k.filter fun c => !letB c) fun c hc => pdn_tx (laid1 c (hka c (List.mem_filter.mp hc).1))
              have a3 : ∀ (ρ : VL.Env) (test : VL.Env → M Bool) (elt : VL.Env → M D), (∀ c, test (ρ.set 7 (some (TS c))) = pure (!letB c)) → (∀ c, elt (ρ.set 7 (some (TS c))) = pure (TS c)) → loopC ⟨k.map TS, fun _ => True⟩ (gN 7) test elt ρ (k.map TS) [] = pure ((k.filter fun c => !letB c).map TS) := fun ρ test elt ht he => loopG_f (ρ := ρ) rfl k [] (fun c _ => ht c) (fun c _ _ => he c)
              rw [slet, name_ok]
              simp -failIfUnchanged only [rd, List.getElem?_cons_zero, List.getElem?_cons_succ, List.set_cons_zero, List.set_cons_succ, pb_M, M.assoc, run_bind, run_pure, run_lift, run_seq, run_liftTS, run_liftT, run_noX, run_nx, run_rtn, run_set2, run_gN, run_gT2, run_iteS, run_ite, run_tAnd, run_tOr, run_andD, run_orD, asB_p, liftS_p, seqM_nx, seqM_rt, liftT_p, noX_p, tOr_p, tAnd_p, andD_p, orD_p, notD_p, wipeE, it_tup, it_lst, frzL, Bool.not_true, Bool.not_false, Bool.false_eq_true, if_true, if_false, ix_l1, len_S hkl, le_int, it_S, List.length_map, ask_p (small_of hkl), mkLst_p (show ([] : List D).length < 100000 by decide)]
              rw [a3 _ _ _ (fun c => by
                show (pure (TS c) >>= fun x => dNinC x (tx _) >>= asB) = _
                rw [pb_M, nin_S, let_mem, pb_M, asB_p]) fun c => rfl]
              simp -failIfUnchanged only [rd, List.getElem?_cons_zero, List.getElem?_cons_succ, List.set_cons_zero, List.set_cons_succ, pb_M, M.assoc, run_bind, run_pure, run_lift, run_seq, run_liftTS, run_liftT, run_noX, run_nx, run_rtn, run_set2, run_gN, run_gT2, run_iteS, run_ite, run_tAnd, run_tOr, run_andD, run_orD, asB_p, liftS_p, seqM_nx, seqM_rt, liftT_p, noX_p, tOr_p, tAnd_p, andD_p, orD_p, notD_p, wipeE, it_tup, it_lst, frzL, Bool.not_true, Bool.not_false, Bool.false_eq_true, if_true, if_false, hnm]
              have m3 : ∀ a b c : D, mkTup [a, b, c] = pure (.tup [a, b, c]) := fun _ _ _ => Eq.trans rfl rfl
              by_cases k1 : 1 ≤ k.length
              · rw [decide_eq_true (show (1 : Int) ≤ (k.length : Int) by omega), decide_eq_true k1]
                by_cases k8 : k.length ≤ 8
                · rw [decide_eq_true (show (k.length : Int) ≤ 8 by omega), decide_eq_true k8]
                  cases (k.filter fun c => !letB c).isEmpty with
                  | true =>
                    simp -failIfUnchanged only [rd, List.getElem?_cons_zero, List.getElem?_cons_succ, List.set_cons_zero, List.set_cons_succ, pb_M, M.assoc, run_bind, run_pure, run_lift, run_seq, run_liftTS, run_liftT, run_noX, run_nx, run_rtn, run_set2, run_gN, run_gT2, run_iteS, run_ite, run_tAnd, run_tOr, run_andD, run_orD, asB_p, liftS_p, seqM_nx, seqM_rt, liftT_p, noX_p, tOr_p, tAnd_p, andD_p, orD_p, notD_p, wipeE, it_tup, it_lst, frzL, Bool.not_true, Bool.not_false, Bool.false_eq_true, if_true, if_false, tup_lst, m3]
                    rfl
                  | false =>
                    simp -failIfUnchanged only [rd, List.getElem?_cons_zero, List.getElem?_cons_succ, List.set_cons_zero, List.set_cons_succ, pb_M, M.assoc, run_bind, run_pure, run_lift, run_seq, run_liftTS, run_liftT, run_noX, run_nx, run_rtn, run_set2, run_gN, run_gT2, run_iteS, run_ite, run_tAnd, run_tOr, run_andD, run_orD, asB_p, liftS_p, seqM_nx, seqM_rt, liftT_p, noX_p, tOr_p, tAnd_p, andD_p, orD_p, notD_p, wipeE, it_tup, it_lst, frzL, Bool.not_true, Bool.not_false, Bool.false_eq_true, if_true, if_false]
                    rfl
                · rw [decide_eq_false (show ¬ (k.length : Int) ≤ 8 by omega), decide_eq_false k8]
                  simp -failIfUnchanged only [rd, List.getElem?_cons_zero, List.getElem?_cons_succ, List.set_cons_zero, List.set_cons_succ, pb_M, M.assoc, run_bind, run_pure, run_lift, run_seq, run_liftTS, run_liftT, run_noX, run_nx, run_rtn, run_set2, run_gN, run_gT2, run_iteS, run_ite, run_tAnd, run_tOr, run_andD, run_orD, asB_p, liftS_p, seqM_nx, seqM_rt, liftT_p, noX_p, tOr_p, tAnd_p, andD_p, orD_p, notD_p, wipeE, it_tup, it_lst, frzL, Bool.not_true, Bool.not_false, Bool.false_eq_true, if_true, if_false]
                  rfl
              · rw [decide_eq_false (show ¬ (1 : Int) ≤ (k.length : Int) by omega), decide_eq_false k1]
                simp -failIfUnchanged only [rd, List.getElem?_cons_zero, List.getElem?_cons_succ, List.set_cons_zero, List.set_cons_succ, pb_M, M.assoc, run_bind, run_pure, run_lift, run_seq, run_liftTS, run_liftT, run_noX, run_nx, run_rtn, run_set2, run_gN, run_gT2, run_iteS, run_ite, run_tAnd, run_tOr, run_andD, run_orD, asB_p, liftS_p, seqM_nx, seqM_rt, liftT_p, noX_p, tOr_p, tAnd_p, andD_p, orD_p, notD_p, wipeE, it_tup, it_lst, frzL, Bool.not_true, Bool.not_false, Bool.false_eq_true, if_true, if_false]
                rfl
        · rw [decide_eq_false (show ¬ (ws.length : Int) ≤ 8 by omega), decide_eq_false h8]
          simp -failIfUnchanged only [rd, List.getElem?_cons_zero, List.getElem?_cons_succ, List.set_cons_zero, List.set_cons_succ, pb_M, M.assoc, run_bind, run_pure, run_lift, run_seq, run_liftTS, run_liftT, run_noX, run_nx, run_rtn, run_set2, run_gN, run_gT2, run_iteS, run_ite, run_tAnd, run_tOr, run_andD, run_orD, asB_p, liftS_p, seqM_nx, seqM_rt, liftT_p, noX_p, tOr_p, tAnd_p, andD_p, orD_p, notD_p, wipeE, it_tup, it_lst, frzL, Bool.not_true, Bool.not_false, Bool.false_eq_true, if_true, if_false, Bool.and_false, Bool.false_and]
          rfl
end
end K07
namespace K07
open PySem VL RecT WoT
theorem run_tupP {k : Nat} {xs : List D} {μ : Mem} {Q : D → Mem → Prop} (h : μ[k]? = some (.lst xs)) : VL.Run (tupleD [.ptr k]) μ Q = Q (.tup xs) μ := by
  show VL.Run (readL (.ptr k) >>= fun xs => pure (D.tup xs)) μ Q = _
  rw [run_bind, run_readL h, run_pure]
theorem run_tyP {k : Nat} {xs : List D} {μ : Mem} {Q : Unit → Mem → Prop} (h : μ[k]? = some (.lst xs)) : VL.Run (tyM "list" (.ptr k)) μ Q = Q () μ := by
  show VL.Run (readL (.ptr k) >>= fun _ => VL.ask true) μ Q = _
  rw [run_bind, run_readL h, run_ask rfl]
structure NT (a : List Nat) : Prop where
  len : a.length < 20000
  asc : asc a
  sh : ∀ q ∈ TL.spl [59] 0 [] a, short q
def plainW (w : Wo) : D := .tup [.int w.1, .int w.2.1, .int w.2.2.1, .tup (w.2.2.2.map thD)]
def owP : Option Wo → D
  | some w => plainW w
  | none => .non
theorem noPtrL_ints (j : List Int) : noPtrL (j.map D.int) = true := by
  induction j with
  | nil => rfl
  | cons x r ih => show (noPtr (.int x) && noPtrL (r.map D.int)) = true; rw [ih]; rfl
theorem noPtr_th (t : Th) : noPtr (thD t) = true := by
  show (noPtr (.int t.1) && (noPtr (tx t.2.1) && (noPtrL (t.2.2.map D.int) && noPtrL []))) = true
  rw [noPtrL_ints]; rfl
theorem noPtr_ths (ts : List Th) : noPtrL (ts.map thD) = true := by
  induction ts with
  | nil => rfl
  | cons x r ih => show (noPtr (thD x) && noPtrL (r.map thD)) = true; rw [ih, noPtr_th]; rfl
theorem noPtr_w (o : Option Wo) : noPtr (owP o) = true := by
  cases o with
  | none => rfl
  | some w =>
    show (noPtr (.int w.1) && (noPtr (.int w.2.1) && (noPtr (.int w.2.2.1) && (noPtrL (w.2.2.2.map thD) && noPtrL [])))) = true
    rw [noPtr_ths]; rfl
theorem lawThs_app : ∀ (ps qs : List (List Nat)) (least : Int), lawThs least (ps ++ qs) = match lawThs least ps with
    | some (ths, e) => (match lawThs e qs with
      | some (ths2, e2) => some (ths ++ ths2, e2)
      | none => none)
    | none => none
  | [], qs, least => by
    show lawThs least qs = match lawThs least qs with
      | some (ths2, e2) => some ([] ++ ths2, e2)
      | none => none
    cases lawThs least qs with
    | none => rfl
    | some x => rfl
  | p :: ps, qs, least => by
    have ih := fun l => lawThs_app ps qs l
    show (match lawT least p with
      | some t => match lawThs (t.1 + 1) (ps ++ qs) with
        | some (ths, e) => some (t :: ths, e)
        | none => none
      | none => none) = match (match lawT least p with
      | some t => match lawThs (t.1 + 1) ps with
        | some (ths, e) => some (t :: ths, e)
        | none => none
      | none => none) with
      | some (ths, e) => (match lawThs e qs with
        | some (ths2, e2) => some (ths ++ ths2, e2)
        | none => none)
      | none => none
    cases lawT least p with
    | none => rfl
    | some t =>
      simp only [ih]
      cases lawThs (t.1 + 1) ps with
      | none => rfl
      | some x =>
        simp only
        cases lawThs x.2 qs with
        | none => rfl
        | some y => rfl
theorem three {os : List (Option Int)} (h : os.length = 3) : ∃ x y z, os = [x, y, z] := by
  match os, h with
  | [x, y, z], _ => exact ⟨x, y, z, rfl⟩
theorem head_len {f : List Nat → Option Int} {h : List Nat} (hl : ((TL.spl [32] 0 [] h).map f).length ≠ 3) : headO f h = none := by
  unfold headO
  split
  · rename_i e
    rw [e] at hl
    exact absurd rfl hl
  · rfl
theorem head_any {f : List Nat → Option Int} {h : List Nat} (hl : ((TL.spl [32] 0 [] h).map f).any (·.isNone) = true) : headO f h = none := by
  unfold headO
  split
  · rename_i e
    rw [e] at hl
    simp at hl
  · rfl
theorem min3 (t n l : Int) : minD [.lst ([some t, some n, some l].map oD)] = pure (.int (minL [t, n, l])) := Eq.trans rfl rfl
theorem min3_lt (t n l : Int) : decide (minL [t, n, l] < 0) = !decide (0 ≤ t ∧ 0 ≤ n ∧ 0 ≤ l) := by
  have h := minL_ge (m := 0) t [n, l]
  simp only [List.mem_cons, List.not_mem_nil, or_false, forall_eq_or_imp, forall_eq] at h
  by_cases hc : 0 ≤ t ∧ 0 ≤ n ∧ 0 ≤ l
  · rw [decide_eq_true hc, decide_eq_false (by have := h.mp hc; omega)]; rfl
  · rw [decide_eq_false hc, decide_eq_true (by
      have : ¬ 0 ≤ minL [t, n, l] := fun z => hc (h.mpr z)
      omega)]; rfl
section
variable {a : List Nat}
theorem l_read_p (h : NT a) : m_l_read [tx a] = pure (owP (lawW a)) := by
  unfold m_l_read
  refine loc_pure (fun k e => by cases e) rfl ?_ (noPtr_w _)
  rw [run_F]
  show RunS (f_l_read [some (tx a), none, none, none, none, none, none, none]) [] _ _
  unfold f_l_read
  have hal := h.len
  have sp : splitM frzL (tx a) [TS 59] = pure (.lst ((TL.spl [59] 0 [] a).map tx)) := split_p (by omega) (by decide)
  have hlen := len_spl 59 a
  obtain ⟨hd, ps, hps⟩ : ∃ hd ps, TL.spl [59] 0 [] a = hd :: ps := by
    cases e : TL.spl [59] 0 [] a with
    | nil => exact absurd e (spl_ne 59 a [])
    | cons w r => exact ⟨w, r, rfl⟩
  have hh := h.sh hd (by rw [hps]; exact List.mem_cons_self)
  have hpsh : ∀ x ∈ ps, short x ∧ asc x ∧ x.length < 50000 := fun x hx => by
    have hm : x ∈ TL.spl [59] 0 [] a := by rw [hps]; exact List.mem_cons_of_mem _ hx
    exact ⟨h.sh x hm, asc_word h.asc hm, Nat.lt_of_le_of_lt (word_len hm) (by omega)⟩
  have hhm : hd ∈ TL.spl [59] 0 [] a := by rw [hps]; exact List.mem_cons_self
  have hha : asc hd := asc_word h.asc hhm
  have hhl : hd.length < 50000 := Nat.lt_of_le_of_lt (word_len hhm) (by omega)
  rw [hps] at sp hlen
  have sp2 : splitM frzL (tx hd) [TS 32] = pure (.lst ((TL.spl [32] 0 [] hd).map tx)) := split_p (by omega) (by decide)
  have ci : ∀ x : List Nat, x.length ≤ 500 → asc x → callM 1 m_l_integer [tx x] = pure (oD (lintZ x)) := fun x hx hy => by rw [callM_t rfl, l_integer_p hx hy]
  have a1 : ∀ (ρ : VL.Env) (elt : VL.Env → M D) (ws : List (List Nat)), (∀ x ∈ ws, elt (ρ.set 7 (some (tx x))) = callM 1 m_l_integer [tx x]) → (∀ x ∈ ws, x.length ≤ 500) → (∀ x ∈ ws, asc x) → loopC ⟨ws.map tx, fun _ => True⟩ (gN 7) (fun _ => pure true) elt ρ (ws.map tx) [] = pure ((ws.map lintZ).map oD) := fun ρ elt ws he hh hy => by
    rw [loopG (ρ := ρ) (g := tx) (f := fun x => oD (lintZ x)) rfl ws fun x hx => by rw [he x hx, ci x (hh x hx) (hy x hx)], List.map_map]
    rfl
  have mn : ∀ μ : Mem, mkNew [] μ = .ok (.ptr μ.length) (μ ++ [.lst []]) := fun μ => Eq.trans rfl rfl
  have st3 : ∀ (ρ : VL.Env) (x y z : D), set3 ρ 1 2 3 [x, y, z] = pure (.nx (((ρ.set 1 (some x)).set 2 (some y)).set 3 (some z))) := fun ρ x y z => Eq.trans rfl rfl
  have hsl : (TL.spl [32] 0 [] hd).length < 100000 := by have := len_spl 32 hd; omega
  rw [s59, s32]
  simp -failIfUnchanged only [rd, List.getElem?_cons_zero, List.getElem?_cons_succ, List.set_cons_zero, List.set_cons_succ, pb_M, M.assoc, run_bind, run_pure, run_lift, run_seq, run_liftTS, run_liftT, run_noX, run_nx, run_rtn, run_set2, run_gN, run_gT2, run_iteS, run_ite, run_tAnd, run_tOr, run_andD, run_orD, asB_p, liftS_p, seqM_nx, seqM_rt, liftT_p, noX_p, tOr_p, tAnd_p, andD_p, orD_p, notD_p, wipeE, it_tup, it_lst, frzL, Bool.not_true, Bool.not_false, Bool.false_eq_true, if_true, if_false, ty_S, sp, run_ok (mn _), List.length_nil, List.nil_append, st3, List.map_cons, ix_l0, sp2, List.length_map, run_ask (small_of hsl)]
  rw [a1 _ _ _ (fun x _ => rfl) hh fun x hx => asc_word hha hx]
  obtain ⟨os, hos⟩ : ∃ os, os = (TL.spl [32] 0 [] hd).map lintZ := ⟨_, rfl⟩
  rw [← hos]
  have l1 : lenD [.lst (os.map oD)] = pure (.int (os.length : Int)) := by rw [len_lst, List.length_map]
  have l2 : lenD [.lst (tx hd :: ps.map tx)] = pure (.int ((ps.length : Int) + 1)) := by rw [len_lst]; simp
  have ne3 : dNe (.int (os.length : Int)) (.int 3) = pure (.bl (!decide (os.length = 3))) := by
    rw [ne_int]
    exact congrArg (fun z => pure (D.bl (!z))) (decide_eq_decide.mpr ⟨fun z => by omega, fun z => by omega⟩)
  have hlw : lawW a = match headO lintZ hd with
    | some (t, n, l) => if ps.length ≤ 12 then (match lawThs 0 ps with
      | some (ths, e) => if e ≤ n then some (t, n, l, ths) else none
      | none => none) else none
    | none => none := by
    show (match TL.spl [59] 0 [] a with
      | h :: ps => _
      | [] => none) = _
    rw [hps]
    all_goals rfl
  simp -failIfUnchanged only [rd, List.getElem?_cons_zero, List.getElem?_cons_succ, List.set_cons_zero, List.set_cons_succ, pb_M, M.assoc, run_bind, run_pure, run_lift, run_seq, run_liftTS, run_liftT, run_noX, run_nx, run_rtn, run_set2, run_gN, run_gT2, run_iteS, run_ite, run_tAnd, run_tOr, run_andD, run_orD, asB_p, liftS_p, seqM_nx, seqM_rt, liftT_p, noX_p, tOr_p, tAnd_p, andD_p, orD_p, notD_p, wipeE, it_tup, it_lst, frzL, Bool.not_true, Bool.not_false, Bool.false_eq_true, if_true, if_false, l1, ne3, non_in]
  by_cases h3 : os.length = 3
  · rw [decide_eq_true h3]
    cases hany : os.any (·.isNone) with
    | true =>
      rw [hlw, head_any (by rw [← hos]; exact hany)]
      simp -failIfUnchanged only [rd, List.getElem?_cons_zero, List.getElem?_cons_succ, List.set_cons_zero, List.set_cons_succ, pb_M, M.assoc, run_bind, run_pure, run_lift, run_seq, run_liftTS, run_liftT, run_noX, run_nx, run_rtn, run_set2, run_gN, run_gT2, run_iteS, run_ite, run_tAnd, run_tOr, run_andD, run_orD, asB_p, liftS_p, seqM_nx, seqM_rt, liftT_p, noX_p, tOr_p, tAnd_p, andD_p, orD_p, notD_p, wipeE, it_tup, it_lst, frzL, Bool.not_true, Bool.not_false, Bool.false_eq_true, if_true, if_false]
      rfl
    | false =>
      obtain ⟨x, y, z, rfl⟩ := three h3
      cases x with
      | none => cases hany
      | some t =>
        cases y with
        | none => cases hany
        | some n =>
          cases z with
          | none => cases hany
          | some l =>
            have i2 : dIx (.lst ([some t, some n, some l].map oD)) (.int 2) = pure (.int l) := ix_l2 _ _ _ _
            have i1 : dIx (.lst ([some t, some n, some l].map oD)) (.int 1) = pure (.int n) := ix_l1 _ _ _
            have i0 : dIx (.lst ([some t, some n, some l].map oD)) (.int 0) = pure (.int t) := ix_l0 _ _
            have hho : headO lintZ hd = if 0 ≤ t ∧ 0 ≤ n ∧ 0 ≤ l ∧ l ≤ 999999936 then some (t, n, l) else none := by
              unfold headO
              rw [← hos]
            rw [hlw, hho]
            simp -failIfUnchanged only [rd, List.getElem?_cons_zero, List.getElem?_cons_succ, List.set_cons_zero, List.set_cons_succ, pb_M, M.assoc, run_bind, run_pure, run_lift, run_seq, run_liftTS, run_liftT, run_noX, run_nx, run_rtn, run_set2, run_gN, run_gT2, run_iteS, run_ite, run_tAnd, run_tOr, run_andD, run_orD, asB_p, liftS_p, seqM_nx, seqM_rt, liftT_p, noX_p, tOr_p, tAnd_p, andD_p, orD_p, notD_p, wipeE, it_tup, it_lst, frzL, Bool.not_true, Bool.not_false, Bool.false_eq_true, if_true, if_false, min3, lt_int, min3_lt, i2, gt_int, l2]

            by_cases hp0 : 0 ≤ t ∧ 0 ≤ n ∧ 0 ≤ l
            · rw [decide_eq_true hp0]
              by_cases hp1 : l ≤ 999999936
              · rw [decide_eq_false (show ¬ 999999936 < l by omega), if_pos (show 0 ≤ t ∧ 0 ≤ n ∧ 0 ≤ l ∧ l ≤ 999999936 from ⟨hp0.1, hp0.2.1, hp0.2.2, hp1⟩)]
                by_cases hp2 : ps.length ≤ 12
                · rw [decide_eq_false (show ¬ (13 : Int) < (ps.length : Int) + 1 by omega)]
                  simp only [if_pos hp2]
                  have e1 : cutL (tx hd :: ps.map tx) (some 1) none = ps.map tx := cut1 _
                  simp -failIfUnchanged only [rd, List.getElem?_cons_zero, List.getElem?_cons_succ, List.set_cons_zero, List.set_cons_succ, pb_M, M.assoc, run_bind, run_pure, run_lift, run_seq, run_liftTS, run_liftT, run_noX, run_nx, run_rtn, run_set2, run_gN, run_gT2, run_iteS, run_ite, run_tAnd, run_tOr, run_andD, run_orD, asB_p, liftS_p, seqM_nx, seqM_rt, liftT_p, noX_p, tOr_p, tAnd_p, andD_p, orD_p, notD_p, wipeE, it_tup, it_lst, frzL, Bool.not_true, Bool.not_false, Bool.false_eq_true, if_true, if_false, ap, sl_lst, e1]
                  refine run_loop (fun i ρ μ => ∃ ths e o5 o6, lawThs 0 (ps.take i) = some (ths, e) ∧ 0 ≤ e ∧ ths.length = i ∧ ρ = [some (tx a), some (.lst (tx hd :: ps.map tx)), some (.ptr 0), some (.int e), some (.lst ([some t, some n, some l].map oD)), o5, o6, none] ∧ μ = [.lst (ths.map thD)]) ?_ ?_ ?_ ?_
                  · intro _ _ _ _; trivial
                  · exact ⟨[], 0, none, none, rfl, Int.le_refl 0, rfl, rfl, rfl⟩
                  · rintro i x ρ μ hx ⟨ths, e, o5, o6, hth, he, hti, rfl, rfl⟩
                    rw [List.getElem?_map] at hx
                    cases hq : ps[i]? with
                    | none => rw [hq] at hx; cases hx
                    | some q =>
                      rw [hq] at hx
                      cases hx
                      obtain ⟨q1, q2, q3⟩ := hpsh q (List.mem_of_getElem? hq)
                      have hti2 : i < ps.length := (List.getElem?_eq_some_iff.mp hq).1
                      have c1 : callM 2 m_l_read_thing [tx q, .int e] = pure (otD (lawT e q)) := by rw [callM_t rfl, l_thing_p q3 q2 q1]
                      have htk : ps.take (i + 1) = ps.take i ++ [q] := by rw [List.take_add_one, hq]; rfl
                      simp -failIfUnchanged only [rd, List.getElem?_cons_zero, List.getElem?_cons_succ, List.set_cons_zero, List.set_cons_succ, pb_M, M.assoc, run_bind, run_pure, run_lift, run_seq, run_liftTS, run_liftT, run_noX, run_nx, run_rtn, run_set2, run_gN, run_gT2, run_iteS, run_ite, run_tAnd, run_tOr, run_andD, run_orD, asB_p, liftS_p, seqM_nx, seqM_rt, liftT_p, noX_p, tOr_p, tAnd_p, andD_p, orD_p, notD_p, wipeE, it_tup, it_lst, frzL, Bool.not_true, Bool.not_false, Bool.false_eq_true, if_true, if_false, c1]
                      cases hlt : lawT e q with
                      | none =>
                        have hn : lawThs 0 ps = none := by
                          have hd2 : ps.drop i = q :: ps.drop (i + 1) := by
                            rw [List.drop_eq_getElem_cons hti2, (List.getElem?_eq_some_iff.mp hq).2]
                          have : ps = ps.take i ++ (q :: ps.drop (i + 1)) := by rw [← hd2, List.take_append_drop]
                          rw [this, lawThs_app, hth]
                          simp only
                          have : lawThs e (q :: ps.drop (i + 1)) = none := by
                            unfold lawThs
                            rw [hlt]
                          rw [this]
                        have hN : isN (otD none) = true := rfl
                        simp -failIfUnchanged only [rd, List.getElem?_cons_zero, List.getElem?_cons_succ, List.set_cons_zero, List.set_cons_succ, pb_M, M.assoc, run_bind, run_pure, run_lift, run_seq, run_liftTS, run_liftT, run_noX, run_nx, run_rtn, run_set2, run_gN, run_gT2, run_iteS, run_ite, run_tAnd, run_tOr, run_andD, run_orD, asB_p, liftS_p, seqM_nx, seqM_rt, liftT_p, noX_p, tOr_p, tAnd_p, andD_p, orD_p, notD_p, wipeE, it_tup, it_lst, frzL, Bool.not_true, Bool.not_false, Bool.false_eq_true, if_true, if_false, hN]
                        rw [hn]
                        rfl
                      | some th =>
                        have hok := read_ok he hlt
                        have hN : isN (otD (some th)) = false := rfl
                        have x0 : dIx (otD (some th)) (.int 0) = pure (.int th.1) := rfl
                        have g0 : ∀ xs : List D, ([Cell.lst xs] : Mem)[0]? = some (.lst xs) := fun _ => rfl
                        have hlen2 : (ths.map thD).length < 100000 := by rw [List.length_map]; omega
                        simp -failIfUnchanged only [rd, List.getElem?_cons_zero, List.getElem?_cons_succ, List.set_cons_zero, List.set_cons_succ, pb_M, M.assoc, run_bind, run_pure, run_lift, run_seq, run_liftTS, run_liftT, run_noX, run_nx, run_rtn, run_set2, run_gN, run_gT2, run_iteS, run_ite, run_tAnd, run_tOr, run_andD, run_orD, asB_p, liftS_p, seqM_nx, seqM_rt, liftT_p, noX_p, tOr_p, tAnd_p, andD_p, orD_p, notD_p, wipeE, it_tup, it_lst, frzL, Bool.not_true, Bool.not_false, Bool.false_eq_true, if_true, if_false, hN, run_tyP (g0 _), run_app (g0 _) hlen2, x0, add_int]
                        refine ⟨ths ++ [th], th.1 + 1, _, _, ?_, by have := hok.1.id0; omega, by simp [hti], rfl, by simp [otD]⟩
                        rw [htk, lawThs_app, hth]
                        show (match lawThs e [q] with
                          | some (ths2, e2) => some (ths ++ ths2, e2)
                          | none => none) = _
                        have : lawThs e [q] = some ([th], th.1 + 1) := by
                          unfold lawThs
                          rw [hlt]
                          rfl
                        rw [this]
                  · rintro ρ μ ⟨ths, e, o5, o6, hth, he, hti, rfl, rfl⟩
                    rw [List.length_map] at hth
                    rw [List.take_length] at hth
                    have g0 : ([Cell.lst (ths.map thD)] : Mem)[0]? = some (.lst (ths.map thD)) := rfl
                    have m4 : ∀ a b c d : D, mkTup [a, b, c, d] = pure (.tup [a, b, c, d]) := fun _ _ _ _ => rfl
                    simp -failIfUnchanged only [rd, List.getElem?_cons_zero, List.getElem?_cons_succ, List.set_cons_zero, List.set_cons_succ, pb_M, M.assoc, run_bind, run_pure, run_lift, run_seq, run_liftTS, run_liftT, run_noX, run_nx, run_rtn, run_set2, run_gN, run_gT2, run_iteS, run_ite, run_tAnd, run_tOr, run_andD, run_orD, asB_p, liftS_p, seqM_nx, seqM_rt, liftT_p, noX_p, tOr_p, tAnd_p, andD_p, orD_p, notD_p, wipeE, it_tup, it_lst, frzL, Bool.not_true, Bool.not_false, Bool.false_eq_true, if_true, if_false, i0, i1, i2, le_int, run_tupP g0, m4]
                    rw [hth]
                    by_cases hen : e ≤ n
                    · rw [decide_eq_true hen]
                      simp only [if_pos hen]
                      simp -failIfUnchanged only [rd, List.getElem?_cons_zero, List.getElem?_cons_succ, List.set_cons_zero, List.set_cons_succ, pb_M, M.assoc, run_bind, run_pure, run_lift, run_seq, run_liftTS, run_liftT, run_noX, run_nx, run_rtn, run_set2, run_gN, run_gT2, run_iteS, run_ite, run_tAnd, run_tOr, run_andD, run_orD, asB_p, liftS_p, seqM_nx, seqM_rt, liftT_p, noX_p, tOr_p, tAnd_p, andD_p, orD_p, notD_p, wipeE, it_tup, it_lst, frzL, Bool.not_true, Bool.not_false, Bool.false_eq_true, if_true, if_false]
                      rfl
                    · rw [decide_eq_false hen]
                      simp only [if_neg hen]
                      simp -failIfUnchanged only [rd, List.getElem?_cons_zero, List.getElem?_cons_succ, List.set_cons_zero, List.set_cons_succ, pb_M, M.assoc, run_bind, run_pure, run_lift, run_seq, run_liftTS, run_liftT, run_noX, run_nx, run_rtn, run_set2, run_gN, run_gT2, run_iteS, run_ite, run_tAnd, run_tOr, run_andD, run_orD, asB_p, liftS_p, seqM_nx, seqM_rt, liftT_p, noX_p, tOr_p, tAnd_p, andD_p, orD_p, notD_p, wipeE, it_tup, it_lst, frzL, Bool.not_true, Bool.not_false, Bool.false_eq_true, if_true, if_false]
                      rfl
                · rw [decide_eq_true (show (13 : Int) < (ps.length : Int) + 1 by omega)]
                  simp only [if_neg hp2]
                  simp -failIfUnchanged only [rd, List.getElem?_cons_zero, List.getElem?_cons_succ, List.set_cons_zero, List.set_cons_succ, pb_M, M.assoc, run_bind, run_pure, run_lift, run_seq, run_liftTS, run_liftT, run_noX, run_nx, run_rtn, run_set2, run_gN, run_gT2, run_iteS, run_ite, run_tAnd, run_tOr, run_andD, run_orD, asB_p, liftS_p, seqM_nx, seqM_rt, liftT_p, noX_p, tOr_p, tAnd_p, andD_p, orD_p, notD_p, wipeE, it_tup, it_lst, frzL, Bool.not_true, Bool.not_false, Bool.false_eq_true, if_true, if_false]
                  rfl
              · rw [decide_eq_true (show 999999936 < l by omega), if_neg (show ¬ (0 ≤ t ∧ 0 ≤ n ∧ 0 ≤ l ∧ l ≤ 999999936) from fun z => hp1 z.2.2.2)]
                simp -failIfUnchanged only [rd, List.getElem?_cons_zero, List.getElem?_cons_succ, List.set_cons_zero, List.set_cons_succ, pb_M, M.assoc, run_bind, run_pure, run_lift, run_seq, run_liftTS, run_liftT, run_noX, run_nx, run_rtn, run_set2, run_gN, run_gT2, run_iteS, run_ite, run_tAnd, run_tOr, run_andD, run_orD, asB_p, liftS_p, seqM_nx, seqM_rt, liftT_p, noX_p, tOr_p, tAnd_p, andD_p, orD_p, notD_p, wipeE, it_tup, it_lst, frzL, Bool.not_true, Bool.not_false, Bool.false_eq_true, if_true, if_false]
                rfl
            · rw [decide_eq_false hp0, if_neg (show ¬ (0 ≤ t ∧ 0 ≤ n ∧ 0 ≤ l ∧ l ≤ 999999936) from fun z => hp0 ⟨z.1, z.2.1, z.2.2.1⟩)]
              simp -failIfUnchanged only [rd, List.getElem?_cons_zero, List.getElem?_cons_succ, List.set_cons_zero, List.set_cons_succ, pb_M, M.assoc, run_bind, run_pure, run_lift, run_seq, run_liftTS, run_liftT, run_noX, run_nx, run_rtn, run_set2, run_gN, run_gT2, run_iteS, run_ite, run_tAnd, run_tOr, run_andD, run_orD, asB_p, liftS_p, seqM_nx, seqM_rt, liftT_p, noX_p, tOr_p, tAnd_p, andD_p, orD_p, notD_p, wipeE, it_tup, it_lst, frzL, Bool.not_true, Bool.not_false, Bool.false_eq_true, if_true, if_false]
              rfl
  · rw [decide_eq_false h3, hlw, head_len (by rw [← hos]; exact h3)]
    simp -failIfUnchanged only [rd, List.getElem?_cons_zero, List.getElem?_cons_succ, List.set_cons_zero, List.set_cons_succ, pb_M, M.assoc, run_bind, run_pure, run_lift, run_seq, run_liftTS, run_liftT, run_noX, run_nx, run_rtn, run_set2, run_gN, run_gT2, run_iteS, run_ite, run_tAnd, run_tOr, run_andD, run_orD, asB_p, liftS_p, seqM_nx, seqM_rt, liftT_p, noX_p, tOr_p, tAnd_p, andD_p, orD_p, notD_p, wipeE, it_tup, it_lst, frzL, Bool.not_true, Bool.not_false, Bool.false_eq_true, if_true, if_false]
    rfl
end
end K07
namespace K07
open PySem VL RecT WoT
def thsD (ths : List Th) : D := .tup (ths.map thD)
def worD (w : Wo) : D := .ins "World" [.lst (w.2.2.2.map fun t => .int t.1), .int w.2.2.1, .int w.2.1, thsD w.2.2.2, .int w.1]
def owD : Option Wo → D
  | some w => worD w
  | none => .non
theorem it_ths (ths : List Th) : itOf (thsD ths) = pure ⟨ths.map thD, fun _ => True⟩ := Eq.trans rfl rfl
theorem made_p {w : Wo} (h : w.2.2.2.length < 100000) : m_made_world [.int w.1, .int w.2.1, .int w.2.2.1, thsD w.2.2.2] = pure (worD w) := by
  refine runF_rt ?_
  show f_made_world [some (.int w.1), some (.int w.2.1), some (.int w.2.2.1), some (thsD w.2.2.2)] = _
  unfold f_made_world
  have k1 : newM "KnownParts" 5 m_KnownParts_init ([.int w.1, .int w.2.1, .int w.2.2.1, thsD w.2.2.2] ++ []) = pure (.ins "KnownParts" [.int w.2.2.1, .int w.2.1, thsD w.2.2.2, .int w.1]) := by kernel_rfl
  have i1 : m_World_init [.ins "KnownParts" [.int w.2.2.1, .int w.2.1, thsD w.2.2.2, .int w.1], .non, .non, .non] = pure [.lst (w.2.2.2.map fun t => .int t.1), .int w.2.2.1, .int w.2.1, thsD w.2.2.2, .int w.1] := by
    refine runI_nx (ρ := [none, some (.ins "KnownParts" [.int w.2.2.1, .int w.2.1, thsD w.2.2.2, .int w.1]), some .non, some .non, some .non, some (.ins "KnownParts" [.int w.2.2.1, .int w.2.1, thsD w.2.2.2, .int w.1]), none, some (.lst (w.2.2.2.map fun t => .int t.1)), some (.int w.2.2.1), some (.int w.2.1), some (thsD w.2.2.2), some (.int w.1)]) ?_ rfl
    show f_World_init [none, some (.ins "KnownParts" [.int w.2.2.1, .int w.2.1, thsD w.2.2.2, .int w.1]), some .non, some .non, some .non, none, none, none, none, none, none, none] = _
    unfold f_World_init
    have hi : isiO ownL [.ins "KnownParts" [.int w.2.2.1, .int w.2.1, thsD w.2.2.2, .int w.1], .cls "KnownParts"] = pure (.bl true) := by kernel_rfl
    have a1 : attrM st_own_tick (.ins "KnownParts" [.int w.2.2.1, .int w.2.1, thsD w.2.2.2, .int w.1]) = pure (.int w.1) := by kernel_rfl
    have a2 : attrM st_own_next_id (.ins "KnownParts" [.int w.2.2.1, .int w.2.1, thsD w.2.2.2, .int w.1]) = pure (.int w.2.1) := by kernel_rfl
    have a3 : attrM st_own_luck (.ins "KnownParts" [.int w.2.2.1, .int w.2.1, thsD w.2.2.2, .int w.1]) = pure (.int w.2.2.1) := by kernel_rfl
    have a4 : attrM st_own_things (.ins "KnownParts" [.int w.2.2.1, .int w.2.1, thsD w.2.2.2, .int w.1]) = pure (thsD w.2.2.2) := by kernel_rfl
    have x0 : ∀ t : Th, dIx (thD t) (.int 0) = pure (.int t.1) := fun t => Eq.trans rfl rfl
    have l1 : ∀ (ρ : VL.Env) (elt : VL.Env → M D), (∀ t : Th, elt (ρ.set 6 (some (thD t))) = pure (.int t.1)) → loopC ⟨w.2.2.2.map thD, fun _ => True⟩ (gN 6) (fun _ => pure true) elt ρ (w.2.2.2.map thD) [] = pure (w.2.2.2.map fun t => .int t.1) := fun ρ elt he => loopG (ρ := ρ) rfl w.2.2.2 fun t _ => he t
    simp only [rd, List.getElem?_cons_zero, List.getElem?_cons_succ, List.set_cons_succ, List.set_cons_zero, pb_M, hi, a1, a2, a3, a4, it_ths, List.length_map, ask_p (small_of h), asB_p, if_true, liftS_p, seqM_nx, M.assoc, wipeE]
    rw [l1 _ _ fun t => by
      show (pure (thD t) >>= fun x => dIx x (.int 0)) = _
      rw [pb_M, x0]]
    simp only [pb_M, frzL_p, liftS_p]
  have k2 : newM "World" 5 m_World_init ([.ins "KnownParts" [.int w.2.2.1, .int w.2.1, thsD w.2.2.2, .int w.1], .non, .non, .non] ++ []) = pure (worD w) := by
    show (m_World_init [.ins "KnownParts" [.int w.2.2.1, .int w.2.1, thsD w.2.2.2, .int w.1], .non, .non, .non] >>= fun fs => _) = _
    rw [i1, pb_M]
    rfl
  simp -failIfUnchanged only [rd, List.getElem?_cons_zero, List.getElem?_cons_succ, List.set_cons_zero, List.set_cons_succ, pb_M, M.assoc, run_bind, run_pure, run_lift, run_seq, run_liftTS, run_liftT, run_noX, run_nx, run_rtn, run_set2, run_gN, run_gT2, run_iteS, run_ite, run_tAnd, run_tOr, run_andD, run_orD, asB_p, liftS_p, seqM_nx, seqM_rt, liftT_p, noX_p, tOr_p, tAnd_p, andD_p, orD_p, notD_p, wipeE, it_tup, it_lst, frzL, Bool.not_true, Bool.not_false, Bool.false_eq_true, if_true, if_false, k1, k2]
theorem isi_t (xs : List D) : isiO ownL [.tup xs, .ty "tuple"] = pure (.bl true) := Eq.trans rfl rfl
theorem thing_ok {t : Th} (h : OkTh t) : callM 1 m_is_thing_in [thD t] = pure (.bl true) := by
  have e : thD t = .tup [oD (some t.1), tx t.2.1, .tup ((t.2.2.map some).map oD)] := by
    unfold thD
    rw [List.map_map]
    rfl
  have hn := h.nm
  have hk : t.2.1.length < 100000 := by
    unfold nameB at hn
    simp only [Bool.and_eq_true, decide_eq_true_eq] at hn
    omega
  rw [callM_t rfl, e, thing_is hk (by simpa using Nat.lt_of_le_of_lt h.n8 (by decide))]
  have h1 : idO 0 (some t.1) = true := decide_eq_true h.id0
  have h2 : numsB (t.2.2.map some) = true := by
    unfold numsB
    simp only [Bool.and_eq_true, decide_eq_true_eq, List.length_map, List.all_eq_true]
    refine ⟨⟨h.n1, h.n8⟩, fun o ho => ?_⟩
    obtain ⟨x, hx, rfl⟩ := List.mem_map.mp ho
    show (decide (-(10 ^ 9) ≤ x) && decide (x ≤ 10 ^ 9)) = true
    rw [decide_eq_true (h.nu x hx).1, decide_eq_true (h.nu x hx).2]; rfl
  rw [h1, h2, hn]; rfl
theorem thing_o {o : Option Th} (h : ∀ t, o = some t → OkTh t) : callM 1 m_is_thing_in [otD o] = pure (.bl o.isSome) := by
  cases o with
  | none => rw [callM_t rfl]; exact thing_non
  | some t => exact thing_ok (h t rfl)
theorem allS_all {α : Type} : ∀ {os : List (Option α)}, os.all (·.isSome) = true → ∃ l : List α, os = l.map some
  | [], _ => ⟨[], rfl⟩
  | none :: _, h => by cases h
  | some a :: r, h => by
    obtain ⟨l, hl⟩ := allS_all (os := r) h
    exact ⟨a :: l, by rw [hl]; rfl⟩
theorem allS_none {α : Type} {os : List (Option α)} (h : os.all (·.isSome) = false) : allS os = none := by
  cases e : allS os with
  | none => rfl
  | some l =>
    rw [allS_some e] at h
    simp at h
def okThs (n : Int) (os : List (Option Th)) : Bool := match allS os with
  | some ths => decide (ths.length ≤ 12) && ascZ (ths.map (·.1) ++ [n])
  | none => false
theorem loopG2 {α : Type} {it : ItD} (hc : it.chk = fun _ => True) {i j : Nat} {elt : VL.Env → M D} {ρ : VL.Env} {g h f : α → D} :
    ∀ (xs : List α) (acc : List D), (∀ x ∈ xs, elt ((ρ.set i (some (g x))).set j (some (h x))) = pure (f x)) → loopC it (gT 2 (gsCons (gN i) (gsCons (gN j) gsNil))) (fun _ => pure true) elt ρ (xs.map fun x => .tup [g x, h x]) acc = pure (acc ++ xs.map f)
  | [], acc, _ => by
    show loopC it _ _ elt ρ [] acc = _
    rw [loopC_nil, chk_p hc]; simp
  | x :: r, acc, he => by
    have ih := fun a => loopG2 hc (i := i) (j := j) (ρ := ρ) (elt := elt) (g := g) (h := h) (f := f) r a fun d z => he d (List.mem_cons_of_mem _ z)
    show loopC it _ _ elt ρ (.tup [g x, h x] :: r.map fun x => .tup [g x, h x]) acc = _
    have hg : gT 2 (gsCons (gN i) (gsCons (gN j) gsNil)) (.tup [g x, h x]) ρ = pure ((ρ.set i (some (g x))).set j (some (h x))) := Eq.trans rfl rfl
    rw [loopC_cons, chk_p hc, hg, liftT_p, noX_p, pb_M, if_pos rfl, he x List.mem_cons_self, noX_p, pb_M, ih]
    simp
theorem zipW (a : List Int) : ∀ b : List Int, List.zipWith pairD (a.map D.int) (b.map D.int) = (a.zip b).map fun p => .tup [.int p.1, .int p.2] := by
  induction a with
  | nil => intro b; cases b <;> rfl
  | cons x r ih => intro b; cases b with
    | nil => rfl
    | cons y s =>
      simp only [List.map_cons, List.zipWith_cons_cons, List.zip_cons_cons, ih]
      rfl
theorem zip_chk : (fun (_ : Mem) => True ∧ True) = fun _ => True := funext fun _ => propext ⟨fun _ => trivial, fun _ => ⟨trivial, trivial⟩⟩
theorem things_p {n : Int} {os : List (Option Th)} (hl : os.length < 50000) (h : ∀ t, some t ∈ os → OkTh t) : m_are_things_in [.int n, .tup (os.map otD)] = pure (.bl (okThs n os)) := by
  refine runF_rt ?_
  show f_are_things_in [some (.int n), some (.tup (os.map otD)), none, none, none] = _
  unfold f_are_things_in
  have l1 : lenD [.tup (os.map otD)] = pure (.int (os.length : Int)) := by rw [len_tup, List.length_map]
  have g1 : dGt (.int (os.length : Int)) k_MAX_THINGS = pure (.bl (decide (12 < (os.length : Int)))) := Eq.trans rfl rfl
  have it : ∀ xs : List D, itOf (.tup xs) = pure ⟨xs, fun _ => True⟩ := fun _ => Eq.trans rfl rfl
  have a1 : ∀ (ρ : VL.Env) (elt : VL.Env → M D), (∀ o : Option Th, elt (ρ.set 3 (some (otD o))) = callM 1 m_is_thing_in [otD o]) → loopC ⟨os.map otD, fun _ => True⟩ (gN 3) (fun _ => pure true) elt ρ (os.map otD) [] = pure (os.map fun o => .bl o.isSome) := fun ρ elt he => loopG (ρ := ρ) rfl os fun o ho => by rw [he o, thing_o fun t z => h t (z ▸ ho)]
  simp -failIfUnchanged only [rd, List.getElem?_cons_zero, List.getElem?_cons_succ, List.set_cons_zero, List.set_cons_succ, pb_M, M.assoc, run_bind, run_pure, run_lift, run_seq, run_liftTS, run_liftT, run_noX, run_nx, run_rtn, run_set2, run_gN, run_gT2, run_iteS, run_ite, run_tAnd, run_tOr, run_andD, run_orD, asB_p, liftS_p, seqM_nx, seqM_rt, liftT_p, noX_p, tOr_p, tAnd_p, andD_p, orD_p, notD_p, wipeE, it_tup, it_lst, frzL, Bool.not_true, Bool.not_false, Bool.false_eq_true, if_true, if_false, isi_t, l1, g1, it, List.length_map, ask_p (small_of (show os.length < 100000 by omega))]
  rw [a1 _ _ fun o => rfl]
  simp -failIfUnchanged only [rd, List.getElem?_cons_zero, List.getElem?_cons_succ, List.set_cons_zero, List.set_cons_succ, pb_M, M.assoc, run_bind, run_pure, run_lift, run_seq, run_liftTS, run_liftT, run_noX, run_nx, run_rtn, run_set2, run_gN, run_gT2, run_iteS, run_ite, run_tAnd, run_tOr, run_andD, run_orD, asB_p, liftS_p, seqM_nx, seqM_rt, liftT_p, noX_p, tOr_p, tAnd_p, andD_p, orD_p, notD_p, wipeE, it_tup, it_lst, frzL, Bool.not_true, Bool.not_false, Bool.false_eq_true, if_true, if_false, allX]
  unfold okThs
  by_cases h12 : os.length ≤ 12
  · rw [decide_eq_false (show ¬ (12 : Int) < (os.length : Int) by omega)]
    cases ha : os.all (·.isSome) with
    | false =>
      rw [allS_none ha]
      simp -failIfUnchanged only [rd, List.getElem?_cons_zero, List.getElem?_cons_succ, List.set_cons_zero, List.set_cons_succ, pb_M, M.assoc, run_bind, run_pure, run_lift, run_seq, run_liftTS, run_liftT, run_noX, run_nx, run_rtn, run_set2, run_gN, run_gT2, run_iteS, run_ite, run_tAnd, run_tOr, run_andD, run_orD, asB_p, liftS_p, seqM_nx, seqM_rt, liftT_p, noX_p, tOr_p, tAnd_p, andD_p, orD_p, notD_p, wipeE, it_tup, it_lst, frzL, Bool.not_true, Bool.not_false, Bool.false_eq_true, if_true, if_false]
    | true =>
      obtain ⟨ths, rfl⟩ := allS_all ha
      rw [allS_map]
      rw [List.length_map] at h12 hl
      have hmm : (ths.map some).map otD = ths.map thD := by rw [List.map_map]; rfl
      have x0 : ∀ t : Th, dIx (thD t) (.int 0) = pure (.int t.1) := fun t => Eq.trans rfl rfl
      have a2 : ∀ (ρ : VL.Env) (elt : VL.Env → M D), (∀ t : Th, elt (ρ.set 3 (some (thD t))) = dIx (thD t) (.int 0)) → loopC ⟨ths.map thD, fun _ => True⟩ (gN 3) (fun _ => pure true) elt ρ (ths.map thD) [] = pure ((ths.map (·.1)).map D.int) := fun ρ elt he => by
        rw [loopG (ρ := ρ) (f := fun t => .int t.1) rfl ths fun t _ => by rw [he t, x0], List.map_map]
        rfl
      rw [hmm]
      simp -failIfUnchanged only [rd, List.getElem?_cons_zero, List.getElem?_cons_succ, List.set_cons_zero, List.set_cons_succ, pb_M, M.assoc, run_bind, run_pure, run_lift, run_seq, run_liftTS, run_liftT, run_noX, run_nx, run_rtn, run_set2, run_gN, run_gT2, run_iteS, run_ite, run_tAnd, run_tOr, run_andD, run_orD, asB_p, liftS_p, seqM_nx, seqM_rt, liftT_p, noX_p, tOr_p, tAnd_p, andD_p, orD_p, notD_p, wipeE, it_tup, it_lst, frzL, Bool.not_true, Bool.not_false, Bool.false_eq_true, if_true, if_false, List.length_map, ask_p (small_of (show ths.length < 100000 by omega))]
      rw [a2 _ _ fun t => rfl]
      have ml : mkLst [.int n] = pure (.lst [.int n]) := Eq.trans rfl rfl
      have ad : dAdd (.lst ((ths.map (·.1)).map D.int)) (.lst [.int n]) = pure (.lst ((ths.map (·.1) ++ [n]).map D.int)) := by
        show (VL.ask (small _) >>= fun _ => pure (D.lst _)) = _
        rw [ask_p (small_of (by simp; omega)), pb_M, List.map_append]
        rfl
      have c1 : ∀ xs : List D, dSl (.lst xs) (some 1) none = pure (.lst (xs.drop 1)) := fun xs => by rw [sl_lst, cut1]
      have zp : ∀ xs ys : List D, zipM [.lst xs, .lst ys] = pure ⟨List.zipWith pairD xs ys, fun _ => True ∧ True⟩ := fun xs ys => Eq.trans rfl rfl
      obtain ⟨ids, hids⟩ : ∃ ids, ids = ths.map (·.1) ++ [n] := ⟨_, rfl⟩
      have hil : ids.length < 100000 := by rw [hids]; simp; omega
      have hzl : (ids.zip (ids.drop 1)).length < 100000 := by rw [List.length_zip]; omega
      rw [← hids] at ad ⊢
      simp -failIfUnchanged only [rd, List.getElem?_cons_zero, List.getElem?_cons_succ, List.set_cons_zero, List.set_cons_succ, pb_M, M.assoc, run_bind, run_pure, run_lift, run_seq, run_liftTS, run_liftT, run_noX, run_nx, run_rtn, run_set2, run_gN, run_gT2, run_iteS, run_ite, run_tAnd, run_tOr, run_andD, run_orD, asB_p, liftS_p, seqM_nx, seqM_rt, liftT_p, noX_p, tOr_p, tAnd_p, andD_p, orD_p, notD_p, wipeE, it_tup, it_lst, frzL, Bool.not_true, Bool.not_false, Bool.false_eq_true, if_true, if_false, ml, ad, ap, c1, zp, ← List.map_drop, zipW, List.length_map, ask_p (small_of hzl)]
      rw [loopG2 (i := 3) (j := 4) (f := fun p => .bl (decide (p.1 < p.2))) (by exact zip_chk) (ids.zip (ids.drop 1)) [] (fun p _ => by
        show (pure (D.int p.1) >>= fun x => (pure (D.int p.2) : M D) >>= fun y => dLt x y) = _
        rw [pb_M, pb_M, lt_int])]
      simp -failIfUnchanged only [rd, List.getElem?_cons_zero, List.getElem?_cons_succ, List.set_cons_zero, List.set_cons_succ, pb_M, M.assoc, run_bind, run_pure, run_lift, run_seq, run_liftTS, run_liftT, run_noX, run_nx, run_rtn, run_set2, run_gN, run_gT2, run_iteS, run_ite, run_tAnd, run_tOr, run_andD, run_orD, asB_p, liftS_p, seqM_nx, seqM_rt, liftT_p, noX_p, tOr_p, tAnd_p, andD_p, orD_p, notD_p, wipeE, it_tup, it_lst, frzL, Bool.not_true, Bool.not_false, Bool.false_eq_true, if_true, if_false, List.nil_append, allX]
      rw [decide_eq_true h12, Bool.true_and]
      rfl
  · rw [decide_eq_true (show (12 : Int) < (os.length : Int) by omega)]
    have : (match allS os with
      | some ths => decide (ths.length ≤ 12) && ascZ (ths.map (·.1) ++ [n])
      | none => false) = false := by
      cases e : allS os with
      | none => rfl
      | some ths =>
        have := allS_some e
        rw [this, List.length_map] at h12
        simp only [decide_eq_false h12, Bool.false_and]
    rw [this]
    simp -failIfUnchanged only [rd, List.getElem?_cons_zero, List.getElem?_cons_succ, List.set_cons_zero, List.set_cons_succ, pb_M, M.assoc, run_bind, run_pure, run_lift, run_seq, run_liftTS, run_liftT, run_noX, run_nx, run_rtn, run_set2, run_gN, run_gT2, run_iteS, run_ite, run_tAnd, run_tOr, run_andD, run_orD, asB_p, liftS_p, seqM_nx, seqM_rt, liftT_p, noX_p, tOr_p, tAnd_p, andD_p, orD_p, notD_p, wipeE, it_tup, it_lst, frzL, Bool.not_true, Bool.not_false, Bool.false_eq_true, if_true, if_false]
end K07
namespace K07
open PySem VL RecT WoT
theorem add_tx {a b : List Nat} (h : a.length + b.length < 100000) : dAdd (tx a) (tx b) = pure (tx (a ++ b)) := by
  show (VL.ask (small ((SX.S a).length + (SX.S b).length)) >>= fun _ => pure (D.str (SX.S a ++ SX.S b))) = _
  rw [SX.S_len, SX.S_len, ask_p (small_of h), pb_M, SX.S_cat]
theorem strs_map (xs : List (List Nat)) : strsOf (xs.map tx) = some (xs.map SX.S) := by
  induction xs with
  | nil => rfl
  | cons x r ih => simp only [List.map_cons, strsOf, ih]; rfl
theorem sum_len {xs : List (List Nat)} {k : Nat} (h : ∀ x ∈ xs, x.length ≤ k) : ((xs.map SX.S).map (·.length)).sum ≤ xs.length * k := by
  induction xs with
  | nil => simp
  | cons x r ih =>
    have h1 := h x List.mem_cons_self
    have h2 := ih fun y hy => h y (List.mem_cons_of_mem _ hy)
    simp only [List.map_cons, List.sum_cons, List.length_cons, SX.S_len]
    rw [Nat.add_mul]
    omega
theorem joinL_len {s : List Nat} {k : Nat} : ∀ {xs : List (List Nat)}, (∀ x ∈ xs, x.length ≤ k) → (TL.joinL s xs).length ≤ xs.length * (k + s.length)
  | [], _ => by simp [TL.joinL]
  | [x], h => by
    have := h x List.mem_cons_self
    show x.length ≤ _
    simp; omega
  | x :: y :: r, h => by
    have h1 := h x List.mem_cons_self
    have h2 := joinL_len (s := s) (k := k) (xs := y :: r) fun z hz => h z (List.mem_cons_of_mem _ hz)
    show (x ++ (s ++ TL.joinL s (y :: r))).length ≤ _
    rw [List.length_append, List.length_append, List.length_cons, Nat.add_mul]
    omega
theorem joinM_one {ρ : VL.Env} {f : VL.Env → M D} {fs : List (VL.Env → M D)} {acc : List Nat} {y : List Nat} {r : M D} (h : f ρ = pure (tx y)) (hl : acc.length + y.length < 100000) (h2 : joinM ρ fs (SX.S (acc ++ y)) = r) : joinM ρ (f :: fs) (SX.S acc) = r := by
  show (f ρ >>= fun d => match d with
    | .str y => VL.ask (small (SX.S acc ++ y).length) >>= fun _ => joinM ρ fs (SX.S acc ++ y)
    | _ => stuck) = _
  rw [h, pb_M]
  show (VL.ask (small (SX.S acc ++ SX.S y).length) >>= fun _ => joinM ρ fs (SX.S acc ++ SX.S y)) = _
  rw [SX.S_cat, SX.S_len, ask_p (small_of (by simpa using hl)), pb_M, h2]
theorem strOk_of {a : List Nat} (h : ∀ c ∈ a, c < 128) : PyData.strOk (SX.S a) = true := by
  show (a.toArray).all (· < 0x110000) = true
  rw [Array.all_eq_true']
  intro x hx
  have := h x (by simpa using hx)
  exact decide_eq_true (by omega)

theorem join_pc {c : Nat} {xs : List (List Nat)} (h : ∀ x ∈ xs, x.length ≤ 10000) (hl : xs.length ≤ 1000) : joinS (TS c) [.lst (xs.map tx)] = pure (tx (TL.joinL [c] xs)) := by
  show (seqOf (.lst (xs.map tx)) >>= fun ys => match strsOf ys with
    | some zs => VL.ask (decide ((zs.map (·.length)).sum + zs.length * (SX.S [c]).length ≤ 16777216)) >>= fun _ => pure (D.str (Txt.join (SX.S [c]) zs))
    | none => stuck) = _
  have e : seqOf (.lst (xs.map tx)) = pure (xs.map tx) := Eq.trans rfl rfl
  have hs := sum_len h
  have h3 : xs.length * 10000 ≤ 1000 * 10000 := Nat.mul_le_mul_right _ hl
  rw [e, pb_M, strs_map]
  show (VL.ask _ >>= fun _ => _) = _
  rw [ask_p (decide_eq_true (by rw [SX.S_len, List.length_map]; simp; simp at hs; omega)), pb_M, SX.join_S]
theorem showZ_len {i : Int} {k : Nat} (hk : 0 < k) (h : i.natAbs < 10 ^ k) : (showZ i).length ≤ k + 1 := by
  unfold showZ
  split
  · have := TL.numL_len hk h
    simp; omega
  · have e : i.toNat = i.natAbs := by omega
    rw [e]
    have := TL.numL_len hk h
    omega
def big (i : Int) : Prop := i.natAbs < 10 ^ 500
theorem big_len {i : Int} (h : big i) : (showZ i).length ≤ 501 := showZ_len (by decide) h
theorem num_big {x : Int} (h : -(10 ^ 9) ≤ x ∧ x ≤ 10 ^ 9) : x.natAbs < 10 ^ 10 := by omega
theorem big_of {i : Int} (h : i.natAbs < 10 ^ 10) : big i := Nat.lt_of_lt_of_le h (Nat.pow_le_pow_right (by decide) (by decide))
structure OkB (w : Wo) : Prop where
  t : big w.1
  n : big w.2.1
  l : big w.2.2.1
  ids : ∀ x ∈ w.2.2.2, big x.1
theorem name_len {k : List Nat} (h : nameB k = true) : 1 ≤ k.length ∧ k.length ≤ 8 := by
  unfold nameB at h
  simp only [Bool.and_eq_true, decide_eq_true_eq] at h
  exact h.1
section
variable {t : Th} {w : Wo}
theorem th_words (h : OkTh t) (hb : big t.1) : (∀ x ∈ showZ t.1 :: t.2.1 :: t.2.2.map showZ, x.length ≤ 501) ∧ (showZ t.1 :: t.2.1 :: t.2.2.map showZ).length ≤ 10 := by
  refine ⟨fun x hx => ?_, by have := h.n8; simp; omega⟩
  rcases List.mem_cons.mp hx with rfl | hx
  · exact big_len hb
  · rcases List.mem_cons.mp hx with rfl | hx
    · have := (name_len h.nm).2; omega
    · obtain ⟨y, hy, rfl⟩ := List.mem_map.mp hx
      have := showZ_len (k := 10) (by decide) (num_big (h.nu y hy))
      omega
theorem th_len (h : OkTh t) (hb : big t.1) : (thL t).length ≤ 5020 := by
  obtain ⟨h1, h2⟩ := th_words h hb
  have := joinL_len (s := [32]) h1
  unfold thL
  have h3 : (showZ t.1 :: t.2.1 :: t.2.2.map showZ).length * (501 + 1) ≤ 10 * (501 + 1) := Nat.mul_le_mul_right _ h2
  simp only [List.length_singleton] at this
  omega
theorem nums_strs {n : Nat} {ρ : VL.Env} {elt : VL.Env → M D} {ns : List Int} (hn : ∀ x ∈ ns, -(10 ^ 9) ≤ x ∧ x ≤ 10 ^ 9) (he : ∀ j, elt (ρ.set n (some (.int j))) = strD [.int j]) : loopC ⟨ns.map D.int, fun _ => True⟩ (gN n) (fun _ => pure true) elt ρ (ns.map D.int) [] = pure ((ns.map showZ).map tx) := by
  rw [loopG (ρ := ρ) (n := n) (g := D.int) (f := fun j => tx (showZ j)) rfl ns fun j hj => by
    rw [he j]
    exact str_Z (big_of (num_big (hn j hj))), List.map_map]
  rfl
theorem it_ints (ns : List Int) : itOf (.tup (ns.map D.int)) = pure ⟨ns.map D.int, fun _ => True⟩ := Eq.trans rfl rfl
theorem thing_text_p (h : OkTh t) (hb : big t.1) : m_thing_text [thD t] = pure (tx (thL t)) := by
  refine runF_rt ?_
  show f_thing_text [some (thD t), none] = _
  unfold f_thing_text
  have x0 : dIx (thD t) (.int 0) = pure (.int t.1) := Eq.trans rfl rfl
  have x1 : dIx (thD t) (.int 1) = pure (tx t.2.1) := Eq.trans rfl rfl
  have x2 : dIx (thD t) (.int 2) = pure (.tup (t.2.2.map D.int)) := Eq.trans rfl rfl
  have h8 := h.n8
  obtain ⟨g1, g2⟩ := th_words h hb
  have ml : mkLst (tx (showZ t.1) :: tx t.2.1 :: ((t.2.2.map showZ).map tx ++ [])) = pure (.lst ((showZ t.1 :: t.2.1 :: t.2.2.map showZ).map tx)) := by
    rw [List.append_nil]
    exact mkLst_p (by simp; omega)
  have hj := join_pc (c := 32) (xs := showZ t.1 :: t.2.1 :: t.2.2.map showZ) (fun x hx => by have := g1 x hx; omega) (by omega)
  rw [s32]
  simp -failIfUnchanged only [rd, List.getElem?_cons_zero, List.getElem?_cons_succ, List.set_cons_zero, List.set_cons_succ, pb_M, M.assoc, run_bind, run_pure, run_lift, run_seq, run_liftTS, run_liftT, run_noX, run_nx, run_rtn, run_set2, run_gN, run_gT2, run_iteS, run_ite, run_tAnd, run_tOr, run_andD, run_orD, asB_p, liftS_p, seqM_nx, seqM_rt, liftT_p, noX_p, tOr_p, tAnd_p, andD_p, orD_p, notD_p, wipeE, it_tup, it_lst, frzL, Bool.not_true, Bool.not_false, Bool.false_eq_true, if_true, if_false, ty_S, x0, x1, x2, str_Z hb, it_ints, List.length_map, ask_p (small_of (show t.2.2.length < 100000 by omega))]
  rw [nums_strs h.nu fun j => rfl]
  simp -failIfUnchanged only [rd, List.getElem?_cons_zero, List.getElem?_cons_succ, List.set_cons_zero, List.set_cons_succ, pb_M, M.assoc, run_bind, run_pure, run_lift, run_seq, run_liftTS, run_liftT, run_noX, run_nx, run_rtn, run_set2, run_gN, run_gT2, run_iteS, run_ite, run_tAnd, run_tOr, run_andD, run_orD, asB_p, liftS_p, seqM_nx, seqM_rt, liftT_p, noX_p, tOr_p, tAnd_p, andD_p, orD_p, notD_p, wipeE, it_tup, it_lst, frzL, Bool.not_true, Bool.not_false, Bool.false_eq_true, if_true, if_false, seq_lst, ml, hj]
  rfl
def headL (w : Wo) : List Nat := TL.joinL [32] [showZ w.1, showZ w.2.1, showZ w.2.2.1]
theorem head_len2 (hb : OkB w) : (headL w).length ≤ 1510 := by
  have := joinL_len (s := [32]) (k := 501) (xs := [showZ w.1, showZ w.2.1, showZ w.2.2.1]) fun x hx => by
    simp only [List.mem_cons, List.not_mem_nil, or_false] at hx
    rcases hx with rfl | rfl | rfl
    · exact big_len hb.t
    · exact big_len hb.n
    · exact big_len hb.l
  unfold headL
  simp at this
  omega
theorem head_cat (w : Wo) : (((showZ w.1 ++ [32]) ++ showZ w.2.1) ++ [32]) ++ showZ w.2.2.1 = headL w := by
  show _ = showZ w.1 ++ ([32] ++ (showZ w.2.1 ++ ([32] ++ showZ w.2.2.1)))
  simp
theorem parts_len (h : OkW w) (hb : OkB w) : ∀ x ∈ headL w :: w.2.2.2.map thL, x.length ≤ 5020 := fun x hx => by
  rcases List.mem_cons.mp hx with rfl | hx
  · have := head_len2 hb; omega
  · obtain ⟨t, ht, rfl⟩ := List.mem_map.mp hx
    exact th_len (h.ths t ht) (hb.ids t ht)
theorem text_p (h : OkW w) (hb : OkB w) : m_text_of_world [worD w] = pure (tx (worldL w)) := by
  refine runF_rt ?_
  show f_text_of_world [some (worD w), none, none] = _
  unfold f_text_of_world
  have a1 : attrM st_own_tick (worD w) = pure (.int w.1) := Eq.trans rfl rfl
  have a2 : attrM st_own_next_id (worD w) = pure (.int w.2.1) := Eq.trans rfl rfl
  have a3 : attrM st_own_luck (worD w) = pure (.int w.2.2.1) := Eq.trans rfl rfl
  have a4 : attrM st_own_things (worD w) = pure (thsD w.2.2.2) := Eq.trans rfl rfl
  have hm := h.many
  have b1 := big_len hb.t
  have b2 := big_len hb.n
  have b3 := big_len hb.l
  have e : joinM [some (worD w), none, none] [fun ρ => (((rd 0 ρ) >>= attrM st_own_tick) >>= fmtD), fun ρ => (pure (D.str " ") : M D), fun ρ => (((rd 0 ρ) >>= attrM st_own_next_id) >>= fmtD), fun ρ => (pure (D.str " ") : M D), fun ρ => (((rd 0 ρ) >>= attrM st_own_luck) >>= fmtD)] (SX.S []) = pure (tx (headL w)) := by
    refine joinM_one (y := showZ w.1) ?_ (by simp; omega) ?_
    · show ((pure (worD w) >>= attrM st_own_tick) >>= fmtD) = _
      rw [pb_M, a1, pb_M, fmt_Z hb.t]
    refine joinM_one (y := [32]) ?_ (by simp; omega) ?_
    · rw [s32]
    refine joinM_one (y := showZ w.2.1) ?_ (by simp; omega) ?_
    · show ((pure (worD w) >>= attrM st_own_next_id) >>= fmtD) = _
      rw [pb_M, a2, pb_M, fmt_Z hb.n]
    refine joinM_one (y := [32]) ?_ (by simp; omega) ?_
    · rw [s32]
    refine joinM_one (y := showZ w.2.2.1) ?_ (by simp; omega) ?_
    · show ((pure (worD w) >>= attrM st_own_luck) >>= fmtD) = _
      rw [pb_M, a3, pb_M, fmt_Z hb.l]
    rw [← head_cat]
    rfl
  refine seqM_of (ρ := [some (worD w), some (tx (headL w)), none]) ?_ ?_
  · show liftS _ (joinM _ _ (SX.S [])) _ = _
    rw [e, liftS_p]
    rfl
  · have c1 : ∀ t ∈ w.2.2.2, callM 1 m_thing_text [thD t] = pure (tx (thL t)) := fun t ht => by rw [callM_t rfl, thing_text_p (h.ths t ht) (hb.ids t ht)]
    have l1 : ∀ (ρ : VL.Env) (elt : VL.Env → M D), (∀ t : Th, elt (ρ.set 2 (some (thD t))) = callM 1 m_thing_text [thD t]) → loopC ⟨w.2.2.2.map thD, fun _ => True⟩ (gN 2) (fun _ => pure true) elt ρ (w.2.2.2.map thD) [] = pure ((w.2.2.2.map thL).map tx) := fun ρ elt he => by
      rw [loopG (ρ := ρ) (g := thD) (f := fun t => tx (thL t)) rfl w.2.2.2 fun t ht => by rw [he t, c1 t ht], List.map_map]
      rfl
    have ml : mkLst (tx (headL w) :: ((w.2.2.2.map thL).map tx ++ [])) = pure (.lst ((headL w :: w.2.2.2.map thL).map tx)) := by
      rw [List.append_nil]
      exact mkLst_p (by simp; omega)
    have hp := parts_len h hb
    have hj := join_pc (c := 59) (xs := headL w :: w.2.2.2.map thL) (fun x hx => by have := hp x hx; omega) (by simp; omega)
    rw [s59]
    simp -failIfUnchanged only [rd, List.getElem?_cons_zero, List.getElem?_cons_succ, List.set_cons_zero, List.set_cons_succ, pb_M, M.assoc, run_bind, run_pure, run_lift, run_seq, run_liftTS, run_liftT, run_noX, run_nx, run_rtn, run_set2, run_gN, run_gT2, run_iteS, run_ite, run_tAnd, run_tOr, run_andD, run_orD, asB_p, liftS_p, seqM_nx, seqM_rt, liftT_p, noX_p, tOr_p, tAnd_p, andD_p, orD_p, notD_p, wipeE, it_tup, it_lst, frzL, Bool.not_true, Bool.not_false, Bool.false_eq_true, if_true, if_false, ty_S, a4, it_ths, List.length_map, ask_p (small_of (show w.2.2.2.length < 100000 by omega))]
    rw [l1 _ _ fun t => rfl]
    simp -failIfUnchanged only [rd, List.getElem?_cons_zero, List.getElem?_cons_succ, List.set_cons_zero, List.set_cons_succ, pb_M, M.assoc, run_bind, run_pure, run_lift, run_seq, run_liftTS, run_liftT, run_noX, run_nx, run_rtn, run_set2, run_gN, run_gT2, run_iteS, run_ite, run_tAnd, run_tOr, run_andD, run_orD, asB_p, liftS_p, seqM_nx, seqM_rt, liftT_p, noX_p, tOr_p, tAnd_p, andD_p, orD_p, notD_p, wipeE, it_tup, it_lst, frzL, Bool.not_true, Bool.not_false, Bool.false_eq_true, if_true, if_false, seq_lst, ml, hj]
    rfl
end
end K07
namespace K07
open PySem VL RecT WoT
theorem run_eq {α : Type} {m : M α} {x : α} (h : ∀ μ, VL.Run m μ fun a μ' => a = x ∧ μ' = μ) : m = pure x := funext fun μ => by
  obtain ⟨a, μ', e, rfl, rfl⟩ := (h μ).get
  exact e
theorem joinL_snoc (c : Nat) (p : List Nat) : ∀ (h : List Nat) (ps : List (List Nat)), TL.joinL [c] (h :: ps ++ [p]) = TL.joinL [c] (h :: ps) ++ [c] ++ p
  | h, [] => by
    show h ++ ([c] ++ p) = h ++ [c] ++ p
    rw [List.append_assoc]
  | h, q :: ps => by
    show h ++ ([c] ++ TL.joinL [c] (q :: ps ++ [p])) = h ++ ([c] ++ TL.joinL [c] (q :: ps)) ++ [c] ++ p
    rw [joinL_snoc c p q ps]
    simp
section
variable {t : Th} {w : Wo} {a : List Nat}
theorem world_len (h : OkW w) (hb : OkB w) : ∀ i, (TL.joinL [59] (headL w :: (w.2.2.2.take i).map thL)).length ≤ 65273 := fun i => by
  have h1 := joinL_len (s := [59]) (k := 5020) (xs := headL w :: (w.2.2.2.take i).map thL) fun x hx => parts_len h hb x (by
    rcases List.mem_cons.mp hx with rfl | hx
    · exact List.mem_cons_self
    · obtain ⟨t, ht, rfl⟩ := List.mem_map.mp hx
      exact List.mem_cons_of_mem _ (List.mem_map.mpr ⟨t, List.mem_of_mem_take ht, rfl⟩))
  have h2 : (headL w :: (w.2.2.2.take i).map thL).length ≤ 13 := by
    have := h.many
    simp only [List.length_cons, List.length_map, List.length_take]
    omega
  have h3 : (headL w :: (w.2.2.2.take i).map thL).length * (5020 + 1) ≤ 13 * (5020 + 1) := Nat.mul_le_mul_right _ h2
  simp only [List.length_singleton] at h1
  omega
theorem l_written_p (h : OkW w) (hb : OkB w) : m_l_written [plainW w] = pure (tx (worldL w)) := by
  refine run_eq fun μ => ?_
  unfold m_l_written
  rw [run_F]
  show RunS (f_l_written [some (plainW w), none, none, none, none, none]) μ _ _
  unfold f_l_written
  have x0 : dIx (plainW w) (.int 0) = pure (.int w.1) := Eq.trans rfl rfl
  have x1 : dIx (plainW w) (.int 1) = pure (.int w.2.1) := Eq.trans rfl rfl
  have x2 : dIx (plainW w) (.int 2) = pure (.int w.2.2.1) := Eq.trans rfl rfl
  have x3 : dIx (plainW w) (.int 3) = pure (thsD w.2.2.2) := Eq.trans rfl rfl
  have b1 := big_len hb.t
  have b2 := big_len hb.n
  have b3 := big_len hb.l
  have hm := h.many
  have d1 : dAdd (tx (showZ w.1)) (TS 32) = pure (tx (showZ w.1 ++ [32])) := add_tx (by simp; omega)
  have d2 : dAdd (tx (showZ w.1 ++ [32])) (tx (showZ w.2.1)) = pure (tx ((showZ w.1 ++ [32]) ++ showZ w.2.1)) := add_tx (by simp; omega)
  have d3 : dAdd (tx ((showZ w.1 ++ [32]) ++ showZ w.2.1)) (TS 32) = pure (tx (((showZ w.1 ++ [32]) ++ showZ w.2.1) ++ [32])) := add_tx (by simp; omega)
  have d4 : dAdd (tx (((showZ w.1 ++ [32]) ++ showZ w.2.1) ++ [32])) (tx (showZ w.2.2.1)) = pure (tx (headL w)) := by
    rw [add_tx (by simp; omega), head_cat]
  rw [s32, s59]
  simp -failIfUnchanged only [rd, List.getElem?_cons_zero, List.getElem?_cons_succ, List.set_cons_zero, List.set_cons_succ, pb_M, M.assoc, run_bind, run_pure, run_lift, run_seq, run_liftTS, run_liftT, run_noX, run_nx, run_rtn, run_set2, run_gN, run_gT2, run_iteS, run_ite, run_tAnd, run_tOr, run_andD, run_orD, asB_p, liftS_p, seqM_nx, seqM_rt, liftT_p, noX_p, tOr_p, tAnd_p, andD_p, orD_p, notD_p, wipeE, it_tup, it_lst, frzL, Bool.not_true, Bool.not_false, Bool.false_eq_true, if_true, if_false, x0, x1, x2, x3, str_Z hb.t, str_Z hb.n, str_Z hb.l, d1, d2, d3, d4, it_ths]
  refine run_loop (fun i ρ μ1 => ∃ o2 o3 o4, ρ = [some (plainW w), some (tx (TL.joinL [59] (headL w :: (w.2.2.2.take i).map thL))), o2, o3, o4, none] ∧ μ1 = μ) ?_ ?_ ?_ ?_
  · intro _ _ _ _; trivial
  · exact ⟨none, none, none, rfl, rfl⟩
  · rintro i x ρ μ1 hx ⟨o2, o3, o4, rfl, rfl⟩
    rw [List.getElem?_map] at hx
    cases hq : w.2.2.2[i]? with
    | none => rw [hq] at hx; cases hx
    | some t =>
      rw [hq] at hx
      cases hx
      have htm := List.mem_of_getElem? hq
      have ht := h.ths t htm
      have hbt := hb.ids t htm
      have hg : ∀ ρ : VL.Env, gT 3 (gsCons (gN 2) (gsCons (gN 3) (gsCons (gN 4) gsNil))) (thD t) ρ = pure (((ρ.set 2 (some (.int t.1))).set 3 (some (tx t.2.1))).set 4 (some (.tup (t.2.2.map D.int)))) := fun ρ => Eq.trans rfl rfl
      have wl := world_len h hb i
      have e1 : dAdd (tx (TL.joinL [59] (headL w :: (w.2.2.2.take i).map thL))) (TS 59) = pure (tx (TL.joinL [59] (headL w :: (w.2.2.2.take i).map thL) ++ [59])) := add_tx (by rw [List.length_singleton]; omega)
      have tl := th_len ht hbt
      have e2 : dAdd (tx (TL.joinL [59] (headL w :: (w.2.2.2.take i).map thL) ++ [59])) (tx (thL t)) = pure (tx (TL.joinL [59] (headL w :: (w.2.2.2.take (i + 1)).map thL))) := by
        have htk : w.2.2.2.take (i + 1) = w.2.2.2.take i ++ [t] := by rw [List.take_add_one, hq]; rfl
        rw [add_tx (by rw [List.length_append, List.length_singleton]; omega), htk, List.map_append]
        have := joinL_snoc 59 (thL t) (headL w) ((w.2.2.2.take i).map thL)
        rw [← this]
        rfl
      have ml : mkLst [tx (showZ t.1), tx t.2.1] = pure (.lst [tx (showZ t.1), tx t.2.1]) := Eq.trans rfl rfl
      have h8 := ht.n8
      obtain ⟨g1, g2⟩ := th_words ht hbt
      have ad : dAdd (.lst [tx (showZ t.1), tx t.2.1]) (.lst ((t.2.2.map showZ).map tx)) = pure (.lst ((showZ t.1 :: t.2.1 :: t.2.2.map showZ).map tx)) := by
        show (VL.ask (small _) >>= fun _ => pure (D.lst _)) = _
        rw [ask_p (small_of (by simp; omega)), pb_M]
        rfl
      have hj := join_pc (c := 32) (xs := showZ t.1 :: t.2.1 :: t.2.2.map showZ) (fun x hx => by have := g1 x hx; omega) (by omega)
      simp -failIfUnchanged only [rd, List.getElem?_cons_zero, List.getElem?_cons_succ, List.set_cons_zero, List.set_cons_succ, pb_M, M.assoc, run_bind, run_pure, run_lift, run_seq, run_liftTS, run_liftT, run_noX, run_nx, run_rtn, run_set2, run_gN, run_gT2, run_iteS, run_ite, run_tAnd, run_tOr, run_andD, run_orD, asB_p, liftS_p, seqM_nx, seqM_rt, liftT_p, noX_p, tOr_p, tAnd_p, andD_p, orD_p, notD_p, wipeE, it_tup, it_lst, frzL, Bool.not_true, Bool.not_false, Bool.false_eq_true, if_true, if_false, hg, e1, ty_S, str_Z hbt, ml, it_ints, List.length_map, run_ask (small_of (show t.2.2.length < 100000 by omega))]
      rw [nums_strs ht.nu fun j => rfl]
      simp -failIfUnchanged only [rd, List.getElem?_cons_zero, List.getElem?_cons_succ, List.set_cons_zero, List.set_cons_succ, pb_M, M.assoc, run_bind, run_pure, run_lift, run_seq, run_liftTS, run_liftT, run_noX, run_nx, run_rtn, run_set2, run_gN, run_gT2, run_iteS, run_ite, run_tAnd, run_tOr, run_andD, run_orD, asB_p, liftS_p, seqM_nx, seqM_rt, liftT_p, noX_p, tOr_p, tAnd_p, andD_p, orD_p, notD_p, wipeE, it_tup, it_lst, frzL, Bool.not_true, Bool.not_false, Bool.false_eq_true, if_true, if_false, ad, hj]
      have e2' : dAdd (tx (TL.joinL [59] (headL w :: (w.2.2.2.take i).map thL) ++ [59])) (tx (TL.joinL [32] (showZ t.1 :: t.2.1 :: t.2.2.map showZ))) = pure (tx (TL.joinL [59] (headL w :: (w.2.2.2.take (i + 1)).map thL))) := e2
      simp -failIfUnchanged only [rd, List.getElem?_cons_zero, List.getElem?_cons_succ, List.set_cons_zero, List.set_cons_succ, pb_M, M.assoc, run_bind, run_pure, run_lift, run_seq, run_liftTS, run_liftT, run_noX, run_nx, run_rtn, run_set2, run_gN, run_gT2, run_iteS, run_ite, run_tAnd, run_tOr, run_andD, run_orD, asB_p, liftS_p, seqM_nx, seqM_rt, liftT_p, noX_p, tOr_p, tAnd_p, andD_p, orD_p, notD_p, wipeE, it_tup, it_lst, frzL, Bool.not_true, Bool.not_false, Bool.false_eq_true, if_true, if_false, e2']
      exact ⟨_, _, _, rfl, trivial⟩
  · rintro ρ μ1 ⟨o2, o3, o4, rfl, rfl⟩
    simp -failIfUnchanged only [rd, List.getElem?_cons_zero, List.getElem?_cons_succ, List.set_cons_zero, List.set_cons_succ, pb_M, M.assoc, run_bind, run_pure, run_lift, run_seq, run_liftTS, run_liftT, run_noX, run_nx, run_rtn, run_set2, run_gN, run_gT2, run_iteS, run_ite, run_tAnd, run_tOr, run_andD, run_orD, asB_p, liftS_p, seqM_nx, seqM_rt, liftT_p, noX_p, tOr_p, tAnd_p, andD_p, orD_p, notD_p, wipeE, it_tup, it_lst, frzL, Bool.not_true, Bool.not_false, Bool.false_eq_true, if_true, if_false]
    refine ⟨?_, trivial⟩
    rw [List.length_map, List.take_length]
    rfl
theorem luck_p (l : Int) : callM 1 m_is_luck [.int l] = pure (.bl (decide (0 ≤ l) && decide (l ≤ 999999936))) := by
  have c : callM 3 m_is_from [.int l, .int 0, .int 999999936] = pure (.bl (decide (0 ≤ l) && decide (l ≤ 999999936))) := by
    rw [callM_t rfl]
    exact is_from_p rfl
  have s1 : dSub k_MODULUS (.int 1) = pure (.int 999999936) := Eq.trans rfl rfl
  have c2 : callM 1 m_is_luck_in [.int l] = pure (.bl (decide (0 ≤ l) && decide (l ≤ 999999936))) := by
    rw [callM_t rfl]
    refine runF_rt ?_
    show f_is_luck_in [some (.int l)] = _
    unfold f_is_luck_in
    simp -failIfUnchanged only [rd, List.getElem?_cons_zero, List.getElem?_cons_succ, List.set_cons_zero, List.set_cons_succ, pb_M, M.assoc, run_bind, run_pure, run_lift, run_seq, run_liftTS, run_liftT, run_noX, run_nx, run_rtn, run_set2, run_gN, run_gT2, run_iteS, run_ite, run_tAnd, run_tOr, run_andD, run_orD, asB_p, liftS_p, seqM_nx, seqM_rt, liftT_p, noX_p, tOr_p, tAnd_p, andD_p, orD_p, notD_p, wipeE, it_tup, it_lst, frzL, Bool.not_true, Bool.not_false, Bool.false_eq_true, if_true, if_false, s1, c]
  rw [callM_t rfl]
  refine runF_rt ?_
  show f_is_luck [some (.int l)] = _
  unfold f_is_luck
  simp -failIfUnchanged only [rd, List.getElem?_cons_zero, List.getElem?_cons_succ, List.set_cons_zero, List.set_cons_succ, pb_M, M.assoc, run_bind, run_pure, run_lift, run_seq, run_liftTS, run_liftT, run_noX, run_nx, run_rtn, run_set2, run_gN, run_gT2, run_iteS, run_ite, run_tAnd, run_tOr, run_andD, run_orD, asB_p, liftS_p, seqM_nx, seqM_rt, liftT_p, noX_p, tOr_p, tAnd_p, andD_p, orD_p, notD_p, wipeE, it_tup, it_lst, frzL, Bool.not_true, Bool.not_false, Bool.false_eq_true, if_true, if_false, c2]
theorem world_in_p (h : NT a) : m_world_in [tx a] = pure (owD (progW a)) := by
  refine runF_rt ?_
  show f_world_in [some (tx a), none, none, none, none, none] = _
  unfold f_world_in
  have hal := h.len
  have sp : splitM frzL (tx a) [TS 59] = pure (.lst ((TL.spl [59] 0 [] a).map tx)) := split_p (by omega) (by decide)
  have hlen := len_spl 59 a
  obtain ⟨hd, ps, hps⟩ : ∃ hd ps, TL.spl [59] 0 [] a = hd :: ps := by
    cases e : TL.spl [59] 0 [] a with
    | nil => exact absurd e (spl_ne 59 a [])
    | cons w r => exact ⟨w, r, rfl⟩
  have hh := h.sh hd (by rw [hps]; exact List.mem_cons_self)
  have hpsh : ∀ x ∈ ps, short x ∧ x.length < 50000 := fun x hx => by
    have hm : x ∈ TL.spl [59] 0 [] a := by rw [hps]; exact List.mem_cons_of_mem _ hx
    exact ⟨h.sh x hm, Nat.lt_of_le_of_lt (word_len hm) (by omega)⟩
  have hhm : hd ∈ TL.spl [59] 0 [] a := by rw [hps]; exact List.mem_cons_self
  have hhl : hd.length < 50000 := Nat.lt_of_le_of_lt (word_len hhm) (by omega)
  rw [hps] at sp hlen
  have hpl : ps.length < 50000 := by simp at hlen; omega
  have sp2 : splitM frzL (tx hd) [TS 32] = pure (.lst ((TL.spl [32] 0 [] hd).map tx)) := split_p (by omega) (by decide)
  have ci : ∀ x : List Nat, x.length ≤ 500 → callM 1 m_integer_in [tx x] = pure (oD (intIn x)) := fun x hx => by rw [callM_t rfl, integer_p (by omega)]
  have a1 : ∀ (ρ : VL.Env) (elt : VL.Env → M D) (ws : List (List Nat)), (∀ x ∈ ws, elt (ρ.set 4 (some (tx x))) = callM 1 m_integer_in [tx x]) → (∀ x ∈ ws, x.length ≤ 500) → loopC ⟨ws.map tx, fun _ => True⟩ (gN 4) (fun _ => pure true) elt ρ (ws.map tx) [] = pure ((ws.map intIn).map oD) := fun ρ elt ws he hh => by
    rw [loopG (ρ := ρ) (g := tx) (f := fun x => oD (intIn x)) rfl ws fun x hx => by rw [he x hx, ci x (hh x hx)], List.map_map]
    rfl
  have a2 : ∀ (ρ : VL.Env) (elt : VL.Env → M D), (∀ x ∈ ps, elt (ρ.set 5 (some (tx x))) = callM 1 m_thing_in [tx x]) → loopC ⟨ps.map tx, fun _ => True⟩ (gN 5) (fun _ => pure true) elt ρ (ps.map tx) [] = pure ((ps.map progT).map otD) := fun ρ elt he => by
    rw [loopG (ρ := ρ) (g := tx) (f := fun x => otD (progT x)) rfl ps fun x hx => by rw [he x hx, callM_t rfl, thing_in_p (hpsh x hx).2 (hpsh x hx).1], List.map_map]
    rfl
  have st2 : ∀ (ρ : VL.Env) (x y : D), set2 ρ 2 3 [x, y] = pure (.nx ((ρ.set 2 (some x)).set 3 (some y))) := fun ρ x y => Eq.trans rfl rfl
  have hsl : (TL.spl [32] 0 [] hd).length < 100000 := by have := len_spl 32 hd; omega
  have e1 : cutL (tx hd :: ps.map tx) (some 1) none = ps.map tx := cut1 _
  rw [s59, s32]
  simp -failIfUnchanged only [rd, List.getElem?_cons_zero, List.getElem?_cons_succ, List.set_cons_zero, List.set_cons_succ, pb_M, M.assoc, run_bind, run_pure, run_lift, run_seq, run_liftTS, run_liftT, run_noX, run_nx, run_rtn, run_set2, run_gN, run_gT2, run_iteS, run_ite, run_tAnd, run_tOr, run_andD, run_orD, asB_p, liftS_p, seqM_nx, seqM_rt, liftT_p, noX_p, tOr_p, tAnd_p, andD_p, orD_p, notD_p, wipeE, it_tup, it_lst, frzL, Bool.not_true, Bool.not_false, Bool.false_eq_true, if_true, if_false, ty_S, sp, List.map_cons, ix_l0, sp2, List.length_map, ask_p (small_of hsl), ap, sl_lst, e1, ask_p (small_of (show ps.length < 100000 by omega))]
  rw [a1 _ _ _ (fun x _ => rfl) hh]
  simp -failIfUnchanged only [rd, List.getElem?_cons_zero, List.getElem?_cons_succ, List.set_cons_zero, List.set_cons_succ, pb_M, M.assoc, run_bind, run_pure, run_lift, run_seq, run_liftTS, run_liftT, run_noX, run_nx, run_rtn, run_set2, run_gN, run_gT2, run_iteS, run_ite, run_tAnd, run_tOr, run_andD, run_orD, asB_p, liftS_p, seqM_nx, seqM_rt, liftT_p, noX_p, tOr_p, tAnd_p, andD_p, orD_p, notD_p, wipeE, it_tup, it_lst, frzL, Bool.not_true, Bool.not_false, Bool.false_eq_true, if_true, if_false]
  rw [a2 _ _ fun x _ => rfl]
  obtain ⟨os, hos⟩ : ∃ os, os = (TL.spl [32] 0 [] hd).map intIn := ⟨_, rfl⟩
  rw [← hos]
  have l1 : lenD [.lst (os.map oD)] = pure (.int (os.length : Int)) := by rw [len_lst, List.length_map]
  have ne3 : dNe (.int (os.length : Int)) k_THING_PARTS = pure (.bl (!decide (os.length = 3))) := by
    show dNe (.int (os.length : Int)) (.int 3) = _
    rw [ne_int]
    exact congrArg (fun z => pure (D.bl (!z))) (decide_eq_decide.mpr ⟨fun z => by omega, fun z => by omega⟩)
  have hpw : progW a = match headO intIn hd with
    | some (t, n, l) => (match allS (ps.map progT) with
      | some ths => if ths.length ≤ 12 ∧ ascZ (ths.map (·.1) ++ [n]) = true then some (t, n, l, ths) else none
      | none => none)
    | none => none := by
    show (match TL.spl [59] 0 [] a with
      | h :: ps => _
      | [] => none) = _
    rw [hps]
    all_goals rfl
  simp -failIfUnchanged only [rd, List.getElem?_cons_zero, List.getElem?_cons_succ, List.set_cons_zero, List.set_cons_succ, pb_M, M.assoc, run_bind, run_pure, run_lift, run_seq, run_liftTS, run_liftT, run_noX, run_nx, run_rtn, run_set2, run_gN, run_gT2, run_iteS, run_ite, run_tAnd, run_tOr, run_andD, run_orD, asB_p, liftS_p, seqM_nx, seqM_rt, liftT_p, noX_p, tOr_p, tAnd_p, andD_p, orD_p, notD_p, wipeE, it_tup, it_lst, frzL, Bool.not_true, Bool.not_false, Bool.false_eq_true, if_true, if_false, tup_lst, st2, l1, ne3, non_in]
  by_cases h3 : os.length = 3
  · rw [decide_eq_true h3]
    cases hany : os.any (·.isNone) with
    | true =>
      rw [hpw, head_any (by rw [← hos]; exact hany)]
      simp -failIfUnchanged only [rd, List.getElem?_cons_zero, List.getElem?_cons_succ, List.set_cons_zero, List.set_cons_succ, pb_M, M.assoc, run_bind, run_pure, run_lift, run_seq, run_liftTS, run_liftT, run_noX, run_nx, run_rtn, run_set2, run_gN, run_gT2, run_iteS, run_ite, run_tAnd, run_tOr, run_andD, run_orD, asB_p, liftS_p, seqM_nx, seqM_rt, liftT_p, noX_p, tOr_p, tAnd_p, andD_p, orD_p, notD_p, wipeE, it_tup, it_lst, frzL, Bool.not_true, Bool.not_false, Bool.false_eq_true, if_true, if_false]
      rfl
    | false =>
      obtain ⟨x, y, z, rfl⟩ := three h3
      cases x with
      | none => cases hany
      | some t =>
        cases y with
        | none => cases hany
        | some n =>
          cases z with
          | none => cases hany
          | some l =>
            have i2 : dIx (.lst ([some t, some n, some l].map oD)) (.int 2) = pure (.int l) := ix_l2 _ _ _ _
            have i1 : dIx (.lst ([some t, some n, some l].map oD)) (.int 1) = pure (.int n) := ix_l1 _ _ _
            have i0 : dIx (.lst ([some t, some n, some l].map oD)) (.int 0) = pure (.int t) := ix_l0 _ _
            have hho : headO intIn hd = if 0 ≤ t ∧ 0 ≤ n ∧ 0 ≤ l ∧ l ≤ 999999936 then some (t, n, l) else none := by
              unfold headO
              rw [← hos]
            have tp : callM 2 m_are_things_in [.int n, .tup ((ps.map progT).map otD)] = pure (.bl (okThs n (ps.map progT))) := by
              rw [callM_t rfl, things_p (by simpa using hpl) fun t ht => by
                obtain ⟨p, _, e⟩ := List.mem_map.mp ht
                exact (read_ok (Int.le_refl 0) e).1]
            rw [hpw, hho]
            simp -failIfUnchanged only [rd, List.getElem?_cons_zero, List.getElem?_cons_succ, List.set_cons_zero, List.set_cons_succ, pb_M, M.assoc, run_bind, run_pure, run_lift, run_seq, run_liftTS, run_liftT, run_noX, run_nx, run_rtn, run_set2, run_gN, run_gT2, run_iteS, run_ite, run_tAnd, run_tOr, run_andD, run_orD, asB_p, liftS_p, seqM_nx, seqM_rt, liftT_p, noX_p, tOr_p, tAnd_p, andD_p, orD_p, notD_p, wipeE, it_tup, it_lst, frzL, Bool.not_true, Bool.not_false, Bool.false_eq_true, if_true, if_false, min3, lt_int, min3_lt, i2, luck_p]
            by_cases hp0 : 0 ≤ t ∧ 0 ≤ n ∧ 0 ≤ l
            · rw [decide_eq_true hp0, decide_eq_true hp0.2.2]
              by_cases hp1 : l ≤ 999999936
              · rw [decide_eq_true hp1, if_pos (show 0 ≤ t ∧ 0 ≤ n ∧ 0 ≤ l ∧ l ≤ 999999936 from ⟨hp0.1, hp0.2.1, hp0.2.2, hp1⟩)]
                simp -failIfUnchanged only [rd, List.getElem?_cons_zero, List.getElem?_cons_succ, List.set_cons_zero, List.set_cons_succ, pb_M, M.assoc, run_bind, run_pure, run_lift, run_seq, run_liftTS, run_liftT, run_noX, run_nx, run_rtn, run_set2, run_gN, run_gT2, run_iteS, run_ite, run_tAnd, run_tOr, run_andD, run_orD, asB_p, liftS_p, seqM_nx, seqM_rt, liftT_p, noX_p, tOr_p, tAnd_p, andD_p, orD_p, notD_p, wipeE, it_tup, it_lst, frzL, Bool.not_true, Bool.not_false, Bool.false_eq_true, if_true, if_false, i0, i1, i2, tp, Bool.true_and]
                unfold okThs
                cases ha : allS (ps.map progT) with
                | none =>
                  simp -failIfUnchanged only [rd, List.getElem?_cons_zero, List.getElem?_cons_succ, List.set_cons_zero, List.set_cons_succ, pb_M, M.assoc, run_bind, run_pure, run_lift, run_seq, run_liftTS, run_liftT, run_noX, run_nx, run_rtn, run_set2, run_gN, run_gT2, run_iteS, run_ite, run_tAnd, run_tOr, run_andD, run_orD, asB_p, liftS_p, seqM_nx, seqM_rt, liftT_p, noX_p, tOr_p, tAnd_p, andD_p, orD_p, notD_p, wipeE, it_tup, it_lst, frzL, Bool.not_true, Bool.not_false, Bool.false_eq_true, if_true, if_false]
                  rfl
                | some ths =>
                  have hths := allS_some ha
                  have hmm : D.tup ((ps.map progT).map otD) = thsD ths := by
                    rw [hths, List.map_map]; rfl
                  have hlt : ths.length < 100000 := by
                    have := congrArg List.length hths
                    simp at this
                    omega
                  have mk : callM 4 m_made_world [.int t, .int n, .int l, thsD ths] = pure (worD (t, n, l, ths)) := by
                    rw [callM_t rfl]
                    exact made_p (w := (t, n, l, ths)) hlt
                  rw [hmm]
                  by_cases hc : ths.length ≤ 12 ∧ ascZ (ths.map (·.1) ++ [n]) = true
                  · have : (decide (ths.length ≤ 12) && ascZ (ths.map (·.1) ++ [n])) = true := by rw [decide_eq_true hc.1, hc.2]; rfl
                    simp only [this, if_pos hc]
                    simp -failIfUnchanged only [rd, List.getElem?_cons_zero, List.getElem?_cons_succ, List.set_cons_zero, List.set_cons_succ, pb_M, M.assoc, run_bind, run_pure, run_lift, run_seq, run_liftTS, run_liftT, run_noX, run_nx, run_rtn, run_set2, run_gN, run_gT2, run_iteS, run_ite, run_tAnd, run_tOr, run_andD, run_orD, asB_p, liftS_p, seqM_nx, seqM_rt, liftT_p, noX_p, tOr_p, tAnd_p, andD_p, orD_p, notD_p, wipeE, it_tup, it_lst, frzL, Bool.not_true, Bool.not_false, Bool.false_eq_true, if_true, if_false, mk]
                    rfl
                  · have : (decide (ths.length ≤ 12) && ascZ (ths.map (·.1) ++ [n])) = false := by
                      cases e : (decide (ths.length ≤ 12) && ascZ (ths.map (·.1) ++ [n])) with
                      | false => rfl
                      | true =>
                        simp only [Bool.and_eq_true, decide_eq_true_eq] at e
                        exact absurd e hc
                    simp only [this, if_neg hc]
                    simp -failIfUnchanged only [rd, List.getElem?_cons_zero, List.getElem?_cons_succ, List.set_cons_zero, List.set_cons_succ, pb_M, M.assoc, run_bind, run_pure, run_lift, run_seq, run_liftTS, run_liftT, run_noX, run_nx, run_rtn, run_set2, run_gN, run_gT2, run_iteS, run_ite, run_tAnd, run_tOr, run_andD, run_orD, asB_p, liftS_p, seqM_nx, seqM_rt, liftT_p, noX_p, tOr_p, tAnd_p, andD_p, orD_p, notD_p, wipeE, it_tup, it_lst, frzL, Bool.not_true, Bool.not_false, Bool.false_eq_true, if_true, if_false]
                    rfl
              · rw [decide_eq_false hp1, if_neg (show ¬ (0 ≤ t ∧ 0 ≤ n ∧ 0 ≤ l ∧ l ≤ 999999936) from fun z => hp1 z.2.2.2)]
                simp -failIfUnchanged only [rd, List.getElem?_cons_zero, List.getElem?_cons_succ, List.set_cons_zero, List.set_cons_succ, pb_M, M.assoc, run_bind, run_pure, run_lift, run_seq, run_liftTS, run_liftT, run_noX, run_nx, run_rtn, run_set2, run_gN, run_gT2, run_iteS, run_ite, run_tAnd, run_tOr, run_andD, run_orD, asB_p, liftS_p, seqM_nx, seqM_rt, liftT_p, noX_p, tOr_p, tAnd_p, andD_p, orD_p, notD_p, wipeE, it_tup, it_lst, frzL, Bool.not_true, Bool.not_false, Bool.false_eq_true, if_true, if_false, Bool.and_false]
                rfl
            · rw [decide_eq_false hp0, if_neg (show ¬ (0 ≤ t ∧ 0 ≤ n ∧ 0 ≤ l ∧ l ≤ 999999936) from fun z => hp0 ⟨z.1, z.2.1, z.2.2.1⟩)]
              simp -failIfUnchanged only [rd, List.getElem?_cons_zero, List.getElem?_cons_succ, List.set_cons_zero, List.set_cons_succ, pb_M, M.assoc, run_bind, run_pure, run_lift, run_seq, run_liftTS, run_liftT, run_noX, run_nx, run_rtn, run_set2, run_gN, run_gT2, run_iteS, run_ite, run_tAnd, run_tOr, run_andD, run_orD, asB_p, liftS_p, seqM_nx, seqM_rt, liftT_p, noX_p, tOr_p, tAnd_p, andD_p, orD_p, notD_p, wipeE, it_tup, it_lst, frzL, Bool.not_true, Bool.not_false, Bool.false_eq_true, if_true, if_false]
              rfl
  · rw [decide_eq_false h3, hpw, head_len (by rw [← hos]; exact h3)]
    simp -failIfUnchanged only [rd, List.getElem?_cons_zero, List.getElem?_cons_succ, List.set_cons_zero, List.set_cons_succ, pb_M, M.assoc, run_bind, run_pure, run_lift, run_seq, run_liftTS, run_liftT, run_noX, run_nx, run_rtn, run_set2, run_gN, run_gT2, run_iteS, run_ite, run_tAnd, run_tOr, run_andD, run_orD, asB_p, liftS_p, seqM_nx, seqM_rt, liftT_p, noX_p, tOr_p, tAnd_p, andD_p, orD_p, notD_p, wipeE, it_tup, it_lst, frzL, Bool.not_true, Bool.not_false, Bool.false_eq_true, if_true, if_false]
    rfl
end
section
variable {t : Int}
theorem short_p (h0 : 0 ≤ t) (h1 : t < 10 ^ 60) : m_is_short [.int t] = pure (.bl true) := by
  refine runF_rt ?_
  show f_is_short [some (.int t)] = _
  unfold f_is_short
  have c1 : callM 1 m_is_whole [.int t] = pure (.bl true) := by rw [callM_t rfl]; exact is_whole_p rfl
  have hm : negD k_GREATEST = pure (.int (-(10 ^ 60))) := Eq.trans rfl rfl
  have l1 : dLt (.int (-(10 ^ 60))) (.int t) = pure (.bl true) := by rw [lt_int, decide_eq_true (by omega)]
  have l2 : dLt (.int t) k_GREATEST = pure (.bl true) := by
    show dLt (.int t) (.int (10 ^ 60)) = _
    rw [lt_int, decide_eq_true (by omega)]
  simp -failIfUnchanged only [rd, List.getElem?_cons_zero, List.getElem?_cons_succ, List.set_cons_zero, List.set_cons_succ, pb_M, M.assoc, run_bind, run_pure, run_lift, run_seq, run_liftTS, run_liftT, run_noX, run_nx, run_rtn, run_set2, run_gN, run_gT2, run_iteS, run_ite, run_tAnd, run_tOr, run_andD, run_orD, asB_p, liftS_p, seqM_nx, seqM_rt, liftT_p, noX_p, tOr_p, tAnd_p, andD_p, orD_p, notD_p, wipeE, it_tup, it_lst, frzL, Bool.not_true, Bool.not_false, Bool.false_eq_true, if_true, if_false, c1, hm, l1, l2]
theorem tick_p (h0 : 0 ≤ t) (h1 : t < 10 ^ 60) : m_is_tick [.int t] = pure (.bl true) := by
  refine runF_rt ?_
  show f_is_tick [some (.int t)] = _
  unfold f_is_tick
  have c1 : callM 1 m_is_short [.int t] = pure (.bl true) := by rw [callM_t rfl]; exact short_p h0 h1
  have l1 : dGe (.int t) (.int 0) = pure (.bl true) := by rw [ge_int, decide_eq_true h0]
  simp -failIfUnchanged only [rd, List.getElem?_cons_zero, List.getElem?_cons_succ, List.set_cons_zero, List.set_cons_succ, pb_M, M.assoc, run_bind, run_pure, run_lift, run_seq, run_liftTS, run_liftT, run_noX, run_nx, run_rtn, run_set2, run_gN, run_gT2, run_iteS, run_ite, run_tAnd, run_tOr, run_andD, run_orD, asB_p, liftS_p, seqM_nx, seqM_rt, liftT_p, noX_p, tOr_p, tAnd_p, andD_p, orD_p, notD_p, wipeE, it_tup, it_lst, frzL, Bool.not_true, Bool.not_false, Bool.false_eq_true, if_true, if_false, c1, l1]

end
end K07
namespace K07
open PySem VL RecT WoT
theorem runF_xc {n : Nat} {s : VL.Env → M VL.Flow} {ds : List D} {ρ : VL.Env} {e : Exn} (h : s (ds.map some ++ List.replicate (n - ds.length) none) = pure (.xc ρ e)) : runF n s ds = throw e := funext fun μ => by
  unfold runF
  rw [h]
  rfl
abbrev badW : Exn := ⟨"InvalidWorld", none⟩
section
variable {w v : Wo} {a : List Nat}
theorem prog_big (h : NT a) (e : progW a = some w) : OkB w := by
  unfold progW at e
  split at e
  · rename_i hd ps hps
    have hh := h.sh hd (by rw [hps]; exact List.mem_cons_self)
    split at e
    · rename_i t n l hho
      have hs := (head_some hho).2
      have hb : ∀ o ∈ (TL.spl [32] 0 [] hd).map intIn, ∀ i, o = some i → big i := fun o ho i hi => by
        obtain ⟨p, hp, e⟩ := List.mem_map.mp ho
        exact intIn_lt (hh p hp) (e.trans hi)
      rw [hs] at hb
      split at e
      · rename_i ths hths
        split at e
        · cases e
          refine ⟨hb (some t) (by simp) t rfl, hb (some n) (by simp) n rfl, hb (some l) (by simp) l rfl, fun x hx => ?_⟩
          have hm : some x ∈ ps.map progT := by rw [allS_some hths]; exact List.mem_map.mpr ⟨x, hx, rfl⟩
          obtain ⟨p, hp, hpx⟩ := List.mem_map.mp hm
          obtain ⟨_, _, y, ws, q1, q2, _⟩ := read_ok (Int.le_refl 0) hpx
          have hsp := h.sh p (by rw [hps]; exact List.mem_cons_of_mem _ hp)
          exact intIn_lt (hsp y (by rw [q1]; exact List.mem_cons_self)) q2
        · cases e
      · cases e
    · cases e
  · cases e
theorem isN_w (o : Option Wo) : isN (owD o) = o.isNone := by cases o <;> rfl
theorem read_p (h : NT a) : m_read_world [tx a] = match toldW a with
    | some w => pure (worD w)
    | none => throw badW := by
  have c1 : callM 1 m_world_in [tx a] = pure (owD (progW a)) := by rw [callM_t rfl, world_in_p h]
  unfold toldW
  cases hp : progW a with
  | none =>
    refine runF_xc (ρ := [some (tx a), some .non]) ?_
    show f_read_world [some (tx a), none] = _
    unfold f_read_world
    simp -failIfUnchanged only [rd, List.getElem?_cons_zero, List.getElem?_cons_succ, List.set_cons_zero, List.set_cons_succ, pb_M, M.assoc, run_bind, run_pure, run_lift, run_seq, run_liftTS, run_liftT, run_noX, run_nx, run_rtn, run_set2, run_gN, run_gT2, run_iteS, run_ite, run_tAnd, run_tOr, run_andD, run_orD, asB_p, liftS_p, seqM_nx, seqM_rt, liftT_p, noX_p, tOr_p, tAnd_p, andD_p, orD_p, notD_p, wipeE, it_tup, it_lst, frzL, Bool.not_true, Bool.not_false, Bool.false_eq_true, if_true, if_false, isi_str, c1, hp, isN_w, Option.isNone_none, seqM_xc]
    rfl
  | some w =>
    have ok := progW_ok hp
    have c2 : callM 1 m_text_of_world [worD w] = pure (tx (worldL w)) := by rw [callM_t rfl, text_p ok (prog_big h hp)]
    have e : owD (some w) = worD w := rfl
    by_cases hw : worldL w = a
    · simp only [if_pos hw]
      refine runF_rt ?_
      show f_read_world [some (tx a), none] = _
      unfold f_read_world
      have hN : isN (worD w) = false := rfl
      simp -failIfUnchanged only [rd, List.getElem?_cons_zero, List.getElem?_cons_succ, List.set_cons_zero, List.set_cons_succ, pb_M, M.assoc, run_bind, run_pure, run_lift, run_seq, run_liftTS, run_liftT, run_noX, run_nx, run_rtn, run_set2, run_gN, run_gT2, run_iteS, run_ite, run_tAnd, run_tOr, run_andD, run_orD, asB_p, liftS_p, seqM_nx, seqM_rt, liftT_p, noX_p, tOr_p, tAnd_p, andD_p, orD_p, notD_p, wipeE, it_tup, it_lst, frzL, Bool.not_true, Bool.not_false, Bool.false_eq_true, if_true, if_false, isi_str, c1, hp, e, hN, c2, tx_ne, hw, decide_true]
    · simp only [if_neg hw]
      refine runF_xc (ρ := [some (tx a), some (worD w)]) ?_
      show f_read_world [some (tx a), none] = _
      unfold f_read_world
      have hN : isN (worD w) = false := rfl
      simp -failIfUnchanged only [rd, List.getElem?_cons_zero, List.getElem?_cons_succ, List.set_cons_zero, List.set_cons_succ, pb_M, M.assoc, run_bind, run_pure, run_lift, run_seq, run_liftTS, run_liftT, run_noX, run_nx, run_rtn, run_set2, run_gN, run_gT2, run_iteS, run_ite, run_tAnd, run_tOr, run_andD, run_orD, asB_p, liftS_p, seqM_nx, seqM_rt, liftT_p, noX_p, tOr_p, tAnd_p, andD_p, orD_p, notD_p, wipeE, it_tup, it_lst, frzL, Bool.not_true, Bool.not_false, Bool.false_eq_true, if_true, if_false, isi_str, c1, hp, e, hN, c2, tx_ne, decide_eq_false hw, seqM_xc]
theorem plain_p : m_l_wd_plain [worD w] = pure (plainW w) := by kernel_rfl
theorem told_p (h : NT a) : m_l_told [tx a] = pure (owP (toldW a)) := by
  refine runF_rt ?_
  show f_l_told [some (tx a)] = _
  unfold f_l_told
  have c1 : callM 1 m_read_world [tx a] = match toldW a with
    | some w => pure (worD w)
    | none => throw badW := by rw [callM_t rfl, read_p h]
  cases ht : toldW a with
  | none =>
    rw [ht] at c1
    have e : liftS [some (tx a)] ((callM 1 m_read_world [tx a] >>= fun x => (pure [] : M (List D)) >>= fun r => pure (x :: r)) >>= callM 1 m_l_wd_plain) (fun d => pure (VL.Flow.rt d)) = pure (.xc [some (tx a)] badW) := by
      rw [c1]
      rfl
    show (liftS [some (tx a)] ((callM 1 m_read_world [tx a] >>= fun x => (pure [] : M (List D)) >>= fun r => pure (x :: r)) >>= callM 1 m_l_wd_plain) (fun d => pure (VL.Flow.rt d)) >>= _) = _
    rw [e, pb_M]
    rfl
  | some w =>
    rw [ht] at c1
    have c2 : callM 1 m_l_wd_plain [worD w] = pure (plainW w) := by rw [callM_t rfl, plain_p]
    have e : liftS [some (tx a)] ((callM 1 m_read_world [tx a] >>= fun x => (pure [] : M (List D)) >>= fun r => pure (x :: r)) >>= callM 1 m_l_wd_plain) (fun d => pure (VL.Flow.rt d)) = pure (.rt (plainW w)) := by
      rw [c1]
      simp -failIfUnchanged only [rd, List.getElem?_cons_zero, List.getElem?_cons_succ, List.set_cons_zero, List.set_cons_succ, pb_M, M.assoc, run_bind, run_pure, run_lift, run_seq, run_liftTS, run_liftT, run_noX, run_nx, run_rtn, run_set2, run_gN, run_gT2, run_iteS, run_ite, run_tAnd, run_tOr, run_andD, run_orD, asB_p, liftS_p, seqM_nx, seqM_rt, liftT_p, noX_p, tOr_p, tAnd_p, andD_p, orD_p, notD_p, wipeE, it_tup, it_lst, frzL, Bool.not_true, Bool.not_false, Bool.false_eq_true, if_true, if_false, c2]
    show (liftS [some (tx a)] ((callM 1 m_read_world [tx a] >>= fun x => (pure [] : M (List D)) >>= fun r => pure (x :: r)) >>= callM 1 m_l_wd_plain) (fun d => pure (VL.Flow.rt d)) >>= _) = _
    rw [e, pb_M]
    rfl
theorem told_parts_p (h : OkW w) (h1 : w.1 < 10 ^ 60) (h2 : w.2.1 < 10 ^ 60) : m_parts_told [.int w.1, .int w.2.1, .int w.2.2.1, thsD w.2.2.2] = pure (.ins "KnownParts" [.int w.2.2.1, .int w.2.1, thsD w.2.2.2, .int w.1]) := by
  refine runF_rt ?_
  show f_parts_told [some (.int w.1), some (.int w.2.1), some (.int w.2.2.1), some (thsD w.2.2.2)] = _
  unfold f_parts_told
  have c1 : callM 1 m_is_tick [.int w.1] = pure (.bl true) := by rw [callM_t rfl, tick_p h.t0 h1]
  have c2 : callM 1 m_is_tick [.int w.2.1] = pure (.bl true) := by rw [callM_t rfl, tick_p h.n0 h2]
  have c3 : callM 1 m_is_luck [.int w.2.2.1] = pure (.bl true) := by rw [luck_p, decide_eq_true h.l0, decide_eq_true h.l1]; rfl
  have e : thsD w.2.2.2 = .tup ((w.2.2.2.map some).map otD) := by
    unfold thsD
    rw [List.map_map]
    rfl
  have hm := h.many
  have c4 : callM 2 m_are_things_in [.int w.2.1, thsD w.2.2.2] = pure (.bl true) := by
    rw [callM_t rfl, e, things_p (by simp; omega) fun t ht => by
      obtain ⟨x, hx, e⟩ := List.mem_map.mp ht
      cases e
      exact h.ths _ hx]
    unfold okThs
    rw [allS_map]
    simp only [decide_eq_true hm, h.asc]
    rfl
  have k1 : newM "KnownParts" 5 m_KnownParts_init ([.int w.1, .int w.2.1, .int w.2.2.1, thsD w.2.2.2] ++ []) = pure (.ins "KnownParts" [.int w.2.2.1, .int w.2.1, thsD w.2.2.2, .int w.1]) := by kernel_rfl
  simp -failIfUnchanged only [rd, List.getElem?_cons_zero, List.getElem?_cons_succ, List.set_cons_zero, List.set_cons_succ, pb_M, M.assoc, run_bind, run_pure, run_lift, run_seq, run_liftTS, run_liftT, run_noX, run_nx, run_rtn, run_set2, run_gN, run_gT2, run_iteS, run_ite, run_tAnd, run_tOr, run_andD, run_orD, asB_p, liftS_p, seqM_nx, seqM_rt, liftT_p, noX_p, tOr_p, tAnd_p, andD_p, orD_p, notD_p, wipeE, it_tup, it_lst, frzL, Bool.not_true, Bool.not_false, Bool.false_eq_true, if_true, if_false, c1, c2, c3, c4, k1]
theorem wnew_p (h : OkW w) (h1 : w.1 < 10 ^ 60) (h2 : w.2.1 < 10 ^ 60) : newM "World" 5 m_World_init ([.int w.1, .int w.2.1, .int w.2.2.1, thsD w.2.2.2] ++ []) = pure (worD w) := by
  have i1 : m_World_init [.int w.1, .int w.2.1, .int w.2.2.1, thsD w.2.2.2] = pure [.lst (w.2.2.2.map fun t => .int t.1), .int w.2.2.1, .int w.2.1, thsD w.2.2.2, .int w.1] := by
    refine runI_nx (ρ := [none, some (.int w.1), some (.int w.2.1), some (.int w.2.2.1), some (thsD w.2.2.2), some (.ins "KnownParts" [.int w.2.2.1, .int w.2.1, thsD w.2.2.2, .int w.1]), none, some (.lst (w.2.2.2.map fun t => .int t.1)), some (.int w.2.2.1), some (.int w.2.1), some (thsD w.2.2.2), some (.int w.1)]) ?_ rfl
    show f_World_init [none, some (.int w.1), some (.int w.2.1), some (.int w.2.2.1), some (thsD w.2.2.2), none, none, none, none, none, none, none] = _
    unfold f_World_init
    have hi : isiO ownL [.int w.1, .cls "KnownParts"] = pure (.bl false) := by kernel_rfl
    have c1 : callM 4 m_parts_told [.int w.1, .int w.2.1, .int w.2.2.1, thsD w.2.2.2] = pure (.ins "KnownParts" [.int w.2.2.1, .int w.2.1, thsD w.2.2.2, .int w.1]) := by rw [callM_t rfl, told_parts_p h h1 h2]
    have a1 : attrM st_own_tick (.ins "KnownParts" [.int w.2.2.1, .int w.2.1, thsD w.2.2.2, .int w.1]) = pure (.int w.1) := by kernel_rfl
    have a2 : attrM st_own_next_id (.ins "KnownParts" [.int w.2.2.1, .int w.2.1, thsD w.2.2.2, .int w.1]) = pure (.int w.2.1) := by kernel_rfl
    have a3 : attrM st_own_luck (.ins "KnownParts" [.int w.2.2.1, .int w.2.1, thsD w.2.2.2, .int w.1]) = pure (.int w.2.2.1) := by kernel_rfl
    have a4 : attrM st_own_things (.ins "KnownParts" [.int w.2.2.1, .int w.2.1, thsD w.2.2.2, .int w.1]) = pure (thsD w.2.2.2) := by kernel_rfl
    have x0 : ∀ t : Th, dIx (thD t) (.int 0) = pure (.int t.1) := fun t => Eq.trans rfl rfl
    have hm := h.many
    have l1 : ∀ (ρ : VL.Env) (elt : VL.Env → M D), (∀ t : Th, elt (ρ.set 6 (some (thD t))) = pure (.int t.1)) → loopC ⟨w.2.2.2.map thD, fun _ => True⟩ (gN 6) (fun _ => pure true) elt ρ (w.2.2.2.map thD) [] = pure (w.2.2.2.map fun t => .int t.1) := fun ρ elt he => loopG (ρ := ρ) rfl w.2.2.2 fun t _ => he t
    simp only [rd, List.getElem?_cons_zero, List.getElem?_cons_succ, List.set_cons_succ, List.set_cons_zero, pb_M, hi, c1, a1, a2, a3, a4, it_ths, List.length_map, ask_p (small_of (show w.2.2.2.length < 100000 by omega)), asB_p, if_true, if_false, Bool.false_eq_true, liftS_p, seqM_nx, M.assoc, wipeE]
    rw [l1 _ _ fun t => by
      show (pure (thD t) >>= fun x => dIx x (.int 0)) = _
      rw [pb_M, x0]]
    simp only [pb_M, frzL_p, liftS_p]
  show (m_World_init [.int w.1, .int w.2.1, .int w.2.2.1, thsD w.2.2.2] >>= fun fs => _) = _
  rw [i1, pb_M]
  rfl
theorem world_text_p (h : OkW w) (hb : OkB w) : m_world_text [worD w] = pure (tx (worldL w)) := by
  refine runF_rt ?_
  show f_world_text [some (worD w)] = _
  unfold f_world_text
  have c1 : callM 1 m_require_any_world [worD w] = pure .non := by rw [callM_t rfl]; kernel_rfl
  have c2 : callM 1 m_text_of_world [worD w] = pure (tx (worldL w)) := by rw [callM_t rfl, text_p h hb]
  simp -failIfUnchanged only [rd, List.getElem?_cons_zero, List.getElem?_cons_succ, List.set_cons_zero, List.set_cons_succ, pb_M, M.assoc, run_bind, run_pure, run_lift, run_seq, run_liftTS, run_liftT, run_noX, run_nx, run_rtn, run_set2, run_gN, run_gT2, run_iteS, run_ite, run_tAnd, run_tOr, run_andD, run_orD, asB_p, liftS_p, seqM_nx, seqM_rt, liftT_p, noX_p, tOr_p, tAnd_p, andD_p, orD_p, notD_p, wipeE, it_tup, it_lst, frzL, Bool.not_true, Bool.not_false, Bool.false_eq_true, if_true, if_false, c1, c2]
theorem pdn_ints {k : Nat} (j : List Int) : pdn (k + 1) (.tup (j.map D.int)) = true := pdn_tup fun x hx => by
  obtain ⟨i, _, rfl⟩ := List.mem_map.mp hx
  exact pdn_int i
theorem pdn_th {t : Th} (h : OkTh t) : pdn 2 (thD t) = true := pdn_tup (k := 1) fun x hx => by
  simp only [List.mem_cons, List.not_mem_nil, or_false] at hx
  rcases hx with rfl | rfl | rfl
  · exact pdn_int _
  · refine pdn_tx (strOk_of fun c hc => ?_)
    have hn := h.nm
    unfold nameB at hn
    simp only [Bool.and_eq_true, List.all_eq_true] at hn
    have := hn.2 c hc
    unfold letB at this
    simp only [Bool.and_eq_true, decide_eq_true_eq] at this
    omega
  · exact pdn_ints (k := 0) _
theorem pdn_ths {ths : List Th} (h : ∀ t ∈ ths, OkTh t) : pdn 3 (thsD ths) = true := pdn_tup (k := 2) fun x hx => by
  obtain ⟨t, ht, rfl⟩ := List.mem_map.mp hx
  exact pdn_th (h t ht)
theorem pd_plain (h : OkW w) : pd (plainW w) = true := pdn_pd (pdn_tup (k := 3) fun x hx => by
  simp only [List.mem_cons, List.not_mem_nil, or_false] at hx
  rcases hx with rfl | rfl | rfl | rfl
  · exact pdn_int _
  · exact pdn_int _
  · exact pdn_int _
  · exact pdn_ths h.ths)
theorem pd_o {o : Option Wo} (h : ∀ w, o = some w → OkW w) : pd (owP o) = true := by
  cases o with
  | none => exact pdn_pd (k := 0) pdn_non
  | some w => exact pd_plain (h w rfl)
theorem world_eq_p (h : OkW w) : m_World_eq [worD w, worD w] = pure (.bl true) := by
  refine runF_rt ?_
  show f_World_eq [some (worD w), some (worD w)] = _
  unfold f_World_eq
  have hi : isiO ownL [worD w, .cls "World"] = pure (.bl true) := by kernel_rfl
  have a1 : attrM st_own_tick (worD w) = pure (.int w.1) := Eq.trans rfl rfl
  have a2 : attrM st_own_next_id (worD w) = pure (.int w.2.1) := Eq.trans rfl rfl
  have a3 : attrM st_own_luck (worD w) = pure (.int w.2.2.1) := Eq.trans rfl rfl
  have a4 : attrM st_own_things (worD w) = pure (thsD w.2.2.2) := Eq.trans rfl rfl
  have m3 : ∀ a b c : D, mkTup [a, b, c] = pure (.tup [a, b, c]) := fun _ _ _ => rfl
  have n3 : dNe (.tup [.int w.1, .int w.2.1, .int w.2.2.1]) (.tup [.int w.1, .int w.2.1, .int w.2.2.1]) = pure (.bl false) := ne_self (pdn_pd (pdn_ints (k := 0) [w.1, w.2.1, w.2.2.1]))
  have e4 : dEq (thsD w.2.2.2) (thsD w.2.2.2) = pure (.bl true) := eq_self' (pdn_pd (pdn_ths h.ths))
  simp -failIfUnchanged only [rd, List.getElem?_cons_zero, List.getElem?_cons_succ, List.set_cons_zero, List.set_cons_succ, pb_M, M.assoc, run_bind, run_pure, run_lift, run_seq, run_liftTS, run_liftT, run_noX, run_nx, run_rtn, run_set2, run_gN, run_gT2, run_iteS, run_ite, run_tAnd, run_tOr, run_andD, run_orD, asB_p, liftS_p, seqM_nx, seqM_rt, liftT_p, noX_p, tOr_p, tAnd_p, andD_p, orD_p, notD_p, wipeE, it_tup, it_lst, frzL, Bool.not_true, Bool.not_false, Bool.false_eq_true, if_true, if_false, hi, a1, a2, a3, a4, m3, n3, e4]
theorem ne_world (h : OkW w) : dNeO ownL "World" m_World_eq (worD w) (worD w) = pure (.bl false) := by
  have e := world_eq_p h
  have ty : typeM ownL (worD w) = pure (.o "World") := by kernel_rfl
  show (VL.ask ("World" == "World") >>= fun _ => typeM ownL (worD w) >>= fun _ => noX (m_World_eq [worD w, worD w]) >>= notB) = _
  rw [ask_p (by decide), pb_M, ty, pb_M, e, noX_p, pb_M]
  rfl
def unZ : D → Int
  | .int i => i
  | _ => 0
theorem thD_inj {s t : Th} (h : thD s = thD t) : s = t := by
  obtain ⟨s1, s2, s3⟩ := s
  obtain ⟨t1, t2, t3⟩ := t
  have h1 := D.tup.inj h
  simp only [List.cons.injEq, and_true] at h1
  obtain ⟨q1, q2, q3⟩ := h1
  have e1 : s1 = t1 := D.int.inj q1
  have e2 : s2 = t2 := SX.S_inj (D.str.inj q2)
  have e3 : s3 = t3 := by
    have h2 := congrArg (List.map unZ) (D.tup.inj q3)
    have e : ∀ l : List Int, (l.map D.int).map unZ = l := fun l => by
      rw [List.map_map]
      conv => rhs; rw [← List.map_id l]
      exact List.map_congr_left fun _ _ => rfl
    rwa [e, e] at h2
  rw [e1, e2, e3]
theorem plain_inj (h : plainW v = plainW w) : v = w := by
  obtain ⟨v1, v2, v3, v4⟩ := v
  obtain ⟨w1, w2, w3, w4⟩ := w
  have h1 := D.tup.inj h
  simp only [List.cons.injEq, and_true] at h1
  obtain ⟨q1, q2, q3, q4⟩ := h1
  have e4 : v4 = w4 := by
    have hm := D.tup.inj q4
    have : ∀ (a b : List Th), a.map thD = b.map thD → a = b := by
      intro a
      induction a with
      | nil => intro b hb; cases b with
        | nil => rfl
        | cons _ _ => cases hb
      | cons x r ih => intro b hb; cases b with
        | nil => cases hb
        | cons y s =>
          simp only [List.map_cons, List.cons.injEq] at hb
          rw [thD_inj hb.1, ih s hb.2]
    exact this _ _ hm
  rw [D.int.inj q1, D.int.inj q2, D.int.inj q3, e4]
theorem same_texts (hv : OkW v) (hw : OkW w) : decide (worldL v = worldL w) = decide (plainW v = plainW w) :=
  decide_eq_decide.mpr ⟨fun h => by rw [worldL_inj hv hw h], fun h => by rw [plain_inj h]⟩
theorem ne_bl (b : Bool) : dNe (.bl b) (.bl b) = pure (.bl false) := by cases b <;> rfl
theorem told_ok {w : Wo} (h : toldW a = some w) : OkW w := by
  rw [WoT.reads_alike] at h
  exact (lawW_some h).2
theorem same_reads (h : NT a) : dNe (owP (toldW a)) (owP (lawW a)) = pure (.bl false) := by
  rw [← WoT.reads_alike]
  exact ne_self (pd_o fun w e => told_ok e)
end
end K07
namespace K07
open PySem VL RecT WoT
def Rn (k : Nat) (a : List Nat) : Prop := ∀ i j, (∀ c ∈ (a.drop i).take j, c ≠ 32 ∧ c ≠ 59) → ((a.drop i).take j).length ≤ k
section
variable {k m : Nat} {a b : List Nat}
theorem Rn.mono (h : Rn k a) (hk : k ≤ m) : Rn m a := fun i j q => Nat.le_trans (h i j q) hk
theorem Rn.short (h : a.length ≤ k) : Rn k a := fun i j _ => by
  rw [List.length_take, List.length_drop]; omega
theorem Rn.drop (h : Rn k a) (n : Nat) : Rn k (a.drop n) := fun i j q => by
  rw [List.drop_drop] at q ⊢
  exact h _ _ q
theorem Rn.take (h : Rn k a) (n : Nat) : Rn k (a.take n) := fun i j q => by
  have e : ((a.take n).drop i).take j = (a.drop i).take (min j (n - i)) := by
    rw [List.drop_take, List.take_take]
  rw [e] at q ⊢
  exact h _ _ q
theorem slice_app (i j : Nat) : (((a ++ b).drop i).take j) = (a.drop i).take j ++ (b.drop (i - a.length)).take (j - (a.drop i).length) := by
  rw [List.drop_append, List.take_append]
theorem Rn.app (ha : Rn k a) (hb : Rn m b) : Rn (k + m) (a ++ b) := fun i j q => by
  rw [slice_app] at q ⊢
  rw [List.length_append]
  have h1 := ha i j fun c hc => q c (List.mem_append_left _ hc)
  have h2 := hb (i - a.length) (j - (a.drop i).length) fun c hc => q c (List.mem_append_right _ hc)
  omega
theorem Rn.sep {c : Nat} (hc : c = 32 ∨ c = 59) (ha : Rn k a) (hb : Rn k b) : Rn k (a ++ ([c] ++ b)) := fun i j q => by
  rw [slice_app] at q ⊢
  rw [List.length_append]
  have h1 := ha i j fun x hx => q x (List.mem_append_left _ hx)
  rcases Nat.lt_or_ge a.length i with hi | hi
  · have e0 : a.drop i = [] := List.drop_eq_nil_of_le (by omega)
    rw [e0] at h1 q ⊢
    have e1 : ([c] ++ b).drop (i - a.length) = b.drop (i - a.length - 1) := by
      obtain ⟨n, hn⟩ : ∃ n, i - a.length = n + 1 := ⟨i - a.length - 1, by omega⟩
      rw [hn]; rfl
    rw [e1] at q ⊢
    have h2 := hb _ _ fun x hx => q x (List.mem_append_right _ hx)
    simp only [List.take_nil, List.length_nil] at h2 ⊢
    omega
  · have e1 : i - a.length = 0 := by omega
    rw [e1] at q ⊢
    cases hn : j - (a.drop i).length with
    | zero =>
      rw [hn] at q
      simp only [List.take_zero, List.length_nil]
      omega
    | succ n =>
      rw [hn] at q
      have := q c (List.mem_append_right _ (by simp))
      omega
theorem Rn.join {c : Nat} (hc : c = 32 ∨ c = 59) : ∀ {xs : List (List Nat)}, (∀ x ∈ xs, Rn k x) → Rn k (TL.joinL [c] xs)
  | [], _ => .short (Nat.zero_le _)
  | [x], h => h x List.mem_cons_self
  | x :: y :: r, h => by
    show Rn k (x ++ ([c] ++ TL.joinL [c] (y :: r)))
    exact .sep hc (h x List.mem_cons_self) (Rn.join hc fun z hz => h z (List.mem_cons_of_mem _ hz))
theorem Rn.map {f : Nat → Nat} (hf : ∀ c, (f c = 32 ∨ f c = 59) ↔ (c = 32 ∨ c = 59)) (h : Rn k a) : Rn k (a.map f) := fun i j q => by
  rw [← List.map_drop, ← List.map_take] at q ⊢
  rw [List.length_map]
  refine h i j fun c hc => ?_
  have := q (f c) (List.mem_map.mpr ⟨c, hc, rfl⟩)
  have h2 := hf c
  constructor
  · intro z
    rcases h2.mpr (.inl z) with y | y <;> omega
  · intro z
    rcases h2.mpr (.inr z) with y | y <;> omega
theorem spl_slice (s : Nat) : ∀ (p acc w : List Nat), s ∉ acc → w ∈ TL.spl [s] 0 acc p → s ∉ w ∧ ∃ i j, w = ((acc ++ p).drop i).take j
  | [], acc, w, hs, h => by
    rw [TL.spl_nil] at h
    have := List.mem_singleton.mp h
    subst this
    exact ⟨hs, 0, w.length, by simp⟩
  | x :: r, acc, w, hs, h => by
    rw [spl_cons] at h
    by_cases hx : x = s
    · rw [if_pos hx] at h
      rcases List.mem_cons.mp h with rfl | h
      · exact ⟨hs, 0, w.length, by simp⟩
      · obtain ⟨h1, i, j, e⟩ := spl_slice s r [] w (by simp) h
        refine ⟨h1, acc.length + 1 + i, j, ?_⟩
        have e2 : (acc ++ x :: r).drop (acc.length + 1 + i) = r.drop i := by
          have e3 : acc ++ x :: r = (acc ++ [x]) ++ r := by simp
          have e4 : (acc ++ [x]).length = acc.length + 1 := by simp
          rw [e3, List.drop_append, e4, List.drop_eq_nil_of_le (by rw [e4]; omega), List.nil_append, Nat.add_sub_cancel_left]
        rw [e, List.nil_append, e2]
    · rw [if_neg hx] at h
      obtain ⟨h1, i, j, e⟩ := spl_slice s r (acc ++ [x]) w (by
        rw [List.mem_append, List.mem_singleton]
        rintro (z | z)
        · exact hs z
        · exact hx z.symm) h
      exact ⟨h1, i, j, by rw [e]; simp⟩
theorem Rn.parts (h : Rn k a) {s : Nat} : ∀ x ∈ TL.spl [s] 0 [] a, Rn k x := fun x hx => by
  obtain ⟨_, i, j, e⟩ := spl_slice s a [] x (by simp) hx
  rw [List.nil_append] at e
  rw [e]
  exact (h.drop i).take j
theorem nt_of (hl : a.length < 20000) (ha : asc a) (h : Rn 500 a) : NT a := ⟨hl, ha, fun q hq w hw => by
  have hq2 := h.parts q hq
  obtain ⟨h1, i, j, e⟩ := spl_slice 32 q [] w (by simp) hw
  rw [List.nil_append] at e
  have h3 := (spl_slice 59 a [] q (by simp) hq).1
  have := hq2 i j fun c hc => by
    rw [← e] at hc
    refine ⟨fun z => h1 (z ▸ hc), fun z => ?_⟩
    subst z
    rw [e] at hc
    exact h3 (List.mem_of_mem_drop (List.mem_of_mem_take hc))
  rw [← e] at this
  exact this⟩
def S (xs : List (List Nat)) : Nat := (xs.map List.length).sum
theorem S_app (xs ys : List (List Nat)) : S (xs ++ ys) = S xs + S ys := by unfold S; rw [List.map_append, List.sum_append]
theorem S_take (xs : List (List Nat)) (n : Nat) : S (xs.take n) ≤ S xs := by
  have := S_app (xs.take n) (xs.drop n)
  rw [List.take_append_drop] at this
  omega
theorem S_drop (xs : List (List Nat)) (n : Nat) : S (xs.drop n) ≤ S xs := by
  have := S_app (xs.take n) (xs.drop n)
  rw [List.take_append_drop] at this
  omega
theorem S_rev (xs : List (List Nat)) : S xs.reverse = S xs := by
  unfold S
  rw [List.map_reverse, List.sum_reverse]
theorem S_spl (s : Nat) : ∀ (p acc : List Nat), S (TL.spl [s] 0 acc p) ≤ acc.length + p.length
  | [], acc => by
    rw [TL.spl_nil]
    simp [S]
  | x :: r, acc => by
    rw [spl_cons]
    by_cases hx : x = s
    · rw [if_pos hx]
      have := S_spl s r []
      simp only [S, List.map_cons, List.sum_cons, List.length_nil] at this ⊢
      simp only [List.length_cons]
      omega
    · rw [if_neg hx]
      have := S_spl s r (acc ++ [x])
      simp only [List.length_append, List.length_cons, List.length_nil] at this ⊢
      omega
theorem join_S (c : Nat) : ∀ xs : List (List Nat), (TL.joinL [c] xs).length ≤ S xs + xs.length
  | [] => by simp [TL.joinL, S]
  | [x] => by simp [TL.joinL, S]
  | x :: y :: r => by
    have ih := join_S c (y :: r)
    show (x ++ ([c] ++ TL.joinL [c] (y :: r))).length ≤ _
    simp only [List.length_append, List.length_singleton, S, List.map_cons, List.sum_cons, List.length_cons, List.length_nil] at ih ⊢
    omega
theorem asc_app (ha : asc a) (hb : asc b) : asc (a ++ b) := fun c hc => (List.mem_append.mp hc).elim (ha c) (hb c)
theorem asc_take (ha : asc a) (n : Nat) : asc (a.take n) := fun c hc => ha c (List.mem_of_mem_take hc)
theorem asc_drop (ha : asc a) (n : Nat) : asc (a.drop n) := fun c hc => ha c (List.mem_of_mem_drop hc)
theorem asc_join {c : Nat} (hc : c < 128) : ∀ {xs : List (List Nat)}, (∀ x ∈ xs, asc x) → asc (TL.joinL [c] xs)
  | [], _ => fun _ h => by cases h
  | [x], h => h x List.mem_cons_self
  | x :: y :: r, h => asc_app (h x List.mem_cons_self) (asc_app (fun z hz => by rw [List.mem_singleton.mp hz]; exact hc) (asc_join hc fun z hz => h z (List.mem_cons_of_mem _ hz)))
theorem up_sep (c : Nat) : (PyProof.Rows.up1 c = 32 ∨ PyProof.Rows.up1 c = 59) ↔ (c = 32 ∨ c = 59) := by
  unfold PyProof.Rows.up1
  split <;> omega
theorem asc_up (ha : asc a) : asc (a.map PyProof.Rows.up1) := fun c hc => by
  obtain ⟨x, hx, rfl⟩ := List.mem_map.mp hc
  have := ha x hx
  unfold PyProof.Rows.up1
  split <;> omega
/-- a text of the law: small -/
structure Sm (a : List Nat) : Prop where
  len : a.length ≤ 4600
  asc : asc a
  rn : Rn 61 a
theorem Sm.nt (h : Sm a) : NT a := nt_of (by have := h.len; omega) h.asc (h.rn.mono (by decide))
/-- texts near a text -/
theorem near_sub (h : Sm a) {s : List Nat} (hs : asc s) (hl : s.length ≤ 12) (i j : Nat) : NT (a.take i ++ s ++ a.drop j) := by
  refine nt_of ?_ (asc_app (asc_app (asc_take h.asc i) hs) (asc_drop h.asc j)) (((((h.rn.take i).app (Rn.short hl))).app (h.rn.drop j)).mono (by decide))
  have := h.len
  simp only [List.length_append, List.length_take, List.length_drop]
  omega
theorem near_join (h : Sm a) {c : Nat} (hc : c = 32 ∨ c = 59) {xs : List (List Nat)} (hx : ∀ x ∈ xs, Rn 61 x ∧ asc x) (hS : S xs ≤ 9300) (hn : xs.length ≤ 9300) : NT (TL.joinL [c] xs) := by
  refine nt_of ?_ (asc_join (by omega) fun x q => (hx x q).2) ((Rn.join hc fun x q => (hx x q).1).mono (by decide))
  have := join_S c xs
  omega
end
end K07
namespace K07
open PySem VL RecT WoT
theorem roll_run {n k : Int} {c : Cell} {r : Mem} {Q : D → Mem → Prop} (hd : DiceC k c) (hk : k < 2 ^ 99) (hn : 0 < n) (hb : n < 2 ^ 100) (h : ∀ x c', 0 ≤ x → x < n → DiceC (k + 1) c' → Q (.int x) (c' :: r)) : VL.Run (callM 2 m_l_roll [.ptr 0, .int n]) (c :: r) Q := by
  rw [run_call rfl]
  exact run_roll hd hk hn hb h
theorem pick_run {xs : List D} {x : D} {k : Int} {c : Cell} {r : Mem} {Q : D → Mem → Prop} (hd : DiceC k c) (hk : k < 2 ^ 99) (hx : itemsOf x = some xs) (hn : (!xs.isEmpty && decide (xs.length < 1000000)) = true) (h : ∀ d c', d ∈ xs → DiceC (k + 1) c' → Q d (c' :: r)) : VL.Run (callM 2 m_l_pick [.ptr 0, x]) (c :: r) Q := by
  rw [run_call rfl]
  exact run_pick hd hk hx hn h

theorem run_near {k : Int} {c : Cell} {r : Mem} {Q : D → Mem → Prop} (hd : DiceC k c) (hk : k < 2 ^ 99) (h : ∀ x c', -99 ≤ x → x ≤ 99 → DiceC (k + 1) c' → Q (.int x) (c' :: r)) : VL.Run (callM 2 m_l_near [.ptr 0, .int 99]) (c :: r) Q := by
  rw [run_call rfl]
  unfold m_l_near
  rw [run_F]
  show RunS (f_l_near [some (.ptr 0), some (.int 99)]) _ _ _
  unfold f_l_near
  have mm : dMul (.int 2) (.int 99) = pure (.int 198) := by kernel_rfl
  simp -failIfUnchanged only [rd, List.getElem?_cons_zero, List.getElem?_cons_succ, List.set_cons_zero, List.set_cons_succ, pb_M, M.assoc, run_bind, run_pure, run_lift, run_seq, run_liftTS, run_liftT, run_noX, run_nx, run_rtn, run_set2, run_gN, run_gT2, run_iteS, run_ite, run_tAnd, run_tOr, run_andD, run_orD, asB_p, liftS_p, seqM_nx, seqM_rt, liftT_p, noX_p, tOr_p, tAnd_p, andD_p, orD_p, notD_p, wipeE, it_tup, it_lst, frzL, Bool.not_true, Bool.not_false, Bool.false_eq_true, if_true, if_false, mm, add_int]
  refine roll_run hd hk (by decide) (by decide) fun x c1 x0 x1 h1 => ?_
  simp -failIfUnchanged only [rd, List.getElem?_cons_zero, List.getElem?_cons_succ, List.set_cons_zero, List.set_cons_succ, pb_M, M.assoc, run_bind, run_pure, run_lift, run_seq, run_liftTS, run_liftT, run_noX, run_nx, run_rtn, run_set2, run_gN, run_gT2, run_iteS, run_ite, run_tAnd, run_tOr, run_andD, run_orD, asB_p, liftS_p, seqM_nx, seqM_rt, liftT_p, noX_p, tOr_p, tAnd_p, andD_p, orD_p, notD_p, wipeE, it_tup, it_lst, frzL, Bool.not_true, Bool.not_false, Bool.false_eq_true, if_true, if_false, sub_int]
  exact h (x - 99) c1 (by omega) (by omega) h1
theorem ascI_mono : ∀ {l : Int} {ids : List Int} {n m : Int}, ascI l ids n = true → n ≤ m → ascI l ids m = true
  | l, [], n, m, h, hm => decide_eq_true (by have := of_decide_eq_true h; omega)
  | l, i :: r, n, m, h, hm => by
    simp only [ascI, Bool.and_eq_true] at h ⊢
    exact ⟨h.1, ascI_mono h.2 hm⟩
theorem ascI_snoc : ∀ {l : Int} {ids : List Int} {n x : Int}, ascI l ids n = true → n ≤ x → ascI l (ids ++ [x]) (x + 1) = true
  | l, [], n, x, h, hx => by
    have := of_decide_eq_true h
    show (decide (l ≤ x) && decide (x + 1 ≤ x + 1)) = true
    rw [decide_eq_true (by omega : l ≤ x), decide_eq_true (Int.le_refl _)]; rfl
  | l, i :: r, n, x, h, hx => by
    simp only [ascI, Bool.and_eq_true, List.cons_append] at h ⊢
    exact ⟨h.1, ascI_snoc h.2 hx⟩
structure OkS (w : Wo) : Prop where
  t : w.1 < 10 ^ 60
  n : w.2.1 < 10 ^ 33
  ids : ∀ x ∈ w.2.2.2, x.1 < 10 ^ 33
section
variable {w : Wo} {t : Th}
theorem abs_lt {i : Int} {k : Nat} (h0 : 0 ≤ i) (h : i < 10 ^ k) : i.natAbs < 10 ^ k := by
  have e : ((10 : Int) ^ k) = ((10 ^ k : Nat) : Int) := by simp
  rw [e] at h
  omega
theorem pow_big {i : Int} {k : Nat} (hk : k ≤ 500) (h : i.natAbs < 10 ^ k) : big i := Nat.lt_of_lt_of_le h (Nat.pow_le_pow_right (by decide) hk)
theorem s_big (h : OkW w) (s : OkS w) : OkB w := ⟨pow_big (by decide) (abs_lt h.t0 s.t), pow_big (by decide) (abs_lt h.n0 s.n), pow_big (k := 10) (by decide) (by have := h.l0; have := h.l1; omega), fun x hx => pow_big (by decide) (abs_lt (h.ths x hx).id0 (s.ids x hx))⟩
theorem showZ_asc (i : Int) : asc (showZ i) := fun c hc => by
  unfold showZ at hc
  have hd := fun n (hm : c ∈ TL.numL n) => TL.numL_digits n c hm
  split at hc
  · rcases List.mem_cons.mp hc with rfl | hc
    · decide
    · have := hd _ hc; omega
  · have := hd _ hc; omega
theorem name_asc {k : List Nat} (h : nameB k = true) : asc k := fun c hc => by
  unfold nameB at h
  simp only [Bool.and_eq_true, List.all_eq_true] at h
  have := h.2 c hc
  unfold letB at this
  simp only [Bool.and_eq_true, decide_eq_true_eq] at this
  omega
theorem th_small (h : OkTh t) (hi : t.1 < 10 ^ 33) : (∀ x ∈ showZ t.1 :: t.2.1 :: t.2.2.map showZ, x.length ≤ 34 ∧ asc x) := fun x hx => by
  rcases List.mem_cons.mp hx with rfl | hx
  · exact ⟨showZ_len (k := 33) (by decide) (abs_lt h.id0 hi), showZ_asc _⟩
  · rcases List.mem_cons.mp hx with rfl | hx
    · exact ⟨by have := (name_len h.nm).2; omega, name_asc h.nm⟩
    · obtain ⟨y, hy, rfl⟩ := List.mem_map.mp hx
      have := showZ_len (k := 10) (by decide) (num_big (h.nu y hy))
      exact ⟨by omega, showZ_asc _⟩
theorem sm_world (h : OkW w) (s : OkS w) : Sm (worldL w) := by
  have h1 : ∀ t ∈ w.2.2.2, (thL t).length ≤ 350 ∧ asc (thL t) ∧ Rn 61 (thL t) := fun t ht => by
    have hs := th_small (h.ths t ht) (s.ids t ht)
    have h8 := (h.ths t ht).n8
    refine ⟨?_, asc_join (by decide) fun x hx => (hs x hx).2, Rn.join (.inl rfl) fun x hx => .short (by have := (hs x hx).1; omega)⟩
    have := joinL_len (s := [32]) fun x hx => (hs x hx).1
    have h3 : (showZ t.1 :: t.2.1 :: t.2.2.map showZ).length * (34 + 1) ≤ 10 * (34 + 1) := Nat.mul_le_mul_right _ (by simp; omega)
    unfold thL
    simp only [List.length_singleton] at this
    omega
  have hw : ∀ x ∈ [showZ w.1, showZ w.2.1, showZ w.2.2.1], x.length ≤ 61 ∧ asc x := fun x hx => by
    simp only [List.mem_cons, List.not_mem_nil, or_false] at hx
    rcases hx with rfl | rfl | rfl
    · exact ⟨showZ_len (k := 60) (by decide) (abs_lt h.t0 s.t), showZ_asc _⟩
    · have := showZ_len (k := 33) (by decide) (abs_lt h.n0 s.n)
      exact ⟨by omega, showZ_asc _⟩
    · have h0 := h.l0
      have hl := h.l1
      have := showZ_len (i := w.2.2.1) (k := 10) (by decide) (by omega)
      exact ⟨by omega, showZ_asc _⟩
  have h2 : (headL w).length ≤ 350 ∧ asc (headL w) ∧ Rn 61 (headL w) := by
    refine ⟨?_, asc_join (by decide) fun x hx => (hw x hx).2, Rn.join (.inl rfl) fun x hx => .short (hw x hx).1⟩
    have := joinL_len (s := [32]) fun x hx => (hw x hx).1
    simp at this
    unfold headL
    omega
  have h3 : ∀ x ∈ headL w :: w.2.2.2.map thL, x.length ≤ 350 ∧ asc x ∧ Rn 61 x := fun x hx => by
    rcases List.mem_cons.mp hx with rfl | hx
    · exact h2
    · obtain ⟨t, ht, rfl⟩ := List.mem_map.mp hx
      exact h1 t ht
  refine ⟨?_, asc_join (by decide) fun x hx => (h3 x hx).2.1, Rn.join (.inr rfl) fun x hx => (h3 x hx).2.2⟩
  have := joinL_len (s := [59]) fun x hx => (h3 x hx).1
  have hm := h.many
  have h4 : (headL w :: w.2.2.2.map thL).length * (350 + 1) ≤ 13 * (350 + 1) := Nat.mul_le_mul_right _ (by simp; omega)
  simp only [List.length_singleton] at this
  show (TL.joinL [59] (headL w :: w.2.2.2.map thL)).length ≤ 4600
  omega
end
theorem run_world {k : Int} {c : Cell} {r : Mem} {Q : D → Mem → Prop} (hd : DiceC k c) (hk : k < 2 ^ 97)
    (h : ∀ w c' r', OkW w → OkS w → DiceC (k + 1000) c' → Q (plainW w) (c' :: r')) : VL.Run (m_l_world_drawn [.ptr 0]) (c :: r) Q := by
  unfold m_l_world_drawn
  rw [run_F]
  show RunS (f_l_world_drawn [some (.ptr 0), none, none, none, none, none, none, none]) _ _ _
  unfold f_l_world_drawn
  have mn : ∀ μ : Mem, mkNew [] μ = .ok (.ptr μ.length) (μ ++ [.lst []]) := fun μ => Eq.trans rfl rfl
  have ml5 : ∀ a b c d e : D, mkLst [a, b, c, d, e] = pure (.lst [a, b, c, d, e]) := fun _ _ _ _ _ => rfl
  have ml4 : ∀ a b c d : D, mkLst [a, b, c, d] = pure (.lst [a, b, c, d]) := fun _ _ _ _ => rfl
  have ml6 : ∀ a b c d e f : D, mkLst [a, b, c, d, e, f] = pure (.lst [a, b, c, d, e, f]) := fun _ _ _ _ _ _ => rfl
  have mt3 : ∀ a b c : D, mkTup [a, b, c] = pure (.tup [a, b, c]) := fun _ _ _ => rfl
  have mt4 : ∀ a b c d : D, mkTup [a, b, c, d] = pure (.tup [a, b, c, d]) := fun _ _ _ _ => rfl
  have p30 : dPow (.int 10) (.int 30) = pure (.int (10 ^ 30)) := by kernel_rfl
  have p9 : dPow (.int 10) (.int 9) = pure (.int (10 ^ 9)) := by kernel_rfl
  have p59 : dPow (.int 10) (.int 59) = pure (.int (10 ^ 59)) := by kernel_rfl
  simp -failIfUnchanged only [rd, List.getElem?_cons_zero, List.getElem?_cons_succ, List.set_cons_zero, List.set_cons_succ, pb_M, M.assoc, run_bind, run_pure, run_lift, run_seq, run_liftTS, run_liftT, run_noX, run_nx, run_rtn, run_set2, run_gN, run_gT2, run_iteS, run_ite, run_tAnd, run_tOr, run_andD, run_orD, asB_p, liftS_p, seqM_nx, seqM_rt, liftT_p, noX_p, tOr_p, tAnd_p, andD_p, orD_p, notD_p, wipeE, it_tup, it_lst, frzL, Bool.not_true, Bool.not_false, Bool.false_eq_true, if_true, if_false, run_ok (mn _), ml5]
  have eh : (c :: r).length = r.length + 1 := rfl
  have e0 : c :: r ++ [Cell.lst []] = c :: (r ++ [.lst []]) := rfl
  rw [e0, eh]
  refine pick_run (xs := [.int 0, .int 1, .int 2, .int 4, .int 12]) hd (by omega) rfl rfl fun d c1 hdm h1 => ?_
  obtain ⟨many, rfl, hmany⟩ : ∃ m : Nat, d = .int (m : Int) ∧ m ≤ 12 := by
    simp only [List.mem_cons, List.not_mem_nil, or_false] at hdm
    rcases hdm with rfl | rfl | rfl | rfl | rfl
    · exact ⟨0, rfl, by decide⟩
    · exact ⟨1, rfl, by decide⟩
    · exact ⟨2, rfl, by decide⟩
    · exact ⟨4, rfl, by decide⟩
    · exact ⟨12, rfl, by decide⟩
  simp -failIfUnchanged only [rd, List.getElem?_cons_zero, List.getElem?_cons_succ, List.set_cons_zero, List.set_cons_succ, pb_M, M.assoc, run_bind, run_pure, run_lift, run_seq, run_liftTS, run_liftT, run_noX, run_nx, run_rtn, run_set2, run_gN, run_gT2, run_iteS, run_ite, run_tAnd, run_tOr, run_andD, run_orD, asB_p, liftS_p, seqM_nx, seqM_rt, liftT_p, noX_p, tOr_p, tAnd_p, andD_p, orD_p, notD_p, wipeE, it_tup, it_lst, frzL, Bool.not_true, Bool.not_false, Bool.false_eq_true, if_true, if_false, rng1_nat (show many < 100000 by omega)]
  refine run_loop (fun i ρ μ => ∃ (c' : Cell) (ths : List Th) (ahead : Int) (o3 o5 o6 : Option D), ρ = [some (.ptr 0), some (.ptr (r.length + 1)), some (.int ahead), o3, none, o5, o6, none] ∧ μ = c' :: (r ++ [.lst (ths.map thD)]) ∧ DiceC (k + 1 + 30 * (i : Int)) c' ∧ ths.length = i ∧ (∀ t ∈ ths, OkTh t ∧ t.1 < 10 ^ 33) ∧ ascI 0 (ths.map (·.1)) ahead = true ∧ 0 ≤ ahead ∧ ahead ≤ 2 * 10 ^ 30 * (i : Int)) ?_ ?_ ?_ ?_
  · intro _ _ _ _; trivial
  · exact ⟨c1, [], 0, none, none, none, rfl, rfl, by simpa using h1, rfl, (fun _ z => by cases z), rfl, Int.le_refl _, by omega⟩
  · rintro i x ρ μ hx ⟨c2, ths, ahead, o3, o5, o6, rfl, rfl, h2, hlen, hok, hasc, ha0, ha1⟩
    have hi : i < many := by
      rcases Nat.lt_or_ge i many with q | q
      · exact q
      · rw [List.getElem?_eq_none (by simpa using q)] at hx; cases hx
    simp -failIfUnchanged only [rd, List.getElem?_cons_zero, List.getElem?_cons_succ, List.set_cons_zero, List.set_cons_succ, pb_M, M.assoc, run_bind, run_pure, run_lift, run_seq, run_liftTS, run_liftT, run_noX, run_nx, run_rtn, run_set2, run_gN, run_gT2, run_iteS, run_ite, run_tAnd, run_tOr, run_andD, run_orD, asB_p, liftS_p, seqM_nx, seqM_rt, liftT_p, noX_p, tOr_p, tAnd_p, andD_p, orD_p, notD_p, wipeE, it_tup, it_lst, frzL, Bool.not_true, Bool.not_false, Bool.false_eq_true, if_true, if_false, p30, ml4]
    refine pick_run (xs := [.int 1, .int 1, .int 3, .int (10 ^ 30)]) h2 (by omega) rfl rfl fun y c3 hy h3 => ?_
    obtain ⟨y, rfl, y0, y1⟩ : ∃ y' : Int, y = .int y' ∧ 0 < y' ∧ y' ≤ 10 ^ 30 := by
      simp only [List.mem_cons, List.not_mem_nil, or_false] at hy
      rcases hy with rfl | rfl | rfl | rfl <;> exact ⟨_, rfl, by omega, by omega⟩
    simp -failIfUnchanged only [rd, List.getElem?_cons_zero, List.getElem?_cons_succ, List.set_cons_zero, List.set_cons_succ, pb_M, M.assoc, run_bind, run_pure, run_lift, run_seq, run_liftTS, run_liftT, run_noX, run_nx, run_rtn, run_set2, run_gN, run_gT2, run_iteS, run_ite, run_tAnd, run_tOr, run_andD, run_orD, asB_p, liftS_p, seqM_nx, seqM_rt, liftT_p, noX_p, tOr_p, tAnd_p, andD_p, orD_p, notD_p, wipeE, it_tup, it_lst, frzL, Bool.not_true, Bool.not_false, Bool.false_eq_true, if_true, if_false]
    refine roll_run h3 (by omega) y0 (by omega) fun z c4 z0 z1 h4 => ?_
    simp -failIfUnchanged only [rd, List.getElem?_cons_zero, List.getElem?_cons_succ, List.set_cons_zero, List.set_cons_succ, pb_M, M.assoc, run_bind, run_pure, run_lift, run_seq, run_liftTS, run_liftT, run_noX, run_nx, run_rtn, run_set2, run_gN, run_gT2, run_iteS, run_ite, run_tAnd, run_tOr, run_andD, run_orD, asB_p, liftS_p, seqM_nx, seqM_rt, liftT_p, noX_p, tOr_p, tAnd_p, andD_p, orD_p, notD_p, wipeE, it_tup, it_lst, frzL, Bool.not_true, Bool.not_false, Bool.false_eq_true, if_true, if_false, add_int]
    refine roll_run h4 (by omega) (by decide) (by decide) fun q c5 q0 q1 h5 => ?_
    obtain ⟨q, rfl⟩ := Int.eq_ofNat_of_zero_le q0
    have aq : (.int (1 + (q : Int)) : D) = .int ((q + 1 : Nat) : Int) := congrArg D.int (by omega)
    simp -failIfUnchanged only [rd, List.getElem?_cons_zero, List.getElem?_cons_succ, List.set_cons_zero, List.set_cons_succ, pb_M, M.assoc, run_bind, run_pure, run_lift, run_seq, run_liftTS, run_liftT, run_noX, run_nx, run_rtn, run_set2, run_gN, run_gT2, run_iteS, run_ite, run_tAnd, run_tOr, run_andD, run_orD, asB_p, liftS_p, seqM_nx, seqM_rt, liftT_p, noX_p, tOr_p, tAnd_p, andD_p, orD_p, notD_p, wipeE, it_tup, it_lst, frzL, Bool.not_true, Bool.not_false, Bool.false_eq_true, if_true, if_false, add_int, aq, rng1_nat (show q + 1 < 100000 by omega), run_ask (small_of (show ((List.range (q + 1)).map fun (k : Nat) => D.int (k : Int)).length < 100000 by simp; omega))]
    refine run_comp (fun j acc μ1 => ∃ (c' : Cell) (ns : List Int), μ1 = c' :: (r ++ [.lst (ths.map thD)]) ∧ DiceC (k + 1 + 30 * (i : Int) + 3 + 2 * (j : Int)) c' ∧ acc = ns.map D.int ∧ ns.length = j ∧ ∀ x ∈ ns, -(10 ^ 9) ≤ x ∧ x ≤ 10 ^ 9) ?_ ?_ ?_ ?_
    · intro _ _ _ _; trivial
    · exact ⟨c5, [], rfl, h5.up (by omega), rfl, rfl, fun _ z => by cases z⟩
    · rintro j x acc μ1 hx ⟨c6, ns, rfl, h6, rfl, hnl, hnb⟩
      have hj : j < 9 := by
        rcases Nat.lt_or_ge j (q + 1) with z | z
        · omega
        · rw [List.getElem?_eq_none (by simpa using z)] at hx; cases hx
      simp -failIfUnchanged only [rd, List.getElem?_cons_zero, List.getElem?_cons_succ, List.set_cons_zero, List.set_cons_succ, pb_M, M.assoc, run_bind, run_pure, run_lift, run_seq, run_liftTS, run_liftT, run_noX, run_nx, run_rtn, run_set2, run_gN, run_gT2, run_iteS, run_ite, run_tAnd, run_tOr, run_andD, run_orD, asB_p, liftS_p, seqM_nx, seqM_rt, liftT_p, noX_p, tOr_p, tAnd_p, andD_p, orD_p, notD_p, wipeE, it_tup, it_lst, frzL, Bool.not_true, Bool.not_false, Bool.false_eq_true, if_true, if_false, neg_int, p9]
      refine run_near h6 (by omega) fun v c7 v0 v1 h7 => ?_
      simp -failIfUnchanged only [rd, List.getElem?_cons_zero, List.getElem?_cons_succ, List.set_cons_zero, List.set_cons_succ, pb_M, M.assoc, run_bind, run_pure, run_lift, run_seq, run_liftTS, run_liftT, run_noX, run_nx, run_rtn, run_set2, run_gN, run_gT2, run_iteS, run_ite, run_tAnd, run_tOr, run_andD, run_orD, asB_p, liftS_p, seqM_nx, seqM_rt, liftT_p, noX_p, tOr_p, tAnd_p, andD_p, orD_p, notD_p, wipeE, it_tup, it_lst, frzL, Bool.not_true, Bool.not_false, Bool.false_eq_true, if_true, if_false, ml6]
      refine pick_run (xs := [.int 0, .int 1, .int (-1), .int (10 ^ 9), .int (-(10 ^ 9)), .int v]) h7 (by omega) rfl rfl fun u c8 hu h8 => ?_
      obtain ⟨u, rfl, u0, u1⟩ : ∃ u' : Int, u = .int u' ∧ -(10 ^ 9) ≤ u' ∧ u' ≤ 10 ^ 9 := by
        simp only [List.mem_cons, List.not_mem_nil, or_false] at hu
        rcases hu with rfl | rfl | rfl | rfl | rfl | rfl <;> exact ⟨_, rfl, by omega, by omega⟩
      simp -failIfUnchanged only [rd, List.getElem?_cons_zero, List.getElem?_cons_succ, List.set_cons_zero, List.set_cons_succ, pb_M, M.assoc, run_bind, run_pure, run_lift, run_seq, run_liftTS, run_liftT, run_noX, run_nx, run_rtn, run_set2, run_gN, run_gT2, run_iteS, run_ite, run_tAnd, run_tOr, run_andD, run_orD, asB_p, liftS_p, seqM_nx, seqM_rt, liftT_p, noX_p, tOr_p, tAnd_p, andD_p, orD_p, notD_p, wipeE, it_tup, it_lst, frzL, Bool.not_true, Bool.not_false, Bool.false_eq_true, if_true, if_false]
      refine ⟨c8, ns ++ [u], rfl, h8.up (by omega), by simp, by simp [hnl], fun x hx => ?_⟩
      rcases List.mem_append.mp hx with hx | hx
      · exact hnb x hx
      · rw [List.mem_singleton.mp hx]; exact ⟨u0, u1⟩
    · rintro acc μ1 ⟨c6, ns, rfl, h6, rfl, hnl, hnb⟩
      have hql : ((List.range (q + 1)).map fun (k : Nat) => D.int (k : Int)).length = q + 1 := by simp
      rw [hql] at h6 hnl
      have gp : ∀ c : Cell, (c :: (r ++ [.lst (ths.map thD)]))[r.length + 1]? = some (.lst (ths.map thD)) := fun c => by
        rw [List.getElem?_cons_succ, List.getElem?_append_right (Nat.le_refl _)]
        simp
      simp -failIfUnchanged only [rd, List.getElem?_cons_zero, List.getElem?_cons_succ, List.set_cons_zero, List.set_cons_succ, pb_M, M.assoc, run_bind, run_pure, run_lift, run_seq, run_liftTS, run_liftT, run_noX, run_nx, run_rtn, run_set2, run_gN, run_gT2, run_iteS, run_ite, run_tAnd, run_tOr, run_andD, run_orD, asB_p, liftS_p, seqM_nx, seqM_rt, liftT_p, noX_p, tOr_p, tAnd_p, andD_p, orD_p, notD_p, wipeE, it_tup, it_lst, frzL, Bool.not_true, Bool.not_false, Bool.false_eq_true, if_true, if_false, run_tyP (gp _), ml4]
      refine pick_run (xs := [.str "hero", .str "a", .str "zzzzzzzz", .str "ab"]) h6 (by omega) rfl rfl fun u c7 hu h7 => ?_
      obtain ⟨kd, rfl, hkd⟩ : ∃ kd : List Nat, u = tx kd ∧ nameB kd = true := by
        simp only [List.mem_cons, List.not_mem_nil, or_false] at hu
        rcases hu with rfl | rfl | rfl | rfl
        · exact ⟨[104, 101, 114, 111], congrArg D.str (by decide +kernel), by decide⟩
        · exact ⟨[97], congrArg D.str (by decide +kernel), by decide⟩
        · exact ⟨[122, 122, 122, 122, 122, 122, 122, 122], congrArg D.str (by decide +kernel), by decide⟩
        · exact ⟨[97, 98], congrArg D.str (by decide +kernel), by decide⟩
      have hl2 : (ths.map thD).length < 100000 := by rw [List.length_map]; omega
      have st : ∀ (c : Cell) (y : Cell), (c :: (r ++ [.lst (ths.map thD)])).set (r.length + 1) y = c :: (r ++ [y]) := fun c y => by
        rw [List.set_cons_succ, List.set_append_right _ _ (Nat.le_refl _)]
        simp
      simp -failIfUnchanged only [rd, List.getElem?_cons_zero, List.getElem?_cons_succ, List.set_cons_zero, List.set_cons_succ, pb_M, M.assoc, run_bind, run_pure, run_lift, run_seq, run_liftTS, run_liftT, run_noX, run_nx, run_rtn, run_set2, run_gN, run_gT2, run_iteS, run_ite, run_tAnd, run_tOr, run_andD, run_orD, asB_p, liftS_p, seqM_nx, seqM_rt, liftT_p, noX_p, tOr_p, tAnd_p, andD_p, orD_p, notD_p, wipeE, it_tup, it_lst, frzL, Bool.not_true, Bool.not_false, Bool.false_eq_true, if_true, if_false, tup_lst, mt3, run_app (gp _) hl2, st, add_int]
      have hz : ahead ≤ ahead + z := by omega
      have hi12 : (i : Int) ≤ 11 := by omega
      refine ⟨c7, ths ++ [(ahead + z, kd, ns)], ahead + z + 1, _, _, _, rfl, by simp [thD], h7.up (by omega), by simp [hlen], fun t ht => ?_, ?_, by omega, ?_⟩
      · rcases List.mem_append.mp ht with ht | ht
        · exact hok t ht
        · rw [List.mem_singleton.mp ht]
          exact ⟨⟨by show 0 ≤ ahead + z; omega, hkd, by show 1 ≤ ns.length; omega, by show ns.length ≤ 8; omega, hnb⟩, by show ahead + z < 10 ^ 33; omega⟩
      · rw [List.map_append]
        exact ascI_snoc hasc hz
      · rw [Int.natCast_add]
        omega
  · rintro ρ μ ⟨c2, ths, ahead, o3, o5, o6, rfl, rfl, h2, hlen, hok, hasc, ha0, ha1⟩
    have hml : ((List.range many).map fun (k : Nat) => D.int (k : Int)).length = many := by simp
    rw [hml] at h2 hlen ha1
    have gp : ∀ c : Cell, (c :: (r ++ [.lst (ths.map thD)]))[r.length + 1]? = some (.lst (ths.map thD)) := fun c => by
      rw [List.getElem?_cons_succ, List.getElem?_append_right (Nat.le_refl _)]
      simp
    simp -failIfUnchanged only [rd, List.getElem?_cons_zero, List.getElem?_cons_succ, List.set_cons_zero, List.set_cons_succ, pb_M, M.assoc, run_bind, run_pure, run_lift, run_seq, run_liftTS, run_liftT, run_noX, run_nx, run_rtn, run_set2, run_gN, run_gT2, run_iteS, run_ite, run_tAnd, run_tOr, run_andD, run_orD, asB_p, liftS_p, seqM_nx, seqM_rt, liftT_p, noX_p, tOr_p, tAnd_p, andD_p, orD_p, notD_p, wipeE, it_tup, it_lst, frzL, Bool.not_true, Bool.not_false, Bool.false_eq_true, if_true, if_false]
    refine roll_run h2 (by omega) (by decide) (by decide) fun a c3 a0 a1 h3 => ?_
    simp -failIfUnchanged only [rd, List.getElem?_cons_zero, List.getElem?_cons_succ, List.set_cons_zero, List.set_cons_succ, pb_M, M.assoc, run_bind, run_pure, run_lift, run_seq, run_liftTS, run_liftT, run_noX, run_nx, run_rtn, run_set2, run_gN, run_gT2, run_iteS, run_ite, run_tAnd, run_tOr, run_andD, run_orD, asB_p, liftS_p, seqM_nx, seqM_rt, liftT_p, noX_p, tOr_p, tAnd_p, andD_p, orD_p, notD_p, wipeE, it_tup, it_lst, frzL, Bool.not_true, Bool.not_false, Bool.false_eq_true, if_true, if_false, p59, add_int, ml4]
    refine pick_run (xs := [.int 0, .int 7, .int a, .int (10 ^ 59 + 1)]) h3 (by omega) rfl rfl fun u c4 hu h4 => ?_
    obtain ⟨tk, rfl, t0, t1⟩ : ∃ u' : Int, u = .int u' ∧ 0 ≤ u' ∧ u' < 10 ^ 60 := by
      simp only [List.mem_cons, List.not_mem_nil, or_false] at hu
      rcases hu with rfl | rfl | rfl | rfl <;> exact ⟨_, rfl, by omega, by omega⟩
    simp -failIfUnchanged only [rd, List.getElem?_cons_zero, List.getElem?_cons_succ, List.set_cons_zero, List.set_cons_succ, pb_M, M.assoc, run_bind, run_pure, run_lift, run_seq, run_liftTS, run_liftT, run_noX, run_nx, run_rtn, run_set2, run_gN, run_gT2, run_iteS, run_ite, run_tAnd, run_tOr, run_andD, run_orD, asB_p, liftS_p, seqM_nx, seqM_rt, liftT_p, noX_p, tOr_p, tAnd_p, andD_p, orD_p, notD_p, wipeE, it_tup, it_lst, frzL, Bool.not_true, Bool.not_false, Bool.false_eq_true, if_true, if_false]
    refine roll_run h4 (by omega) (by decide) (by decide) fun b c5 b0 b1 h5 => ?_
    simp -failIfUnchanged only [rd, List.getElem?_cons_zero, List.getElem?_cons_succ, List.set_cons_zero, List.set_cons_succ, pb_M, M.assoc, run_bind, run_pure, run_lift, run_seq, run_liftTS, run_liftT, run_noX, run_nx, run_rtn, run_set2, run_gN, run_gT2, run_iteS, run_ite, run_tAnd, run_tOr, run_andD, run_orD, asB_p, liftS_p, seqM_nx, seqM_rt, liftT_p, noX_p, tOr_p, tAnd_p, andD_p, orD_p, notD_p, wipeE, it_tup, it_lst, frzL, Bool.not_true, Bool.not_false, Bool.false_eq_true, if_true, if_false, add_int]
    refine roll_run h5 (by omega) (by decide) (by decide) fun l c6 l0 l1 h6 => ?_
    simp -failIfUnchanged only [rd, List.getElem?_cons_zero, List.getElem?_cons_succ, List.set_cons_zero, List.set_cons_succ, pb_M, M.assoc, run_bind, run_pure, run_lift, run_seq, run_liftTS, run_liftT, run_noX, run_nx, run_rtn, run_set2, run_gN, run_gT2, run_iteS, run_ite, run_tAnd, run_tOr, run_andD, run_orD, asB_p, liftS_p, seqM_nx, seqM_rt, liftT_p, noX_p, tOr_p, tAnd_p, andD_p, orD_p, notD_p, wipeE, it_tup, it_lst, frzL, Bool.not_true, Bool.not_false, Bool.false_eq_true, if_true, if_false, ml4]
    refine pick_run (xs := [.int 0, .int 10, .int 999999936, .int l]) h6 (by omega) rfl rfl fun u c7 hu h7 => ?_
    obtain ⟨lk, rfl, k0, k1⟩ : ∃ u' : Int, u = .int u' ∧ 0 ≤ u' ∧ u' ≤ 999999936 := by
      simp only [List.mem_cons, List.not_mem_nil, or_false] at hu
      rcases hu with rfl | rfl | rfl | rfl <;> exact ⟨_, rfl, by omega, by omega⟩
    simp -failIfUnchanged only [rd, List.getElem?_cons_zero, List.getElem?_cons_succ, List.set_cons_zero, List.set_cons_succ, pb_M, M.assoc, run_bind, run_pure, run_lift, run_seq, run_liftTS, run_liftT, run_noX, run_nx, run_rtn, run_set2, run_gN, run_gT2, run_iteS, run_ite, run_tAnd, run_tOr, run_andD, run_orD, asB_p, liftS_p, seqM_nx, seqM_rt, liftT_p, noX_p, tOr_p, tAnd_p, andD_p, orD_p, notD_p, wipeE, it_tup, it_lst, frzL, Bool.not_true, Bool.not_false, Bool.false_eq_true, if_true, if_false, run_tupP (gp _), mt4]
    have hmi : (many : Int) ≤ 12 := by omega
    exact h (tk, ahead + b, lk, ths) c7 _ ⟨t0, by show 0 ≤ ahead + b; omega, k0, k1, by show ths.length ≤ 12; omega, fun t ht => (hok t ht).1, by
      show ascZ (ths.map (·.1) ++ [ahead + b]) = true
      rw [asc_zero (fun t ht => (hok t ht).1) (by omega)]
      exact ascI_mono hasc (by omega)⟩ ⟨t1, by show ahead + b < 10 ^ 33; omega, fun t ht => (hok t ht).2⟩ (h7.up (by omega))
end K07
namespace K07
open PySem VL RecT WoT
theorem run_addP {k : Nat} {xs ys : List D} {μ : Mem} {Q : D → Mem → Prop} (h : μ[k]? = some (.lst xs)) (hl : xs.length + ys.length < 100000) : VL.Run (dAdd (.ptr k) (.lst ys)) μ Q = Q (.lst (xs ++ ys)) μ := by
  have ey : readL (.lst ys) = pure ys := rfl
  show VL.Run (readL (.ptr k) >>= fun a => readL (.lst ys) >>= fun b => VL.ask (small (a.length + b.length)) >>= fun _ => pure (D.lst (a ++ b))) μ Q = _
  rw [run_bind, run_readL h, run_bind, ey, run_pure, run_bind, run_ask (small_of hl), run_pure]

theorem add_nat1 (n : Nat) : dAdd (.int (n : Int)) (.int 1) = pure (.int ((n + 1 : Nat) : Int)) := Eq.trans rfl rfl
theorem add_lst {xs ys : List D} (h : xs.length + ys.length < 100000) : dAdd (.lst xs) (.lst ys) = pure (.lst (xs ++ ys)) := by
  show (VL.ask (small (xs.length + ys.length)) >>= fun _ => pure (D.lst (xs ++ ys))) = _
  rw [ask_p (small_of h), pb_M]
theorem rev_lst (xs : List D) : revD (.lst xs) = pure (.lst xs.reverse) := Eq.trans rfl rfl
theorem S_strs (xs : List (List Nat)) : ((xs.map SX.S).map (·.length)).sum = S xs := by
  unfold S
  rw [List.map_map]
  exact congrArg List.sum (List.map_congr_left fun x _ => SX.S_len x)
theorem join_pS {c : Nat} {xs : List (List Nat)} (h : S xs ≤ 100000) (hl : xs.length ≤ 100000) : joinS (TS c) [.lst (xs.map tx)] = pure (tx (TL.joinL [c] xs)) := by
  show (seqOf (.lst (xs.map tx)) >>= fun ys => match strsOf ys with
    | some zs => VL.ask (decide ((zs.map (·.length)).sum + zs.length * (SX.S [c]).length ≤ 16777216)) >>= fun _ => pure (D.str (Txt.join (SX.S [c]) zs))
    | none => stuck) = _
  have e : seqOf (.lst (xs.map tx)) = pure (xs.map tx) := Eq.trans rfl rfl
  rw [e, pb_M, strs_map]
  show (VL.ask _ >>= fun _ => _) = _
  rw [ask_p (decide_eq_true (by rw [S_strs, SX.S_len, List.length_map]; simp; omega)), pb_M, SX.join_S]
theorem upper_p {a : List Nat} (h : a.length < 100000) (ha : asc a) : sUpper (tx a) [] = pure (tx (a.map PyProof.Rows.up1)) := by
  show (VL.ask (decide ((SX.S a).length ≤ 5592405)) >>= fun _ => pure (D.str (Txt.upper (SX.S a)))) = _
  rw [ask_p (decide_eq_true (by rw [SX.S_len]; omega)), pb_M, SX.upper_S (List.all_eq_true.mpr fun c hc => decide_eq_true (ha c hc))]
def signL : List Nat := [48, 48, 49, 57, 45, 43, 32, 59, 97, 122, 65, 95, 46]
theorem signs_p : listT frzL [.str "0019-+ ;azA_."] = pure (.lst (signL.map TS)) := by kernel_rfl
def wordL : List (List Nat) := [[], [48], [45, 48], [48, 48], [45, 49], [49, 48, 48, 48, 48, 48, 48, 48, 48, 49], [45, 49, 48, 48, 48, 48, 48, 48, 48, 48, 48], [57, 57, 57, 57, 57, 57, 57, 51, 55], [104, 101, 114, 111], [57], [48, 55], [49, 95, 48]]
theorem words_p : (mkLst [.str "", .str "0", .str "-0", .str "00", .str "-1", .str "1000000001", .str "-1000000000", .str "999999937", .str "hero", .str "9", .str "07", .str "1_0"] : M D) = pure (.lst (wordL.map tx)) := by kernel_rfl
theorem word_small : ∀ x ∈ wordL, x.length ≤ 12 ∧ asc x := by
  intro x hx
  simp only [wordL, List.mem_cons, List.not_mem_nil, or_false] at hx
  rcases hx with rfl | rfl | rfl | rfl | rfl | rfl | rfl | rfl | rfl | rfl | rfl | rfl <;> exact ⟨by decide, by unfold asc; decide⟩
theorem sign_small : ∀ x ∈ signL, x < 128 := by decide
theorem asc_one {s : Nat} (h : s < 128) : asc [s] := fun c hc => by rw [List.mem_singleton.mp hc]; exact h
theorem run_near_texts {a : List Nat} {k : Int} {c : Cell} {r : Mem} {Q : D → Mem → Prop} (ha : Sm a) (h0 : 0 < a.length) (hd : DiceC k c) (hk : k < 2 ^ 97)
    (h : ∀ (bs : List (List Nat)) c' r', (∀ b ∈ bs, NT b) → bs.length ≤ 20 → DiceC (k + 10) c' → Q (.lst (bs.map tx)) (c' :: r')) : VL.Run (callM 2 m_l_near_texts [.ptr 0, tx a]) (c :: r) Q := by
  rw [run_call rfl]
  unfold m_l_near_texts
  rw [run_F]
  show RunS (f_l_near_texts [some (.ptr 0), some (tx a), none, none, none, none, none, none, none, none, none]) _ _ _
  unfold f_l_near_texts
  have hl := ha.len
  have hal : a.length < 100000 := by omega
  have sp1 : splitM frzL (tx a) [TS 59] = pure (.lst ((TL.spl [59] 0 [] a).map tx)) := split_p hal (by decide)
  have sp2 : splitM frzL (tx a) [TS 32] = pure (.lst ((TL.spl [32] 0 [] a).map tx)) := split_p hal (by decide)
  have n1 := len_spl 59 a
  have n2 := len_spl 32 a
  have p1 : 0 < (TL.spl [59] 0 [] a).length := List.length_pos_iff.mpr (spl_ne 59 a [])
  have p2 : 0 < (TL.spl [32] 0 [] a).length := List.length_pos_iff.mpr (spl_ne 32 a [])
  have s1 := S_spl 59 a []
  have s2 := S_spl 32 a []
  have r1 := ha.rn.parts (s := 59)
  have r2 := ha.rn.parts (s := 32)
  have q1 : ∀ x ∈ TL.spl [59] 0 [] a, Rn 61 x ∧ asc x := fun x hx => ⟨r1 x hx, asc_word ha.asc hx⟩
  have q2 : ∀ x ∈ TL.spl [32] 0 [] a, Rn 61 x ∧ asc x := fun x hx => ⟨r2 x hx, asc_word ha.asc hx⟩
  obtain ⟨P, hP⟩ : ∃ P, P = TL.spl [59] 0 [] a := ⟨_, rfl⟩
  obtain ⟨Wd, hW⟩ : ∃ Wd, Wd = TL.spl [32] 0 [] a := ⟨_, rfl⟩
  rw [← hP] at sp1 n1 p1 s1 q1
  rw [← hW] at sp2 n2 p2 s2 q2
  simp only [List.length_nil, Nat.zero_add] at s1 s2
  rw [s32, s59]
  have nl : D.str "\n" = TS 10 := congrArg D.str (by decide +kernel)
  rw [nl]
  have st2 : ∀ (ρ : VL.Env) (x y : D), set2 ρ 2 3 [x, y] = pure (.nx ((ρ.set 2 (some x)).set 3 (some y))) := fun ρ x y => Eq.trans rfl rfl
  simp -failIfUnchanged only [rd, List.getElem?_cons_zero, List.getElem?_cons_succ, List.set_cons_zero, List.set_cons_succ, pb_M, M.assoc, run_bind, run_pure, run_lift, run_seq, run_liftTS, run_liftT, run_noX, run_nx, run_rtn, run_set2, run_gN, run_gT2, run_iteS, run_ite, run_tAnd, run_tOr, run_andD, run_orD, asB_p, liftS_p, seqM_nx, seqM_rt, liftT_p, noX_p, tOr_p, tAnd_p, andD_p, orD_p, notD_p, wipeE, it_tup, it_lst, frzL, Bool.not_true, Bool.not_false, Bool.false_eq_true, if_true, if_false, len_S hal]
  refine roll_run hd (by omega) (by omega) (by omega) fun at' c1 t0 t1 h1 => ?_
  obtain ⟨i, rfl⟩ := Int.eq_ofNat_of_zero_le t0
  simp -failIfUnchanged only [rd, List.getElem?_cons_zero, List.getElem?_cons_succ, List.set_cons_zero, List.set_cons_succ, pb_M, M.assoc, run_bind, run_pure, run_lift, run_seq, run_liftTS, run_liftT, run_noX, run_nx, run_rtn, run_set2, run_gN, run_gT2, run_iteS, run_ite, run_tAnd, run_tOr, run_andD, run_orD, asB_p, liftS_p, seqM_nx, seqM_rt, liftT_p, noX_p, tOr_p, tAnd_p, andD_p, orD_p, notD_p, wipeE, it_tup, it_lst, frzL, Bool.not_true, Bool.not_false, Bool.false_eq_true, if_true, if_false, ty_S, sp1, st2, signs_p]
  refine pick_run (xs := signL.map TS) h1 (by omega) rfl rfl fun u c2 hu h2 => ?_
  obtain ⟨s, hs, rfl⟩ := List.mem_map.mp hu
  have hs128 := sign_small s hs
  have f1 : dSl (tx a) none (some (i : Int)) = pure (tx (a.take i)) := by rw [sl_to hal (by omega), Int.toNat_natCast]
  have f2 : dSl (tx a) (some ((i + 1 : Nat) : Int)) none = pure (tx (a.drop (i + 1))) := by rw [sl_from hal (by omega), Int.toNat_natCast]
  have f3 : dSl (tx a) (some (i : Int)) none = pure (tx (a.drop i)) := by rw [sl_from hal (by omega), Int.toNat_natCast]
  have lt : (a.take i).length ≤ 4600 := by rw [List.length_take]; omega
  have ld : ∀ n, (a.drop n).length ≤ 4600 := fun n => by rw [List.length_drop]; omega
  have g1 : dAdd (tx (a.take i)) (TS s) = pure (tx (a.take i ++ [s])) := add_tx (by rw [List.length_singleton]; omega)
  have g2 : ∀ n, dAdd (tx (a.take i ++ [s])) (tx (a.drop n)) = pure (tx (a.take i ++ [s] ++ a.drop n)) := fun n => add_tx (by have := ld n; rw [List.length_append, List.length_singleton]; omega)
  have g3 : dAdd (tx (a.take i)) (tx (a.drop (i + 1))) = pure (tx (a.take i ++ a.drop (i + 1))) := add_tx (by have := ld (i + 1); omega)
  have g5 : dAdd (tx a) (TS s) = pure (tx (a ++ [s])) := add_tx (by rw [List.length_singleton]; omega)
  have g6 : dAdd (TS s) (tx a) = pure (tx ([s] ++ a)) := add_tx (by rw [List.length_singleton]; omega)
  have mn5 : ∀ (x1 x2 x3 x4 x5 : D) (μ : Mem), mkNew [x1, x2, x3, x4, x5] μ = .ok (.ptr μ.length) (μ ++ [.lst [x1, x2, x3, x4, x5]]) := fun _ _ _ _ _ μ => Eq.trans rfl rfl
  have lP : lenD [.lst (P.map tx)] = pure (.int (P.length : Int)) := by rw [len_lst, List.length_map]
  have lW : lenD [.lst (Wd.map tx)] = pure (.int (Wd.length : Int)) := by rw [len_lst, List.length_map]
  simp -failIfUnchanged only [rd, List.getElem?_cons_zero, List.getElem?_cons_succ, List.set_cons_zero, List.set_cons_succ, pb_M, M.assoc, run_bind, run_pure, run_lift, run_seq, run_liftTS, run_liftT, run_noX, run_nx, run_rtn, run_set2, run_gN, run_gT2, run_iteS, run_ite, run_tAnd, run_tOr, run_andD, run_orD, asB_p, liftS_p, seqM_nx, seqM_rt, liftT_p, noX_p, tOr_p, tAnd_p, andD_p, orD_p, notD_p, wipeE, it_tup, it_lst, frzL, Bool.not_true, Bool.not_false, Bool.false_eq_true, if_true, if_false, ap, f1, f2, f3, add_nat1, g1, g2, g3, g5, g6, run_ok (mn5 _ _ _ _ _ _), lP]
  have em : c2 :: r ++ [Cell.lst [tx (a.take i ++ [s] ++ a.drop (i + 1)), tx (a.take i ++ a.drop (i + 1)), tx (a.take i ++ [s] ++ a.drop i), tx (a ++ [s]), tx ([s] ++ a)]] = c2 :: (r ++ [Cell.lst ([a.take i ++ [s] ++ a.drop (i + 1), a.take i ++ a.drop (i + 1), a.take i ++ [s] ++ a.drop i, a ++ [s], [s] ++ a].map tx)]) := rfl
  have el : (c2 :: r).length = r.length + 1 := rfl
  rw [em, el]
  have nt1 : NT (a.take i ++ [s] ++ a.drop (i + 1)) := near_sub ha (asc_one hs128) (by simp) i (i + 1)
  have nt2 : NT (a.take i ++ a.drop (i + 1)) := by
    have := near_sub ha (s := []) (fun c hc => by cases hc) (by simp) i (i + 1)
    rwa [List.append_nil] at this
  have nt3 : NT (a.take i ++ [s] ++ a.drop i) := near_sub ha (asc_one hs128) (by simp) i i
  have nt4 : NT (a ++ [s]) := by
    have := near_sub ha (asc_one hs128) (by simp) a.length a.length
    rwa [List.take_length, List.drop_length, List.append_nil] at this
  have nt5 : NT ([s] ++ a) := by
    have := near_sub ha (asc_one hs128) (by simp) 0 0
    rwa [List.take_zero, List.drop_zero, List.nil_append] at this
  have ntl : NT (a ++ [10]) := by
    have := near_sub ha (asc_one (s := 10) (by decide)) (by simp) a.length a.length
    rwa [List.take_length, List.drop_length, List.append_nil] at this
  have ntu : NT (a.map PyProof.Rows.up1) := nt_of (by rw [List.length_map]; omega) (asc_up ha.asc) ((ha.rn.map up_sep).mono (by decide))
  obtain ⟨B0, hB0⟩ : ∃ B0, B0 = [a.take i ++ [s] ++ a.drop (i + 1), a.take i ++ a.drop (i + 1), a.take i ++ [s] ++ a.drop i, a ++ [s], [s] ++ a] := ⟨_, rfl⟩
  have hB0n : ∀ b ∈ B0, NT b := fun b hb => by
    rw [hB0] at hb
    simp only [List.mem_cons, List.not_mem_nil, or_false] at hb
    rcases hb with rfl | rfl | rfl | rfl | rfl <;> assumption
  have hB0l : B0.length = 5 := by rw [hB0]; rfl
  rw [← hB0]
  refine roll_run h2 (by omega) (by omega) (by omega) fun pl c3 pl0 pl1 h3 => ?_
  obtain ⟨p, rfl⟩ := Int.eq_ofNat_of_zero_le pl0
  have ct : ∀ (xs : List (List Nat)) (n : Nat), cutL (xs.map tx) none (some (n : Int)) = (xs.take n).map tx := fun xs n => by rw [cut_take, List.map_take]
  have cd : ∀ (xs : List (List Nat)) (n : Nat), cutL (xs.map tx) (some (n : Int)) none = (xs.drop n).map tx := fun xs n => by rw [cut_drop, List.map_drop]
  have ct1 : ∀ (xs : List (List Nat)), cutL (xs.map tx) none (some 1) = (xs.take 1).map tx := fun xs => ct xs 1
  have cd1 : ∀ (xs : List (List Nat)), cutL (xs.map tx) (some 1) none = (xs.drop 1).map tx := fun xs => cd xs 1
  have al : ∀ (xs ys : List (List Nat)), xs.length ≤ 40000 → ys.length ≤ 40000 → dAdd (.lst (xs.map tx)) (.lst (ys.map tx)) = pure (.lst ((xs ++ ys).map tx)) := fun xs ys h1 h2 => by
    rw [add_lst (by rw [List.length_map, List.length_map]; omega), List.map_append]
  have tkl : ∀ (xs : List (List Nat)) n, (xs.take n).length ≤ xs.length := fun xs n => by rw [List.length_take]; omega
  have dpl : ∀ (xs : List (List Nat)) n, (xs.drop n).length ≤ xs.length := fun xs n => by rw [List.length_drop]; omega
  have e1 := al (P.take (p + 1)) (P.drop p) (by have := tkl P (p + 1); omega) (by have := dpl P p; omega)
  have e2 : dAdd (.lst ((P.take 1).map tx)) (.lst ((P.drop 1).map tx).reverse) = pure (.lst ((P.take 1 ++ (P.drop 1).reverse).map tx)) := by
    rw [← List.map_reverse]
    exact al _ _ (by have := tkl P 1; omega) (by rw [List.length_reverse]; have := dpl P 1; omega)
  have S1 : S (P.take (p + 1) ++ P.drop p) ≤ 9300 := by
    rw [S_app]; have := S_take P (p + 1); have := S_drop P p; omega
  have L1 : (P.take (p + 1) ++ P.drop p).length ≤ 9300 := by
    rw [List.length_append]; have := tkl P (p + 1); have := dpl P p; omega
  have S2 : S (P.take 1 ++ (P.drop 1).reverse) ≤ 9300 := by
    rw [S_app, S_rev]; have := S_take P 1; have := S_drop P 1; omega
  have L2 : (P.take 1 ++ (P.drop 1).reverse).length ≤ 9300 := by
    rw [List.length_append, List.length_reverse]; have := tkl P 1; have := dpl P 1; omega
  have j1 := join_pS (c := 59) (xs := P.take (p + 1) ++ P.drop p) (by omega) (by omega)
  have j2 := join_pS (c := 59) (xs := P.take 1 ++ (P.drop 1).reverse) (by omega) (by omega)
  have nj1 : NT (TL.joinL [59] (P.take (p + 1) ++ P.drop p)) := near_join ha (.inr rfl) (fun x hx => q1 x ((List.mem_append.mp hx).elim List.mem_of_mem_take List.mem_of_mem_drop)) S1 L1
  have nj2 : NT (TL.joinL [59] (P.take 1 ++ (P.drop 1).reverse)) := near_join ha (.inr rfl) (fun x hx => q1 x ((List.mem_append.mp hx).elim List.mem_of_mem_take fun z => List.mem_of_mem_drop (List.mem_reverse.mp z))) S2 L2
  have gp : ∀ (c : Cell) (xs : List D), (c :: (r ++ [.lst xs]))[r.length + 1]? = some (.lst xs) := fun c xs => by
    rw [List.getElem?_cons_succ, List.getElem?_append_right (Nat.le_refl _)]
    simp
  have st : ∀ (c : Cell) (xs : List D) (y : Cell), (c :: (r ++ [.lst xs])).set (r.length + 1) y = c :: (r ++ [y]) := fun c xs y => by
    rw [List.set_cons_succ, List.set_append_right _ _ (Nat.le_refl _)]
    simp
  have ra1 : (B0.map tx).length < 100000 := by rw [List.length_map]; omega
  have ra2 : (B0.map tx ++ [tx (TL.joinL [59] (P.take (p + 1) ++ P.drop p))]).length < 100000 := by simp; omega
  simp -failIfUnchanged only [rd, List.getElem?_cons_zero, List.getElem?_cons_succ, List.set_cons_zero, List.set_cons_succ, pb_M, M.assoc, run_bind, run_pure, run_lift, run_seq, run_liftTS, run_liftT, run_noX, run_nx, run_rtn, run_set2, run_gN, run_gT2, run_iteS, run_ite, run_tAnd, run_tOr, run_andD, run_orD, asB_p, liftS_p, seqM_nx, seqM_rt, liftT_p, noX_p, tOr_p, tAnd_p, andD_p, orD_p, notD_p, wipeE, it_tup, it_lst, frzL, Bool.not_true, Bool.not_false, Bool.false_eq_true, if_true, if_false, add_nat1, ap, sl_lst, ct, cd, ct1, cd1, e1, rev_lst, e2, run_tyP (gp _ _), ty_S, j1, j2, run_app (gp _ _) ra1, run_app (gp _ _) ra2, st, sp2, lW]
  refine roll_run h3 (by omega) (by omega) (by omega) fun sp c4 sp0 sp1' h4 => ?_
  obtain ⟨q, rfl⟩ := Int.eq_ofNat_of_zero_le sp0
  simp -failIfUnchanged only [rd, List.getElem?_cons_zero, List.getElem?_cons_succ, List.set_cons_zero, List.set_cons_succ, pb_M, M.assoc, run_bind, run_pure, run_lift, run_seq, run_liftTS, run_liftT, run_noX, run_nx, run_rtn, run_set2, run_gN, run_gT2, run_iteS, run_ite, run_tAnd, run_tOr, run_andD, run_orD, asB_p, liftS_p, seqM_nx, seqM_rt, liftT_p, noX_p, tOr_p, tAnd_p, andD_p, orD_p, notD_p, wipeE, it_tup, it_lst, frzL, Bool.not_true, Bool.not_false, Bool.false_eq_true, if_true, if_false, words_p]
  refine pick_run (xs := wordL.map tx) h4 (by omega) rfl rfl fun u c5 hu h5 => ?_
  obtain ⟨wd, hwd, rfl⟩ := List.mem_map.mp hu
  have hw2 := word_small wd hwd
  have mw : mkLst [tx wd] = pure (.lst ([wd].map tx)) := Eq.trans rfl rfl
  have e3 := al (Wd.take q) [wd] (by have := tkl Wd q; omega) (by simp)
  have e4 := al (Wd.take q ++ [wd]) (Wd.drop (q + 1)) (by rw [List.length_append, List.length_singleton]; have := tkl Wd q; omega) (by have := dpl Wd (q + 1); omega)
  have e5 := al (Wd.take q) (Wd.drop (q + 1)) (by have := tkl Wd q; omega) (by have := dpl Wd (q + 1); omega)
  have S3 : S (Wd.take q ++ [wd] ++ Wd.drop (q + 1)) ≤ 9300 := by
    rw [S_app, S_app]; have := S_take Wd q; have := S_drop Wd (q + 1)
    have : S [wd] ≤ 12 := by simpa [S] using hw2.1
    omega
  have L3 : (Wd.take q ++ [wd] ++ Wd.drop (q + 1)).length ≤ 9300 := by
    rw [List.length_append, List.length_append, List.length_singleton]; have := tkl Wd q; have := dpl Wd (q + 1); omega
  have S4 : S (Wd.take q ++ Wd.drop (q + 1)) ≤ 9300 := by
    rw [S_app]; have := S_take Wd q; have := S_drop Wd (q + 1); omega
  have L4 : (Wd.take q ++ Wd.drop (q + 1)).length ≤ 9300 := by
    rw [List.length_append]; have := tkl Wd q; have := dpl Wd (q + 1); omega
  have j3 := join_pS (c := 32) (xs := Wd.take q ++ [wd] ++ Wd.drop (q + 1)) (by omega) (by omega)
  have j4 := join_pS (c := 32) (xs := Wd.take q ++ Wd.drop (q + 1)) (by omega) (by omega)
  have nj3 : NT (TL.joinL [32] (Wd.take q ++ [wd] ++ Wd.drop (q + 1))) := near_join ha (.inl rfl) (fun x hx => by
    rcases List.mem_append.mp hx with hx | hx
    · rcases List.mem_append.mp hx with hx | hx
      · exact q2 x (List.mem_of_mem_take hx)
      · rw [List.mem_singleton.mp hx]; exact ⟨.short (by have := hw2.1; omega), hw2.2⟩
    · exact q2 x (List.mem_of_mem_drop hx)) S3 L3
  have nj4 : NT (TL.joinL [32] (Wd.take q ++ Wd.drop (q + 1))) := near_join ha (.inl rfl) (fun x hx => q2 x ((List.mem_append.mp hx).elim List.mem_of_mem_take List.mem_of_mem_drop)) S4 L4
  have g7 : dAdd (tx a) (TS 10) = pure (tx (a ++ [10])) := add_tx (by rw [List.length_singleton]; omega)
  have ml4 : ∀ a b c d : D, mkLst [a, b, c, d] = pure (.lst [a, b, c, d]) := fun _ _ _ _ => rfl
  have la : (B0.map tx ++ [tx (TL.joinL [59] (P.take (p + 1) ++ P.drop p))] ++ [tx (TL.joinL [59] (P.take 1 ++ (P.drop 1).reverse))]).length + [tx (TL.joinL [32] (Wd.take q ++ [wd] ++ Wd.drop (q + 1))), tx (TL.joinL [32] (Wd.take q ++ Wd.drop (q + 1))), tx (a ++ [10]), tx (a.map PyProof.Rows.up1)].length < 100000 := by simp; omega
  simp -failIfUnchanged only [rd, List.getElem?_cons_zero, List.getElem?_cons_succ, List.set_cons_zero, List.set_cons_succ, pb_M, M.assoc, run_bind, run_pure, run_lift, run_seq, run_liftTS, run_liftT, run_noX, run_nx, run_rtn, run_set2, run_gN, run_gT2, run_iteS, run_ite, run_tAnd, run_tOr, run_andD, run_orD, asB_p, liftS_p, seqM_nx, seqM_rt, liftT_p, noX_p, tOr_p, tAnd_p, andD_p, orD_p, notD_p, wipeE, it_tup, it_lst, frzL, Bool.not_true, Bool.not_false, Bool.false_eq_true, if_true, if_false, ap, add_nat1, sl_lst, ct, cd, mw, e3, e4, e5, ty_S, j3, j4, g7, upper_p hal ha.asc, ml4, run_addP (gp _ _) la]
  have ef : B0.map tx ++ [tx (TL.joinL [59] (P.take (p + 1) ++ P.drop p))] ++ [tx (TL.joinL [59] (P.take 1 ++ (P.drop 1).reverse))] ++ [tx (TL.joinL [32] (Wd.take q ++ [wd] ++ Wd.drop (q + 1))), tx (TL.joinL [32] (Wd.take q ++ Wd.drop (q + 1))), tx (a ++ [10]), tx (a.map PyProof.Rows.up1)] = (B0 ++ [TL.joinL [59] (P.take (p + 1) ++ P.drop p), TL.joinL [59] (P.take 1 ++ (P.drop 1).reverse), TL.joinL [32] (Wd.take q ++ [wd] ++ Wd.drop (q + 1)), TL.joinL [32] (Wd.take q ++ Wd.drop (q + 1)), a ++ [10], a.map PyProof.Rows.up1]).map tx := by
    rw [List.map_append]
    simp
  rw [ef]
  refine h _ c5 _ (fun b hb => ?_) (by simp [hB0l]) (h5.up (by omega))
  rcases List.mem_append.mp hb with hb | hb
  · exact hB0n b hb
  · simp only [List.mem_cons, List.not_mem_nil, or_false] at hb
    rcases hb with rfl | rfl | rfl | rfl | rfl | rfl <;> assumption
end K07
namespace K07
open PySem VL RecT WoT
theorem world_pos (w : Wo) : 0 < (worldL w).length := by
  have h0 : 0 < (showZ w.1).length := by
    unfold showZ
    split
    · simp
    · exact List.length_pos_iff.mpr (TL.numL_ne _)
  have h1 : 0 < (headL w).length := by
    show 0 < (showZ w.1 ++ _).length
    rw [List.length_append]; omega
  unfold worldL
  cases h : w.2.2.2.map thL with
  | nil => exact h1
  | cons x r =>
    show 0 < (headL w ++ _).length
    rw [List.length_append]; omega
theorem told_odd : ∀ d ∈ [D.non, .int 0, .str "", .tup [.int 0, .int 0, .int 0, .tup []], .lst [.str "0 0 0"], .dct [] [], .bl true], m_l_told [d] = pure .non := by
  intro d hd
  simp only [List.mem_cons, List.not_mem_nil, or_false] at hd
  rcases hd with rfl | rfl | rfl | rfl | rfl | rfl | rfl <;> kernel_rfl
theorem right_run {k : Int} {c : Cell} (hd : DiceC k c) (hk : k < 2 ^ 90) : VL.Run (runF 6 f_l_right [.ptr 0]) [c] fun d μ' => ∃ c' r, μ' = c' :: r ∧ DiceC (k + 10000) c' ∧ d = .bl true := by
  rw [run_F]
  show RunS (f_l_right [some (.ptr 0), none, none, none, none, none]) _ _ _
  unfold f_l_right
  have st2 : ∀ (ρ : VL.Env) (x y : D), set2 ρ 1 2 [x, y] = pure (.nx ((ρ.set 1 (some x)).set 2 (some y))) := fun ρ x y => Eq.trans rfl rfl
  have st3 : ∀ (ρ : VL.Env) (x y : D), set2 ρ 3 4 [x, y] = pure (.nx ((ρ.set 3 (some x)).set 4 (some y))) := fun ρ x y => Eq.trans rfl rfl
  simp -failIfUnchanged only [rd, List.getElem?_cons_zero, List.getElem?_cons_succ, List.set_cons_zero, List.set_cons_succ, pb_M, M.assoc, run_bind, run_pure, run_lift, run_seq, run_liftTS, run_liftT, run_noX, run_nx, run_rtn, run_set2, run_gN, run_gT2, run_iteS, run_ite, run_tAnd, run_tOr, run_andD, run_orD, asB_p, liftS_p, seqM_nx, seqM_rt, liftT_p, noX_p, tOr_p, tAnd_p, andD_p, orD_p, notD_p, wipeE, it_tup, it_lst, frzL, Bool.not_true, Bool.not_false, Bool.false_eq_true, if_true, if_false]
  rw [run_call rfl]
  refine run_world hd (by omega) fun v c1 r1 ov sv h1 => ?_
  rw [run_call rfl]
  refine run_world h1 (by omega) fun w c2 r2 ow sw h2 => ?_
  have x0 : ∀ w : Wo, dIx (plainW w) (.int 0) = pure (.int w.1) := fun _ => Eq.trans rfl rfl
  have x1 : ∀ w : Wo, dIx (plainW w) (.int 1) = pure (.int w.2.1) := fun _ => Eq.trans rfl rfl
  have x2 : ∀ w : Wo, dIx (plainW w) (.int 2) = pure (.int w.2.2.1) := fun _ => Eq.trans rfl rfl
  have x3 : ∀ w : Wo, dIx (plainW w) (.int 3) = pure (thsD w.2.2.2) := fun _ => Eq.trans rfl rfl
  have nv := wnew_p ov sv.t (Int.lt_trans sv.n (by decide +kernel))
  have nw := wnew_p ow sw.t (Int.lt_trans sw.n (by decide +kernel))
  have bv := s_big ov sv
  have bw := s_big ow sw
  have tv : callM 1 m_world_text [worD v] = pure (tx (worldL v)) := by rw [callM_t rfl, world_text_p ov bv]
  have tw : callM 1 m_world_text [worD w] = pure (tx (worldL w)) := by rw [callM_t rfl, world_text_p ow bw]
  have lv : callM 1 m_l_written [plainW v] = pure (tx (worldL v)) := by rw [callM_t rfl, l_written_p ov bv]
  have lw : callM 1 m_l_written [plainW w] = pure (tx (worldL w)) := by rw [callM_t rfl, l_written_p ow bw]
  have smv := sm_world ov sv
  have smw := sm_world ow sw
  have rv : callM 1 m_read_world [tx (worldL v)] = pure (worD v) := by
    rw [callM_t rfl, read_p smv.nt, WoT.reads_alike, lawW_show ov]
  have ev : dEq (plainW v) (plainW w) = pure (.bl (decide (plainW v = plainW w))) := eq_pd (pd_plain ov) (pd_plain ow)
  simp -failIfUnchanged only [rd, List.getElem?_cons_zero, List.getElem?_cons_succ, List.set_cons_zero, List.set_cons_succ, pb_M, M.assoc, run_bind, run_pure, run_lift, run_seq, run_liftTS, run_liftT, run_noX, run_nx, run_rtn, run_set2, run_gN, run_gT2, run_iteS, run_ite, run_tAnd, run_tOr, run_andD, run_orD, asB_p, liftS_p, seqM_nx, seqM_rt, liftT_p, noX_p, tOr_p, tAnd_p, andD_p, orD_p, notD_p, wipeE, it_tup, it_lst, frzL, Bool.not_true, Bool.not_false, Bool.false_eq_true, if_true, if_false, st2, x0, x1, x2, x3, nv, nw, st3, tv, tw, lv, lw, tx_ne, decide_true, rv, ne_world ov, tx_eq, ev, same_texts ov ow, ne_bl]
  refine run_near_texts smv (world_pos v) h2 (by omega) fun bs c3 r3 hbs hbl h3 => ?_
  simp -failIfUnchanged only [rd, List.getElem?_cons_zero, List.getElem?_cons_succ, List.set_cons_zero, List.set_cons_succ, pb_M, M.assoc, run_bind, run_pure, run_lift, run_seq, run_liftTS, run_liftT, run_noX, run_nx, run_rtn, run_set2, run_gN, run_gT2, run_iteS, run_ite, run_tAnd, run_tOr, run_andD, run_orD, asB_p, liftS_p, seqM_nx, seqM_rt, liftT_p, noX_p, tOr_p, tAnd_p, andD_p, orD_p, notD_p, wipeE, it_tup, it_lst, frzL, Bool.not_true, Bool.not_false, Bool.false_eq_true, if_true, if_false]
  refine run_near_texts smw (world_pos w) h3 (by omega) fun cs c4 r4 hcs hcl h4 => ?_
  have ml1 : mkLst [tx (worldL v)] = pure (.lst ([worldL v].map tx)) := Eq.trans rfl rfl
  have a1 : dAdd (.lst (bs.map tx)) (.lst (cs.map tx)) = pure (.lst ((bs ++ cs).map tx)) := by
    rw [add_lst (by rw [List.length_map, List.length_map]; omega), List.map_append]
  have a2 : dAdd (.lst ((bs ++ cs).map tx)) (.lst ([worldL v].map tx)) = pure (.lst ((bs ++ cs ++ [worldL v]).map tx)) := by
    rw [add_lst (by rw [List.length_map, List.length_map, List.length_append, List.length_singleton]; omega), ← List.map_append]
  have hall : ∀ b ∈ bs ++ cs ++ [worldL v], NT b := fun b hb => by
    rcases List.mem_append.mp hb with hb | hb
    · exact (List.mem_append.mp hb).elim (hbs b) (hcs b)
    · rw [List.mem_singleton.mp hb]; exact smv.nt
  simp -failIfUnchanged only [rd, List.getElem?_cons_zero, List.getElem?_cons_succ, List.set_cons_zero, List.set_cons_succ, pb_M, M.assoc, run_bind, run_pure, run_lift, run_seq, run_liftTS, run_liftT, run_noX, run_nx, run_rtn, run_set2, run_gN, run_gT2, run_iteS, run_ite, run_tAnd, run_tOr, run_andD, run_orD, asB_p, liftS_p, seqM_nx, seqM_rt, liftT_p, noX_p, tOr_p, tAnd_p, andD_p, orD_p, notD_p, wipeE, it_tup, it_lst, frzL, Bool.not_true, Bool.not_false, Bool.false_eq_true, if_true, if_false, ml1, a1, a2]
  refine run_loop (fun _ ρ μ => ∃ o5, ρ = [some (.ptr 0), some (plainW v), some (plainW w), some (worD v), some (worD w), o5] ∧ μ = c4 :: r4) ?_ ?_ ?_ ?_
  · intro _ _ _ _; trivial
  · exact ⟨none, rfl, rfl⟩
  · rintro i x ρ μ hx ⟨o5, rfl, rfl⟩
    obtain ⟨b, hb, rfl⟩ := List.mem_map.mp (List.mem_of_getElem? hx)
    have nb := hall b hb
    have e1 : callM 1 m_l_told [tx b] = pure (owP (toldW b)) := by rw [callM_t rfl, told_p nb]
    have e2 : callM 1 m_l_read [tx b] = pure (owP (lawW b)) := by rw [callM_t rfl, l_read_p nb]
    simp -failIfUnchanged only [rd, List.getElem?_cons_zero, List.getElem?_cons_succ, List.set_cons_zero, List.set_cons_succ, pb_M, M.assoc, run_bind, run_pure, run_lift, run_seq, run_liftTS, run_liftT, run_noX, run_nx, run_rtn, run_set2, run_gN, run_gT2, run_iteS, run_ite, run_tAnd, run_tOr, run_andD, run_orD, asB_p, liftS_p, seqM_nx, seqM_rt, liftT_p, noX_p, tOr_p, tAnd_p, andD_p, orD_p, notD_p, wipeE, it_tup, it_lst, frzL, Bool.not_true, Bool.not_false, Bool.false_eq_true, if_true, if_false, e1, e2, same_reads nb]
    exact ⟨_, rfl, trivial⟩
  · rintro ρ μ ⟨o5, rfl, rfl⟩
    have mt0 : (mkTup [] : M D) = pure (.tup []) := rfl
    have mt4 : ∀ a b c d : D, mkTup [a, b, c, d] = pure (.tup [a, b, c, d]) := fun _ _ _ _ => rfl
    have mls : ∀ a : D, mkLst [a] = pure (.lst [a]) := fun _ => rfl
    have ml7 : ∀ a b c d e f g : D, mkLst [a, b, c, d, e, f, g] = pure (.lst [a, b, c, d, e, f, g]) := fun _ _ _ _ _ _ _ => rfl
    simp -failIfUnchanged only [rd, List.getElem?_cons_zero, List.getElem?_cons_succ, List.set_cons_zero, List.set_cons_succ, pb_M, M.assoc, run_bind, run_pure, run_lift, run_seq, run_liftTS, run_liftT, run_noX, run_nx, run_rtn, run_set2, run_gN, run_gT2, run_iteS, run_ite, run_tAnd, run_tOr, run_andD, run_orD, asB_p, liftS_p, seqM_nx, seqM_rt, liftT_p, noX_p, tOr_p, tAnd_p, andD_p, orD_p, notD_p, wipeE, it_tup, it_lst, frzL, Bool.not_true, Bool.not_false, Bool.false_eq_true, if_true, if_false, mt0, mt4, mls, ml7]
    refine pick_run (xs := [.non, .int 0, .str "", .tup [.int 0, .int 0, .int 0, .tup []], .lst [.str "0 0 0"], .dct [] [], .bl true]) h4 (by omega) rfl rfl fun d c5 hdm h5 => ?_
    have e1 : callM 1 m_l_told [d] = pure .non := by rw [callM_t rfl]; exact told_odd d hdm
    have hN : isN .non = true := rfl
    simp -failIfUnchanged only [rd, List.getElem?_cons_zero, List.getElem?_cons_succ, List.set_cons_zero, List.set_cons_succ, pb_M, M.assoc, run_bind, run_pure, run_lift, run_seq, run_liftTS, run_liftT, run_noX, run_nx, run_rtn, run_set2, run_gN, run_gT2, run_iteS, run_ite, run_tAnd, run_tOr, run_andD, run_orD, asB_p, liftS_p, seqM_nx, seqM_rt, liftT_p, noX_p, tOr_p, tAnd_p, andD_p, orD_p, notD_p, wipeE, it_tup, it_lst, frzL, Bool.not_true, Bool.not_false, Bool.false_eq_true, if_true, if_false, e1, hN]
    exact ⟨c5, r4, rfl, h5.up (by omega), trivial⟩
theorem right_p {k : Int} {c : Cell} {q : Nat} {μ : Mem} {Q : D → Mem → Prop} (hd : DiceC k c) (hk : k < 2 ^ 90) (hq : μ[q]? = some c) (h : ∀ c', DiceC (k + 10000) c' → Q (.bl true) (μ.set q c')) : VL.Run (callM 1 m_l_right [.ptr q]) μ Q := by
  rw [run_call rfl]
  unfold m_l_right
  refine run_loc hq hd.np ((right_run hd hk).mono ?_)
  rintro d μ' ⟨c', r, rfl, h1, rfl⟩
  exact ⟨c', r, rfl, h1.np, rfl, h c' h1⟩
/-- max(1, min(3, len(script))) -/
theorem len3 (ns : List Int) : ∃ (n : Nat) (m : Int), n < 4 ∧ minD [.int 3, .int ((ns.map D.int).length : Int)] = pure (.int m) ∧ maxD [.int 1, .int m] = pure (.int (n : Int)) := by
  match ns with
  | [] => exact ⟨1, 0, by decide, rfl, rfl⟩
  | [a] => exact ⟨1, 1, by decide, rfl, rfl⟩
  | [a, b] => exact ⟨2, 2, by decide, rfl, rfl⟩
  | a :: b :: c :: r =>
    have h : (3 : Int) ≤ ((a :: b :: c :: r).map D.int).length := by simp; omega
    generalize (a :: b :: c :: r).map D.int = xs at h
    refine ⟨3, 3, by decide, ?_, rfl⟩
    show min2D [.int 3, .int (xs.length : Int)] = _
    simp only [min2D]
    rw [if_neg (by omega)]
theorem plain0 (ns : List Int) : VL.Run (m_law [.scr (ns.map D.int)]) [] fun d _ => d = .bl true := by
  unfold m_law
  rw [run_F]
  show RunS (f_law [some (.scr (ns.map D.int)), none, none, none, none, none, none]) _ _ _
  unfold f_law
  rw [run_seq]
  refine RunS.mono (N := fun ρ _ => ∃ (o1 o4 o5 : Option D), ρ = [some (.scr (ns.map D.int)), o1, none, none, o4, o5, none]) (R := fun _ _ => False) ?_ ?_ (fun _ _ h => h.elim)
  · obtain ⟨n, m, hn, e1, e2⟩ := len3 ns
    have e0 : lenD [.scr (ns.map D.int)] = pure (.int ((ns.map D.int).length : Int)) := rfl
    simp -failIfUnchanged only [rd, List.getElem?_cons_zero, List.getElem?_cons_succ, List.set_cons_zero, List.set_cons_succ, pb_M, M.assoc, run_bind, run_pure, run_lift, run_seq, run_liftTS, run_liftT, run_noX, run_nx, run_rtn, run_set2, run_gN, run_gT2, run_iteS, run_ite, run_tAnd, run_tOr, run_andD, run_orD, asB_p, liftS_p, seqM_nx, seqM_rt, liftT_p, noX_p, tOr_p, tAnd_p, andD_p, orD_p, notD_p, wipeE, it_tup, it_lst, frzL, Bool.not_true, Bool.not_false, Bool.false_eq_true, if_true, if_false, e0, e1, e2, rng1_nat (show n < 100000 by omega)]
    refine run_loop (fun _ ρ μ => ∃ (o1 o4 o5 : Option D), ρ = [some (.scr (ns.map D.int)), o1, none, none, o4, o5, none]) ?_ ?_ ?_ ?_
    · intro _ _ _ _; trivial
    · exact ⟨none, none, none, rfl⟩
    · rintro i x ρ μ hx ⟨o1, o4, o5, rfl⟩
      obtain ⟨hi, rfl⟩ : i < n ∧ x = .int (i : Int) := by
        rw [List.getElem?_map] at hx
        rcases Nat.lt_or_ge i n with q | q
        · rw [List.getElem?_range q] at hx
          cases hx
          exact ⟨q, rfl⟩
        · rw [List.getElem?_eq_none (by simpa using q)] at hx
          cases hx
      simp -failIfUnchanged only [rd, List.getElem?_cons_zero, List.getElem?_cons_succ, List.set_cons_zero, List.set_cons_succ, pb_M, M.assoc, run_bind, run_pure, run_lift, run_seq, run_liftTS, run_liftT, run_noX, run_nx, run_rtn, run_set2, run_gN, run_gT2, run_iteS, run_ite, run_tAnd, run_tOr, run_andD, run_orD, asB_p, liftS_p, seqM_nx, seqM_rt, liftT_p, noX_p, tOr_p, tAnd_p, andD_p, orD_p, notD_p, wipeE, it_tup, it_lst, frzL, Bool.not_true, Bool.not_false, Bool.false_eq_true, if_true, if_false]
      rw [run_call rfl]
      have dl : m_l_dice = mP_dice := rfl
      rw [dl]
      obtain ⟨l, s, hd⟩ := dice_ok (ns := ns) (i := (i : Int)) (μ := μ) (by omega) (by omega)
      rw [run_ok hd]
      have h0 : DiceC 1 (.lst [.int l, .int s, .int 0]) := ⟨l, s, 0, by omega, by omega, rfl⟩
      have r2 : rng1 [.int 2] = pure ⟨(List.range 2).map fun (k : Nat) => .int (k : Int), fun _ => True⟩ := rng1_nat (n := 2) (by decide)
      simp -failIfUnchanged only [rd, List.getElem?_cons_zero, List.getElem?_cons_succ, List.set_cons_zero, List.set_cons_succ, pb_M, M.assoc, run_bind, run_pure, run_lift, run_seq, run_liftTS, run_liftT, run_noX, run_nx, run_rtn, run_set2, run_gN, run_gT2, run_iteS, run_ite, run_tAnd, run_tOr, run_andD, run_orD, asB_p, liftS_p, seqM_nx, seqM_rt, liftT_p, noX_p, tOr_p, tAnd_p, andD_p, orD_p, notD_p, wipeE, it_tup, it_lst, frzL, Bool.not_true, Bool.not_false, Bool.false_eq_true, if_true, if_false, r2]
      refine run_loop (fun j ρ μ1 => ∃ (o5 : Option D) (c : Cell), ρ = [some (.scr (ns.map D.int)), some (.int (i : Int)), none, none, some (.ptr μ.length), o5, none] ∧ μ1 = μ ++ [c] ∧ DiceC (1 + 10000 * (j : Int)) c) ?_ ?_ ?_ ?_
      · intro _ _ _ _; trivial
      · exact ⟨_, _, rfl, rfl, by simpa using h0⟩
      · rintro j x ρ μ1 hx ⟨o5, c, rfl, rfl, hc⟩
        have hj : j < 2 := by
          rcases Nat.lt_or_ge j 2 with q | q
          · exact q
          · rw [List.getElem?_eq_none (by simpa using q)] at hx; cases hx
        simp -failIfUnchanged only [rd, List.getElem?_cons_zero, List.getElem?_cons_succ, List.set_cons_zero, List.set_cons_succ, pb_M, M.assoc, run_bind, run_pure, run_lift, run_seq, run_liftTS, run_liftT, run_noX, run_nx, run_rtn, run_set2, run_gN, run_gT2, run_iteS, run_ite, run_tAnd, run_tOr, run_andD, run_orD, asB_p, liftS_p, seqM_nx, seqM_rt, liftT_p, noX_p, tOr_p, tAnd_p, andD_p, orD_p, notD_p, wipeE, it_tup, it_lst, frzL, Bool.not_true, Bool.not_false, Bool.false_eq_true, if_true, if_false]
        refine right_p hc (by omega) (show (μ ++ [c])[μ.length]? = some c by simp) fun c1 h1 => ?_
        have st : (μ ++ [c]).set μ.length c1 = μ ++ [c1] := by simp
        simp -failIfUnchanged only [rd, List.getElem?_cons_zero, List.getElem?_cons_succ, List.set_cons_zero, List.set_cons_succ, pb_M, M.assoc, run_bind, run_pure, run_lift, run_seq, run_liftTS, run_liftT, run_noX, run_nx, run_rtn, run_set2, run_gN, run_gT2, run_iteS, run_ite, run_tAnd, run_tOr, run_andD, run_orD, asB_p, liftS_p, seqM_nx, seqM_rt, liftT_p, noX_p, tOr_p, tAnd_p, andD_p, orD_p, notD_p, wipeE, it_tup, it_lst, frzL, Bool.not_true, Bool.not_false, Bool.false_eq_true, if_true, if_false, st]
        exact ⟨_, c1, rfl, rfl, h1.up (by omega)⟩
      · rintro ρ μ1 ⟨o5, c, rfl, rfl, hc⟩
        exact ⟨_, _, _, rfl⟩
    · rintro ρ μ ⟨o1, o4, o5, rfl⟩
      exact ⟨_, _, _, rfl⟩
  · rintro ρ μ ⟨o1, o4, o5, rfl⟩
    refine run_res (x := .bl true) ?_ (fun _ => rfl)
    kernel_rfl
theorem plain : ∀ ns : List Int, ns.length ≤ 63 → ∃ μ, m_law [.scr (ns.map D.int)] [] = .ok (.bl true) μ := fun ns _ => by
  obtain ⟨d, μ, h, rfl⟩ := (plain0 ns).get
  exact ⟨μ, h⟩
end K07
namespace K07
open PySem PySem.Spec PyProof.Rows L2 LamX VL OwA
theorem all_mk {l : PySem.W.OpenLaw} {w : World} {K : PySem.W.Frag} {h : Heap} {mg : Str → Option Value} {fa : Addr} (X : K.In h) (G : h.Ns mainGlobals mg) (hfa : mg "law" = some (.ref fa))
  {C_KnownParts : Addr}
  {q_KnownParts_own_luck : Addr}
  {q_KnownParts_own_next_id : Addr}
  {q_KnownParts_own_things : Addr}
  {q_KnownParts_own_tick : Addr}
  {C_World : Addr}
  {q_World_own_ids : Addr}
  {q_World_own_luck : Addr}
  {q_World_own_next_id : Addr}
  {q_World_own_things : Addr}
  {q_World_own_tick : Addr}
  {f0 : Addr} {od0 an0 : Option Addr} {sl0 : Array (Option Value)} {oc0 kV0 dc0 pm0 cd0 ct0 : Value}
  {f1 : Addr} {od1 an1 : Option Addr} {sl1 : Array (Option Value)} {oc1 kV1 dc1 pm1 cd1 ct1 : Value}
  {f2 : Addr} {od2 an2 : Option Addr} {sl2 : Array (Option Value)} {oc2 kV2 dc2 pm2 cd2 ct2 : Value}
  {f3 : Addr} {od3 an3 : Option Addr} {sl3 : Array (Option Value)} {oc3 kV3 dc3 pm3 cd3 ct3 : Value}
  {f4 : Addr} {od4 an4 : Option Addr} {sl4 : Array (Option Value)} {oc4 kV4 dc4 pm4 cd4 ct4 : Value}
  {f5 : Addr} {od5 an5 : Option Addr} {sl5 : Array (Option Value)} {oc5 kV5 dc5 pm5 cd5 ct5 : Value}
  {f6 : Addr} {od6 an6 : Option Addr} {sl6 : Array (Option Value)} {oc6 kV6 dc6 pm6 cd6 ct6 : Value}
  {f7 : Addr} {od7 an7 : Option Addr} {sl7 : Array (Option Value)} {oc7 kV7 dc7 pm7 cd7 ct7 : Value}
  {f8 : Addr} {od8 an8 : Option Addr} {sl8 : Array (Option Value)} {oc8 kV8 dc8 pm8 cd8 ct8 : Value}
  {f9 : Addr} {od9 an9 : Option Addr} {sl9 : Array (Option Value)} {oc9 kV9 dc9 pm9 cd9 ct9 : Value}
  {f10 : Addr} {od10 an10 : Option Addr} {sl10 : Array (Option Value)} {oc10 kV10 dc10 pm10 cd10 ct10 : Value}
  {f11 : Addr} {od11 an11 : Option Addr} {sl11 : Array (Option Value)} {oc11 kV11 dc11 pm11 cd11 ct11 : Value}
  {f12 : Addr} {od12 an12 : Option Addr} {sl12 : Array (Option Value)} {oc12 kV12 dc12 pm12 cd12 ct12 : Value}
  {f13 : Addr} {od13 an13 : Option Addr} {sl13 : Array (Option Value)} {oc13 kV13 dc13 pm13 cd13 ct13 : Value}
  {f14 : Addr} {od14 an14 : Option Addr} {sl14 : Array (Option Value)} {oc14 kV14 dc14 pm14 cd14 ct14 : Value}
  {f15 : Addr} {od15 an15 : Option Addr} {sl15 : Array (Option Value)} {oc15 kV15 dc15 pm15 cd15 ct15 : Value} {pp15 : Addr} {rs15 : List Value}
  {f16 : Addr} {od16 an16 : Option Addr} {sl16 : Array (Option Value)} {oc16 kV16 dc16 pm16 cd16 ct16 : Value} {pp16 : Addr} {rs16 : List Value}
  {f17 : Addr} {od17 an17 : Option Addr} {sl17 : Array (Option Value)} {oc17 kV17 dc17 pm17 cd17 ct17 : Value} {pp17 : Addr} {rs17 : List Value}
  {f18 : Addr} {od18 an18 : Option Addr} {sl18 : Array (Option Value)} {oc18 kV18 dc18 pm18 cd18 ct18 : Value} {pp18 : Addr} {rs18 : List Value}
  {f19 : Addr} {od19 an19 : Option Addr} {sl19 : Array (Option Value)} {oc19 kV19 dc19 pm19 cd19 ct19 : Value}
  {f20 : Addr} {od20 an20 : Option Addr} {sl20 : Array (Option Value)} {oc20 kV20 dc20 pm20 cd20 ct20 : Value}
  {f21 : Addr} {od21 an21 : Option Addr} {sl21 : Array (Option Value)} {oc21 kV21 dc21 pm21 cd21 ct21 : Value}
  {f22 : Addr} {od22 an22 : Option Addr} {sl22 : Array (Option Value)} {oc22 kV22 dc22 pm22 cd22 ct22 : Value}
  {f23 : Addr} {od23 an23 : Option Addr} {sl23 : Array (Option Value)} {oc23 kV23 dc23 pm23 cd23 ct23 : Value}
  {f24 : Addr} {od24 an24 : Option Addr} {sl24 : Array (Option Value)} {oc24 kV24 dc24 pm24 cd24 ct24 : Value}
  {f25 : Addr} {od25 an25 : Option Addr} {sl25 : Array (Option Value)} {oc25 kV25 dc25 pm25 cd25 ct25 : Value}
  {f26 : Addr} {od26 an26 : Option Addr} {sl26 : Array (Option Value)} {oc26 kV26 dc26 pm26 cd26 ct26 : Value}
  {f27 : Addr} {od27 an27 : Option Addr} {sl27 : Array (Option Value)} {oc27 kV27 dc27 pm27 cd27 ct27 : Value}
  {f28 : Addr} {od28 an28 : Option Addr} {sl28 : Array (Option Value)} {oc28 kV28 dc28 pm28 cd28 ct28 : Value}
  {f29 : Addr} {od29 an29 : Option Addr} {sl29 : Array (Option Value)} {oc29 kV29 dc29 pm29 cd29 ct29 : Value}
  {f30 : Addr} {od30 an30 : Option Addr} {sl30 : Array (Option Value)} {oc30 kV30 dc30 pm30 cd30 ct30 : Value}
  {f31 : Addr} {od31 an31 : Option Addr} {sl31 : Array (Option Value)} {oc31 kV31 dc31 pm31 cd31 ct31 : Value}
  {f32 : Addr} {od32 an32 : Option Addr} {sl32 : Array (Option Value)} {oc32 kV32 dc32 pm32 cd32 ct32 : Value}
  {f33 : Addr} {od33 an33 : Option Addr} {sl33 : Array (Option Value)} {oc33 kV33 dc33 pm33 cd33 ct33 : Value}
  {f34 : Addr} {od34 an34 : Option Addr} {sl34 : Array (Option Value)} {oc34 kV34 dc34 pm34 cd34 ct34 : Value}
  {f35 : Addr} {od35 an35 : Option Addr} {sl35 : Array (Option Value)} {oc35 kV35 dc35 pm35 cd35 ct35 : Value}
  {f36 : Addr} {od36 an36 : Option Addr} {sl36 : Array (Option Value)} {oc36 kV36 dc36 pm36 cd36 ct36 : Value}
  {f37 : Addr} {od37 an37 : Option Addr} {sl37 : Array (Option Value)} {oc37 kV37 dc37 pm37 cd37 ct37 : Value}
  {f38 : Addr} {od38 an38 : Option Addr} {sl38 : Array (Option Value)} {oc38 kV38 dc38 pm38 cd38 ct38 : Value}
  {f39 : Addr} {od39 an39 : Option Addr} {sl39 : Array (Option Value)} {oc39 kV39 dc39 pm39 cd39 ct39 : Value}
  {f40 : Addr} {od40 an40 : Option Addr} {sl40 : Array (Option Value)} {oc40 kV40 dc40 pm40 cd40 ct40 : Value}
  {f41 : Addr} {od41 an41 : Option Addr} {sl41 : Array (Option Value)} {oc41 kV41 dc41 pm41 cd41 ct41 : Value}
  {f42 : Addr} {od42 an42 : Option Addr} {sl42 : Array (Option Value)} {oc42 kV42 dc42 pm42 cd42 ct42 : Value}
  {f43 : Addr} {od43 an43 : Option Addr} {sl43 : Array (Option Value)} {oc43 kV43 dc43 pm43 cd43 ct43 : Value}
  {f44 : Addr} {od44 an44 : Option Addr} {sl44 : Array (Option Value)} {oc44 kV44 dc44 pm44 cd44 ct44 : Value}
  {f45 : Addr} {od45 an45 : Option Addr} {sl45 : Array (Option Value)} {oc45 kV45 dc45 pm45 cd45 ct45 : Value}
  {f46 : Addr} {od46 an46 : Option Addr} {sl46 : Array (Option Value)} {oc46 kV46 dc46 pm46 cd46 ct46 : Value}
  {f47 : Addr} {od47 an47 : Option Addr} {sl47 : Array (Option Value)} {oc47 kV47 dc47 pm47 cd47 ct47 : Value}
  {f48 : Addr} {od48 an48 : Option Addr} {sl48 : Array (Option Value)} {oc48 kV48 dc48 pm48 cd48 ct48 : Value}
  {f49 : Addr} {od49 an49 : Option Addr} {sl49 : Array (Option Value)} {oc49 kV49 dc49 pm49 cd49 ct49 : Value}
  {f50 : Addr} {od50 an50 : Option Addr} {sl50 : Array (Option Value)} {oc50 kV50 dc50 pm50 cd50 ct50 : Value}
  {x_PlayError : Addr}
  {x_InvalidWorld : Addr}
  {x_UnknownName : Addr}
  {i_UnknownName cc_UnknownName cd_UnknownName : Addr} {od_UnknownName an_UnknownName cld_UnknownName cdd_UnknownName : Option Addr} {osl_UnknownName csl_UnknownName ccs_UnknownName : Array (Option Value)} {oc_UnknownName kV_UnknownName dc_UnknownName pm_UnknownName ct_UnknownName cl_UnknownName ccl_UnknownName : Value} {vs_UnknownName : Array Value} {file_UnknownName : Str} {tf_UnknownName : Tok}
  {t_GREATEST : Tok}
  {t_MODULUS : Tok}
  {t_MOST : Tok}
  {t_MAX_THINGS : Tok}
  {t_MOST_NUMBERS : Tok}
  {t_MOST_NAME : Tok}
  {t_MOST_FIGURES : Tok}
  {t_THING_PARTS : Tok}
  {t_LETTERS : Tok}
  {t_FIGURES : Tok}
  (nsC_KnownParts : PySem.W.nsIn K mainGlobals "KnownParts" = some (some (.ref C_KnownParts)))
  (nsC_World : PySem.W.nsIn K mainGlobals "World" = some (some (.ref C_World)))
  (a0 : PySem.W.nsIn K mainGlobals "_wall" = some (some (.ref f0))) (l0 : K.lookup f0 = some ⟨oc0, od0, .func (PySem.W.fnOf "_wall" "_wall" (defArgs s__wall) (defBody s__wall) (defScope s__wall) .none kV0 dc0 pm0 an0 cd0 ct0), sl0⟩) (c0 : PySem.W.codeIn K cd0 "_wall" = true) (k0 : PySem.W.keepIn K (.ref f0) = true)
  (a1 : PySem.W.nsIn K mainGlobals "is_whole" = some (some (.ref f1))) (l1 : K.lookup f1 = some ⟨oc1, od1, .func (PySem.W.fnOf "is_whole" "is_whole" (defArgs s_is_whole) (defBody s_is_whole) (defScope s_is_whole) .none kV1 dc1 pm1 an1 cd1 ct1), sl1⟩) (c1 : PySem.W.codeIn K cd1 "is_whole" = true) (k1 : PySem.W.keepIn K (.ref f1) = true)
  (a2 : PySem.W.nsIn K mainGlobals "is_short" = some (some (.ref f2))) (l2 : K.lookup f2 = some ⟨oc2, od2, .func (PySem.W.fnOf "is_short" "is_short" (defArgs s_is_short) (defBody s_is_short) (defScope s_is_short) .none kV2 dc2 pm2 an2 cd2 ct2), sl2⟩) (c2 : PySem.W.codeIn K cd2 "is_short" = true) (k2 : PySem.W.keepIn K (.ref f2) = true)
  (a3 : PySem.W.nsIn K mainGlobals "is_from" = some (some (.ref f3))) (l3 : K.lookup f3 = some ⟨oc3, od3, .func (PySem.W.fnOf "is_from" "is_from" (defArgs s_is_from) (defBody s_is_from) (defScope s_is_from) .none kV3 dc3 pm3 an3 cd3 ct3), sl3⟩) (c3 : PySem.W.codeIn K cd3 "is_from" = true) (k3 : PySem.W.keepIn K (.ref f3) = true)
  (a4 : PySem.W.nsIn K mainGlobals "is_tick" = some (some (.ref f4))) (l4 : K.lookup f4 = some ⟨oc4, od4, .func (PySem.W.fnOf "is_tick" "is_tick" (defArgs s_is_tick) (defBody s_is_tick) (defScope s_is_tick) .none kV4 dc4 pm4 an4 cd4 ct4), sl4⟩) (c4 : PySem.W.codeIn K cd4 "is_tick" = true) (k4 : PySem.W.keepIn K (.ref f4) = true)
  (a5 : PySem.W.nsIn K mainGlobals "is_luck_in" = some (some (.ref f5))) (l5 : K.lookup f5 = some ⟨oc5, od5, .func (PySem.W.fnOf "is_luck_in" "is_luck_in" (defArgs s_is_luck_in) (defBody s_is_luck_in) (defScope s_is_luck_in) .none kV5 dc5 pm5 an5 cd5 ct5), sl5⟩) (c5 : PySem.W.codeIn K cd5 "is_luck_in" = true) (k5 : PySem.W.keepIn K (.ref f5) = true)
  (a6 : PySem.W.nsIn K mainGlobals "is_luck" = some (some (.ref f6))) (l6 : K.lookup f6 = some ⟨oc6, od6, .func (PySem.W.fnOf "is_luck" "is_luck" (defArgs s_is_luck) (defBody s_is_luck) (defScope s_is_luck) .none kV6 dc6 pm6 an6 cd6 ct6), sl6⟩) (c6 : PySem.W.codeIn K cd6 "is_luck" = true) (k6 : PySem.W.keepIn K (.ref f6) = true)
  (a7 : PySem.W.nsIn K mainGlobals "is_number" = some (some (.ref f7))) (l7 : K.lookup f7 = some ⟨oc7, od7, .func (PySem.W.fnOf "is_number" "is_number" (defArgs s_is_number) (defBody s_is_number) (defScope s_is_number) .none kV7 dc7 pm7 an7 cd7 ct7), sl7⟩) (c7 : PySem.W.codeIn K cd7 "is_number" = true) (k7 : PySem.W.keepIn K (.ref f7) = true)
  (a8 : PySem.W.nsIn K mainGlobals "is_name_in" = some (some (.ref f8))) (l8 : K.lookup f8 = some ⟨oc8, od8, .func (PySem.W.fnOf "is_name_in" "is_name_in" (defArgs s_is_name_in) (defBody s_is_name_in) (defScope s_is_name_in) .none kV8 dc8 pm8 an8 cd8 ct8), sl8⟩) (c8 : PySem.W.codeIn K cd8 "is_name_in" = true) (k8 : PySem.W.keepIn K (.ref f8) = true)
  (a9 : PySem.W.nsIn K mainGlobals "are_numbers_in" = some (some (.ref f9))) (l9 : K.lookup f9 = some ⟨oc9, od9, .func (PySem.W.fnOf "are_numbers_in" "are_numbers_in" (defArgs s_are_numbers_in) (defBody s_are_numbers_in) (defScope s_are_numbers_in) .none kV9 dc9 pm9 an9 cd9 ct9), sl9⟩) (c9 : PySem.W.codeIn K cd9 "are_numbers_in" = true) (k9 : PySem.W.keepIn K (.ref f9) = true)
  (a10 : PySem.W.nsIn K mainGlobals "is_thing_in" = some (some (.ref f10))) (l10 : K.lookup f10 = some ⟨oc10, od10, .func (PySem.W.fnOf "is_thing_in" "is_thing_in" (defArgs s_is_thing_in) (defBody s_is_thing_in) (defScope s_is_thing_in) .none kV10 dc10 pm10 an10 cd10 ct10), sl10⟩) (c10 : PySem.W.codeIn K cd10 "is_thing_in" = true) (k10 : PySem.W.keepIn K (.ref f10) = true)
  (a11 : PySem.W.nsIn K mainGlobals "are_things_in" = some (some (.ref f11))) (l11 : K.lookup f11 = some ⟨oc11, od11, .func (PySem.W.fnOf "are_things_in" "are_things_in" (defArgs s_are_things_in) (defBody s_are_things_in) (defScope s_are_things_in) .none kV11 dc11 pm11 an11 cd11 ct11), sl11⟩) (c11 : PySem.W.codeIn K cd11 "are_things_in" = true) (k11 : PySem.W.keepIn K (.ref f11) = true)
  (a12 : PySem.W.findIn K (.ref C_KnownParts) "__init__" = some (some (.ref f12))) (i12 : PySem.W.isFn K (.ref f12) = true) (l12 : K.lookup f12 = some ⟨oc12, od12, .func (PySem.W.fnOf "__init__" "KnownParts.__init__" (defArgs s_KnownParts_init) (defBody s_KnownParts_init) (defScope s_KnownParts_init) .none kV12 dc12 pm12 an12 cd12 ct12), sl12⟩) (c12 : PySem.W.codeIn K cd12 "KnownParts.__init__" = true) (k12 : PySem.W.keepIn K (.ref f12) = true)
  (a13 : PySem.W.nsIn K mainGlobals "parts_told" = some (some (.ref f13))) (l13 : K.lookup f13 = some ⟨oc13, od13, .func (PySem.W.fnOf "parts_told" "parts_told" (defArgs s_parts_told) (defBody s_parts_told) (defScope s_parts_told) .none kV13 dc13 pm13 an13 cd13 ct13), sl13⟩) (c13 : PySem.W.codeIn K cd13 "parts_told" = true) (k13 : PySem.W.keepIn K (.ref f13) = true)
  (a14 : PySem.W.findIn K (.ref C_World) "__init__" = some (some (.ref f14))) (i14 : PySem.W.isFn K (.ref f14) = true) (l14 : K.lookup f14 = some ⟨oc14, od14, .func (PySem.W.fnOf "__init__" "World.__init__" (defArgs s_World_init) (defBody s_World_init) (defScope s_World_init) .none kV14 dc14 pm14 an14 cd14 ct14), sl14⟩) (c14 : PySem.W.codeIn K cd14 "World.__init__" = true) (k14 : PySem.W.keepIn K (.ref f14) = true)
  (a15 : PySem.W.findIn K (.ref C_World) "tick" = some (some (.ref pp15))) (g15 : PySem.W.specialIn K (.ref pp15) "__get__" = some (some (.builtin "property.__get__"))) (t15 : PySem.W.takesIn K (.ref pp15) = some true) (r15 : PySem.W.recIn K pp15 "property" = some (.ref f15 :: rs15)) (l15 : K.lookup f15 = some ⟨oc15, od15, .func (PySem.W.fnOf "tick" "World.tick" (defArgs s_World_tick) (defBody s_World_tick) (defScope s_World_tick) .none kV15 dc15 pm15 an15 cd15 ct15), sl15⟩) (c15 : PySem.W.codeIn K cd15 "World.tick" = true) (k15 : PySem.W.keepIn K (.ref f15) = true)
  (a16 : PySem.W.findIn K (.ref C_World) "next_id" = some (some (.ref pp16))) (g16 : PySem.W.specialIn K (.ref pp16) "__get__" = some (some (.builtin "property.__get__"))) (t16 : PySem.W.takesIn K (.ref pp16) = some true) (r16 : PySem.W.recIn K pp16 "property" = some (.ref f16 :: rs16)) (l16 : K.lookup f16 = some ⟨oc16, od16, .func (PySem.W.fnOf "next_id" "World.next_id" (defArgs s_World_next_id) (defBody s_World_next_id) (defScope s_World_next_id) .none kV16 dc16 pm16 an16 cd16 ct16), sl16⟩) (c16 : PySem.W.codeIn K cd16 "World.next_id" = true) (k16 : PySem.W.keepIn K (.ref f16) = true)
  (a17 : PySem.W.findIn K (.ref C_World) "luck" = some (some (.ref pp17))) (g17 : PySem.W.specialIn K (.ref pp17) "__get__" = some (some (.builtin "property.__get__"))) (t17 : PySem.W.takesIn K (.ref pp17) = some true) (r17 : PySem.W.recIn K pp17 "property" = some (.ref f17 :: rs17)) (l17 : K.lookup f17 = some ⟨oc17, od17, .func (PySem.W.fnOf "luck" "World.luck" (defArgs s_World_luck) (defBody s_World_luck) (defScope s_World_luck) .none kV17 dc17 pm17 an17 cd17 ct17), sl17⟩) (c17 : PySem.W.codeIn K cd17 "World.luck" = true) (k17 : PySem.W.keepIn K (.ref f17) = true)
  (a18 : PySem.W.findIn K (.ref C_World) "things" = some (some (.ref pp18))) (g18 : PySem.W.specialIn K (.ref pp18) "__get__" = some (some (.builtin "property.__get__"))) (t18 : PySem.W.takesIn K (.ref pp18) = some true) (r18 : PySem.W.recIn K pp18 "property" = some (.ref f18 :: rs18)) (l18 : K.lookup f18 = some ⟨oc18, od18, .func (PySem.W.fnOf "things" "World.things" (defArgs s_World_things) (defBody s_World_things) (defScope s_World_things) .none kV18 dc18 pm18 an18 cd18 ct18), sl18⟩) (c18 : PySem.W.codeIn K cd18 "World.things" = true) (k18 : PySem.W.keepIn K (.ref f18) = true)
  (a19 : PySem.W.findIn K (.ref C_World) "ids" = some (some (.ref f19))) (i19 : PySem.W.isFn K (.ref f19) = true) (l19 : K.lookup f19 = some ⟨oc19, od19, .func (PySem.W.fnOf "ids" "World.ids" (defArgs s_World_ids) (defBody s_World_ids) (defScope s_World_ids) .none kV19 dc19 pm19 an19 cd19 ct19), sl19⟩) (c19 : PySem.W.codeIn K cd19 "World.ids" = true) (k19 : PySem.W.keepIn K (.ref f19) = true)
  (a20 : PySem.W.findIn K (.ref C_World) "kind_of" = some (some (.ref f20))) (i20 : PySem.W.isFn K (.ref f20) = true) (l20 : K.lookup f20 = some ⟨oc20, od20, .func (PySem.W.fnOf "kind_of" "World.kind_of" (defArgs s_World_kind_of) (defBody s_World_kind_of) (defScope s_World_kind_of) .none kV20 dc20 pm20 an20 cd20 ct20), sl20⟩) (c20 : PySem.W.codeIn K cd20 "World.kind_of" = true) (k20 : PySem.W.keepIn K (.ref f20) = true)
  (a21 : PySem.W.findIn K (.ref C_World) "numbers" = some (some (.ref f21))) (i21 : PySem.W.isFn K (.ref f21) = true) (l21 : K.lookup f21 = some ⟨oc21, od21, .func (PySem.W.fnOf "numbers" "World.numbers" (defArgs s_World_numbers) (defBody s_World_numbers) (defScope s_World_numbers) .none kV21 dc21 pm21 an21 cd21 ct21), sl21⟩) (c21 : PySem.W.codeIn K cd21 "World.numbers" = true) (k21 : PySem.W.keepIn K (.ref f21) = true)
  (a22 : PySem.W.findIn K (.ref C_World) "__contains__" = some (some (.ref f22))) (i22 : PySem.W.isFn K (.ref f22) = true) (l22 : K.lookup f22 = some ⟨oc22, od22, .func (PySem.W.fnOf "__contains__" "World.__contains__" (defArgs s_World_contains) (defBody s_World_contains) (defScope s_World_contains) .none kV22 dc22 pm22 an22 cd22 ct22), sl22⟩) (c22 : PySem.W.codeIn K cd22 "World.__contains__" = true) (k22 : PySem.W.keepIn K (.ref f22) = true)
  (a23 : PySem.W.findIn K (.ref C_World) "__len__" = some (some (.ref f23))) (i23 : PySem.W.isFn K (.ref f23) = true) (l23 : K.lookup f23 = some ⟨oc23, od23, .func (PySem.W.fnOf "__len__" "World.__len__" (defArgs s_World_len) (defBody s_World_len) (defScope s_World_len) .none kV23 dc23 pm23 an23 cd23 ct23), sl23⟩) (c23 : PySem.W.codeIn K cd23 "World.__len__" = true) (k23 : PySem.W.keepIn K (.ref f23) = true)
  (a24 : PySem.W.findIn K (.ref C_World) "__eq__" = some (some (.ref f24))) (i24 : PySem.W.isFn K (.ref f24) = true) (l24 : K.lookup f24 = some ⟨oc24, od24, .func (PySem.W.fnOf "__eq__" "World.__eq__" (defArgs s_World_eq) (defBody s_World_eq) (defScope s_World_eq) .none kV24 dc24 pm24 an24 cd24 ct24), sl24⟩) (c24 : PySem.W.codeIn K cd24 "World.__eq__" = true) (k24 : PySem.W.keepIn K (.ref f24) = true)
  (a25 : PySem.W.findIn K (.ref C_World) "__str__" = some (some (.ref f25))) (i25 : PySem.W.isFn K (.ref f25) = true) (l25 : K.lookup f25 = some ⟨oc25, od25, .func (PySem.W.fnOf "__str__" "World.__str__" (defArgs s_World_str) (defBody s_World_str) (defScope s_World_str) .none kV25 dc25 pm25 an25 cd25 ct25), sl25⟩) (c25 : PySem.W.codeIn K cd25 "World.__str__" = true) (k25 : PySem.W.keepIn K (.ref f25) = true)
  (a26 : PySem.W.nsIn K mainGlobals "made_world" = some (some (.ref f26))) (l26 : K.lookup f26 = some ⟨oc26, od26, .func (PySem.W.fnOf "made_world" "made_world" (defArgs s_made_world) (defBody s_made_world) (defScope s_made_world) .none kV26 dc26 pm26 an26 cd26 ct26), sl26⟩) (c26 : PySem.W.codeIn K cd26 "made_world" = true) (k26 : PySem.W.keepIn K (.ref f26) = true)
  (a27 : PySem.W.nsIn K mainGlobals "thing_at" = some (some (.ref f27))) (l27 : K.lookup f27 = some ⟨oc27, od27, .func (PySem.W.fnOf "thing_at" "thing_at" (defArgs s_thing_at) (defBody s_thing_at) (defScope s_thing_at) .none kV27 dc27 pm27 an27 cd27 ct27), sl27⟩) (c27 : PySem.W.codeIn K cd27 "thing_at" = true) (k27 : PySem.W.keepIn K (.ref f27) = true)
  (a28 : PySem.W.nsIn K mainGlobals "thing_text" = some (some (.ref f28))) (l28 : K.lookup f28 = some ⟨oc28, od28, .func (PySem.W.fnOf "thing_text" "thing_text" (defArgs s_thing_text) (defBody s_thing_text) (defScope s_thing_text) .none kV28 dc28 pm28 an28 cd28 ct28), sl28⟩) (c28 : PySem.W.codeIn K cd28 "thing_text" = true) (k28 : PySem.W.keepIn K (.ref f28) = true)
  (a29 : PySem.W.nsIn K mainGlobals "text_of_world" = some (some (.ref f29))) (l29 : K.lookup f29 = some ⟨oc29, od29, .func (PySem.W.fnOf "text_of_world" "text_of_world" (defArgs s_text_of_world) (defBody s_text_of_world) (defScope s_text_of_world) .none kV29 dc29 pm29 an29 cd29 ct29), sl29⟩) (c29 : PySem.W.codeIn K cd29 "text_of_world" = true) (k29 : PySem.W.keepIn K (.ref f29) = true)
  (a30 : PySem.W.nsIn K mainGlobals "integer_in" = some (some (.ref f30))) (l30 : K.lookup f30 = some ⟨oc30, od30, .func (PySem.W.fnOf "integer_in" "integer_in" (defArgs s_integer_in) (defBody s_integer_in) (defScope s_integer_in) .none kV30 dc30 pm30 an30 cd30 ct30), sl30⟩) (c30 : PySem.W.codeIn K cd30 "integer_in" = true) (k30 : PySem.W.keepIn K (.ref f30) = true)
  (a31 : PySem.W.nsIn K mainGlobals "thing_in" = some (some (.ref f31))) (l31 : K.lookup f31 = some ⟨oc31, od31, .func (PySem.W.fnOf "thing_in" "thing_in" (defArgs s_thing_in) (defBody s_thing_in) (defScope s_thing_in) .none kV31 dc31 pm31 an31 cd31 ct31), sl31⟩) (c31 : PySem.W.codeIn K cd31 "thing_in" = true) (k31 : PySem.W.keepIn K (.ref f31) = true)
  (a32 : PySem.W.nsIn K mainGlobals "world_in" = some (some (.ref f32))) (l32 : K.lookup f32 = some ⟨oc32, od32, .func (PySem.W.fnOf "world_in" "world_in" (defArgs s_world_in) (defBody s_world_in) (defScope s_world_in) .none kV32 dc32 pm32 an32 cd32 ct32), sl32⟩) (c32 : PySem.W.codeIn K cd32 "world_in" = true) (k32 : PySem.W.keepIn K (.ref f32) = true)
  (a33 : PySem.W.nsIn K mainGlobals "require_any_world" = some (some (.ref f33))) (l33 : K.lookup f33 = some ⟨oc33, od33, .func (PySem.W.fnOf "require_any_world" "require_any_world" (defArgs s_require_any_world) (defBody s_require_any_world) (defScope s_require_any_world) .none kV33 dc33 pm33 an33 cd33 ct33), sl33⟩) (c33 : PySem.W.codeIn K cd33 "require_any_world" = true) (k33 : PySem.W.keepIn K (.ref f33) = true)
  (a34 : PySem.W.nsIn K mainGlobals "known_thing" = some (some (.ref f34))) (l34 : K.lookup f34 = some ⟨oc34, od34, .func (PySem.W.fnOf "known_thing" "known_thing" (defArgs s_known_thing) (defBody s_known_thing) (defScope s_known_thing) .none kV34 dc34 pm34 an34 cd34 ct34), sl34⟩) (c34 : PySem.W.codeIn K cd34 "known_thing" = true) (k34 : PySem.W.keepIn K (.ref f34) = true)
  (a35 : PySem.W.nsIn K mainGlobals "world_text" = some (some (.ref f35))) (l35 : K.lookup f35 = some ⟨oc35, od35, .func (PySem.W.fnOf "world_text" "world_text" (defArgs s_world_text) (defBody s_world_text) (defScope s_world_text) .none kV35 dc35 pm35 an35 cd35 ct35), sl35⟩) (c35 : PySem.W.codeIn K cd35 "world_text" = true) (k35 : PySem.W.keepIn K (.ref f35) = true)
  (a36 : PySem.W.nsIn K mainGlobals "read_world" = some (some (.ref f36))) (l36 : K.lookup f36 = some ⟨oc36, od36, .func (PySem.W.fnOf "read_world" "read_world" (defArgs s_read_world) (defBody s_read_world) (defScope s_read_world) .none kV36 dc36 pm36 an36 cd36 ct36), sl36⟩) (c36 : PySem.W.codeIn K cd36 "read_world" = true) (k36 : PySem.W.keepIn K (.ref f36) = true)
  (a37 : PySem.W.nsIn K mainGlobals "_law_dice" = some (some (.ref f37))) (l37 : K.lookup f37 = some ⟨oc37, od37, .func (PySem.W.fnOf "_law_dice" "_law_dice" (defArgs s_l_dice) (defBody s_l_dice) (defScope s_l_dice) .none kV37 dc37 pm37 an37 cd37 ct37), sl37⟩) (c37 : PySem.W.codeIn K cd37 "_law_dice" = true) (k37 : PySem.W.keepIn K (.ref f37) = true)
  (a38 : PySem.W.nsIn K mainGlobals "_law_roll" = some (some (.ref f38))) (l38 : K.lookup f38 = some ⟨oc38, od38, .func (PySem.W.fnOf "_law_roll" "_law_roll" (defArgs s_l_roll) (defBody s_l_roll) (defScope s_l_roll) .none kV38 dc38 pm38 an38 cd38 ct38), sl38⟩) (c38 : PySem.W.codeIn K cd38 "_law_roll" = true) (k38 : PySem.W.keepIn K (.ref f38) = true)
  (a39 : PySem.W.nsIn K mainGlobals "_law_pick" = some (some (.ref f39))) (l39 : K.lookup f39 = some ⟨oc39, od39, .func (PySem.W.fnOf "_law_pick" "_law_pick" (defArgs s_l_pick) (defBody s_l_pick) (defScope s_l_pick) .none kV39 dc39 pm39 an39 cd39 ct39), sl39⟩) (c39 : PySem.W.codeIn K cd39 "_law_pick" = true) (k39 : PySem.W.keepIn K (.ref f39) = true)
  (a40 : PySem.W.nsIn K mainGlobals "_law_near" = some (some (.ref f40))) (l40 : K.lookup f40 = some ⟨oc40, od40, .func (PySem.W.fnOf "_law_near" "_law_near" (defArgs s_l_near) (defBody s_l_near) (defScope s_l_near) .none kV40 dc40 pm40 an40 cd40 ct40), sl40⟩) (c40 : PySem.W.codeIn K cd40 "_law_near" = true) (k40 : PySem.W.keepIn K (.ref f40) = true)
  (a41 : PySem.W.nsIn K mainGlobals "_law_wd_plain" = some (some (.ref f41))) (l41 : K.lookup f41 = some ⟨oc41, od41, .func (PySem.W.fnOf "_law_wd_plain" "_law_wd_plain" (defArgs s_l_wd_plain) (defBody s_l_wd_plain) (defScope s_l_wd_plain) .none kV41 dc41 pm41 an41 cd41 ct41), sl41⟩) (c41 : PySem.W.codeIn K cd41 "_law_wd_plain" = true) (k41 : PySem.W.keepIn K (.ref f41) = true)
  (a42 : PySem.W.nsIn K mainGlobals "_law_world_drawn" = some (some (.ref f42))) (l42 : K.lookup f42 = some ⟨oc42, od42, .func (PySem.W.fnOf "_law_world_drawn" "_law_world_drawn" (defArgs s_l_world_drawn) (defBody s_l_world_drawn) (defScope s_l_world_drawn) .none kV42 dc42 pm42 an42 cd42 ct42), sl42⟩) (c42 : PySem.W.codeIn K cd42 "_law_world_drawn" = true) (k42 : PySem.W.keepIn K (.ref f42) = true)
  (a43 : PySem.W.nsIn K mainGlobals "_law_written" = some (some (.ref f43))) (l43 : K.lookup f43 = some ⟨oc43, od43, .func (PySem.W.fnOf "_law_written" "_law_written" (defArgs s_l_written) (defBody s_l_written) (defScope s_l_written) .none kV43 dc43 pm43 an43 cd43 ct43), sl43⟩) (c43 : PySem.W.codeIn K cd43 "_law_written" = true) (k43 : PySem.W.keepIn K (.ref f43) = true)
  (a44 : PySem.W.nsIn K mainGlobals "_law_integer" = some (some (.ref f44))) (l44 : K.lookup f44 = some ⟨oc44, od44, .func (PySem.W.fnOf "_law_integer" "_law_integer" (defArgs s_l_integer) (defBody s_l_integer) (defScope s_l_integer) .none kV44 dc44 pm44 an44 cd44 ct44), sl44⟩) (c44 : PySem.W.codeIn K cd44 "_law_integer" = true) (k44 : PySem.W.keepIn K (.ref f44) = true)
  (a45 : PySem.W.nsIn K mainGlobals "_law_read_thing" = some (some (.ref f45))) (l45 : K.lookup f45 = some ⟨oc45, od45, .func (PySem.W.fnOf "_law_read_thing" "_law_read_thing" (defArgs s_l_read_thing) (defBody s_l_read_thing) (defScope s_l_read_thing) .none kV45 dc45 pm45 an45 cd45 ct45), sl45⟩) (c45 : PySem.W.codeIn K cd45 "_law_read_thing" = true) (k45 : PySem.W.keepIn K (.ref f45) = true)
  (a46 : PySem.W.nsIn K mainGlobals "_law_read" = some (some (.ref f46))) (l46 : K.lookup f46 = some ⟨oc46, od46, .func (PySem.W.fnOf "_law_read" "_law_read" (defArgs s_l_read) (defBody s_l_read) (defScope s_l_read) .none kV46 dc46 pm46 an46 cd46 ct46), sl46⟩) (c46 : PySem.W.codeIn K cd46 "_law_read" = true) (k46 : PySem.W.keepIn K (.ref f46) = true)
  (a47 : PySem.W.nsIn K mainGlobals "_law_near_texts" = some (some (.ref f47))) (l47 : K.lookup f47 = some ⟨oc47, od47, .func (PySem.W.fnOf "_law_near_texts" "_law_near_texts" (defArgs s_l_near_texts) (defBody s_l_near_texts) (defScope s_l_near_texts) .none kV47 dc47 pm47 an47 cd47 ct47), sl47⟩) (c47 : PySem.W.codeIn K cd47 "_law_near_texts" = true) (k47 : PySem.W.keepIn K (.ref f47) = true)
  (a48 : PySem.W.nsIn K mainGlobals "_law_told" = some (some (.ref f48))) (l48 : K.lookup f48 = some ⟨oc48, od48, .func (PySem.W.fnOf "_law_told" "_law_told" (defArgs s_l_told) (defBody s_l_told) (defScope s_l_told) .none kV48 dc48 pm48 an48 cd48 ct48), sl48⟩) (c48 : PySem.W.codeIn K cd48 "_law_told" = true) (k48 : PySem.W.keepIn K (.ref f48) = true)
  (a49 : PySem.W.nsIn K mainGlobals "_law_right" = some (some (.ref f49))) (l49 : K.lookup f49 = some ⟨oc49, od49, .func (PySem.W.fnOf "_law_right" "_law_right" (defArgs s_l_right) (defBody s_l_right) (defScope s_l_right) .none kV49 dc49 pm49 an49 cd49 ct49), sl49⟩) (c49 : PySem.W.codeIn K cd49 "_law_right" = true) (k49 : PySem.W.keepIn K (.ref f49) = true)
  (a50 : PySem.W.nsIn K mainGlobals "law" = some (some (.ref f50))) (l50 : K.lookup f50 = some ⟨oc50, od50, .func (PySem.W.fnOf "law" "law" (defArgs s_law) (defBody s_law) (defScope s_law) .none kV50 dc50 pm50 an50 cd50 ct50), sl50⟩) (c50 : PySem.W.codeIn K cd50 "law" = true) (k50 : PySem.W.keepIn K (.ref f50) = true)
  (opq : PySem.W.nsIn K PySem.cStatics "thirdparty.any" = some none)
  (nsup : PySem.W.nsIn K mainGlobals "super" = some none)
  (tps : (l.prog.main.scope.names.lookup ("super" : Str)).isSome = false)
  (gx_PlayError : PySem.W.nsIn K mainGlobals "PlayError" = some (some (.ref x_PlayError)))
  (kx_PlayError : PySem.W.keepIn K (.ref x_PlayError) = true)
  (bx_PlayError : PySem.W.subIn K (.ref x_PlayError) (.type "BaseException") = some true)
  (tx_PlayError : PySem.W.typeIn K (.ref x_PlayError) = some (.type "type"))
  (ix_PlayError : PySem.W.isClsIn K x_PlayError = true)
  (xc_PlayError : PySem.W.excIn K x_PlayError [.type "ValueError", .type "Exception", .type "BaseException", .type "object"] "ValueError.__new__" = true)
  (gx_InvalidWorld : PySem.W.nsIn K mainGlobals "InvalidWorld" = some (some (.ref x_InvalidWorld)))
  (kx_InvalidWorld : PySem.W.keepIn K (.ref x_InvalidWorld) = true)
  (bx_InvalidWorld : PySem.W.subIn K (.ref x_InvalidWorld) (.type "BaseException") = some true)
  (tx_InvalidWorld : PySem.W.typeIn K (.ref x_InvalidWorld) = some (.type "type"))
  (ix_InvalidWorld : PySem.W.isClsIn K x_InvalidWorld = true)
  (xc_InvalidWorld : PySem.W.excIn K x_InvalidWorld [.type "ValueError", .type "Exception", .type "BaseException", .type "object"] "ValueError.__new__" = true)
  (gx_UnknownName : PySem.W.nsIn K mainGlobals "UnknownName" = some (some (.ref x_UnknownName)))
  (kx_UnknownName : PySem.W.keepIn K (.ref x_UnknownName) = true)
  (bx_UnknownName : PySem.W.subIn K (.ref x_UnknownName) (.type "BaseException") = some true)
  (tx_UnknownName : PySem.W.typeIn K (.ref x_UnknownName) = some (.type "type"))
  (ix_UnknownName : PySem.W.isClsIn K x_UnknownName = true)
  (hB_UnknownName : PySem.W.subIn K (.ref x_UnknownName) (.type "KeyError") = some true)
  (ei_UnknownName : PySem.W.excInitIn K x_UnknownName [.type "KeyError", .type "LookupError", .type "Exception", .type "BaseException", .type "object"] "LookupError.__new__" = true)
  (eo_UnknownName : PySem.W.excOver K x_UnknownName [.type "KeyError", .type "LookupError", .type "Exception", .type "BaseException", .type "object"] = true)
  (sa_UnknownName : PySem.W.findIn K (.ref x_UnknownName) "__setattr__" = some (some (.builtin "object.__setattr__")))
  (no_UnknownName : PySem.W.takerIn K x_UnknownName "wanted" = some none)
  (nf_UnknownName : PySem.W.findIn K (.ref x_UnknownName) "wanted" = some none)
  (ic_UnknownName : PySem.W.findIn K (.ref x_UnknownName) "__init__" = some (some (.ref i_UnknownName)))
  (tc_UnknownName : PySem.W.typeIn K (.ref i_UnknownName) = some (.type "function"))
  (hd_UnknownName : PySem.W.hasDictIn K x_UnknownName = true)
  (cm_UnknownName : PySem.W.mroIn K x_UnknownName (.ref x_UnknownName) = some true)
  (su_UnknownName : PySem.W.ks_superIn K x_UnknownName x_UnknownName "__init__" = some (some (.builtin "KeyError.__init__")))
  (ga_UnknownName : PySem.W.findIn K (.ref x_UnknownName) "__getattribute__" = some (some (.builtin "BaseException.__getattribute__")))
  (gg_UnknownName : PySem.W.findIn K (.ref x_UnknownName) "__getattr__" = some none)
  (lk_UnknownName : K.lookup i_UnknownName = some ⟨oc_UnknownName, od_UnknownName, .func (PySem.W.fnX "__init__" "UnknownName.__init__" (defArgs (inClass (topS 4) 0)) (defBody (inClass (topS 4) 0)) (defScope (inClass (topS 4) 0)) [("__class__", cc_UnknownName)] .none kV_UnknownName dc_UnknownName pm_UnknownName an_UnknownName (.ref cd_UnknownName) ct_UnknownName), osl_UnknownName⟩)
  (co_UnknownName : PySem.W.codeIn K (.ref cd_UnknownName) "UnknownName.__init__" = true)
  (ck_UnknownName : K.lookup cc_UnknownName = some ⟨cl_UnknownName, cld_UnknownName, .cell (some (.ref x_UnknownName)), csl_UnknownName⟩)
  (cj_UnknownName : K.lookup cd_UnknownName = some ⟨ccl_UnknownName, cdd_UnknownName, .fields vs_UnknownName, ccs_UnknownName⟩)
  (vf_UnknownName : vs_UnknownName[2]? = some (.str file_UnknownName tf_UnknownName))
  (fm_UnknownName : ((l.prog.main.file : Str) == file_UnknownName) = true)
  (sx_PlayError_PlayError : PySem.W.subIn K (.ref x_PlayError) (.ref x_PlayError) = some true)
  (sx_PlayError_InvalidWorld : PySem.W.subIn K (.ref x_PlayError) (.ref x_InvalidWorld) = some false)
  (sx_PlayError_UnknownName : PySem.W.subIn K (.ref x_PlayError) (.ref x_UnknownName) = some false)
  (sx_InvalidWorld_PlayError : PySem.W.subIn K (.ref x_InvalidWorld) (.ref x_PlayError) = some true)
  (sx_InvalidWorld_InvalidWorld : PySem.W.subIn K (.ref x_InvalidWorld) (.ref x_InvalidWorld) = some true)
  (sx_InvalidWorld_UnknownName : PySem.W.subIn K (.ref x_InvalidWorld) (.ref x_UnknownName) = some false)
  (sx_UnknownName_PlayError : PySem.W.subIn K (.ref x_UnknownName) (.ref x_PlayError) = some false)
  (sx_UnknownName_InvalidWorld : PySem.W.subIn K (.ref x_UnknownName) (.ref x_InvalidWorld) = some false)
  (sx_UnknownName_UnknownName : PySem.W.subIn K (.ref x_UnknownName) (.ref x_UnknownName) = some true)
  (z_abs : PySem.W.nsIn K mainGlobals "abs" = some none)
  (z_all : PySem.W.nsIn K mainGlobals "all" = some none)
  (z_bool : PySem.W.nsIn K mainGlobals "bool" = some none)
  (z_int : PySem.W.nsIn K mainGlobals "int" = some none)
  (z_isinstance : PySem.W.nsIn K mainGlobals "isinstance" = some none)
  (z_len : PySem.W.nsIn K mainGlobals "len" = some none)
  (z_list : PySem.W.nsIn K mainGlobals "list" = some none)
  (z_max : PySem.W.nsIn K mainGlobals "max" = some none)
  (z_min : PySem.W.nsIn K mainGlobals "min" = some none)
  (z_range : PySem.W.nsIn K mainGlobals "range" = some none)
  (z_str : PySem.W.nsIn K mainGlobals "str" = some none)
  (z_tuple : PySem.W.nsIn K mainGlobals "tuple" = some none)
  (z_zip : PySem.W.nsIn K mainGlobals "zip" = some none)
  (z_GREATEST : PySem.W.nsIn K mainGlobals "GREATEST" = some (some (.int (10 ^ 60) t_GREATEST)))
  (z_MODULUS : PySem.W.nsIn K mainGlobals "MODULUS" = some (some (.int 999999937 t_MODULUS)))
  (z_MOST : PySem.W.nsIn K mainGlobals "MOST" = some (some (.int 1000000000 t_MOST)))
  (z_MAX_THINGS : PySem.W.nsIn K mainGlobals "MAX_THINGS" = some (some (.int 12 t_MAX_THINGS)))
  (z_MOST_NUMBERS : PySem.W.nsIn K mainGlobals "MOST_NUMBERS" = some (some (.int 8 t_MOST_NUMBERS)))
  (z_MOST_NAME : PySem.W.nsIn K mainGlobals "MOST_NAME" = some (some (.int 8 t_MOST_NAME)))
  (z_MOST_FIGURES : PySem.W.nsIn K mainGlobals "MOST_FIGURES" = some (some (.int 4000 t_MOST_FIGURES)))
  (z_THING_PARTS : PySem.W.nsIn K mainGlobals "THING_PARTS" = some (some (.int 3 t_THING_PARTS)))
  (z_LETTERS : PySem.W.nsIn K mainGlobals "LETTERS" = some (some (.str "abcdefghijklmnopqrstuvwxyz" t_LETTERS)))
  (z_FIGURES : PySem.W.nsIn K mainGlobals "FIGURES" = some (some (.str "0123456789" t_FIGURES)))
  (pg_KnownParts : PySem.W.plainGet K C_KnownParts Str.empty = true)
  (ic_KnownParts : PySem.W.isClsIn K C_KnownParts = true)
  (po_KnownParts : PySem.W.plainOver K C_KnownParts = true)
  (sa_KnownParts : PySem.W.findIn K (.ref C_KnownParts) "__setattr__" = some (some (.builtin "object.__setattr__")))
  (mk_KnownParts : PySem.W.makesIn K C_KnownParts = true)
  (kc_KnownParts : PySem.W.keepIn K (.ref C_KnownParts) = true)
  (ca_KnownParts : PySem.W.findIn K (.ref C_KnownParts) "__class__" = some (some (.builtin "object.__class__")))
  (cn_KnownParts : PySem.W.specialIn K (.builtin "object.__class__") "__get__" = some (some (.builtin "getset_descriptor.__get__")))
  (ct_KnownParts : PySem.W.takesIn K (.builtin "object.__class__") = some true)
  (cm_KnownParts : PySem.W.mroIn K C_KnownParts (.type "object") = some true)
  (ty_KnownParts : PySem.W.typeIn K (.ref C_KnownParts) = some (.type "type"))
  (sat_own_luck_KnownParts : PySem.W.findIn K (.ref C_KnownParts) "own_luck" = some (some (.ref q_KnownParts_own_luck)))
  (sge_own_luck_KnownParts : PySem.W.specialIn K (.ref q_KnownParts_own_luck) "__get__" = some (some (.builtin "member_descriptor.__get__")))
  (stk_own_luck_KnownParts : PySem.W.takesIn K (.ref q_KnownParts_own_luck) = some true)
  (sty_own_luck_KnownParts : PySem.W.typeIn K (.ref q_KnownParts_own_luck) = some (.type "member_descriptor"))
  (six_own_luck_KnownParts : PySem.W.slotIn K q_KnownParts_own_luck C_KnownParts = some 0)
  (sat_own_next_id_KnownParts : PySem.W.findIn K (.ref C_KnownParts) "own_next_id" = some (some (.ref q_KnownParts_own_next_id)))
  (sge_own_next_id_KnownParts : PySem.W.specialIn K (.ref q_KnownParts_own_next_id) "__get__" = some (some (.builtin "member_descriptor.__get__")))
  (stk_own_next_id_KnownParts : PySem.W.takesIn K (.ref q_KnownParts_own_next_id) = some true)
  (sty_own_next_id_KnownParts : PySem.W.typeIn K (.ref q_KnownParts_own_next_id) = some (.type "member_descriptor"))
  (six_own_next_id_KnownParts : PySem.W.slotIn K q_KnownParts_own_next_id C_KnownParts = some 1)
  (sat_own_things_KnownParts : PySem.W.findIn K (.ref C_KnownParts) "own_things" = some (some (.ref q_KnownParts_own_things)))
  (sge_own_things_KnownParts : PySem.W.specialIn K (.ref q_KnownParts_own_things) "__get__" = some (some (.builtin "member_descriptor.__get__")))
  (stk_own_things_KnownParts : PySem.W.takesIn K (.ref q_KnownParts_own_things) = some true)
  (sty_own_things_KnownParts : PySem.W.typeIn K (.ref q_KnownParts_own_things) = some (.type "member_descriptor"))
  (six_own_things_KnownParts : PySem.W.slotIn K q_KnownParts_own_things C_KnownParts = some 2)
  (sat_own_tick_KnownParts : PySem.W.findIn K (.ref C_KnownParts) "own_tick" = some (some (.ref q_KnownParts_own_tick)))
  (sge_own_tick_KnownParts : PySem.W.specialIn K (.ref q_KnownParts_own_tick) "__get__" = some (some (.builtin "member_descriptor.__get__")))
  (stk_own_tick_KnownParts : PySem.W.takesIn K (.ref q_KnownParts_own_tick) = some true)
  (sty_own_tick_KnownParts : PySem.W.typeIn K (.ref q_KnownParts_own_tick) = some (.type "member_descriptor"))
  (six_own_tick_KnownParts : PySem.W.slotIn K q_KnownParts_own_tick C_KnownParts = some 3)
  (kit_NoneType_KnownParts : PySem.W.subIn K (.type "NoneType") (.ref C_KnownParts) = some false)
  (kit_bool_KnownParts : PySem.W.subIn K (.type "bool") (.ref C_KnownParts) = some false)
  (kit_int_KnownParts : PySem.W.subIn K (.type "int") (.ref C_KnownParts) = some false)
  (kit_str_KnownParts : PySem.W.subIn K (.type "str") (.ref C_KnownParts) = some false)
  (kit_tuple_KnownParts : PySem.W.subIn K (.type "tuple") (.ref C_KnownParts) = some false)
  (kit_list_KnownParts : PySem.W.subIn K (.type "list") (.ref C_KnownParts) = some false)
  (kit_dict_KnownParts : PySem.W.subIn K (.type "dict") (.ref C_KnownParts) = some false)
  (kit_World_KnownParts : PySem.W.subIn K (.ref C_World) (.ref C_KnownParts) = some false)
  (kt_NoneType_KnownParts : PySem.W.subIn K (.ref C_KnownParts) (.type "NoneType") = some false)
  (kt_bool_KnownParts : PySem.W.subIn K (.ref C_KnownParts) (.type "bool") = some false)
  (kt_int_KnownParts : PySem.W.subIn K (.ref C_KnownParts) (.type "int") = some false)
  (kt_str_KnownParts : PySem.W.subIn K (.ref C_KnownParts) (.type "str") = some false)
  (kt_tuple_KnownParts : PySem.W.subIn K (.ref C_KnownParts) (.type "tuple") = some false)
  (kt_list_KnownParts : PySem.W.subIn K (.ref C_KnownParts) (.type "list") = some false)
  (kt_dict_KnownParts : PySem.W.subIn K (.ref C_KnownParts) (.type "dict") = some false)
  (kn_World_KnownParts : ((Value.ref C_World) == Value.ref C_KnownParts) = false)
  (pg_World : PySem.W.plainGet K C_World Str.empty = true)
  (ic_World : PySem.W.isClsIn K C_World = true)
  (po_World : PySem.W.plainOver K C_World = true)
  (sa_World : PySem.W.findIn K (.ref C_World) "__setattr__" = some (some (.builtin "object.__setattr__")))
  (mk_World : PySem.W.makesIn K C_World = true)
  (kc_World : PySem.W.keepIn K (.ref C_World) = true)
  (ca_World : PySem.W.findIn K (.ref C_World) "__class__" = some (some (.builtin "object.__class__")))
  (cn_World : PySem.W.specialIn K (.builtin "object.__class__") "__get__" = some (some (.builtin "getset_descriptor.__get__")))
  (ct_World : PySem.W.takesIn K (.builtin "object.__class__") = some true)
  (cm_World : PySem.W.mroIn K C_World (.type "object") = some true)
  (ty_World : PySem.W.typeIn K (.ref C_World) = some (.type "type"))
  (sat_own_ids_World : PySem.W.findIn K (.ref C_World) "own_ids" = some (some (.ref q_World_own_ids)))
  (sge_own_ids_World : PySem.W.specialIn K (.ref q_World_own_ids) "__get__" = some (some (.builtin "member_descriptor.__get__")))
  (stk_own_ids_World : PySem.W.takesIn K (.ref q_World_own_ids) = some true)
  (sty_own_ids_World : PySem.W.typeIn K (.ref q_World_own_ids) = some (.type "member_descriptor"))
  (six_own_ids_World : PySem.W.slotIn K q_World_own_ids C_World = some 0)
  (sat_own_luck_World : PySem.W.findIn K (.ref C_World) "own_luck" = some (some (.ref q_World_own_luck)))
  (sge_own_luck_World : PySem.W.specialIn K (.ref q_World_own_luck) "__get__" = some (some (.builtin "member_descriptor.__get__")))
  (stk_own_luck_World : PySem.W.takesIn K (.ref q_World_own_luck) = some true)
  (sty_own_luck_World : PySem.W.typeIn K (.ref q_World_own_luck) = some (.type "member_descriptor"))
  (six_own_luck_World : PySem.W.slotIn K q_World_own_luck C_World = some 1)
  (sat_own_next_id_World : PySem.W.findIn K (.ref C_World) "own_next_id" = some (some (.ref q_World_own_next_id)))
  (sge_own_next_id_World : PySem.W.specialIn K (.ref q_World_own_next_id) "__get__" = some (some (.builtin "member_descriptor.__get__")))
  (stk_own_next_id_World : PySem.W.takesIn K (.ref q_World_own_next_id) = some true)
  (sty_own_next_id_World : PySem.W.typeIn K (.ref q_World_own_next_id) = some (.type "member_descriptor"))
  (six_own_next_id_World : PySem.W.slotIn K q_World_own_next_id C_World = some 2)
  (sat_own_things_World : PySem.W.findIn K (.ref C_World) "own_things" = some (some (.ref q_World_own_things)))
  (sge_own_things_World : PySem.W.specialIn K (.ref q_World_own_things) "__get__" = some (some (.builtin "member_descriptor.__get__")))
  (stk_own_things_World : PySem.W.takesIn K (.ref q_World_own_things) = some true)
  (sty_own_things_World : PySem.W.typeIn K (.ref q_World_own_things) = some (.type "member_descriptor"))
  (six_own_things_World : PySem.W.slotIn K q_World_own_things C_World = some 3)
  (sat_own_tick_World : PySem.W.findIn K (.ref C_World) "own_tick" = some (some (.ref q_World_own_tick)))
  (sge_own_tick_World : PySem.W.specialIn K (.ref q_World_own_tick) "__get__" = some (some (.builtin "member_descriptor.__get__")))
  (stk_own_tick_World : PySem.W.takesIn K (.ref q_World_own_tick) = some true)
  (sty_own_tick_World : PySem.W.typeIn K (.ref q_World_own_tick) = some (.type "member_descriptor"))
  (six_own_tick_World : PySem.W.slotIn K q_World_own_tick C_World = some 4)
  (kit_NoneType_World : PySem.W.subIn K (.type "NoneType") (.ref C_World) = some false)
  (kit_bool_World : PySem.W.subIn K (.type "bool") (.ref C_World) = some false)
  (kit_int_World : PySem.W.subIn K (.type "int") (.ref C_World) = some false)
  (kit_str_World : PySem.W.subIn K (.type "str") (.ref C_World) = some false)
  (kit_tuple_World : PySem.W.subIn K (.type "tuple") (.ref C_World) = some false)
  (kit_list_World : PySem.W.subIn K (.type "list") (.ref C_World) = some false)
  (kit_dict_World : PySem.W.subIn K (.type "dict") (.ref C_World) = some false)
  (kit_KnownParts_World : PySem.W.subIn K (.ref C_KnownParts) (.ref C_World) = some false)
  (kt_NoneType_World : PySem.W.subIn K (.ref C_World) (.type "NoneType") = some false)
  (kt_bool_World : PySem.W.subIn K (.ref C_World) (.type "bool") = some false)
  (kt_int_World : PySem.W.subIn K (.ref C_World) (.type "int") = some false)
  (kt_str_World : PySem.W.subIn K (.ref C_World) (.type "str") = some false)
  (kt_tuple_World : PySem.W.subIn K (.ref C_World) (.type "tuple") = some false)
  (kt_list_World : PySem.W.subIn K (.ref C_World) (.type "list") = some false)
  (kt_dict_World : PySem.W.subIn K (.ref C_World) (.type "dict") = some false)
  (kn_KnownParts_World : ((Value.ref C_KnownParts) == Value.ref C_World) = false)
  (nf_NoneType_World : PySem.W.notFirst K C_World (.type "NoneType") = true)
  (nf_bool_World : PySem.W.notFirst K C_World (.type "bool") = true)
  (nf_int_World : PySem.W.notFirst K C_World (.type "int") = true)
  (nf_str_World : PySem.W.notFirst K C_World (.type "str") = true)
  (nf_tuple_World : PySem.W.notFirst K C_World (.type "tuple") = true)
  (nf_list_World : PySem.W.notFirst K C_World (.type "list") = true)
  (nf_dict_World : PySem.W.notFirst K C_World (.type "dict") = true)
  (nf_KnownParts_World : PySem.W.notFirst K C_World (.ref C_KnownParts) = true)
  (nf_World_World : PySem.W.notFirst K C_World (.ref C_World) = true)
  (ne_World : PySem.W.findIn K (.ref C_World) "__ne__" = some (some (.builtin "object.__ne__"))) :
  ∃ (fd : FuncData) (ts : List (Str × Addr × Addr)) (sp : Sp), (∀ t ∈ ts, t.1 ∈ ([] : List Str) ∧ PySem.W.tabIn K t.1 = some t.2 ∧ K.lookup t.2.2 = none) ∧ (∀ (s : Shared) (v : Value), BindsTo s fd ⟨[v], []⟩ [("_law_script", v)]) ∧ (∀ (H : Hp) (a : Addr) (ns : List Int), ns.length ≤ 63 → (∀ t ∈ ts, H t.2.2 = some (.tbl #[])) → SqL K H a (ns.map V.int) → sp [.ref a] H (fun v _ => v = .bl true) fun _ _ _ => False) ∧ ∀ base : Heap, K.In base → base.Ns mainGlobals mg → (∀ t ∈ ts, LamX.TabB base mg t.2.1 t.2.2) → FnG l.prog w K mg base (L2.CX l.prog w) 15 fa fd ["_law_script"] sp := by
  have e := hfa.symm.trans (PySem.W.mg_of X G a50)
  have e2 : f50 = fa := by cases e; rfl
  subst e2
  let T : Tp l.prog K mg := {
    C_KnownParts := C_KnownParts, g_KnownParts := PySem.W.mg_of X G nsC_KnownParts, cl_KnownParts := ⟨pg_KnownParts, ic_KnownParts, po_KnownParts, sa_KnownParts⟩, is_KnownParts := ⟨ca_KnownParts, cn_KnownParts, ct_KnownParts, cm_KnownParts⟩, ty_KnownParts := ty_KnownParts, q_KnownParts_own_luck := q_KnownParts_own_luck, t_KnownParts_own_luck := ⟨sat_own_luck_KnownParts, sge_own_luck_KnownParts, stk_own_luck_KnownParts, sty_own_luck_KnownParts, six_own_luck_KnownParts, by decide⟩, q_KnownParts_own_next_id := q_KnownParts_own_next_id, t_KnownParts_own_next_id := ⟨sat_own_next_id_KnownParts, sge_own_next_id_KnownParts, stk_own_next_id_KnownParts, sty_own_next_id_KnownParts, six_own_next_id_KnownParts, by decide⟩, q_KnownParts_own_things := q_KnownParts_own_things, t_KnownParts_own_things := ⟨sat_own_things_KnownParts, sge_own_things_KnownParts, stk_own_things_KnownParts, sty_own_things_KnownParts, six_own_things_KnownParts, by decide⟩, q_KnownParts_own_tick := q_KnownParts_own_tick, t_KnownParts_own_tick := ⟨sat_own_tick_KnownParts, sge_own_tick_KnownParts, stk_own_tick_KnownParts, sty_own_tick_KnownParts, six_own_tick_KnownParts, by decide⟩, k_KnownParts_NoneType := kit_NoneType_KnownParts, k_KnownParts_bool := kit_bool_KnownParts, k_KnownParts_int := kit_int_KnownParts, k_KnownParts_str := kit_str_KnownParts, k_KnownParts_tuple := kit_tuple_KnownParts, k_KnownParts_list := kit_list_KnownParts, k_KnownParts_dict := kit_dict_KnownParts, k_KnownParts_World := kit_World_KnownParts, kt_NoneType_KnownParts := kt_NoneType_KnownParts, kt_bool_KnownParts := kt_bool_KnownParts, kt_int_KnownParts := kt_int_KnownParts, kt_str_KnownParts := kt_str_KnownParts, kt_tuple_KnownParts := kt_tuple_KnownParts, kt_list_KnownParts := kt_list_KnownParts, kt_dict_KnownParts := kt_dict_KnownParts, kn_World_KnownParts := kn_World_KnownParts,
    C_World := C_World, g_World := PySem.W.mg_of X G nsC_World, cl_World := ⟨pg_World, ic_World, po_World, sa_World⟩, is_World := ⟨ca_World, cn_World, ct_World, cm_World⟩, ty_World := ty_World, q_World_own_ids := q_World_own_ids, t_World_own_ids := ⟨sat_own_ids_World, sge_own_ids_World, stk_own_ids_World, sty_own_ids_World, six_own_ids_World, by decide⟩, q_World_own_luck := q_World_own_luck, t_World_own_luck := ⟨sat_own_luck_World, sge_own_luck_World, stk_own_luck_World, sty_own_luck_World, six_own_luck_World, by decide⟩, q_World_own_next_id := q_World_own_next_id, t_World_own_next_id := ⟨sat_own_next_id_World, sge_own_next_id_World, stk_own_next_id_World, sty_own_next_id_World, six_own_next_id_World, by decide⟩, q_World_own_things := q_World_own_things, t_World_own_things := ⟨sat_own_things_World, sge_own_things_World, stk_own_things_World, sty_own_things_World, six_own_things_World, by decide⟩, q_World_own_tick := q_World_own_tick, t_World_own_tick := ⟨sat_own_tick_World, sge_own_tick_World, stk_own_tick_World, sty_own_tick_World, six_own_tick_World, by decide⟩, k_World_NoneType := kit_NoneType_World, k_World_bool := kit_bool_World, k_World_int := kit_int_World, k_World_str := kit_str_World, k_World_tuple := kit_tuple_World, k_World_list := kit_list_World, k_World_dict := kit_dict_World, k_World_KnownParts := kit_KnownParts_World, kt_NoneType_World := kt_NoneType_World, kt_bool_World := kt_bool_World, kt_int_World := kt_int_World, kt_str_World := kt_str_World, kt_tuple_World := kt_tuple_World, kt_list_World := kt_list_World, kt_dict_World := kt_dict_World, kn_KnownParts_World := kn_KnownParts_World, nf_NoneType_World := nf_NoneType_World, nf_bool_World := nf_bool_World, nf_int_World := nf_int_World, nf_str_World := nf_str_World, nf_tuple_World := nf_tuple_World, nf_list_World := nf_list_World, nf_dict_World := nf_dict_World, nf_KnownParts_World := nf_KnownParts_World, nf_World_World := nf_World_World, ne_World := ne_World,
    a__wall := f0, d__wall := _, F__wall := fun_mk (st := s__wall) l0 c0 k0, g__wall := PySem.W.mg_of X G a0, b__wall := (fun_mk (st := s__wall) l0 c0 k0).binds fun _ _ _ _ _ _ us hl => match us, hl with | [_], _ => rfl,
    a_is_whole := f1, d_is_whole := _, F_is_whole := fun_mk (st := s_is_whole) l1 c1 k1, g_is_whole := PySem.W.mg_of X G a1, b_is_whole := (fun_mk (st := s_is_whole) l1 c1 k1).binds fun _ _ _ _ _ _ us hl => match us, hl with | [_], _ => rfl,
    a_is_short := f2, d_is_short := _, F_is_short := fun_mk (st := s_is_short) l2 c2 k2, g_is_short := PySem.W.mg_of X G a2, b_is_short := (fun_mk (st := s_is_short) l2 c2 k2).binds fun _ _ _ _ _ _ us hl => match us, hl with | [_], _ => rfl,
    a_is_from := f3, d_is_from := _, F_is_from := fun_mk (st := s_is_from) l3 c3 k3, g_is_from := PySem.W.mg_of X G a3, b_is_from := (fun_mk (st := s_is_from) l3 c3 k3).binds fun _ _ _ _ _ _ us hl => match us, hl with | [_, _, _], _ => rfl,
    a_is_tick := f4, d_is_tick := _, F_is_tick := fun_mk (st := s_is_tick) l4 c4 k4, g_is_tick := PySem.W.mg_of X G a4, b_is_tick := (fun_mk (st := s_is_tick) l4 c4 k4).binds fun _ _ _ _ _ _ us hl => match us, hl with | [_], _ => rfl,
    a_is_luck_in := f5, d_is_luck_in := _, F_is_luck_in := fun_mk (st := s_is_luck_in) l5 c5 k5, g_is_luck_in := PySem.W.mg_of X G a5, b_is_luck_in := (fun_mk (st := s_is_luck_in) l5 c5 k5).binds fun _ _ _ _ _ _ us hl => match us, hl with | [_], _ => rfl,
    a_is_luck := f6, d_is_luck := _, F_is_luck := fun_mk (st := s_is_luck) l6 c6 k6, g_is_luck := PySem.W.mg_of X G a6, b_is_luck := (fun_mk (st := s_is_luck) l6 c6 k6).binds fun _ _ _ _ _ _ us hl => match us, hl with | [_], _ => rfl,
    a_is_number := f7, d_is_number := _, F_is_number := fun_mk (st := s_is_number) l7 c7 k7, g_is_number := PySem.W.mg_of X G a7, b_is_number := (fun_mk (st := s_is_number) l7 c7 k7).binds fun _ _ _ _ _ _ us hl => match us, hl with | [_], _ => rfl,
    a_is_name_in := f8, d_is_name_in := _, F_is_name_in := fun_mk (st := s_is_name_in) l8 c8 k8, g_is_name_in := PySem.W.mg_of X G a8, b_is_name_in := (fun_mk (st := s_is_name_in) l8 c8 k8).binds fun _ _ _ _ _ _ us hl => match us, hl with | [_], _ => rfl,
    a_are_numbers_in := f9, d_are_numbers_in := _, F_are_numbers_in := fun_mk (st := s_are_numbers_in) l9 c9 k9, g_are_numbers_in := PySem.W.mg_of X G a9, b_are_numbers_in := (fun_mk (st := s_are_numbers_in) l9 c9 k9).binds fun _ _ _ _ _ _ us hl => match us, hl with | [_], _ => rfl,
    a_is_thing_in := f10, d_is_thing_in := _, F_is_thing_in := fun_mk (st := s_is_thing_in) l10 c10 k10, g_is_thing_in := PySem.W.mg_of X G a10, b_is_thing_in := (fun_mk (st := s_is_thing_in) l10 c10 k10).binds fun _ _ _ _ _ _ us hl => match us, hl with | [_], _ => rfl,
    a_are_things_in := f11, d_are_things_in := _, F_are_things_in := fun_mk (st := s_are_things_in) l11 c11 k11, g_are_things_in := PySem.W.mg_of X G a11, b_are_things_in := (fun_mk (st := s_are_things_in) l11 c11 k11).binds fun _ _ _ _ _ _ us hl => match us, hl with | [_, _], _ => rfl,
    a_KnownParts_init := f12, d_KnownParts_init := _, F_KnownParts_init := fun_mk (st := s_KnownParts_init) l12 c12 k12, m_KnownParts_init := ⟨a12, i12, k12⟩, b_KnownParts_init := (fun_mk (st := s_KnownParts_init) l12 c12 k12).binds fun _ _ _ _ _ _ us hl => match us, hl with | [_, _, _, _, _], _ => rfl,
    mk_KnownParts := ⟨mk_KnownParts, a12, i12, kc_KnownParts⟩,
    a_parts_told := f13, d_parts_told := _, F_parts_told := fun_mk (st := s_parts_told) l13 c13 k13, g_parts_told := PySem.W.mg_of X G a13, b_parts_told := (fun_mk (st := s_parts_told) l13 c13 k13).binds fun _ _ _ _ _ _ us hl => match us, hl with | [_, _, _, _], _ => rfl,
    a_World_init := f14, d_World_init := _, F_World_init := fun_mk (st := s_World_init) l14 c14 k14, m_World_init := ⟨a14, i14, k14⟩, b_World_init := (fun_mk (st := s_World_init) l14 c14 k14).binds fun _ _ _ _ _ _ us hl => match us, hl with | [_, _, _, _, _], _ => rfl,
    mk_World := ⟨mk_World, a14, i14, kc_World⟩,
    a_World_tick := f15, d_World_tick := _, F_World_tick := fun_mk (st := s_World_tick) l15 c15 k15, pa_World_tick := pp15, p_World_tick := ⟨a15, g15, t15, rs15, r15⟩, b_World_tick := (fun_mk (st := s_World_tick) l15 c15 k15).binds fun _ _ _ _ _ _ us hl => match us, hl with | [_], _ => rfl,
    a_World_next_id := f16, d_World_next_id := _, F_World_next_id := fun_mk (st := s_World_next_id) l16 c16 k16, pa_World_next_id := pp16, p_World_next_id := ⟨a16, g16, t16, rs16, r16⟩, b_World_next_id := (fun_mk (st := s_World_next_id) l16 c16 k16).binds fun _ _ _ _ _ _ us hl => match us, hl with | [_], _ => rfl,
    a_World_luck := f17, d_World_luck := _, F_World_luck := fun_mk (st := s_World_luck) l17 c17 k17, pa_World_luck := pp17, p_World_luck := ⟨a17, g17, t17, rs17, r17⟩, b_World_luck := (fun_mk (st := s_World_luck) l17 c17 k17).binds fun _ _ _ _ _ _ us hl => match us, hl with | [_], _ => rfl,
    a_World_things := f18, d_World_things := _, F_World_things := fun_mk (st := s_World_things) l18 c18 k18, pa_World_things := pp18, p_World_things := ⟨a18, g18, t18, rs18, r18⟩, b_World_things := (fun_mk (st := s_World_things) l18 c18 k18).binds fun _ _ _ _ _ _ us hl => match us, hl with | [_], _ => rfl,
    a_World_ids := f19, d_World_ids := _, F_World_ids := fun_mk (st := s_World_ids) l19 c19 k19, m_World_ids := ⟨a19, i19, k19⟩, b_World_ids := (fun_mk (st := s_World_ids) l19 c19 k19).binds fun _ _ _ _ _ _ us hl => match us, hl with | [_, _], _ => rfl,
    a_World_kind_of := f20, d_World_kind_of := _, F_World_kind_of := fun_mk (st := s_World_kind_of) l20 c20 k20, m_World_kind_of := ⟨a20, i20, k20⟩, b_World_kind_of := (fun_mk (st := s_World_kind_of) l20 c20 k20).binds fun _ _ _ _ _ _ us hl => match us, hl with | [_, _], _ => rfl,
    a_World_numbers := f21, d_World_numbers := _, F_World_numbers := fun_mk (st := s_World_numbers) l21 c21 k21, m_World_numbers := ⟨a21, i21, k21⟩, b_World_numbers := (fun_mk (st := s_World_numbers) l21 c21 k21).binds fun _ _ _ _ _ _ us hl => match us, hl with | [_, _], _ => rfl,
    a_World_contains := f22, d_World_contains := _, F_World_contains := fun_mk (st := s_World_contains) l22 c22 k22, m_World_contains := ⟨a22, i22, k22⟩, b_World_contains := (fun_mk (st := s_World_contains) l22 c22 k22).binds fun _ _ _ _ _ _ us hl => match us, hl with | [_, _], _ => rfl,
    a_World_len := f23, d_World_len := _, F_World_len := fun_mk (st := s_World_len) l23 c23 k23, m_World_len := ⟨a23, i23, k23⟩, b_World_len := (fun_mk (st := s_World_len) l23 c23 k23).binds fun _ _ _ _ _ _ us hl => match us, hl with | [_], _ => rfl,
    a_World_eq := f24, d_World_eq := _, F_World_eq := fun_mk (st := s_World_eq) l24 c24 k24, m_World_eq := ⟨a24, i24, k24⟩, b_World_eq := (fun_mk (st := s_World_eq) l24 c24 k24).binds fun _ _ _ _ _ _ us hl => match us, hl with | [_, _], _ => rfl,
    a_World_str := f25, d_World_str := _, F_World_str := fun_mk (st := s_World_str) l25 c25 k25, m_World_str := ⟨a25, i25, k25⟩, b_World_str := (fun_mk (st := s_World_str) l25 c25 k25).binds fun _ _ _ _ _ _ us hl => match us, hl with | [_], _ => rfl,
    a_made_world := f26, d_made_world := _, F_made_world := fun_mk (st := s_made_world) l26 c26 k26, g_made_world := PySem.W.mg_of X G a26, b_made_world := (fun_mk (st := s_made_world) l26 c26 k26).binds fun _ _ _ _ _ _ us hl => match us, hl with | [_, _, _, _], _ => rfl,
    a_thing_at := f27, d_thing_at := _, F_thing_at := fun_mk (st := s_thing_at) l27 c27 k27, g_thing_at := PySem.W.mg_of X G a27, b_thing_at := (fun_mk (st := s_thing_at) l27 c27 k27).binds fun _ _ _ _ _ _ us hl => match us, hl with | [_, _], _ => rfl,
    a_thing_text := f28, d_thing_text := _, F_thing_text := fun_mk (st := s_thing_text) l28 c28 k28, g_thing_text := PySem.W.mg_of X G a28, b_thing_text := (fun_mk (st := s_thing_text) l28 c28 k28).binds fun _ _ _ _ _ _ us hl => match us, hl with | [_], _ => rfl,
    a_text_of_world := f29, d_text_of_world := _, F_text_of_world := fun_mk (st := s_text_of_world) l29 c29 k29, g_text_of_world := PySem.W.mg_of X G a29, b_text_of_world := (fun_mk (st := s_text_of_world) l29 c29 k29).binds fun _ _ _ _ _ _ us hl => match us, hl with | [_], _ => rfl,
    a_integer_in := f30, d_integer_in := _, F_integer_in := fun_mk (st := s_integer_in) l30 c30 k30, g_integer_in := PySem.W.mg_of X G a30, b_integer_in := (fun_mk (st := s_integer_in) l30 c30 k30).binds fun _ _ _ _ _ _ us hl => match us, hl with | [_], _ => rfl,
    a_thing_in := f31, d_thing_in := _, F_thing_in := fun_mk (st := s_thing_in) l31 c31 k31, g_thing_in := PySem.W.mg_of X G a31, b_thing_in := (fun_mk (st := s_thing_in) l31 c31 k31).binds fun _ _ _ _ _ _ us hl => match us, hl with | [_], _ => rfl,
    a_world_in := f32, d_world_in := _, F_world_in := fun_mk (st := s_world_in) l32 c32 k32, g_world_in := PySem.W.mg_of X G a32, b_world_in := (fun_mk (st := s_world_in) l32 c32 k32).binds fun _ _ _ _ _ _ us hl => match us, hl with | [_], _ => rfl,
    a_require_any_world := f33, d_require_any_world := _, F_require_any_world := fun_mk (st := s_require_any_world) l33 c33 k33, g_require_any_world := PySem.W.mg_of X G a33, b_require_any_world := (fun_mk (st := s_require_any_world) l33 c33 k33).binds fun _ _ _ _ _ _ us hl => match us, hl with | [_], _ => rfl,
    a_known_thing := f34, d_known_thing := _, F_known_thing := fun_mk (st := s_known_thing) l34 c34 k34, g_known_thing := PySem.W.mg_of X G a34, b_known_thing := (fun_mk (st := s_known_thing) l34 c34 k34).binds fun _ _ _ _ _ _ us hl => match us, hl with | [_, _], _ => rfl,
    a_world_text := f35, d_world_text := _, F_world_text := fun_mk (st := s_world_text) l35 c35 k35, g_world_text := PySem.W.mg_of X G a35, b_world_text := (fun_mk (st := s_world_text) l35 c35 k35).binds fun _ _ _ _ _ _ us hl => match us, hl with | [_], _ => rfl,
    a_read_world := f36, d_read_world := _, F_read_world := fun_mk (st := s_read_world) l36 c36 k36, g_read_world := PySem.W.mg_of X G a36, b_read_world := (fun_mk (st := s_read_world) l36 c36 k36).binds fun _ _ _ _ _ _ us hl => match us, hl with | [_], _ => rfl,
    a_l_dice := f37, d_l_dice := _, F_l_dice := fun_mk (st := s_l_dice) l37 c37 k37, g_l_dice := PySem.W.mg_of X G a37, b_l_dice := (fun_mk (st := s_l_dice) l37 c37 k37).binds fun _ _ _ _ _ _ us hl => match us, hl with | [_, _], _ => rfl,
    a_l_roll := f38, d_l_roll := _, F_l_roll := fun_mk (st := s_l_roll) l38 c38 k38, g_l_roll := PySem.W.mg_of X G a38, b_l_roll := (fun_mk (st := s_l_roll) l38 c38 k38).binds fun _ _ _ _ _ _ us hl => match us, hl with | [_, _], _ => rfl,
    a_l_pick := f39, d_l_pick := _, F_l_pick := fun_mk (st := s_l_pick) l39 c39 k39, g_l_pick := PySem.W.mg_of X G a39, b_l_pick := (fun_mk (st := s_l_pick) l39 c39 k39).binds fun _ _ _ _ _ _ us hl => match us, hl with | [_, _], _ => rfl,
    a_l_near := f40, d_l_near := _, F_l_near := fun_mk (st := s_l_near) l40 c40 k40, g_l_near := PySem.W.mg_of X G a40, b_l_near := (fun_mk (st := s_l_near) l40 c40 k40).binds fun _ _ _ _ _ _ us hl => match us, hl with | [_, _], _ => rfl,
    a_l_wd_plain := f41, d_l_wd_plain := _, F_l_wd_plain := fun_mk (st := s_l_wd_plain) l41 c41 k41, g_l_wd_plain := PySem.W.mg_of X G a41, b_l_wd_plain := (fun_mk (st := s_l_wd_plain) l41 c41 k41).binds fun _ _ _ _ _ _ us hl => match us, hl with | [_], _ => rfl,
    a_l_world_drawn := f42, d_l_world_drawn := _, F_l_world_drawn := fun_mk (st := s_l_world_drawn) l42 c42 k42, g_l_world_drawn := PySem.W.mg_of X G a42, b_l_world_drawn := (fun_mk (st := s_l_world_drawn) l42 c42 k42).binds fun _ _ _ _ _ _ us hl => match us, hl with | [_], _ => rfl,
    a_l_written := f43, d_l_written := _, F_l_written := fun_mk (st := s_l_written) l43 c43 k43, g_l_written := PySem.W.mg_of X G a43, b_l_written := (fun_mk (st := s_l_written) l43 c43 k43).binds fun _ _ _ _ _ _ us hl => match us, hl with | [_], _ => rfl,
    a_l_integer := f44, d_l_integer := _, F_l_integer := fun_mk (st := s_l_integer) l44 c44 k44, g_l_integer := PySem.W.mg_of X G a44, b_l_integer := (fun_mk (st := s_l_integer) l44 c44 k44).binds fun _ _ _ _ _ _ us hl => match us, hl with | [_], _ => rfl,
    a_l_read_thing := f45, d_l_read_thing := _, F_l_read_thing := fun_mk (st := s_l_read_thing) l45 c45 k45, g_l_read_thing := PySem.W.mg_of X G a45, b_l_read_thing := (fun_mk (st := s_l_read_thing) l45 c45 k45).binds fun _ _ _ _ _ _ us hl => match us, hl with | [_, _], _ => rfl,
    a_l_read := f46, d_l_read := _, F_l_read := fun_mk (st := s_l_read) l46 c46 k46, g_l_read := PySem.W.mg_of X G a46, b_l_read := (fun_mk (st := s_l_read) l46 c46 k46).binds fun _ _ _ _ _ _ us hl => match us, hl with | [_], _ => rfl,
    a_l_near_texts := f47, d_l_near_texts := _, F_l_near_texts := fun_mk (st := s_l_near_texts) l47 c47 k47, g_l_near_texts := PySem.W.mg_of X G a47, b_l_near_texts := (fun_mk (st := s_l_near_texts) l47 c47 k47).binds fun _ _ _ _ _ _ us hl => match us, hl with | [_, _], _ => rfl,
    a_l_told := f48, d_l_told := _, F_l_told := fun_mk (st := s_l_told) l48 c48 k48, g_l_told := PySem.W.mg_of X G a48, b_l_told := (fun_mk (st := s_l_told) l48 c48 k48).binds fun _ _ _ _ _ _ us hl => match us, hl with | [_], _ => rfl,
    a_l_right := f49, d_l_right := _, F_l_right := fun_mk (st := s_l_right) l49 c49 k49, g_l_right := PySem.W.mg_of X G a49, b_l_right := (fun_mk (st := s_l_right) l49 c49 k49).binds fun _ _ _ _ _ _ us hl => match us, hl with | [_], _ => rfl,
    a_law := f50, d_law := _, F_law := fun_mk (st := s_law) l50 c50 k50, g_law := PySem.W.mg_of X G a50, b_law := (fun_mk (st := s_law) l50 c50 k50).binds fun _ _ _ _ _ _ us hl => match us, hl with | [_], _ => rfl,
    x_PlayError := x_PlayError, gx_PlayError := PySem.W.mg_of X G gx_PlayError, kx_PlayError := kx_PlayError, bx_PlayError := bx_PlayError, tx_PlayError := tx_PlayError, xc_PlayError := xc_PlayError,
    x_InvalidWorld := x_InvalidWorld, gx_InvalidWorld := PySem.W.mg_of X G gx_InvalidWorld, kx_InvalidWorld := kx_InvalidWorld, bx_InvalidWorld := bx_InvalidWorld, tx_InvalidWorld := tx_InvalidWorld, xc_InvalidWorld := xc_InvalidWorld,
    x_UnknownName := x_UnknownName, gx_UnknownName := PySem.W.mg_of X G gx_UnknownName, kx_UnknownName := kx_UnknownName, bx_UnknownName := bx_UnknownName, tx_UnknownName := tx_UnknownName, i_UnknownName := i_UnknownName, xf_UnknownName := ⟨ga_UnknownName, gg_UnknownName, bx_UnknownName, hd_UnknownName⟩, nf_UnknownName := nf_UnknownName, es_UnknownName := ⟨VX.xb_KeyError, VX.store_KeyError, VX.kxs_KeyError, hB_UnknownName, ei_UnknownName, eo_UnknownName, sa_UnknownName, no_UnknownName, ic_UnknownName, tc_UnknownName, hd_UnknownName, cm_UnknownName, su_UnknownName, opq, nsup, tps, ⟨_, _, _, "wanted", _, _, _, _, _, _, _, _, _, _, _, _, _, _, _, _, _, _, _, _, _, _, ⟨⟨_, _, rfl⟩, ⟨_, _, _, _, _, _, _, _, _, _, _, rfl, rfl⟩, rfl, rfl, rfl, by decide +kernel, rfl, rfl, rfl, rfl, by decide, by decide⟩, lk_UnknownName, co_UnknownName, ck_UnknownName, cj_UnknownName, vf_UnknownName, fm_UnknownName, tps, fun us hl s => match us, hl with | [_, _], _ => .of_eq rfl⟩⟩,
    ex_PlayError_PlayError := exm_of bx_PlayError ix_PlayError tx_PlayError sx_PlayError_PlayError,
    ex_PlayError_InvalidWorld := exm_of bx_InvalidWorld ix_InvalidWorld tx_InvalidWorld sx_PlayError_InvalidWorld,
    ex_PlayError_UnknownName := exm_of bx_UnknownName ix_UnknownName tx_UnknownName sx_PlayError_UnknownName,
    ex_InvalidWorld_PlayError := exm_of bx_PlayError ix_PlayError tx_PlayError sx_InvalidWorld_PlayError,
    ex_InvalidWorld_InvalidWorld := exm_of bx_InvalidWorld ix_InvalidWorld tx_InvalidWorld sx_InvalidWorld_InvalidWorld,
    ex_InvalidWorld_UnknownName := exm_of bx_UnknownName ix_UnknownName tx_UnknownName sx_InvalidWorld_UnknownName,
    ex_UnknownName_PlayError := exm_of bx_PlayError ix_PlayError tx_PlayError sx_UnknownName_PlayError,
    ex_UnknownName_InvalidWorld := exm_of bx_InvalidWorld ix_InvalidWorld tx_InvalidWorld sx_UnknownName_InvalidWorld,
    ex_UnknownName_UnknownName := exm_of bx_UnknownName ix_UnknownName tx_UnknownName sx_UnknownName_UnknownName,
    m_abs := PySem.W.mg_none_of X G z_abs,
    m_all := PySem.W.mg_none_of X G z_all,
    m_bool := PySem.W.mg_none_of X G z_bool,
    m_int := PySem.W.mg_none_of X G z_int,
    m_isinstance := PySem.W.mg_none_of X G z_isinstance,
    m_len := PySem.W.mg_none_of X G z_len,
    m_list := PySem.W.mg_none_of X G z_list,
    m_max := PySem.W.mg_none_of X G z_max,
    m_min := PySem.W.mg_none_of X G z_min,
    m_range := PySem.W.mg_none_of X G z_range,
    m_str := PySem.W.mg_none_of X G z_str,
    m_tuple := PySem.W.mg_none_of X G z_tuple,
    m_zip := PySem.W.mg_none_of X G z_zip,
    t_GREATEST := t_GREATEST, c_GREATEST := PySem.W.mg_of X G z_GREATEST,
    t_MODULUS := t_MODULUS, c_MODULUS := PySem.W.mg_of X G z_MODULUS,
    t_MOST := t_MOST, c_MOST := PySem.W.mg_of X G z_MOST,
    t_MAX_THINGS := t_MAX_THINGS, c_MAX_THINGS := PySem.W.mg_of X G z_MAX_THINGS,
    t_MOST_NUMBERS := t_MOST_NUMBERS, c_MOST_NUMBERS := PySem.W.mg_of X G z_MOST_NUMBERS,
    t_MOST_NAME := t_MOST_NAME, c_MOST_NAME := PySem.W.mg_of X G z_MOST_NAME,
    t_MOST_FIGURES := t_MOST_FIGURES, c_MOST_FIGURES := PySem.W.mg_of X G z_MOST_FIGURES,
    t_THING_PARTS := t_THING_PARTS, c_THING_PARTS := PySem.W.mg_of X G z_THING_PARTS,
    t_LETTERS := t_LETTERS, c_LETTERS := PySem.W.mg_of X G z_LETTERS,
    t_FIGURES := t_FIGURES, c_FIGURES := PySem.W.mg_of X G z_FIGURES }
  refine ⟨_, [], spD T.cn 1 m_law, ?_, fun s v => .of_eq rfl, fun H a ns hl hT hs => sp_ofT (c := T.cn) plain hl (fun p hp => ?_) hs, fun base _ _ hB => VL.toG <| ok_law (P := l.prog) (w := w) (base := base) T⟩
  · intro t ht
    exact absurd ht (by simp)
  · exact absurd hp (by simp)
end K07
namespace K07
section
open PySem PySem.Spec PyProof.Rows L2 LamX VL OwA
set_option maxHeartbeats 0 in
theorem facts {w : World} {K : PySem.W.Frag} {h : Heap} {mg : Str → Option Value} {fa : Addr} (X : K.In h) (G : h.Ns mainGlobals mg) (hfa : mg "law" = some (.ref fa)) (c : Hx.Says hfn hts exK w K) :
  ∃ (fd : FuncData) (ts : List (Str × Addr × Addr)) (sp : Sp), (∀ t ∈ ts, t.1 ∈ ([] : List Str) ∧ PySem.W.tabIn K t.1 = some t.2 ∧ K.lookup t.2.2 = none) ∧ (∀ (s : Shared) (v : Value), BindsTo s fd ⟨[v], []⟩ [("_law_script", v)]) ∧ (∀ (H : Hp) (a : Addr) (ns : List Int), ns.length ≤ 63 → (∀ t ∈ ts, H t.2.2 = some (.tbl #[])) → SqL K H a (ns.map V.int) → sp [.ref a] H (fun v _ => v = .bl true) fun _ _ _ => False) ∧ ∀ base : Heap, K.In base → base.Ns mainGlobals mg → (∀ t ∈ ts, LamX.TabB base mg t.2.1 t.2.2) → FnG PySem.Challenge.rw_settledplay_k07_whole_texts_of_worlds.prog w K mg base (L2.CX PySem.Challenge.rw_settledplay_k07_whole_texts_of_worlds.prog w) 15 fa fd ["_law_script"] sp := by
  have hx : exK K = true := c.exT
  unfold exK at hx
  have hg := hx
  unfold exg_0 at hg
  obtain ⟨h0, hg⟩ := Bool.and_eq_true_iff.mp hg
  have q0 : PA_0 K := of_decide_eq_true h0
  obtain ⟨h1, hg⟩ := Bool.and_eq_true_iff.mp hg
  have q1 : PA_1 K := of_decide_eq_true h1
  obtain ⟨h2, hg⟩ := Bool.and_eq_true_iff.mp hg
  have q2 : PA_2 K := of_decide_eq_true h2
  obtain ⟨h3, hg⟩ := Bool.and_eq_true_iff.mp hg
  have q3 : PA_3 K := of_decide_eq_true h3
  obtain ⟨h4, hg⟩ := Bool.and_eq_true_iff.mp hg
  have q4 : PA_4 K := of_decide_eq_true h4
  obtain ⟨h5, hg⟩ := Bool.and_eq_true_iff.mp hg
  have q5 : PA_5 K := of_decide_eq_true h5
  obtain ⟨h6, hg⟩ := Bool.and_eq_true_iff.mp hg
  have q6 : PA_6 K := of_decide_eq_true h6
  obtain ⟨h7, hg⟩ := Bool.and_eq_true_iff.mp hg
  have q7 : PA_7 K := of_decide_eq_true h7
  obtain ⟨h8, hg⟩ := Bool.and_eq_true_iff.mp hg
  have q8 : PA_8 K := of_decide_eq_true h8
  obtain ⟨h9, hg⟩ := Bool.and_eq_true_iff.mp hg
  have q9 : PA_9 K := of_decide_eq_true h9
  obtain ⟨h10, hg⟩ := Bool.and_eq_true_iff.mp hg
  have q10 : PA_10 K := of_decide_eq_true h10
  obtain ⟨h11, hg⟩ := Bool.and_eq_true_iff.mp hg
  have q11 : PA_11 K := of_decide_eq_true h11
  obtain ⟨h12, hg⟩ := Bool.and_eq_true_iff.mp hg
  have q12 : PA_12 K := of_decide_eq_true h12
  obtain ⟨h13, hg⟩ := Bool.and_eq_true_iff.mp hg
  have q13 : PA_13 K := of_decide_eq_true h13
  obtain ⟨h14, hg⟩ := Bool.and_eq_true_iff.mp hg
  have q14 : PA_14 K := of_decide_eq_true h14
  obtain ⟨h15, hg⟩ := Bool.and_eq_true_iff.mp hg
  have q15 : PA_15 K := of_decide_eq_true h15
  obtain ⟨h16, hg⟩ := Bool.and_eq_true_iff.mp hg
  have q16 : PA_16 K := of_decide_eq_true h16
  obtain ⟨h17, hg⟩ := Bool.and_eq_true_iff.mp hg
  have q17 : PA_17 K := of_decide_eq_true h17
  obtain ⟨h18, hg⟩ := Bool.and_eq_true_iff.mp hg
  have q18 : PA_18 K := of_decide_eq_true h18
  have h19 := hg
  have q19 : PA_19 K := of_decide_eq_true h19
  exact all_mk (l := PySem.Challenge.rw_settledplay_k07_whole_texts_of_worlds) X G hfa
    q0.1 q0.2.1 q0.2.2.1 (Hx.lk_fn (d := hd_0) (c.fnT 0 rfl) rfl q0.2.2.2.1 q0.2.2.2.2.1 rfl rfl) q0.2.2.2.2.2.1 q0.2.2.2.2.2.2.1 q0.2.2.2.2.2.2.2.1 (Hx.lk_fn (d := hd_1) (c.fnT 1 rfl) rfl q0.2.2.2.2.2.2.2.2.1 q0.2.2.2.2.2.2.2.2.2.1 rfl rfl) q0.2.2.2.2.2.2.2.2.2.2.1 q0.2.2.2.2.2.2.2.2.2.2.2.1 q0.2.2.2.2.2.2.2.2.2.2.2.2.1 (Hx.lk_fn (d := hd_2) (c.fnT 2 rfl) rfl q0.2.2.2.2.2.2.2.2.2.2.2.2.2.1 q0.2.2.2.2.2.2.2.2.2.2.2.2.2.2.1 rfl rfl)
    q0.2.2.2.2.2.2.2.2.2.2.2.2.2.2.2.1 q0.2.2.2.2.2.2.2.2.2.2.2.2.2.2.2.2.1 q0.2.2.2.2.2.2.2.2.2.2.2.2.2.2.2.2.2.1 (Hx.lk_fn (d := hd_3) (c.fnT 3 rfl) rfl q0.2.2.2.2.2.2.2.2.2.2.2.2.2.2.2.2.2.2.1 q0.2.2.2.2.2.2.2.2.2.2.2.2.2.2.2.2.2.2.2.1 rfl rfl) q0.2.2.2.2.2.2.2.2.2.2.2.2.2.2.2.2.2.2.2.2.1 q0.2.2.2.2.2.2.2.2.2.2.2.2.2.2.2.2.2.2.2.2.2.1 q0.2.2.2.2.2.2.2.2.2.2.2.2.2.2.2.2.2.2.2.2.2.2.1 (Hx.lk_fn (d := hd_4) (c.fnT 4 rfl) rfl q0.2.2.2.2.2.2.2.2.2.2.2.2.2.2.2.2.2.2.2.2.2.2.2 q1.1 rfl rfl) q1.2.1 q1.2.2.1 q1.2.2.2.1 (Hx.lk_fn (d := hd_5) (c.fnT 5 rfl) rfl q1.2.2.2.2.1 q1.2.2.2.2.2.1 rfl rfl)
    q1.2.2.2.2.2.2.1 q1.2.2.2.2.2.2.2.1 q1.2.2.2.2.2.2.2.2.1 (Hx.lk_fn (d := hd_6) (c.fnT 6 rfl) rfl q1.2.2.2.2.2.2.2.2.2.1 q1.2.2.2.2.2.2.2.2.2.2.1 rfl rfl) q1.2.2.2.2.2.2.2.2.2.2.2.1 q1.2.2.2.2.2.2.2.2.2.2.2.2.1 q1.2.2.2.2.2.2.2.2.2.2.2.2.2.1 (Hx.lk_fn (d := hd_7) (c.fnT 7 rfl) rfl q1.2.2.2.2.2.2.2.2.2.2.2.2.2.2.1 q1.2.2.2.2.2.2.2.2.2.2.2.2.2.2.2.1 rfl rfl) q1.2.2.2.2.2.2.2.2.2.2.2.2.2.2.2.2.1 q1.2.2.2.2.2.2.2.2.2.2.2.2.2.2.2.2.2.1 q1.2.2.2.2.2.2.2.2.2.2.2.2.2.2.2.2.2.2.1 (Hx.lk_fn (d := hd_8) (c.fnT 8 rfl) rfl q1.2.2.2.2.2.2.2.2.2.2.2.2.2.2.2.2.2.2.2.1 q1.2.2.2.2.2.2.2.2.2.2.2.2.2.2.2.2.2.2.2.2.1 rfl rfl)
    q1.2.2.2.2.2.2.2.2.2.2.2.2.2.2.2.2.2.2.2.2.2.1 q1.2.2.2.2.2.2.2.2.2.2.2.2.2.2.2.2.2.2.2.2.2.2.1 q1.2.2.2.2.2.2.2.2.2.2.2.2.2.2.2.2.2.2.2.2.2.2.2 (Hx.lk_fn (d := hd_9) (c.fnT 9 rfl) rfl q2.1 q2.2.1 rfl rfl) q2.2.2.1 q2.2.2.2.1 q2.2.2.2.2.1 (Hx.lk_fn (d := hd_10) (c.fnT 10 rfl) rfl q2.2.2.2.2.2.1 q2.2.2.2.2.2.2.1 rfl rfl) q2.2.2.2.2.2.2.2.1 q2.2.2.2.2.2.2.2.2.1 q2.2.2.2.2.2.2.2.2.2.1 (Hx.lk_fn (d := hd_11) (c.fnT 11 rfl) rfl q2.2.2.2.2.2.2.2.2.2.2.1 q2.2.2.2.2.2.2.2.2.2.2.2.1 rfl rfl)
    q2.2.2.2.2.2.2.2.2.2.2.2.2.1 q2.2.2.2.2.2.2.2.2.2.2.2.2.2.1 q2.2.2.2.2.2.2.2.2.2.2.2.2.2.2.1 q2.2.2.2.2.2.2.2.2.2.2.2.2.2.2.2.1 (Hx.lk_fn (d := hd_12) (c.fnT 12 rfl) rfl q2.2.2.2.2.2.2.2.2.2.2.2.2.2.2.2.2.1 q2.2.2.2.2.2.2.2.2.2.2.2.2.2.2.2.2.2.1 rfl rfl) q2.2.2.2.2.2.2.2.2.2.2.2.2.2.2.2.2.2.2.1 q2.2.2.2.2.2.2.2.2.2.2.2.2.2.2.2.2.2.2.2.1 q2.2.2.2.2.2.2.2.2.2.2.2.2.2.2.2.2.2.2.2.2.1 (Hx.lk_fn (d := hd_13) (c.fnT 13 rfl) rfl q2.2.2.2.2.2.2.2.2.2.2.2.2.2.2.2.2.2.2.2.2.2.1 q2.2.2.2.2.2.2.2.2.2.2.2.2.2.2.2.2.2.2.2.2.2.2.1 rfl rfl) q2.2.2.2.2.2.2.2.2.2.2.2.2.2.2.2.2.2.2.2.2.2.2.2 q3.1 q3.2.1
    q3.2.2.1 (Hx.lk_fn (d := hd_14) (c.fnT 14 rfl) rfl q3.2.2.2.1 q3.2.2.2.2.1 rfl rfl) q3.2.2.2.2.2.1 q3.2.2.2.2.2.2.1 q3.2.2.2.2.2.2.2.1 q3.2.2.2.2.2.2.2.2.1 q3.2.2.2.2.2.2.2.2.2.1 q3.2.2.2.2.2.2.2.2.2.2.1 (Hx.lk_fn (d := hd_15) (c.fnT 15 rfl) rfl q3.2.2.2.2.2.2.2.2.2.2.2.1 q3.2.2.2.2.2.2.2.2.2.2.2.2.1 rfl rfl) q3.2.2.2.2.2.2.2.2.2.2.2.2.2.1 q3.2.2.2.2.2.2.2.2.2.2.2.2.2.2.1 q3.2.2.2.2.2.2.2.2.2.2.2.2.2.2.2.1
    q3.2.2.2.2.2.2.2.2.2.2.2.2.2.2.2.2.1 q3.2.2.2.2.2.2.2.2.2.2.2.2.2.2.2.2.2.1 q3.2.2.2.2.2.2.2.2.2.2.2.2.2.2.2.2.2.2.1 (Hx.lk_fn (d := hd_16) (c.fnT 16 rfl) rfl q3.2.2.2.2.2.2.2.2.2.2.2.2.2.2.2.2.2.2.2.1 q3.2.2.2.2.2.2.2.2.2.2.2.2.2.2.2.2.2.2.2.2.1 rfl rfl) q3.2.2.2.2.2.2.2.2.2.2.2.2.2.2.2.2.2.2.2.2.2.1 q3.2.2.2.2.2.2.2.2.2.2.2.2.2.2.2.2.2.2.2.2.2.2.1 q3.2.2.2.2.2.2.2.2.2.2.2.2.2.2.2.2.2.2.2.2.2.2.2 q4.1 q4.2.1 q4.2.2.1 (Hx.lk_fn (d := hd_17) (c.fnT 17 rfl) rfl q4.2.2.2.1 q4.2.2.2.2.1 rfl rfl) q4.2.2.2.2.2.1
    q4.2.2.2.2.2.2.1 q4.2.2.2.2.2.2.2.1 q4.2.2.2.2.2.2.2.2.1 q4.2.2.2.2.2.2.2.2.2.1 q4.2.2.2.2.2.2.2.2.2.2.1 (Hx.lk_fn (d := hd_18) (c.fnT 18 rfl) rfl q4.2.2.2.2.2.2.2.2.2.2.2.1 q4.2.2.2.2.2.2.2.2.2.2.2.2.1 rfl rfl) q4.2.2.2.2.2.2.2.2.2.2.2.2.2.1 q4.2.2.2.2.2.2.2.2.2.2.2.2.2.2.1 q4.2.2.2.2.2.2.2.2.2.2.2.2.2.2.2.1 q4.2.2.2.2.2.2.2.2.2.2.2.2.2.2.2.2.1 (Hx.lk_fn (d := hd_19) (c.fnT 19 rfl) rfl q4.2.2.2.2.2.2.2.2.2.2.2.2.2.2.2.2.2.1 q4.2.2.2.2.2.2.2.2.2.2.2.2.2.2.2.2.2.2.1 rfl rfl) q4.2.2.2.2.2.2.2.2.2.2.2.2.2.2.2.2.2.2.2.1
    q4.2.2.2.2.2.2.2.2.2.2.2.2.2.2.2.2.2.2.2.2.1 q4.2.2.2.2.2.2.2.2.2.2.2.2.2.2.2.2.2.2.2.2.2.1 q4.2.2.2.2.2.2.2.2.2.2.2.2.2.2.2.2.2.2.2.2.2.2.1 (Hx.lk_fn (d := hd_20) (c.fnT 20 rfl) rfl q4.2.2.2.2.2.2.2.2.2.2.2.2.2.2.2.2.2.2.2.2.2.2.2 q5.1 rfl rfl) q5.2.1 q5.2.2.1 q5.2.2.2.1 q5.2.2.2.2.1 (Hx.lk_fn (d := hd_21) (c.fnT 21 rfl) rfl q5.2.2.2.2.2.1 q5.2.2.2.2.2.2.1 rfl rfl) q5.2.2.2.2.2.2.2.1 q5.2.2.2.2.2.2.2.2.1 q5.2.2.2.2.2.2.2.2.2.1
    q5.2.2.2.2.2.2.2.2.2.2.1 (Hx.lk_fn (d := hd_22) (c.fnT 22 rfl) rfl q5.2.2.2.2.2.2.2.2.2.2.2.1 q5.2.2.2.2.2.2.2.2.2.2.2.2.1 rfl rfl) q5.2.2.2.2.2.2.2.2.2.2.2.2.2.1 q5.2.2.2.2.2.2.2.2.2.2.2.2.2.2.1 q5.2.2.2.2.2.2.2.2.2.2.2.2.2.2.2.1 q5.2.2.2.2.2.2.2.2.2.2.2.2.2.2.2.2.1 (Hx.lk_fn (d := hd_23) (c.fnT 23 rfl) rfl q5.2.2.2.2.2.2.2.2.2.2.2.2.2.2.2.2.2.1 q5.2.2.2.2.2.2.2.2.2.2.2.2.2.2.2.2.2.2.1 rfl rfl) q5.2.2.2.2.2.2.2.2.2.2.2.2.2.2.2.2.2.2.2.1 q5.2.2.2.2.2.2.2.2.2.2.2.2.2.2.2.2.2.2.2.2.1 q5.2.2.2.2.2.2.2.2.2.2.2.2.2.2.2.2.2.2.2.2.2.1 q5.2.2.2.2.2.2.2.2.2.2.2.2.2.2.2.2.2.2.2.2.2.2.1 (Hx.lk_fn (d := hd_24) (c.fnT 24 rfl) rfl q5.2.2.2.2.2.2.2.2.2.2.2.2.2.2.2.2.2.2.2.2.2.2.2 q6.1 rfl rfl)
    q6.2.1 q6.2.2.1 q6.2.2.2.1 q6.2.2.2.2.1 (Hx.lk_fn (d := hd_25) (c.fnT 25 rfl) rfl q6.2.2.2.2.2.1 q6.2.2.2.2.2.2.1 rfl rfl) q6.2.2.2.2.2.2.2.1 q6.2.2.2.2.2.2.2.2.1 q6.2.2.2.2.2.2.2.2.2.1 (Hx.lk_fn (d := hd_26) (c.fnT 26 rfl) rfl q6.2.2.2.2.2.2.2.2.2.2.1 q6.2.2.2.2.2.2.2.2.2.2.2.1 rfl rfl) q6.2.2.2.2.2.2.2.2.2.2.2.2.1 q6.2.2.2.2.2.2.2.2.2.2.2.2.2.1 q6.2.2.2.2.2.2.2.2.2.2.2.2.2.2.1
    (Hx.lk_fn (d := hd_27) (c.fnT 27 rfl) rfl q6.2.2.2.2.2.2.2.2.2.2.2.2.2.2.2.1 q6.2.2.2.2.2.2.2.2.2.2.2.2.2.2.2.2.1 rfl rfl) q6.2.2.2.2.2.2.2.2.2.2.2.2.2.2.2.2.2.1 q6.2.2.2.2.2.2.2.2.2.2.2.2.2.2.2.2.2.2.1 q6.2.2.2.2.2.2.2.2.2.2.2.2.2.2.2.2.2.2.2.1 (Hx.lk_fn (d := hd_28) (c.fnT 28 rfl) rfl q6.2.2.2.2.2.2.2.2.2.2.2.2.2.2.2.2.2.2.2.2.1 q6.2.2.2.2.2.2.2.2.2.2.2.2.2.2.2.2.2.2.2.2.2.1 rfl rfl) q6.2.2.2.2.2.2.2.2.2.2.2.2.2.2.2.2.2.2.2.2.2.2.1 q6.2.2.2.2.2.2.2.2.2.2.2.2.2.2.2.2.2.2.2.2.2.2.2 q7.1 (Hx.lk_fn (d := hd_29) (c.fnT 29 rfl) rfl q7.2.1 q7.2.2.1 rfl rfl) q7.2.2.2.1 q7.2.2.2.2.1 q7.2.2.2.2.2.1
    (Hx.lk_fn (d := hd_30) (c.fnT 30 rfl) rfl q7.2.2.2.2.2.2.1 q7.2.2.2.2.2.2.2.1 rfl rfl) q7.2.2.2.2.2.2.2.2.1 q7.2.2.2.2.2.2.2.2.2.1 q7.2.2.2.2.2.2.2.2.2.2.1 (Hx.lk_fn (d := hd_31) (c.fnT 31 rfl) rfl q7.2.2.2.2.2.2.2.2.2.2.2.1 q7.2.2.2.2.2.2.2.2.2.2.2.2.1 rfl rfl) q7.2.2.2.2.2.2.2.2.2.2.2.2.2.1 q7.2.2.2.2.2.2.2.2.2.2.2.2.2.2.1 q7.2.2.2.2.2.2.2.2.2.2.2.2.2.2.2.1 (Hx.lk_fn (d := hd_32) (c.fnT 32 rfl) rfl q7.2.2.2.2.2.2.2.2.2.2.2.2.2.2.2.2.1 q7.2.2.2.2.2.2.2.2.2.2.2.2.2.2.2.2.2.1 rfl rfl) q7.2.2.2.2.2.2.2.2.2.2.2.2.2.2.2.2.2.2.1 q7.2.2.2.2.2.2.2.2.2.2.2.2.2.2.2.2.2.2.2.1 q7.2.2.2.2.2.2.2.2.2.2.2.2.2.2.2.2.2.2.2.2.1
    (Hx.lk_fn (d := hd_33) (c.fnT 33 rfl) rfl q7.2.2.2.2.2.2.2.2.2.2.2.2.2.2.2.2.2.2.2.2.2.1 q7.2.2.2.2.2.2.2.2.2.2.2.2.2.2.2.2.2.2.2.2.2.2.1 rfl rfl) q7.2.2.2.2.2.2.2.2.2.2.2.2.2.2.2.2.2.2.2.2.2.2.2 q8.1 q8.2.1 (Hx.lk_fn (d := hd_34) (c.fnT 34 rfl) rfl q8.2.2.1 q8.2.2.2.1 rfl rfl) q8.2.2.2.2.1 q8.2.2.2.2.2.1 q8.2.2.2.2.2.2.1 (Hx.lk_fn (d := hd_35) (c.fnT 35 rfl) rfl q8.2.2.2.2.2.2.2.1 q8.2.2.2.2.2.2.2.2.1 rfl rfl) q8.2.2.2.2.2.2.2.2.2.1 q8.2.2.2.2.2.2.2.2.2.2.1 q8.2.2.2.2.2.2.2.2.2.2.2.1
    (Hx.lk_fn (d := hd_36) (c.fnT 36 rfl) rfl q8.2.2.2.2.2.2.2.2.2.2.2.2.1 q8.2.2.2.2.2.2.2.2.2.2.2.2.2.1 rfl rfl) q8.2.2.2.2.2.2.2.2.2.2.2.2.2.2.1 q8.2.2.2.2.2.2.2.2.2.2.2.2.2.2.2.1 q8.2.2.2.2.2.2.2.2.2.2.2.2.2.2.2.2.1 (Hx.lk_fn (d := hd_37) (c.fnT 37 rfl) rfl q8.2.2.2.2.2.2.2.2.2.2.2.2.2.2.2.2.2.1 q8.2.2.2.2.2.2.2.2.2.2.2.2.2.2.2.2.2.2.1 rfl rfl) q8.2.2.2.2.2.2.2.2.2.2.2.2.2.2.2.2.2.2.2.1 q8.2.2.2.2.2.2.2.2.2.2.2.2.2.2.2.2.2.2.2.2.1 q8.2.2.2.2.2.2.2.2.2.2.2.2.2.2.2.2.2.2.2.2.2.1 (Hx.lk_fn (d := hd_38) (c.fnT 38 rfl) rfl q8.2.2.2.2.2.2.2.2.2.2.2.2.2.2.2.2.2.2.2.2.2.2.1 q8.2.2.2.2.2.2.2.2.2.2.2.2.2.2.2.2.2.2.2.2.2.2.2 rfl rfl) q9.1 q9.2.1 q9.2.2.1
    (Hx.lk_fn (d := hd_39) (c.fnT 39 rfl) rfl q9.2.2.2.1 q9.2.2.2.2.1 rfl rfl) q9.2.2.2.2.2.1 q9.2.2.2.2.2.2.1 q9.2.2.2.2.2.2.2.1 (Hx.lk_fn (d := hd_40) (c.fnT 40 rfl) rfl q9.2.2.2.2.2.2.2.2.1 q9.2.2.2.2.2.2.2.2.2.1 rfl rfl) q9.2.2.2.2.2.2.2.2.2.2.1 q9.2.2.2.2.2.2.2.2.2.2.2.1 q9.2.2.2.2.2.2.2.2.2.2.2.2.1 (Hx.lk_fn (d := hd_41) (c.fnT 41 rfl) rfl q9.2.2.2.2.2.2.2.2.2.2.2.2.2.1 q9.2.2.2.2.2.2.2.2.2.2.2.2.2.2.1 rfl rfl) q9.2.2.2.2.2.2.2.2.2.2.2.2.2.2.2.1 q9.2.2.2.2.2.2.2.2.2.2.2.2.2.2.2.2.1 q9.2.2.2.2.2.2.2.2.2.2.2.2.2.2.2.2.2.1
    (Hx.lk_fn (d := hd_42) (c.fnT 42 rfl) rfl q9.2.2.2.2.2.2.2.2.2.2.2.2.2.2.2.2.2.2.1 q9.2.2.2.2.2.2.2.2.2.2.2.2.2.2.2.2.2.2.2.1 rfl rfl) q9.2.2.2.2.2.2.2.2.2.2.2.2.2.2.2.2.2.2.2.2.1 q9.2.2.2.2.2.2.2.2.2.2.2.2.2.2.2.2.2.2.2.2.2.1 q9.2.2.2.2.2.2.2.2.2.2.2.2.2.2.2.2.2.2.2.2.2.2.1 (Hx.lk_fn (d := hd_43) (c.fnT 43 rfl) rfl q9.2.2.2.2.2.2.2.2.2.2.2.2.2.2.2.2.2.2.2.2.2.2.2 q10.1 rfl rfl) q10.2.1 q10.2.2.1 q10.2.2.2.1 (Hx.lk_fn (d := hd_44) (c.fnT 44 rfl) rfl q10.2.2.2.2.1 q10.2.2.2.2.2.1 rfl rfl) q10.2.2.2.2.2.2.1 q10.2.2.2.2.2.2.2.1 q10.2.2.2.2.2.2.2.2.1
    (Hx.lk_fn (d := hd_45) (c.fnT 45 rfl) rfl q10.2.2.2.2.2.2.2.2.2.1 q10.2.2.2.2.2.2.2.2.2.2.1 rfl rfl) q10.2.2.2.2.2.2.2.2.2.2.2.1 q10.2.2.2.2.2.2.2.2.2.2.2.2.1 q10.2.2.2.2.2.2.2.2.2.2.2.2.2.1 (Hx.lk_fn (d := hd_46) (c.fnT 46 rfl) rfl q10.2.2.2.2.2.2.2.2.2.2.2.2.2.2.1 q10.2.2.2.2.2.2.2.2.2.2.2.2.2.2.2.1 rfl rfl) q10.2.2.2.2.2.2.2.2.2.2.2.2.2.2.2.2.1 q10.2.2.2.2.2.2.2.2.2.2.2.2.2.2.2.2.2.1 q10.2.2.2.2.2.2.2.2.2.2.2.2.2.2.2.2.2.2.1 (Hx.lk_fn (d := hd_47) (c.fnT 47 rfl) rfl q10.2.2.2.2.2.2.2.2.2.2.2.2.2.2.2.2.2.2.2.1 q10.2.2.2.2.2.2.2.2.2.2.2.2.2.2.2.2.2.2.2.2.1 rfl rfl) q10.2.2.2.2.2.2.2.2.2.2.2.2.2.2.2.2.2.2.2.2.2.1 q10.2.2.2.2.2.2.2.2.2.2.2.2.2.2.2.2.2.2.2.2.2.2.1 q10.2.2.2.2.2.2.2.2.2.2.2.2.2.2.2.2.2.2.2.2.2.2.2
    (Hx.lk_fn (d := hd_48) (c.fnT 48 rfl) rfl q11.1 q11.2.1 rfl rfl) q11.2.2.1 q11.2.2.2.1 q11.2.2.2.2.1 (Hx.lk_fn (d := hd_49) (c.fnT 49 rfl) rfl q11.2.2.2.2.2.1 q11.2.2.2.2.2.2.1 rfl rfl) q11.2.2.2.2.2.2.2.1 q11.2.2.2.2.2.2.2.2.1 q11.2.2.2.2.2.2.2.2.2.1 (Hx.lk_fn (d := hd_50) (c.fnT 50 rfl) rfl q11.2.2.2.2.2.2.2.2.2.2.1 q11.2.2.2.2.2.2.2.2.2.2.2.1 rfl rfl) q11.2.2.2.2.2.2.2.2.2.2.2.2.1 q11.2.2.2.2.2.2.2.2.2.2.2.2.2.1 q11.2.2.2.2.2.2.2.2.2.2.2.2.2.2.1
    q11.2.2.2.2.2.2.2.2.2.2.2.2.2.2.2.1 (by rfl) q11.2.2.2.2.2.2.2.2.2.2.2.2.2.2.2.2.1 q11.2.2.2.2.2.2.2.2.2.2.2.2.2.2.2.2.2.1 q11.2.2.2.2.2.2.2.2.2.2.2.2.2.2.2.2.2.2.1 q11.2.2.2.2.2.2.2.2.2.2.2.2.2.2.2.2.2.2.2.1 q11.2.2.2.2.2.2.2.2.2.2.2.2.2.2.2.2.2.2.2.2.1 q11.2.2.2.2.2.2.2.2.2.2.2.2.2.2.2.2.2.2.2.2.2.1 q11.2.2.2.2.2.2.2.2.2.2.2.2.2.2.2.2.2.2.2.2.2.2.1 q11.2.2.2.2.2.2.2.2.2.2.2.2.2.2.2.2.2.2.2.2.2.2.2 q12.1 q12.2.1
    q12.2.2.1 q12.2.2.2.1 q12.2.2.2.2.1 q12.2.2.2.2.2.1 q12.2.2.2.2.2.2.1 q12.2.2.2.2.2.2.2.1 q12.2.2.2.2.2.2.2.2.1 q12.2.2.2.2.2.2.2.2.2.1 q12.2.2.2.2.2.2.2.2.2.2.1 q12.2.2.2.2.2.2.2.2.2.2.2.1 q12.2.2.2.2.2.2.2.2.2.2.2.2.1 q12.2.2.2.2.2.2.2.2.2.2.2.2.2.1
    q12.2.2.2.2.2.2.2.2.2.2.2.2.2.2.1 q12.2.2.2.2.2.2.2.2.2.2.2.2.2.2.2.1 q12.2.2.2.2.2.2.2.2.2.2.2.2.2.2.2.2.1 q12.2.2.2.2.2.2.2.2.2.2.2.2.2.2.2.2.2.1 q12.2.2.2.2.2.2.2.2.2.2.2.2.2.2.2.2.2.2.1 q12.2.2.2.2.2.2.2.2.2.2.2.2.2.2.2.2.2.2.2.1 q12.2.2.2.2.2.2.2.2.2.2.2.2.2.2.2.2.2.2.2.2.1 q12.2.2.2.2.2.2.2.2.2.2.2.2.2.2.2.2.2.2.2.2.2.1 (Hx.lk_fn (d := hd_51) (c.fnT 51 rfl) rfl q12.2.2.2.2.2.2.2.2.2.2.2.2.2.2.2.2.2.2.2.2.2.2.1 q12.2.2.2.2.2.2.2.2.2.2.2.2.2.2.2.2.2.2.2.2.2.2.2 rfl q13.1) q13.2.1 (Hx.lk_cell q13.2.2.1) (Hx.lk_fields q13.2.2.2.1)
    q13.2.2.2.2.1 q13.2.2.2.2.2.1 q13.2.2.2.2.2.2.1 q13.2.2.2.2.2.2.2.1 q13.2.2.2.2.2.2.2.2.1 q13.2.2.2.2.2.2.2.2.2.1 q13.2.2.2.2.2.2.2.2.2.2.1 q13.2.2.2.2.2.2.2.2.2.2.2.1 q13.2.2.2.2.2.2.2.2.2.2.2.2.1 q13.2.2.2.2.2.2.2.2.2.2.2.2.2.1 q13.2.2.2.2.2.2.2.2.2.2.2.2.2.2.1 q13.2.2.2.2.2.2.2.2.2.2.2.2.2.2.2.1
    q13.2.2.2.2.2.2.2.2.2.2.2.2.2.2.2.2.1 q13.2.2.2.2.2.2.2.2.2.2.2.2.2.2.2.2.2.1 q13.2.2.2.2.2.2.2.2.2.2.2.2.2.2.2.2.2.2.1 q13.2.2.2.2.2.2.2.2.2.2.2.2.2.2.2.2.2.2.2.1 q13.2.2.2.2.2.2.2.2.2.2.2.2.2.2.2.2.2.2.2.2.1 q13.2.2.2.2.2.2.2.2.2.2.2.2.2.2.2.2.2.2.2.2.2.1 q13.2.2.2.2.2.2.2.2.2.2.2.2.2.2.2.2.2.2.2.2.2.2.1 q13.2.2.2.2.2.2.2.2.2.2.2.2.2.2.2.2.2.2.2.2.2.2.2 q14.1 q14.2.1 q14.2.2.1 q14.2.2.2.1
    q14.2.2.2.2.1 q14.2.2.2.2.2.1 q14.2.2.2.2.2.2.1 q14.2.2.2.2.2.2.2.1 q14.2.2.2.2.2.2.2.2.1 q14.2.2.2.2.2.2.2.2.2.1 q14.2.2.2.2.2.2.2.2.2.2.1 q14.2.2.2.2.2.2.2.2.2.2.2.1 q14.2.2.2.2.2.2.2.2.2.2.2.2.1 q14.2.2.2.2.2.2.2.2.2.2.2.2.2.1 q14.2.2.2.2.2.2.2.2.2.2.2.2.2.2.1 q14.2.2.2.2.2.2.2.2.2.2.2.2.2.2.2.1
    q14.2.2.2.2.2.2.2.2.2.2.2.2.2.2.2.2.1 q14.2.2.2.2.2.2.2.2.2.2.2.2.2.2.2.2.2.1 q14.2.2.2.2.2.2.2.2.2.2.2.2.2.2.2.2.2.2.1 q14.2.2.2.2.2.2.2.2.2.2.2.2.2.2.2.2.2.2.2.1 q14.2.2.2.2.2.2.2.2.2.2.2.2.2.2.2.2.2.2.2.2.1 q14.2.2.2.2.2.2.2.2.2.2.2.2.2.2.2.2.2.2.2.2.2.1 q14.2.2.2.2.2.2.2.2.2.2.2.2.2.2.2.2.2.2.2.2.2.2.1 q14.2.2.2.2.2.2.2.2.2.2.2.2.2.2.2.2.2.2.2.2.2.2.2 q15.1 q15.2.1 q15.2.2.1 q15.2.2.2.1
    q15.2.2.2.2.1 q15.2.2.2.2.2.1 q15.2.2.2.2.2.2.1 q15.2.2.2.2.2.2.2.1 q15.2.2.2.2.2.2.2.2.1 q15.2.2.2.2.2.2.2.2.2.1 q15.2.2.2.2.2.2.2.2.2.2.1 q15.2.2.2.2.2.2.2.2.2.2.2.1 q15.2.2.2.2.2.2.2.2.2.2.2.2.1 q15.2.2.2.2.2.2.2.2.2.2.2.2.2.1 q15.2.2.2.2.2.2.2.2.2.2.2.2.2.2.1 q15.2.2.2.2.2.2.2.2.2.2.2.2.2.2.2.1
    q15.2.2.2.2.2.2.2.2.2.2.2.2.2.2.2.2.1 q15.2.2.2.2.2.2.2.2.2.2.2.2.2.2.2.2.2.1 q15.2.2.2.2.2.2.2.2.2.2.2.2.2.2.2.2.2.2.1 q15.2.2.2.2.2.2.2.2.2.2.2.2.2.2.2.2.2.2.2.1 q15.2.2.2.2.2.2.2.2.2.2.2.2.2.2.2.2.2.2.2.2.1 q15.2.2.2.2.2.2.2.2.2.2.2.2.2.2.2.2.2.2.2.2.2.1 q15.2.2.2.2.2.2.2.2.2.2.2.2.2.2.2.2.2.2.2.2.2.2.1 q15.2.2.2.2.2.2.2.2.2.2.2.2.2.2.2.2.2.2.2.2.2.2.2 q16.1 q16.2.1 q16.2.2.1 q16.2.2.2.1
    q16.2.2.2.2.1 q16.2.2.2.2.2.1 q16.2.2.2.2.2.2.1 q16.2.2.2.2.2.2.2.1 q16.2.2.2.2.2.2.2.2.1 q16.2.2.2.2.2.2.2.2.2.1 q16.2.2.2.2.2.2.2.2.2.2.1 q16.2.2.2.2.2.2.2.2.2.2.2.1 q16.2.2.2.2.2.2.2.2.2.2.2.2.1 q16.2.2.2.2.2.2.2.2.2.2.2.2.2.1 q16.2.2.2.2.2.2.2.2.2.2.2.2.2.2.1 q16.2.2.2.2.2.2.2.2.2.2.2.2.2.2.2.1
    q16.2.2.2.2.2.2.2.2.2.2.2.2.2.2.2.2.1 q16.2.2.2.2.2.2.2.2.2.2.2.2.2.2.2.2.2.1 q16.2.2.2.2.2.2.2.2.2.2.2.2.2.2.2.2.2.2.1 q16.2.2.2.2.2.2.2.2.2.2.2.2.2.2.2.2.2.2.2.1 q16.2.2.2.2.2.2.2.2.2.2.2.2.2.2.2.2.2.2.2.2.1 q16.2.2.2.2.2.2.2.2.2.2.2.2.2.2.2.2.2.2.2.2.2.1 q16.2.2.2.2.2.2.2.2.2.2.2.2.2.2.2.2.2.2.2.2.2.2.1 q16.2.2.2.2.2.2.2.2.2.2.2.2.2.2.2.2.2.2.2.2.2.2.2 q17.1 q17.2.1 q17.2.2.1 q17.2.2.2.1
    q17.2.2.2.2.1 q17.2.2.2.2.2.1 q17.2.2.2.2.2.2.1 q17.2.2.2.2.2.2.2.1 q17.2.2.2.2.2.2.2.2.1 q17.2.2.2.2.2.2.2.2.2.1 q17.2.2.2.2.2.2.2.2.2.2.1 q17.2.2.2.2.2.2.2.2.2.2.2.1 q17.2.2.2.2.2.2.2.2.2.2.2.2.1 q17.2.2.2.2.2.2.2.2.2.2.2.2.2.1 q17.2.2.2.2.2.2.2.2.2.2.2.2.2.2.1 q17.2.2.2.2.2.2.2.2.2.2.2.2.2.2.2.1
    q17.2.2.2.2.2.2.2.2.2.2.2.2.2.2.2.2.1 q17.2.2.2.2.2.2.2.2.2.2.2.2.2.2.2.2.2.1 q17.2.2.2.2.2.2.2.2.2.2.2.2.2.2.2.2.2.2.1 q17.2.2.2.2.2.2.2.2.2.2.2.2.2.2.2.2.2.2.2.1 q17.2.2.2.2.2.2.2.2.2.2.2.2.2.2.2.2.2.2.2.2.1 q17.2.2.2.2.2.2.2.2.2.2.2.2.2.2.2.2.2.2.2.2.2.1 q17.2.2.2.2.2.2.2.2.2.2.2.2.2.2.2.2.2.2.2.2.2.2.1 q17.2.2.2.2.2.2.2.2.2.2.2.2.2.2.2.2.2.2.2.2.2.2.2 q18.1 q18.2.1 q18.2.2.1 q18.2.2.2.1
    q18.2.2.2.2.1 q18.2.2.2.2.2.1 q18.2.2.2.2.2.2.1 q18.2.2.2.2.2.2.2.1 q18.2.2.2.2.2.2.2.2.1 q18.2.2.2.2.2.2.2.2.2.1 q18.2.2.2.2.2.2.2.2.2.2.1 q18.2.2.2.2.2.2.2.2.2.2.2.1 q18.2.2.2.2.2.2.2.2.2.2.2.2.1 q18.2.2.2.2.2.2.2.2.2.2.2.2.2.1 q18.2.2.2.2.2.2.2.2.2.2.2.2.2.2.1 q18.2.2.2.2.2.2.2.2.2.2.2.2.2.2.2.1
    q18.2.2.2.2.2.2.2.2.2.2.2.2.2.2.2.2.1 q18.2.2.2.2.2.2.2.2.2.2.2.2.2.2.2.2.2.1 q18.2.2.2.2.2.2.2.2.2.2.2.2.2.2.2.2.2.2.1 q18.2.2.2.2.2.2.2.2.2.2.2.2.2.2.2.2.2.2.2.1 q18.2.2.2.2.2.2.2.2.2.2.2.2.2.2.2.2.2.2.2.2.1 q18.2.2.2.2.2.2.2.2.2.2.2.2.2.2.2.2.2.2.2.2.2.1 q18.2.2.2.2.2.2.2.2.2.2.2.2.2.2.2.2.2.2.2.2.2.2.1 q18.2.2.2.2.2.2.2.2.2.2.2.2.2.2.2.2.2.2.2.2.2.2.2 q19.1 q19.2.1 q19.2.2
end
end K07
open PySem PySem.W PySem.Calls PyProof.Rows
set_option maxHeartbeats 0 in
theorem PySem.Challenge.cw_settledplay_k07_whole_texts_of_worlds_holds : PySem.Challenge.rw_settledplay_k07_whole_texts_of_worlds.Holds := by
  w_on; o_law
  refine HandSHeadRun.head_any (r := K07.hR) (q := K07.hq) (H := K07.hk) (ob := K07.ob) (M := 20000) (loose := K07.loose) (d := HandSHeadRun.topDef K07.hR.prog 58) (kwd := []) K07.ob_eq
    K07.z_e K07.z_f K07.run K07.z_def K07.z_p K07.z_k (by rfl) (by first | assumption | decide +kernel) K07.z_ok K07.z_b ?hw ?hc
  case hw => w_witness2
  case hc =>
    refine Hx.walk_vlE (l := PySem.Challenge.rw_settledplay_k07_whole_texts_of_worlds) (n := 63) (k := 15) (x := "_law_script") (CX := fun w => L2.CX PySem.Challenge.rw_settledplay_k07_whole_texts_of_worlds.prog w) rfl (by decide) K07.z_d ⟨rfl, by decide, by decide⟩ [] (by kernel_rfl) ?F (fun _ _ _ _ _ h => VL.noCX h)
    intro w mg fa h Y G hmg0
    obtain ⟨K, KX, c⟩ := Y
    have hmg : mg ("law" : PySem.Str) = some (.ref fa) := by
      have e : (HandSHeadRun.topDef K07.hR.prog 58).name = ("law" : PySem.Str) := K07.z_n
      rw [← e]
      exact hmg0
    exact ⟨K, KX, K07.facts KX G hmg c⟩


