import PyProof.Rows.All
import Wide.All
import OpenK.AllK
import Wide.FinOn
import HandS.ForMost
import HandS.Wide
import HandS.Walk
import HandS.IsInst
import HandS.Style
import HandS.Strs
import HandS.Star
import HandS.TupAny
import HandS.FStr
import HandS.Property
import HandS.SlotsOwn
import HandS.IterNext
import HandS.OwnIter
import KE.KCallOwn
import KE.KFmtOwn
import PyProof.InstNe
import HandS.Zip
import PySem.Challenge.RW_settledplay_k06_whole_rows_of_things
set_option Elab.async false
set_option linter.all false
set_option maxRecDepth 100000
set_option maxHeartbeats 4000000

/-! ### own __eq__, __ne__, __contains__, __len__, __str__, __iter__ of slotted instances; isinstance of any value -/
namespace OwA
open PySem PySem.Spec PyProof.Rows L2 SlX
/-- a value's type: a slotted instance or another value -/
inductive TyA (K : PySem.W.Frag) (H : Hp) : V → Value → Prop where
  | sl {a C dx : Addr} {vs : List (Option V)} (hs : Slt H a C dx vs) (hc : SCls K C) (hi : SIsi K C) : TyA K H (.ref a) (.ref C)
  | ty {x : V} {t : Value} (h : TyX K H x t) : TyA K H x t
section
variable {X : Cx} {CX : CXT} {pins : List (Addr × Obj)} {σ : L2.St} {H : Hp} {s : Shared} {a C dx p g : Addr} {vs : List (Option V)} {f : Str} {n : Nat} {sp spI spL : Sp} {E : XK} {v : V} {u : Value}
theorem tya_kit {x : V} {u t : Value} (I : Inv X pins σ H s) (rx : RelV x u) (ty : TyA X.K H x t) : ∃ P : Heap → Prop, PySem.W.KitX X.K u t P ∧ P s.heap ∧ u ≠ .builtin "__main__.__loader__#opaque" := by
  cases ty with
  | sl hs hc hi =>
    cases rx
    obtain ⟨sl, od, _, J, _⟩ := slt_inst I hs
    exact ⟨_, OwX.kitx_slt hc.ic (hc.get _) hi.ca hi.cn hi.ct hi.cm, J, fun z => nomatch z⟩
  | ty h => exact kit_of I rx h
theorem kit_self {K : PySem.W.Frag} {t : Value} : PySem.W.kitOne K t t = some true := by
  unfold PySem.W.kitOne
  rw [if_pos (beq_self_eq_true t)]
theorem kit_own {K : PySem.W.Frag} {C : Addr} {t : Value} {b : Bool} (ic : PySem.W.isClsIn K C = true) (ty : PySem.W.typeIn K (.ref C) = some (.type "type")) (h : PySem.W.subIn K t (.ref C) = some b) (ne : (t == Value.ref C) = false) : PySem.W.kitOne K t (.ref C) = some b := by
  unfold PySem.W.kitOne
  rw [if_neg (by rw [ne]; exact Bool.false_ne_true)]
  show (if ((PySem.W.clsIn K C).isSome && PySem.W.typeIn K (.ref C) == some (.type "type")) = true then PySem.W.subIn K t (.ref C) else none) = some b
  rw [if_pos (by rw [ty, show (PySem.W.clsIn K C).isSome = true from ic]; rfl), h]
/-- isinstance(x, c), any x -/
def rIsA (K : PySem.W.Frag) : List V → Hp → VK → Prop := fun xs H Q => ∃ (x c : V) (t u : Value) (b : Bool), xs = [x, c] ∧ ClsV c u ∧ TyA K H x t ∧ PySem.W.kitOne K t u = some b ∧ Q (.bl b) H
theorem call_isA : CallR X (.builtin "isinstance") (rIsA X.K) := by
  intro pins s σ H xs us Q I r h
  obtain ⟨x, c, t, u, b, rfl, k, ty, e, q⟩ := h
  obtain ⟨u1, u2, rfl, r1, r2⟩ := vals2 r
  have e2 := k.eq r2
  subst e2
  obtain ⟨P, Z, p, hx⟩ := tya_kit I r1 ty
  exact PySem.W.kia_one Z I.kIn p e hx fun tk => ⟨.bl b, H, I.tok tk, rfl, q⟩
/-- x == y by x's own def -/
def rEqA (K : PySem.W.Frag) (C : Addr) (sp : Sp) (E : XK) : R2 := fun x y H Q => ∃ a dx vs t, x = .ref a ∧ Slt H a C dx vs ∧ TyA K H y t ∧ PySem.W.notFirst K C t = true ∧ sp [x, y] H Q E
theorem op_eqA (hs : PySem.W.findIn X.K (.ref C) "__eq__" = some (some (.ref g))) (hf : PySem.W.isFn X.K (.ref g) = true) (F : FnR X.prog X.w X.K X.mg X.base CX n g sp)
    (hr : Room n X.A) (hx : Passes CX X E) : OpR X (compareOp .Eq) (rEqA X.K C sp E) := by
  intro pins s σ H x y v u Q I rx ry h
  obtain ⟨a, dx, vs, t, rfl, ha, ty, hn, q⟩ := h
  cases (show v = Value.ref a from rx)
  obtain ⟨sl, od, _, J, _⟩ := slt_inst I ha
  obtain ⟨P, Z, hp, _⟩ := tya_kit I ry ty
  obtain ⟨m, hF⟩ := I.fr
  show wpAny _ _ (richCompare .Eq (.ref a) u) _ _ _
  refine PySem.W.cmp_K (op := .Eq) (tb := t) hr.units0 hF I.ok.mod.kin J (Z.ty _ _ I.kIn hp) hn hs hf ?_
  refine wpAny_mono (wpAny_call (run_fnR (us := [.ref a, u]) (vs := [.ref a, y]) F hr hx I (.cons rfl (.cons ry .nil)) q)) (fun w s' z => ?_) fun _ _ x => x
  obtain ⟨z', H', I', rz, qz⟩ := z
  exact cmpback rz ⟨z', H', I', rz, qz⟩
theorem ifBound_B {prog : Program} {w : World} {A : Around} {EE : Value → Shared → Prop} {name : Str} {id : String} {ox : Obj} {od : Option Obj} {x C : Addr} {K : PySem.W.Frag} {args : List Value} {Q : Option Value → Shared → Prop} (X : K.In s.heap) (I : PySem.W.InstAt s.heap x ox C od) (hs : PySem.W.findIn K (.ref C) name = some (some (.builtin id)))
    (hb : ∀ self, bindSpecial (.builtin id) self = pure (.builtin id, [self])) (h : wpAny (model prog w) A (call (.builtin id) (.ref x :: args)) (fun v => Q (some v)) EE s) : wpAny (model prog w) A (callSpecialIfBound? (.ref x) name args) Q EE s := by
  simp only [callSpecialIfBound?, bindSpecialIfBound?]
  refine wpAny_holding (wpAny_bind (wpAny_bind (wpAny_bind (I.type.here ((PySem.W.looks_findIn X hs).here ?_)))))
  simp only [hb]
  refine wpAny_bind (wpAny_askSetting (wpAny_ite ?_))
  have fin : wpAny (model prog w) A (call (.builtin id) ([.ref x] ++ args) >>= fun v => pure (some v)) Q EE s := wpAny_bind (wpAny_mono h (fun v s' h' => wpAny_pure h') fun _ _ h' => h')
  split
  · exact wpAny_bind (wpAny_pure (wpAny_pure fin))
  · exact wpAny_tryCatch (wpAny_bind (wpAny_pure (wpAny_pure fin)))
/-- x != y by x's own __eq__ -/
def rNeA (K : PySem.W.Frag) (C : Addr) (sp : Sp) (E : XK) : R2 := fun x y H Q => ∃ a dx vs t, x = .ref a ∧ Slt H a C dx vs ∧ TyA K H y t ∧ PySem.W.notFirst K C t = true ∧ sp [x, y] H (fun z H' => ∃ b, z = .bl b ∧ Q (.bl (!b)) H') E
theorem op_neA (hs : PySem.W.findIn X.K (.ref C) "__eq__" = some (some (.ref g))) (hf : PySem.W.isFn X.K (.ref g) = true) (hne : PySem.W.findIn X.K (.ref C) "__ne__" = some (some (.builtin "object.__ne__"))) (hm : PySem.W.mroIn X.K C (.type "object") = some true)
    (F : FnR X.prog X.w X.K X.mg X.base CX n g sp) (hr : Room (n + 1) X.A) (hx : Passes CX X E) : OpR X (compareOp .NotEq) (rNeA X.K C sp E) := by
  intro pins s σ H x y v u Q I rx ry h
  obtain ⟨a, dx, vs, t, rfl, ha, ty, hn, q⟩ := h
  cases (show v = Value.ref a from rx)
  obtain ⟨sl, od, _, J, _⟩ := slt_inst I ha
  obtain ⟨P, Z, hp, _⟩ := tya_kit I ry ty
  have hr1 : Room n X.A.in1 := hr.in1
  have body : wpAny (model X.prog X.w) X.A (tryCompare (.ref a) "__ne__" u) (fun r s' => ∃ v, r = some v ∧ EP X pins σ Q v s') X.xe s := by
    unfold tryCompare
    refine wpAny_bind (ifBound_B (name := "__ne__") I.kIn J hne PySem.F.cmp_object.ne.bind ?_)
    refine wpAny_call (codeAny_call_builtin PySem.F.cmp_object.ne.plain PySem.F.cmpEntry_ne (PySem.W.check_slot (i := "object.__ne__") (owner := "object") (n := "__ne__") (by decide +kernel) (by decide +kernel) (J.type.andThen (PySem.W.looks_mroIn I.kIn hm)) (PySem.F.cmpArgs_ne _ _) ?_))
    unfold Builtin.«object.__ne__»
    refine wpAny_bind (wpAny_pure ?_)
    refine wpAny_bind (m := cRoomFor _ _) (wpAny_cRoomFor hr1.units0 ?_)
    refine wpAny_bind (m := callSpecialIfBound? (.ref a) (Str.ofString "__eq__") [u]) (PySem.W.ifBound_K I.kIn J hs hf ?_)
    refine wpAny_mono (wpAny_call (run_at (us := [.ref a, u]) (ws := [.ref a, y]) F hr1 I.env0.in1 hx I (.cons rfl (.cons ry .nil)) q)) (fun w s' z => ?_) fun _ _ x => x
    obtain ⟨z', H', I', rz, b, eb, qz⟩ := z
    subst eb
    cases rz
    refine wpAny_bind (wpAny_truthy_bool ?_)
    exact wpAny_pure (wpAny_pure ⟨_, rfl, .bl (!b), H', I', rfl, qz⟩)
  show wpAny _ _ (richCompare .NotEq (.ref a) u) _ _ _
  unfold richCompare
  simp only [oneThing_ref]
  refine wpAny_holding (wpAny_bind (wpAny_cRoomFor hr.units0 ?_))
  refine wpAny_bind (J.type.here (wpAny_bind ((Z.ty _ _ I.kIn hp).here ?_)))
  split
  · rename_i qq
    have e : PySem.W.subIn X.K t (.ref C) = some false := by
      rcases Bool.or_eq_true_iff.mp hn with e | e
      · rw [beq_iff_eq.mp e] at qq; simp at qq
      · exact beq_iff_eq.mp e
    refine wpAny_bind ((PySem.W.looks_subIn I.kIn e).here ?_)
    simp only [Bool.false_eq_true, if_false]
    refine wpAny_bind (wpAny_mono body (fun r s' z => ?_) fun _ _ e => e)
    obtain ⟨v, rfl, hq⟩ := z
    exact wpAny_pure hq
  · refine wpAny_bind (wpAny_pure ?_)
    simp only [Bool.false_eq_true, if_false]
    refine wpAny_bind (wpAny_mono body (fun r s' z => ?_) fun _ _ e => e)
    obtain ⟨v, rfl, hq⟩ := z
    exact wpAny_pure hq
/-- y in x, by x's own def, that answers a bool -/
def rInA (C : Addr) (sp : Sp) (E : XK) : R2 := fun y x H Q => ∃ a dx vs, x = .ref a ∧ Slt H a C dx vs ∧ sp [x, y] H (fun z H' => ∃ b, z = .bl b ∧ Q (.bl b) H') E
def rNinA (C : Addr) (sp : Sp) (E : XK) : R2 := fun y x H Q => ∃ a dx vs, x = .ref a ∧ Slt H a C dx vs ∧ sp [x, y] H (fun z H' => ∃ b, z = .bl b ∧ Q (.bl (!b)) H') E
theorem op_inA (hs : PySem.W.findIn X.K (.ref C) "__contains__" = some (some (.ref g))) (hf : PySem.W.isFn X.K (.ref g) = true) (F : FnR X.prog X.w X.K X.mg X.base CX n g sp) (hr : Room n X.A) (hx : Passes CX X E) : OpR X (compareOp .In) (rInA C sp E) := by
  intro pins s σ H y x u v Q I ry rx h
  obtain ⟨a, dx, vs, rfl, ha, q⟩ := h
  cases (show v = Value.ref a from rx)
  obtain ⟨sl, od, _, J, _⟩ := slt_inst I ha
  obtain ⟨m, hF⟩ := I.fr
  refine PySem.W.in_K hF I.ok.mod.kin J hs hf (wpAny_mono (wpAny_call (run_fnR (us := [.ref a, u]) (vs := [.ref a, y]) F hr hx I (.cons rfl (.cons ry .nil)) q)) (fun w s' z => ?_) fun _ _ x => x)
  obtain ⟨z', H', I', rz, b, eb, qz⟩ := z
  subst eb
  cases rz
  exact wpAny_truthy_bool ⟨.bl b, H', I', rfl, qz⟩
theorem op_ninA (hs : PySem.W.findIn X.K (.ref C) "__contains__" = some (some (.ref g))) (hf : PySem.W.isFn X.K (.ref g) = true) (F : FnR X.prog X.w X.K X.mg X.base CX n g sp) (hr : Room n X.A) (hx : Passes CX X E) : OpR X (compareOp .NotIn) (rNinA C sp E) := by
  intro pins s σ H y x u v Q I ry rx h
  obtain ⟨a, dx, vs, rfl, ha, q⟩ := h
  cases (show v = Value.ref a from rx)
  obtain ⟨sl, od, _, J, _⟩ := slt_inst I ha
  obtain ⟨m, hF⟩ := I.fr
  refine PySem.W.notIn_K hF I.ok.mod.kin J hs hf (wpAny_mono (wpAny_call (run_fnR (us := [.ref a, u]) (vs := [.ref a, y]) F hr hx I (.cons rfl (.cons ry .nil)) q)) (fun w s' z => ?_) fun _ _ x => x)
  obtain ⟨z', H', I', rz, b, eb, qz⟩ := z
  subst eb
  cases rz
  exact wpAny_truthy_bool ⟨.bl (!b), H', I', rfl, qz⟩
/-- len(x) by x's own def -/
def rLenA (C : Addr) (sp : Sp) (E : XK) : List V → Hp → VK → Prop := fun xs H Q => ∃ a dx vs, xs = [.ref a] ∧ Slt H a C dx vs ∧ sp [.ref a] H (fun z H' => ∃ k : Int, z = .int k ∧ (0 ≤ k ∧ k < 2 ^ 63) ∧ Q (.int k) H') E
/-- a callee that raises nothing, wherever it is asked -/
theorem run_at0 {A : Around} {Q : VK} {us : List Value} {ws : List V} {EE : Value → Shared → Prop} (F : FnR X.prog X.w X.K X.mg X.base CX n g sp) (hr : Room n A) (e0 : Env0 X.prog X.w X.K X.mg X.base A X.stack s H) (hx : ∀ (H : Hp) (s : Shared) (e : Value) (s' : Shared), CX X.stack H s E e s' → False) (I : Inv X pins σ H s) (r : Vals ws us) (h : sp ws H Q E) :
    codeAny (model X.prog X.w) A (.call (.ref g) ⟨us, []⟩) (fun r s' => match r with | .ok (.ret v) => EP X pins σ Q v s' | .ok _ => False | .error e => EE e s') s := by
  refine codeAny_mono (F A X.stack s H us ws Q E hr e0 r h) fun r s' hq => ?_
  cases r with
  | error e => exact (hx _ _ _ _ hq).elim
  | ok fl =>
    cases fl with
    | ret u => exact I.after hq
    | next => exact False.elim hq
    | brk => exact False.elim hq
    | cont => exact False.elim hq
theorem len_at {A : Around} {EE : Value → Shared → Prop} {Q : Value → Shared → Prop} {QQ : Int → Hp → Prop} (hs : PySem.W.findIn X.K (.ref C) "__len__" = some (some (.ref g))) (hf : PySem.W.isFn X.K (.ref g) = true) (F : FnR X.prog X.w X.K X.mg X.base CX n g sp) (hr : Room (n + 1) A) (e0 : Env0 X.prog X.w X.K X.mg X.base A X.stack s H) (hx : ∀ (H : Hp) (s : Shared) (e : Value) (s' : Shared), CX X.stack H s E e s' → False)
    (I : Inv X pins σ H s) (ha : Slt H a C dx vs) (h : sp [.ref a] H (fun z H' => ∃ k : Int, z = .int k ∧ (0 ≤ k ∧ k < 2 ^ 63) ∧ QQ k H') E) (q : ∀ (k : Int) (t : Tok) (H' : Hp) (s' : Shared), Inv X pins σ H' s' → 0 ≤ k → k < 2 ^ 63 → QQ k H' → Q (.int k t) s') :
    wpAny (model X.prog X.w) A (call (.builtin "len") [.ref a]) Q EE s := by
  obtain ⟨sl, od, _, J, _⟩ := slt_inst I ha
  obtain ⟨m, hF⟩ := I.fr
  refine PySem.W.len_K hF I.ok.mod.kin J hs hf (wpAny_mono (wpAny_call (run_at0 (us := [.ref a]) (ws := [.ref a]) F hr.in1 e0.in1 hx I (.cons rfl .nil) h)) (fun w s' z => ?_) fun _ _ x => x)
  obtain ⟨z', H', I', rz, k, ek, hk, qz⟩ := z
  subst ek
  obtain ⟨t, et⟩ := (show ∃ t, w = Value.int k t from rz)
  subst et
  exact ⟨hk, q k s'.toks H' _ (I'.tok _) hk.1 hk.2 qz⟩
theorem call_lenA (hs : PySem.W.findIn X.K (.ref C) "__len__" = some (some (.ref g))) (hf : PySem.W.isFn X.K (.ref g) = true) (F : FnR X.prog X.w X.K X.mg X.base CX n g sp) (hr : Room (n + 1) X.A) (hx : ∀ (H : Hp) (s : Shared) (e : Value) (s' : Shared), CX X.stack H s E e s' → False) : CallR X (.builtin "len") (rLenA C sp E) := by
  intro pins s σ H xs us Q I r h
  obtain ⟨a, dx, vs, rfl, ha, q⟩ := h
  obtain ⟨u, rfl, ru⟩ := r.one
  cases ru
  exact len_at (QQ := fun k H' => Q (.int k) H') hs hf F hr I.env0 hx I ha q fun k t H' s' I' h0 h1 qz => ⟨.int k, H', I', ⟨t, rfl⟩, qz⟩
/-- str(x) by x's own def -/
def rStrA (C : Addr) (sp : Sp) (E : XK) : List V → Hp → VK → Prop := fun xs H Q => ∃ a dx vs, xs = [.ref a] ∧ Slt H a C dx vs ∧ sp [.ref a] H (fun z H' => ∃ k : Str, z = .str k ∧ Q (.str k) H') E
theorem call_strA (hs : PySem.W.findIn X.K (.ref C) "__str__" = some (some (.ref g))) (hf : PySem.W.isFn X.K (.ref g) = true) (F : FnR X.prog X.w X.K X.mg X.base CX n g sp) (hr : Room (n + 2) X.A) (hx : Passes CX X E) : CallR X (.type "str") (rStrA C sp E) := by
  intro pins s σ H xs us Q I r h
  obtain ⟨a, dx, vs, rfl, ha, q⟩ := h
  obtain ⟨u, rfl, ru⟩ := r.one
  cases ru
  obtain ⟨sl, od, _, J, _⟩ := slt_inst I ha
  have hr2 : Room n X.A.in1.in1 := (show Room (n + 1) X.A.in1 from hr.in1).in1
  refine PySem.W.kso_call hr2.units0 I.kIn J hs hf (wpAny_mono (wpAny_call (run_at (us := [.ref a]) (ws := [.ref a]) F hr2 I.env0.in1.in1 hx I (.cons rfl .nil) q)) (fun w s' z => ?_) fun _ _ x => x)
  obtain ⟨z', H', I', rz, k, ek, qz⟩ := z
  subst ek
  obtain ⟨t, et⟩ := (show ∃ t, w = Value.str k t from rz)
  subst et
  exact ⟨.str k, H', I', ⟨t, rfl⟩, qz⟩
end
/-! ### list(x): x's own __iter__ gives an iterator over a list -/
theorem pyNext_end {prog : Program} {w : World} {A : Around} {EE : Value → Shared → Prop} {s : Shared} {it l : Addr} {i : Nat} {items : Array Value} {Q : Option Value → Shared → Prop} (hh : A.handled = none) (ho : s.heap.get? it = some (GNX.itObj l i)) (hl : s.heap.IsList l items) (hx : items[i]? = none)
    (hQ : ∀ h1 h', h1.get? it = some (GNX.itEnd i) → Heap.SameBut it s.heap h1 → (∀ b o, h1.get? b = some o → h'.get? b = some o) → Q none { s with heap := h' }) : wpAny (model prog w) A (pyNext (.ref it)) Q EE s := by
  have hT : s.TypeIs (.ref it) "list_iterator" := ⟨_, ho, rfl⟩
  unfold pyNext
  refine wpAny_bind (wpAny_attempt (wpAny_callSpecial?_slot (name := Str.ofString "__next__") hT slot_listiter_next
    (wpAny_call_entry slot_listiter_next hT entry_listiter_next ?_ (args_listiter_next _))))
  refine wpAny_mono (GNX.next_end (A := A) (Q := fun _ _ => False) (E := fun e s' => ∃ h1 h' vs ea, e = .ref ea ∧ s' = { s with heap := h' } ∧ h1.get? it = some (GNX.itEnd i) ∧ Heap.SameBut it s.heap h1 ∧ (∀ b o, h1.get? b = some o → h'.get? b = some o) ∧ h'.get? ea = some { cls := .type "StopIteration", data := .fields vs }) hh ho hl hx fun h1 h' e vs a b c _ d _ => ⟨h1, h', vs, e, rfl, rfl, a, b, c, d⟩) (fun fin s' hf => ?_) (fun e s' he => ?_)
  · obtain ⟨_, _, z⟩ := hf
    exact z.elim
  · obtain ⟨h1, h', vs, ea, rfl, rfl, a, b, c, d⟩ := he
    refine wpAny_bind (wpAny_isInstance (T := "StopIteration") (b := true) ⟨_, d, rfl⟩ isSubtype_stop ?_)
    exact wpAny_pure (hQ h1 h' a b c)
theorem pyNext_item {prog : Program} {w : World} {A : Around} {EE : Value → Shared → Prop} {s : Shared} {it l : Addr} {i : Nat} {items : Array Value} {x : Value} {Q : Option Value → Shared → Prop} (ho : s.heap.get? it = some (GNX.itObj l i)) (hl : s.heap.IsList l items) (hx : items[i]? = some x)
    (hQ : ∀ h', h'.get? it = some (GNX.itObj l (i + 1)) → Heap.SameBut it s.heap h' → Q (some x) { s with heap := h' }) : wpAny (model prog w) A (pyNext (.ref it)) Q EE s := by
  have hT : s.TypeIs (.ref it) "list_iterator" := ⟨_, ho, rfl⟩
  unfold pyNext
  refine wpAny_bind (wpAny_attempt (wpAny_callSpecial?_slot (name := Str.ofString "__next__") hT slot_listiter_next
    (wpAny_call_entry slot_listiter_next hT entry_listiter_next ?_ (args_listiter_next _))))
  refine wpAny_mono (GNX.next_item (Q := fun v s' => v = x ∧ ∃ h', s' = { s with heap := h' } ∧ h'.get? it = some (GNX.itObj l (i + 1)) ∧ Heap.SameBut it s.heap h') ho hl hx fun h' a b => ⟨rfl, h', rfl, a, b⟩) (fun fin s' hf => ?_) fun _ _ z => z
  obtain ⟨v, rfl, rfl, h', rfl, a, b⟩ := hf
  exact ⟨_, rfl, wpAny_pure (hQ h' a b)⟩
section
variable {X : Cx} {CX : CXT} {pins : List (Addr × Obj)} {σ : L2.St} {H : Hp} {s : Shared} {a C dx p fi fl it l q : Addr} {vs : List (Option V)} {n : Nat} {spI spL : Sp} {E : XK} {A1 : Around}
/-- the walk over the rest of the list at l -/
theorem ext_loop {zs : List V} {Rs : Result → Shared → Prop} (hh : A1.in1.handled = none) (hlen : zs.length < sizeLine) (ne : l ≠ q) (nq : it ≠ q) (nl : l ≠ it) (H0 : Hp)
    (hdone : ∀ (H : Hp) (s : Shared), Inv X pins σ H s → (∀ b, b ≠ q → b ≠ it → H b = H0 b) → H q = some (.lst zs) → Rs (.ok (.ret .none)) s) :
    ∀ (m i : Nat) (H : Hp) (s : Shared), m + i = zs.length → Inv X pins σ H s → (∀ b, b ≠ q → b ≠ it → H b = H0 b) → H q = some (.lst (zs.take i)) → H it = some (ItO l it i) → SqL X.K H l zs → codeAny (model X.prog X.w) A1 (.builtin "list.extend.loop" ⟨[.ref q, .ref it, .none], []⟩) Rs s := by
  intro m
  induction m with
  | zero =>
    intro i H s hm I hb hq hi hl
    have e : i = zs.length := by omega
    subst e
    refine codeAny_builtin PySem.F.entry_extend_loop ?_
    rw [Around.under_plainId PySem.F.plain_extend_loop _]
    show wpAny _ A1.in1 (pyNext (.ref it) >>= _) _ _ s
    obtain ⟨its, rv, pl, hz⟩ := I.list hl
    refine wpAny_bind (pyNext_end hh (itO_get I hi) pl.isList (by rw [List.getElem?_toArray]; exact rv.none_of (List.getElem?_eq_none (Nat.le_refl _))) fun h1 h' e1 sb k => ?_)
    have mu : Mut (H it) := by rw [hi]; exact True.intro
    have I2 : Inv X pins σ (upd H it (ItE it zs.length)) { s with heap := h1 } := I.write (x := it) (e := it) (t' := s.toks) mu (.inl rfl) (fun b o nb z => (sb.2 b nb).trans z) ⟨_, e1⟩ (itE_ok e1)
    have I3 : Inv X pins σ (upd H it (ItE it zs.length)) { s with heap := h' } := I2.kept (t' := s.toks) k
    refine wpAny_pure (hdone _ _ I3 (fun b h1 h2 => by rw [upd_ne h2]; exact hb b h1 h2) ?_)
    rw [upd_ne (Ne.symm nq), hq, List.take_length]
  | succ m ih =>
    intro i H s hm I hb hq hi hl
    have hlt : i < zs.length := by omega
    refine codeAny_builtin PySem.F.entry_extend_loop ?_
    rw [Around.under_plainId PySem.F.plain_extend_loop _]
    show wpAny _ A1.in1 (pyNext (.ref it) >>= _) _ _ s
    obtain ⟨its, rv, pl, hz⟩ := I.list hl
    obtain ⟨u, hu, ru⟩ := rv.get (List.getElem?_eq_getElem hlt)
    refine wpAny_bind (pyNext_item (itO_get I hi) pl.isList (x := u) (by simpa using hu) fun h' e1 sb => ?_)
    have mu : Mut (H it) := by rw [hi]; exact True.intro
    have I2 : Inv X pins σ (upd H it (ItO l it (i + 1))) { s with heap := h' } := I.write (x := it) (e := it) (t' := s.toks) mu (.inl rfl) (fun b o nb z => (sb.2 b nb).trans z) ⟨_, e1⟩ (itO_ok e1)
    have hq2 : upd H it (ItO l it (i + 1)) q = some (.lst (zs.take i)) := by rw [upd_ne (Ne.symm nq)]; exact hq
    show wpAny _ A1.in1 (updateSeq q (·.push u) >>= _) _ _ _
    obtain ⟨z, its2, k, r2, hl2, e2⟩ := I2.lstM hq2
    have hz2 : its2.length = (zs.take i).length := r2.length.symm
    rw [List.length_take] at hz2
    refine wpAny_bind (wpAny_updateSeq e2 rfl (wpAny_pure ⟨plainId_quiet PySem.F.plain_extend_loop _, ?_⟩) (by rw [List.size_toArray]; omega) (by show (its2.toArray.push u).size ≤ sizeLine + 1; rw [Array.size_push, List.size_toArray]; omega))
    have et : zs.take i ++ [zs[i]] = zs.take (i + 1) := by rw [List.take_add_one, List.getElem?_eq_getElem hlt]; rfl
    have I3 := I2.lset (f := (·.push u)) (its' := its2 ++ [u]) (t' := s.toks) hq2 e2 (by simp) (r2.append (.cons ru .nil)) (by rw [List.length_append, List.length_singleton, List.length_take]; omega)
    rw [et] at I3
    refine ih (i + 1) _ _ (by omega) I3 (fun b h1 h2 => by rw [upd_ne h1, upd_ne h2]; exact hb b h1 h2) upd_same (by rw [upd_ne nq, upd_same]) ?_
    have hl3 : SqL X.K (upd (upd H it (ItO l it (i + 1))) q (.lst (zs.take (i + 1)))) l zs := by
      rcases hl with (hl | ⟨o, hl⟩) | hl
      · exact .inl (.inl (by rw [upd_ne ne, upd_ne nl]; exact hl))
      · exact .inl (.inr ⟨o, by rw [upd_ne ne, upd_ne nl]; exact hl⟩)
      · exact .inr hl
    exact hl3
/-- list(x) -/
def rListA (K : PySem.W.Frag) (C : Addr) (spI spL : Sp) (E : XK) : List V → Hp → VK → Prop := fun xs H Q => ∃ a dx vs, xs = [.ref a] ∧ Slt H a C dx vs ∧ ∀ q, H q = none → spI [.ref a] (upd H q (.lst [])) (fun v H1 => ∃ it l zs, v = .ref it ∧ H1 it = some (ItO l it 0) ∧ SqL K H1 l zs ∧ H1 q = some (.lst []) ∧ Slt H1 a C dx vs ∧ l ≠ q ∧ l ≠ it ∧ zs.length < sizeLine ∧
  spL [.ref a] H1 (fun k H2 => ∃ n : Int, k = .int n ∧ (0 ≤ n ∧ n < 2 ^ 63) ∧ n ≤ 1000 ∧ H2 = H1 ∧ ∀ H3, (∀ b, b ≠ q → b ≠ it → H3 b = H1 b) → H3 q = some (.lst zs) → Q (.ref q) H3) E) E
theorem call_listA (hi : PySem.W.findIn X.K (.ref C) "__iter__" = some (some (.ref fi))) (hif : PySem.W.isFn X.K (.ref fi) = true) (hL : PySem.W.findIn X.K (.ref C) "__len__" = some (some (.ref fl))) (hLf : PySem.W.isFn X.K (.ref fl) = true)
    (FI : FnR X.prog X.w X.K X.mg X.base CX n fi spI) (FL : FnR X.prog X.w X.K X.mg X.base CX n fl spL) (hr : Room (n + 3) X.A) (hx : ∀ (H : Hp) (s : Shared) (e : Value) (s' : Shared), CX X.stack H s E e s' → False) : CallR X (.type "list") (rListA X.K C spI spL E) := by
  intro pins s σ H xs us Q I rv h
  obtain ⟨a, dx, vs, rfl, ha, hq⟩ := h
  obtain ⟨u, rfl, ru⟩ := rv.one
  cases ru
  have hr1 : Room (n + 2) X.A.in1 := hr.in1
  have hr2 : Room (n + 1) X.A.in1.in1 := hr1.in1
  refine callType_codes (Q₁ := fun obj s₁ => obj = .ref s.heap.objs.size ∧ s₁ = { s with heap := s.heap.push { cls := .type "list", data := .seq #[] } }) PySem.F.called_list (PySem.F.typeCall_list_1 _) PySem.F.entry_list_init
    (code_list_new _ ⟨rfl, rfl⟩) fun obj s₁ h₁ => ?_
  obtain ⟨rfl, rfl⟩ := h₁
  have hS : (s.heap.push { cls := .type "list", data := .seq #[] }).get? s.heap.objs.size = some { cls := .type "list", data := .seq #[] } := Heap.get?_push_size _ rfl
  refine ⟨⟨_, hS, rfl⟩, PySem.F.args_list_init_2 _ _, ?_⟩
  have fr : H s.heap.objs.size = none := I.hok.fresh (Nat.le_refl _)
  have hq := hq _ fr
  have I1 : Inv X pins σ (upd H s.heap.objs.size (.lst [])) { s with heap := s.heap.push { cls := .type "list", data := .seq #[] } } := I.lnew (its := []) (t' := s.toks) .nil (Nat.zero_le _)
  show wpAny _ _ (do let old ← Builtin.List.listItems (.ref s.heap.objs.size); Builtin.List.listUpdate (.ref s.heap.objs.size) (fun _ => #[]); letGo old.toList.reverse; Builtin.List.listExtendWith (.ref s.heap.objs.size) (.ref a) .none) _ _ _
  refine wpAny_bind ?_
  unfold Builtin.List.listItems
  refine wpAny_bind (wpAny_seqItems hS rfl (wpAny_pure ?_))
  show wpAny _ _ (updateSeq s.heap.objs.size (fun _ => #[]) >>= fun _ => letGo (#[] : Array Value).toList.reverse >>= fun _ => Builtin.List.listExtendWith (.ref s.heap.objs.size) (.ref a) .none) _ _ _
  refine wpAny_bind (wpAny_updateSeq hS rfl ?_)
  have I2 := I1.lset (f := fun _ => #[]) (its := []) (its' := []) (ys := []) (t' := s.toks) upd_same hS rfl .nil (Nat.zero_le _)
  rw [upd_upd] at I2
  refine wpAny_bind (wpAny_letGo ?_)
  have ha2 : Slt (upd H s.heap.objs.size (.lst [])) a C dx vs := by
    rcases ha with ⟨h1, h2⟩ | ⟨h1, h2⟩
    · exact .inl ⟨by rw [upd_ne (ne_of_none h1 fr)]; exact h1, h2⟩
    · exact .inr ⟨by rw [upd_ne (ne_of_none h1 fr)]; exact h1, by rw [upd_ne (ne_of_none h2 fr)]; exact h2⟩
  have hne : s.heap.objs.size ≠ a := by
    rcases ha with ⟨h1, h2⟩ | ⟨h1, h2⟩
    · exact Ne.symm (ne_of_none h1 fr)
    · exact Ne.symm (ne_of_none h1 fr)
  generalize s.heap.objs.size = q at *
  obtain ⟨sl, od, _, J, _⟩ := slt_inst I2 ha2
  obtain ⟨m0, hF⟩ := I2.fr
  unfold Builtin.List.listExtendWith
  refine wpAny_bind (J.type.here ?_)
  have h1 : Builtin.List.listSameRef (.ref q) (.ref a) = false := by simp [Builtin.List.listSameRef, hne]
  have h2 : (Value.ref C == Value.type "list") = false := rfl
  have h3 : (Value.ref C == Value.type "tuple") = false := rfl
  simp only [h1, h2, h3, Bool.or_false, Bool.false_eq_true, if_false]
  refine wpAny_bind (PySem.W.owit_iter hF I2.ok.mod.kin J hi hif ?_)
  refine wpAny_mono (wpAny_call (run_at0 (us := [.ref a]) (ws := [.ref a]) FI (hr2.mono (Nat.le_succ _)) I2.env0.in1.in1 hx I2 (.cons rfl .nil) hq)) (fun w s' z => ?_) fun _ _ x => x
  obtain ⟨v, H1, I3, rv3, it, l, zs, ev, hit, hl, hq1, ha3, ne1, ne2, hlen, hsp⟩ := z
  subst ev
  cases rv3
  unfold PySem.W.OwitIt
  have ho := itO_get I3 hit
  have hT : s'.TypeIs (.ref it) "list_iterator" := ⟨_, ho, rfl⟩
  refine wpAny_specialOf (name := Str.ofString "__next__") hT slot_listiter_next.lookup ?_
  show wpAny _ _ (holding [.ref it] (Builtin.List.listLengthHint (.ref a)) >>= _) _ _ _
  have nq : it ≠ q := ne_of hit hq1 (fun z => by unfold ItO at z; cases z)
  obtain ⟨sl3, od3, _, J3, _⟩ := slt_inst I3 ha3
  refine wpAny_bind (wpAny_holding ?_)
  unfold Builtin.List.listLengthHint
  refine wpAny_bind (wpAny_bind (J3.type.here ((PySem.W.looks_findIn I3.kIn hL).here ?_)))
  refine PySem.W.KFB.if_not rfl ?_
  refine PySem.W.KFB.if_so rfl ?_
  refine wpAny_bind (wpAny_rule ?_)
  refine wpAny_bind (wpAny_attempt ?_)
  refine len_at (H := H1) (QQ := fun n H2 => n ≤ 1000 ∧ H2 = H1 ∧ ∀ H3, (∀ b, b ≠ q → b ≠ it → H3 b = H1 b) → H3 q = some (.lst zs) → Q (.ref q) H3) hL hLf FL hr2 I3.env0.in1.in1 hx I3 ha3 hsp fun k t H2 s2 I4 k0 k1 hk => ?_
  obtain ⟨k2, rfl, hfin⟩ := hk
  have hsmall : Builtin.List.listTooLong k.toNat = false := decide_eq_false (by rw [sizeLine_eq]; omega)
  refine wpAny_bind (wpAny_of_eq (a := some k) rfl ?_)
  dsimp only
  rw [hsmall]
  refine PySem.W.KFB.if_not rfl ?_
  have loop := ext_loop (Rs := wants (fun r s₂ => r = .none ∧ EP X pins σ Q (.ref q) s₂) X.xe) (A1 := X.A.in1) hr2.hd hlen ne1 nq ne2 H2 (fun H s I hb hq => ⟨rfl, .ref q, H, I, rfl, hfin H hb hq⟩) zs.length 0
  refine wpAny_pure ?_
  refine wpAny_ite_split (fun _ => ?_) (fun _ => wpAny_pure ⟨plainId_quiet PySem.F.plain_extend_loop _, loop H2 s2 (by omega) I4 (fun _ _ _ => rfl) hq1 hit hl⟩)
  obtain ⟨z, its, k5, r3, hl3, e3⟩ := I4.lstM hq1
  cases r3
  refine wpAny_bind (wpAny_rule ?_)
  refine wpAny_bind ?_
  show wpAny _ _ (updateSeq q (·.push .none) >>= fun _ => updateSeq q (·.pop)) _ _ _
  refine wpAny_bind (wpAny_updateSeq e3 rfl ?_)
  have I5 := I4.lset (f := (·.push Value.none)) (its' := [Value.none]) (ys := [.non]) (t' := s2.toks) hq1 e3 (by simp) (.cons rfl .nil) (by rw [List.length_singleton, sizeLine_eq]; decide)
  obtain ⟨z4, its4, k4, r4, hl4, e4⟩ := I5.lstM upd_same
  obtain ⟨u4, rfl, ru4⟩ := r4.one
  refine wpAny_updateSeq e4 rfl ?_ (by show 1 ≤ sizeLine; rw [sizeLine_eq]; decide) (by show 0 ≤ sizeLine + 1; exact Nat.zero_le _)
  have I6 := I5.lset (f := (·.pop)) (its := [u4]) (its' := []) (ys := []) (t' := s2.toks) upd_same e4 (by rfl) .nil (Nat.zero_le _)
  rw [upd_upd] at I6
  have hH : upd H2 q (.lst []) = H2 := by
    funext b
    by_cases hb : b = q
    · rw [hb, upd_same, hq1]
    · rw [upd_ne hb]
  rw [hH] at I6
  exact wpAny_pure ⟨plainId_quiet PySem.F.plain_extend_loop _, loop H2 _ (by omega) I6 (fun _ _ _ => rfl) hq1 hit hl⟩
end
end OwA

namespace K06
open PySem PySem.Spec PyProof.Rows L2 SlX OwA
def topS (i : Nat) : Stmt := PySem.Challenge.pw_settledplay_k06_whole_rows_of_things.main.body.getD i (.Pass ⟨0, 0, 0, 0⟩)
abbrev s_is_whole : Stmt := topS 8
abbrev N_is_whole : List Str := ["value"] -- 0:value
theorem sc_is_whole : FnScope N_is_whole ["value"] (defScope s_is_whole) := ⟨rfl, rfl, rfl, by decide +kernel, rfl, by decide +kernel, by decide +kernel⟩
abbrev s_is_short : Stmt := topS 9
abbrev N_is_short : List Str := ["value"] -- 0:value
theorem sc_is_short : FnScope N_is_short ["value"] (defScope s_is_short) := ⟨rfl, rfl, rfl, by decide +kernel, rfl, by decide +kernel, by decide +kernel⟩
abbrev s_is_from : Stmt := topS 10
abbrev N_is_from : List Str := ["value", "least", "most"] -- 0:value 1:least 2:most
theorem sc_is_from : FnScope N_is_from ["value", "least", "most"] (defScope s_is_from) := ⟨rfl, rfl, rfl, by decide +kernel, rfl, by decide +kernel, by decide +kernel⟩
abbrev s_is_tick : Stmt := topS 11
abbrev N_is_tick : List Str := ["value"] -- 0:value
theorem sc_is_tick : FnScope N_is_tick ["value"] (defScope s_is_tick) := ⟨rfl, rfl, rfl, by decide +kernel, rfl, by decide +kernel, by decide +kernel⟩
abbrev s_is_luck_in : Stmt := topS 14
abbrev N_is_luck_in : List Str := ["value"] -- 0:value
theorem sc_is_luck_in : FnScope N_is_luck_in ["value"] (defScope s_is_luck_in) := ⟨rfl, rfl, rfl, by decide +kernel, rfl, by decide +kernel, by decide +kernel⟩
abbrev s_is_luck : Stmt := topS 15
abbrev N_is_luck : List Str := ["value"] -- 0:value
theorem sc_is_luck : FnScope N_is_luck ["value"] (defScope s_is_luck) := ⟨rfl, rfl, rfl, by decide +kernel, rfl, by decide +kernel, by decide +kernel⟩
abbrev s_is_number : Stmt := topS 18
abbrev N_is_number : List Str := ["value"] -- 0:value
theorem sc_is_number : FnScope N_is_number ["value"] (defScope s_is_number) := ⟨rfl, rfl, rfl, by decide +kernel, rfl, by decide +kernel, by decide +kernel⟩
abbrev s_is_name_in : Stmt := topS 25
abbrev N_is_name_in : List Str := ["value", "sign"] -- 0:value 1:sign
theorem sc_is_name_in : FnScope N_is_name_in ["value"] (defScope s_is_name_in) := ⟨rfl, rfl, rfl, by decide +kernel, rfl, by decide +kernel, by decide +kernel⟩
abbrev s_are_numbers_in : Stmt := topS 26
abbrev N_are_numbers_in : List Str := ["value", "one"] -- 0:value 1:one
theorem sc_are_numbers_in : FnScope N_are_numbers_in ["value"] (defScope s_are_numbers_in) := ⟨rfl, rfl, rfl, by decide +kernel, rfl, by decide +kernel, by decide +kernel⟩
abbrev s_is_thing_in : Stmt := topS 27
abbrev N_is_thing_in : List Str := ["value"] -- 0:value
theorem sc_is_thing_in : FnScope N_is_thing_in ["value"] (defScope s_is_thing_in) := ⟨rfl, rfl, rfl, by decide +kernel, rfl, by decide +kernel, by decide +kernel⟩
abbrev s_are_things_in : Stmt := topS 28
abbrev N_are_things_in : List Str := ["next_id", "value", "ids", "one", "other"] -- 0:next_id 1:value 2:ids 3:one 4:other
theorem sc_are_things_in : FnScope N_are_things_in ["next_id", "value"] (defScope s_are_things_in) := ⟨rfl, rfl, rfl, by decide +kernel, rfl, by decide +kernel, by decide +kernel⟩
abbrev s_KnownParts_init : Stmt := inClass (topS 29) 1
abbrev N_KnownParts_init : List Str := ["self", "tick", "next_id", "luck", "things"] -- 0:self 1:tick 2:next_id 3:luck 4:things
theorem sc_KnownParts_init : FnScope N_KnownParts_init ["self", "tick", "next_id", "luck", "things"] (defScope s_KnownParts_init) := ⟨rfl, rfl, rfl, by decide +kernel, rfl, by decide +kernel, by decide +kernel⟩
abbrev s_parts_told : Stmt := topS 30
abbrev N_parts_told : List Str := ["tick", "next_id", "luck", "things"] -- 0:tick 1:next_id 2:luck 3:things
theorem sc_parts_told : FnScope N_parts_told ["tick", "next_id", "luck", "things"] (defScope s_parts_told) := ⟨rfl, rfl, rfl, by decide +kernel, rfl, by decide +kernel, by decide +kernel⟩
abbrev s_World_init : Stmt := inClass (topS 31) 1
abbrev N_World_init : List Str := ["self", "tick", "next_id", "luck", "things", "known", "one"] -- 0:self 1:tick 2:next_id 3:luck 4:things 5:known 6:one
theorem sc_World_init : FnScope N_World_init ["self", "tick", "next_id", "luck", "things"] (defScope s_World_init) := ⟨rfl, rfl, rfl, by decide +kernel, rfl, by decide +kernel, by decide +kernel⟩
abbrev s_World_tick : Stmt := inClass (topS 31) 2
abbrev N_World_tick : List Str := ["self"] -- 0:self
theorem sc_World_tick : FnScope N_World_tick ["self"] (defScope s_World_tick) := ⟨rfl, rfl, rfl, by decide +kernel, rfl, by decide +kernel, by decide +kernel⟩
abbrev s_World_next_id : Stmt := inClass (topS 31) 3
abbrev N_World_next_id : List Str := ["self"] -- 0:self
theorem sc_World_next_id : FnScope N_World_next_id ["self"] (defScope s_World_next_id) := ⟨rfl, rfl, rfl, by decide +kernel, rfl, by decide +kernel, by decide +kernel⟩
abbrev s_World_luck : Stmt := inClass (topS 31) 4
abbrev N_World_luck : List Str := ["self"] -- 0:self
theorem sc_World_luck : FnScope N_World_luck ["self"] (defScope s_World_luck) := ⟨rfl, rfl, rfl, by decide +kernel, rfl, by decide +kernel, by decide +kernel⟩
abbrev s_World_things : Stmt := inClass (topS 31) 5
abbrev N_World_things : List Str := ["self"] -- 0:self
theorem sc_World_things : FnScope N_World_things ["self"] (defScope s_World_things) := ⟨rfl, rfl, rfl, by decide +kernel, rfl, by decide +kernel, by decide +kernel⟩
abbrev s_World_ids : Stmt := inClass (topS 31) 6
abbrev N_World_ids : List Str := ["self", "kind", "one"] -- 0:self 1:kind 2:one cells kind
theorem sc_World_ids : FnScope N_World_ids ["self", "kind"] (defScope s_World_ids) := ⟨rfl, rfl, rfl, by decide +kernel, rfl, by decide +kernel, by decide +kernel⟩
abbrev s_World_kind_of : Stmt := inClass (topS 31) 7
abbrev N_World_kind_of : List Str := ["self", "place"] -- 0:self 1:place
theorem sc_World_kind_of : FnScope N_World_kind_of ["self", "place"] (defScope s_World_kind_of) := ⟨rfl, rfl, rfl, by decide +kernel, rfl, by decide +kernel, by decide +kernel⟩
abbrev s_World_numbers : Stmt := inClass (topS 31) 8
abbrev N_World_numbers : List Str := ["self", "place"] -- 0:self 1:place
theorem sc_World_numbers : FnScope N_World_numbers ["self", "place"] (defScope s_World_numbers) := ⟨rfl, rfl, rfl, by decide +kernel, rfl, by decide +kernel, by decide +kernel⟩
abbrev s_World_contains : Stmt := inClass (topS 31) 9
abbrev N_World_contains : List Str := ["self", "value"] -- 0:self 1:value
theorem sc_World_contains : FnScope N_World_contains ["self", "value"] (defScope s_World_contains) := ⟨rfl, rfl, rfl, by decide +kernel, rfl, by decide +kernel, by decide +kernel⟩
abbrev s_World_len : Stmt := inClass (topS 31) 10
abbrev N_World_len : List Str := ["self"] -- 0:self
theorem sc_World_len : FnScope N_World_len ["self"] (defScope s_World_len) := ⟨rfl, rfl, rfl, by decide +kernel, rfl, by decide +kernel, by decide +kernel⟩
abbrev s_World_iter : Stmt := inClass (topS 31) 11
abbrev N_World_iter : List Str := ["self"] -- 0:self
theorem sc_World_iter : FnScope N_World_iter ["self"] (defScope s_World_iter) := ⟨rfl, rfl, rfl, by decide +kernel, rfl, by decide +kernel, by decide +kernel⟩
abbrev s_World_eq : Stmt := inClass (topS 31) 12
abbrev N_World_eq : List Str := ["self", "other"] -- 0:self 1:other
theorem sc_World_eq : FnScope N_World_eq ["self", "other"] (defScope s_World_eq) := ⟨rfl, rfl, rfl, by decide +kernel, rfl, by decide +kernel, by decide +kernel⟩
abbrev s_World_str : Stmt := inClass (topS 31) 13
abbrev N_World_str : List Str := ["self"] -- 0:self
theorem sc_World_str : FnScope N_World_str ["self"] (defScope s_World_str) := ⟨rfl, rfl, rfl, by decide +kernel, rfl, by decide +kernel, by decide +kernel⟩
abbrev s_made_world : Stmt := topS 32
abbrev N_made_world : List Str := ["tick", "next_id", "luck", "things"] -- 0:tick 1:next_id 2:luck 3:things
theorem sc_made_world : FnScope N_made_world ["tick", "next_id", "luck", "things"] (defScope s_made_world) := ⟨rfl, rfl, rfl, by decide +kernel, rfl, by decide +kernel, by decide +kernel⟩
abbrev s_with_things : Stmt := topS 33
abbrev N_with_things : List Str := ["world", "things"] -- 0:world 1:things
theorem sc_with_things : FnScope N_with_things ["world", "things"] (defScope s_with_things) := ⟨rfl, rfl, rfl, by decide +kernel, rfl, by decide +kernel, by decide +kernel⟩
abbrev s_thing_at : Stmt := topS 34
abbrev N_thing_at : List Str := ["world", "place", "found", "one"] -- 0:world 1:place 2:found 3:one cells place
theorem sc_thing_at : FnScope N_thing_at ["world", "place"] (defScope s_thing_at) := ⟨rfl, rfl, rfl, by decide +kernel, rfl, by decide +kernel, by decide +kernel⟩
abbrev s_made_in : Stmt := topS 35
abbrev N_made_in : List Str := ["world", "kind", "numbers", "place", "things"] -- 0:world 1:kind 2:numbers 3:place 4:things
theorem sc_made_in : FnScope N_made_in ["world", "kind", "numbers"] (defScope s_made_in) := ⟨rfl, rfl, rfl, by decide +kernel, rfl, by decide +kernel, by decide +kernel⟩
abbrev s_dropped_in : Stmt := topS 36
abbrev N_dropped_in : List Str := ["world", "place", "one"] -- 0:world 1:place 2:one cells place
theorem sc_dropped_in : FnScope N_dropped_in ["world", "place"] (defScope s_dropped_in) := ⟨rfl, rfl, rfl, by decide +kernel, rfl, by decide +kernel, by decide +kernel⟩
abbrev s_put_in : Stmt := topS 37
abbrev N_put_in : List Str := ["numbers", "place", "number"] -- 0:numbers 1:place 2:number
theorem sc_put_in : FnScope N_put_in ["numbers", "place", "number"] (defScope s_put_in) := ⟨rfl, rfl, rfl, by decide +kernel, rfl, by decide +kernel, by decide +kernel⟩
abbrev s_changed_in : Stmt := topS 38
abbrev N_changed_in : List Str := ["world", "thing", "place", "number", "things", "one"] -- 0:world 1:thing 2:place 3:number 4:things 5:one cells number place thing
theorem sc_changed_in : FnScope N_changed_in ["world", "thing", "place", "number"] (defScope s_changed_in) := ⟨rfl, rfl, rfl, by decide +kernel, rfl, by decide +kernel, by decide +kernel⟩
abbrev s_require_any_world : Stmt := topS 39
abbrev N_require_any_world : List Str := ["value"] -- 0:value
theorem sc_require_any_world : FnScope N_require_any_world ["value"] (defScope s_require_any_world) := ⟨rfl, rfl, rfl, by decide +kernel, rfl, by decide +kernel, by decide +kernel⟩
abbrev s_known_thing : Stmt := topS 40
abbrev N_known_thing : List Str := ["world", "place", "found"] -- 0:world 1:place 2:found
theorem sc_known_thing : FnScope N_known_thing ["world", "place"] (defScope s_known_thing) := ⟨rfl, rfl, rfl, by decide +kernel, rfl, by decide +kernel, by decide +kernel⟩
abbrev s_made : Stmt := topS 41
abbrev N_made : List Str := ["world", "kind", "numbers"] -- 0:world 1:kind 2:numbers
theorem sc_made : FnScope N_made ["world", "kind", "numbers"] (defScope s_made) := ⟨rfl, rfl, rfl, by decide +kernel, rfl, by decide +kernel, by decide +kernel⟩
abbrev s_dropped : Stmt := topS 42
abbrev N_dropped : List Str := ["world", "place"] -- 0:world 1:place
theorem sc_dropped : FnScope N_dropped ["world", "place"] (defScope s_dropped) := ⟨rfl, rfl, rfl, by decide +kernel, rfl, by decide +kernel, by decide +kernel⟩
abbrev s_changed : Stmt := topS 43
abbrev N_changed : List Str := ["world", "thing", "place", "number", "numbers"] -- 0:world 1:thing 2:place 3:number 4:numbers
theorem sc_changed : FnScope N_changed ["world", "thing", "place", "number"] (defScope s_changed) := ⟨rfl, rfl, rfl, by decide +kernel, rfl, by decide +kernel, by decide +kernel⟩
abbrev s_l_dice : Stmt := topS 45
abbrev N_l_dice : List Str := ["_law_script", "_law_spot", "_law_cell", "_law_left"] -- 0:_law_script 1:_law_spot 2:_law_cell 3:_law_left
theorem sc_l_dice : FnScope N_l_dice ["_law_script", "_law_spot"] (defScope s_l_dice) := ⟨rfl, rfl, rfl, by decide +kernel, rfl, by decide +kernel, by decide +kernel⟩
abbrev s_l_roll : Stmt := topS 46
abbrev N_l_roll : List Str := ["_law_dice_here", "_law_total", "_law_one", "_law_two", "_law_found"] -- 0:_law_dice_here 1:_law_total 2:_law_one 3:_law_two 4:_law_found
theorem sc_l_roll : FnScope N_l_roll ["_law_dice_here", "_law_total"] (defScope s_l_roll) := ⟨rfl, rfl, rfl, by decide +kernel, rfl, by decide +kernel, by decide +kernel⟩
abbrev s_l_pick : Stmt := topS 47
abbrev N_l_pick : List Str := ["_law_dice_here", "_law_items"] -- 0:_law_dice_here 1:_law_items
theorem sc_l_pick : FnScope N_l_pick ["_law_dice_here", "_law_items"] (defScope s_l_pick) := ⟨rfl, rfl, rfl, by decide +kernel, rfl, by decide +kernel, by decide +kernel⟩
abbrev s_l_near : Stmt := topS 48
abbrev N_l_near : List Str := ["_law_dice_here", "_law_most"] -- 0:_law_dice_here 1:_law_most
theorem sc_l_near : FnScope N_l_near ["_law_dice_here", "_law_most"] (defScope s_l_near) := ⟨rfl, rfl, rfl, by decide +kernel, rfl, by decide +kernel, by decide +kernel⟩
abbrev s_l_wd_plain : Stmt := topS 49
abbrev N_l_wd_plain : List Str := ["_law_world"] -- 0:_law_world
theorem sc_l_wd_plain : FnScope N_l_wd_plain ["_law_world"] (defScope s_l_wd_plain) := ⟨rfl, rfl, rfl, by decide +kernel, rfl, by decide +kernel, by decide +kernel⟩
abbrev s_l_number : Stmt := topS 50
abbrev N_l_number : List Str := ["_law_dice_here"] -- 0:_law_dice_here
theorem sc_l_number : FnScope N_l_number ["_law_dice_here"] (defScope s_l_number) := ⟨rfl, rfl, rfl, by decide +kernel, rfl, by decide +kernel, by decide +kernel⟩
abbrev s_l_numbers : Stmt := topS 51
abbrev N_l_numbers : List Str := ["_law_dice_here", "_law_spot"] -- 0:_law_dice_here 1:_law_spot cells _law_dice_here
theorem sc_l_numbers : FnScope N_l_numbers ["_law_dice_here"] (defScope s_l_numbers) := ⟨rfl, rfl, rfl, by decide +kernel, rfl, by decide +kernel, by decide +kernel⟩
abbrev s_l_kind_drawn : Stmt := topS 52
abbrev N_l_kind_drawn : List Str := ["_law_dice_here"] -- 0:_law_dice_here
theorem sc_l_kind_drawn : FnScope N_l_kind_drawn ["_law_dice_here"] (defScope s_l_kind_drawn) := ⟨rfl, rfl, rfl, by decide +kernel, rfl, by decide +kernel, by decide +kernel⟩
abbrev s_l_world_drawn : Stmt := topS 53
abbrev N_l_world_drawn : List Str := ["_law_dice_here", "_law_things", "_law_ahead", "_law_turn", "_law_tick", "_law_here"] -- 0:_law_dice_here 1:_law_things 2:_law_ahead 3:_law_turn 4:_law_tick 5:_law_here
theorem sc_l_world_drawn : FnScope N_l_world_drawn ["_law_dice_here"] (defScope s_l_world_drawn) := ⟨rfl, rfl, rfl, by decide +kernel, rfl, by decide +kernel, by decide +kernel⟩
abbrev s_l_is_told : Stmt := topS 54
abbrev N_l_is_told : List Str := ["_law_world", "_law_plain", "_law_ids", "_law_kind", "_law_thing", "_law_numbers_here", "_law_odd", "_law_value"] -- 0:_law_world 1:_law_plain 2:_law_ids 3:_law_kind 4:_law_thing 5:_law_numbers_here 6:_law_odd 7:_law_value cells _law_kind _law_world
theorem sc_l_is_told : FnScope N_l_is_told ["_law_world", "_law_plain"] (defScope s_l_is_told) := ⟨rfl, rfl, rfl, by decide +kernel, rfl, by decide +kernel, by decide +kernel⟩
abbrev s_l_made : Stmt := topS 55
abbrev N_l_made : List Str := ["_law_dice_here", "_law_world", "_law_plain", "_law_kind", "_law_numbers_here", "_law_told"] -- 0:_law_dice_here 1:_law_world 2:_law_plain 3:_law_kind 4:_law_numbers_here 5:_law_told
theorem sc_l_made : FnScope N_l_made ["_law_dice_here", "_law_world", "_law_plain"] (defScope s_l_made) := ⟨rfl, rfl, rfl, by decide +kernel, rfl, by decide +kernel, by decide +kernel⟩
abbrev s_l_done : Stmt := topS 56
abbrev N_l_done : List Str := ["_law_dice_here", "_law_world", "_law_plain", "_law_way", "_law_thing", "_law_kind", "_law_numbers_here", "_law_place", "_law_number_here", "_law_later", "_law_one"] -- 0:_law_dice_here 1:_law_world 2:_law_plain 3:_law_way 4:_law_thing 5:_law_kind 6:_law_numbers_here 7:_law_place 8:_law_number_here 9:_law_later 10:_law_one cells _law_later _law_thing
theorem sc_l_done : FnScope N_l_done ["_law_dice_here", "_law_world", "_law_plain"] (defScope s_l_done) := ⟨rfl, rfl, rfl, by decide +kernel, rfl, by decide +kernel, by decide +kernel⟩
abbrev s_l_is_alone : Stmt := topS 57
abbrev N_l_is_alone : List Str := ["_law_world", "_law_plain", "_law_same", "_law_others", "_law_one"] -- 0:_law_world 1:_law_plain 2:_law_same 3:_law_others 4:_law_one cells _law_world
theorem sc_l_is_alone : FnScope N_l_is_alone ["_law_world", "_law_plain"] (defScope s_l_is_alone) := ⟨rfl, rfl, rfl, by decide +kernel, rfl, by decide +kernel, by decide +kernel⟩
abbrev s_l_right : Stmt := topS 58
abbrev N_l_right : List Str := ["_law_dice_here", "_law_plain", "_law_world", "_law_given", "_law_turn", "_law_done_here", "_law_thing"] -- 0:_law_dice_here 1:_law_plain 2:_law_world 3:_law_given 4:_law_turn 5:_law_done_here 6:_law_thing
theorem sc_l_right : FnScope N_l_right ["_law_dice_here"] (defScope s_l_right) := ⟨rfl, rfl, rfl, by decide +kernel, rfl, by decide +kernel, by decide +kernel⟩
abbrev s_law : Stmt := topS 59
abbrev N_law : List Str := ["_law_script", "_law_spot", "_law_first", "_law_more", "_law_thing", "_law_full", "_law_at"] -- 0:_law_script 1:_law_spot 2:_law_first 3:_law_more 4:_law_thing 5:_law_full 6:_law_at
theorem sc_law : FnScope N_law ["_law_script"] (defScope s_law) := ⟨rfl, rfl, rfl, by decide +kernel, rfl, by decide +kernel, by decide +kernel⟩
structure Tp (K : PySem.W.Frag) (mg : Str → Option Value) where
  C_KnownParts : Addr
  g_KnownParts : mg "KnownParts" = some (.ref C_KnownParts)
  cl_KnownParts : SlX.SCls K C_KnownParts
  is_KnownParts : SlX.SIsi K C_KnownParts
  ty_KnownParts : PySem.W.typeIn K (.ref C_KnownParts) = some (.type "type")
  q_KnownParts_own_luck : Addr
  t_KnownParts_own_luck : SlX.Slot1 K C_KnownParts "own_luck" q_KnownParts_own_luck 0
  q_KnownParts_own_next_id : Addr
  t_KnownParts_own_next_id : SlX.Slot1 K C_KnownParts "own_next_id" q_KnownParts_own_next_id 1
  q_KnownParts_own_things : Addr
  t_KnownParts_own_things : SlX.Slot1 K C_KnownParts "own_things" q_KnownParts_own_things 2
  q_KnownParts_own_tick : Addr
  t_KnownParts_own_tick : SlX.Slot1 K C_KnownParts "own_tick" q_KnownParts_own_tick 3
  k_KnownParts_int : PySem.W.subIn K (.type "int") (.ref C_KnownParts) = some false
  C_World : Addr
  g_World : mg "World" = some (.ref C_World)
  cl_World : SlX.SCls K C_World
  is_World : SlX.SIsi K C_World
  ty_World : PySem.W.typeIn K (.ref C_World) = some (.type "type")
  q_World_own_ids : Addr
  t_World_own_ids : SlX.Slot1 K C_World "own_ids" q_World_own_ids 0
  q_World_own_luck : Addr
  t_World_own_luck : SlX.Slot1 K C_World "own_luck" q_World_own_luck 1
  q_World_own_next_id : Addr
  t_World_own_next_id : SlX.Slot1 K C_World "own_next_id" q_World_own_next_id 2
  q_World_own_things : Addr
  t_World_own_things : SlX.Slot1 K C_World "own_things" q_World_own_things 3
  q_World_own_tick : Addr
  t_World_own_tick : SlX.Slot1 K C_World "own_tick" q_World_own_tick 4
  k_World_tuple : PySem.W.subIn K (.type "tuple") (.ref C_World) = some false
  k_World_NoneType : PySem.W.subIn K (.type "NoneType") (.ref C_World) = some false
  k_World_str : PySem.W.subIn K (.type "str") (.ref C_World) = some false
  ne_World : PySem.W.findIn K (.ref C_World) "__ne__" = some (some (.builtin "object.__ne__"))
  nfT_World : PySem.W.notFirst K C_World (.type "tuple") = true
  nfN_World : PySem.W.notFirst K C_World (.type "NoneType") = true
  nfS_World : PySem.W.notFirst K C_World (.type "str") = true
  nfW_World : PySem.W.notFirst K C_World (.ref C_World) = true
  a_is_whole : Addr
  d_is_whole : FuncData
  F_is_whole : Fun K "is_whole" "is_whole" s_is_whole a_is_whole d_is_whole
  g_is_whole : mg "is_whole" = some (.ref a_is_whole)
  b_is_whole : Binds K d_is_whole ["value"] []
  a_is_short : Addr
  d_is_short : FuncData
  F_is_short : Fun K "is_short" "is_short" s_is_short a_is_short d_is_short
  g_is_short : mg "is_short" = some (.ref a_is_short)
  b_is_short : Binds K d_is_short ["value"] []
  a_is_from : Addr
  d_is_from : FuncData
  F_is_from : Fun K "is_from" "is_from" s_is_from a_is_from d_is_from
  g_is_from : mg "is_from" = some (.ref a_is_from)
  b_is_from : Binds K d_is_from ["value", "least", "most"] []
  a_is_tick : Addr
  d_is_tick : FuncData
  F_is_tick : Fun K "is_tick" "is_tick" s_is_tick a_is_tick d_is_tick
  g_is_tick : mg "is_tick" = some (.ref a_is_tick)
  b_is_tick : Binds K d_is_tick ["value"] []
  a_is_luck_in : Addr
  d_is_luck_in : FuncData
  F_is_luck_in : Fun K "is_luck_in" "is_luck_in" s_is_luck_in a_is_luck_in d_is_luck_in
  g_is_luck_in : mg "is_luck_in" = some (.ref a_is_luck_in)
  b_is_luck_in : Binds K d_is_luck_in ["value"] []
  a_is_luck : Addr
  d_is_luck : FuncData
  F_is_luck : Fun K "is_luck" "is_luck" s_is_luck a_is_luck d_is_luck
  g_is_luck : mg "is_luck" = some (.ref a_is_luck)
  b_is_luck : Binds K d_is_luck ["value"] []
  a_is_number : Addr
  d_is_number : FuncData
  F_is_number : Fun K "is_number" "is_number" s_is_number a_is_number d_is_number
  g_is_number : mg "is_number" = some (.ref a_is_number)
  b_is_number : Binds K d_is_number ["value"] []
  a_is_name_in : Addr
  d_is_name_in : FuncData
  F_is_name_in : Fun K "is_name_in" "is_name_in" s_is_name_in a_is_name_in d_is_name_in
  g_is_name_in : mg "is_name_in" = some (.ref a_is_name_in)
  b_is_name_in : Binds K d_is_name_in ["value"] []
  a_are_numbers_in : Addr
  d_are_numbers_in : FuncData
  F_are_numbers_in : Fun K "are_numbers_in" "are_numbers_in" s_are_numbers_in a_are_numbers_in d_are_numbers_in
  g_are_numbers_in : mg "are_numbers_in" = some (.ref a_are_numbers_in)
  b_are_numbers_in : Binds K d_are_numbers_in ["value"] []
  a_is_thing_in : Addr
  d_is_thing_in : FuncData
  F_is_thing_in : Fun K "is_thing_in" "is_thing_in" s_is_thing_in a_is_thing_in d_is_thing_in
  g_is_thing_in : mg "is_thing_in" = some (.ref a_is_thing_in)
  b_is_thing_in : Binds K d_is_thing_in ["value"] []
  a_are_things_in : Addr
  d_are_things_in : FuncData
  F_are_things_in : Fun K "are_things_in" "are_things_in" s_are_things_in a_are_things_in d_are_things_in
  g_are_things_in : mg "are_things_in" = some (.ref a_are_things_in)
  b_are_things_in : Binds K d_are_things_in ["next_id", "value"] []
  a_KnownParts_init : Addr
  d_KnownParts_init : FuncData
  F_KnownParts_init : Fun K "__init__" "KnownParts.__init__" s_KnownParts_init a_KnownParts_init d_KnownParts_init
  m_KnownParts_init : Meth K C_KnownParts "__init__" a_KnownParts_init
  b_KnownParts_init : Binds K d_KnownParts_init ["self", "tick", "next_id", "luck", "things"] []
  a_parts_told : Addr
  d_parts_told : FuncData
  F_parts_told : Fun K "parts_told" "parts_told" s_parts_told a_parts_told d_parts_told
  g_parts_told : mg "parts_told" = some (.ref a_parts_told)
  b_parts_told : Binds K d_parts_told ["tick", "next_id", "luck", "things"] []
  a_World_init : Addr
  d_World_init : FuncData
  F_World_init : Fun K "__init__" "World.__init__" s_World_init a_World_init d_World_init
  m_World_init : Meth K C_World "__init__" a_World_init
  b_World_init : Binds K d_World_init ["self", "tick", "next_id", "luck", "things"] []
  a_World_tick : Addr
  d_World_tick : FuncData
  F_World_tick : Fun K "tick" "World.tick" s_World_tick a_World_tick d_World_tick
  pa_World_tick : Addr
  p_World_tick : PropOf K C_World "tick" pa_World_tick a_World_tick
  b_World_tick : Binds K d_World_tick ["self"] []
  a_World_next_id : Addr
  d_World_next_id : FuncData
  F_World_next_id : Fun K "next_id" "World.next_id" s_World_next_id a_World_next_id d_World_next_id
  pa_World_next_id : Addr
  p_World_next_id : PropOf K C_World "next_id" pa_World_next_id a_World_next_id
  b_World_next_id : Binds K d_World_next_id ["self"] []
  a_World_luck : Addr
  d_World_luck : FuncData
  F_World_luck : Fun K "luck" "World.luck" s_World_luck a_World_luck d_World_luck
  pa_World_luck : Addr
  p_World_luck : PropOf K C_World "luck" pa_World_luck a_World_luck
  b_World_luck : Binds K d_World_luck ["self"] []
  a_World_things : Addr
  d_World_things : FuncData
  F_World_things : Fun K "things" "World.things" s_World_things a_World_things d_World_things
  pa_World_things : Addr
  p_World_things : PropOf K C_World "things" pa_World_things a_World_things
  b_World_things : Binds K d_World_things ["self"] []
  a_World_ids : Addr
  d_World_ids : FuncData
  F_World_ids : Fun K "ids" "World.ids" s_World_ids a_World_ids d_World_ids
  m_World_ids : Meth K C_World "ids" a_World_ids
  b_World_ids : Binds K d_World_ids ["self", "kind"] []
  a_World_kind_of : Addr
  d_World_kind_of : FuncData
  F_World_kind_of : Fun K "kind_of" "World.kind_of" s_World_kind_of a_World_kind_of d_World_kind_of
  m_World_kind_of : Meth K C_World "kind_of" a_World_kind_of
  b_World_kind_of : Binds K d_World_kind_of ["self", "place"] []
  a_World_numbers : Addr
  d_World_numbers : FuncData
  F_World_numbers : Fun K "numbers" "World.numbers" s_World_numbers a_World_numbers d_World_numbers
  m_World_numbers : Meth K C_World "numbers" a_World_numbers
  b_World_numbers : Binds K d_World_numbers ["self", "place"] []
  a_World_contains : Addr
  d_World_contains : FuncData
  F_World_contains : Fun K "__contains__" "World.__contains__" s_World_contains a_World_contains d_World_contains
  m_World_contains : Meth K C_World "__contains__" a_World_contains
  b_World_contains : Binds K d_World_contains ["self", "value"] []
  a_World_len : Addr
  d_World_len : FuncData
  F_World_len : Fun K "__len__" "World.__len__" s_World_len a_World_len d_World_len
  m_World_len : Meth K C_World "__len__" a_World_len
  b_World_len : Binds K d_World_len ["self"] []
  a_World_iter : Addr
  d_World_iter : FuncData
  F_World_iter : Fun K "__iter__" "World.__iter__" s_World_iter a_World_iter d_World_iter
  m_World_iter : Meth K C_World "__iter__" a_World_iter
  b_World_iter : Binds K d_World_iter ["self"] []
  a_World_eq : Addr
  d_World_eq : FuncData
  F_World_eq : Fun K "__eq__" "World.__eq__" s_World_eq a_World_eq d_World_eq
  m_World_eq : Meth K C_World "__eq__" a_World_eq
  b_World_eq : Binds K d_World_eq ["self", "other"] []
  a_World_str : Addr
  d_World_str : FuncData
  F_World_str : Fun K "__str__" "World.__str__" s_World_str a_World_str d_World_str
  m_World_str : Meth K C_World "__str__" a_World_str
  b_World_str : Binds K d_World_str ["self"] []
  a_made_world : Addr
  d_made_world : FuncData
  F_made_world : Fun K "made_world" "made_world" s_made_world a_made_world d_made_world
  g_made_world : mg "made_world" = some (.ref a_made_world)
  b_made_world : Binds K d_made_world ["tick", "next_id", "luck", "things"] []
  a_with_things : Addr
  d_with_things : FuncData
  F_with_things : Fun K "with_things" "with_things" s_with_things a_with_things d_with_things
  g_with_things : mg "with_things" = some (.ref a_with_things)
  b_with_things : Binds K d_with_things ["world", "things"] []
  a_thing_at : Addr
  d_thing_at : FuncData
  F_thing_at : Fun K "thing_at" "thing_at" s_thing_at a_thing_at d_thing_at
  g_thing_at : mg "thing_at" = some (.ref a_thing_at)
  b_thing_at : Binds K d_thing_at ["world", "place"] []
  a_made_in : Addr
  d_made_in : FuncData
  F_made_in : Fun K "made_in" "made_in" s_made_in a_made_in d_made_in
  g_made_in : mg "made_in" = some (.ref a_made_in)
  b_made_in : Binds K d_made_in ["world", "kind", "numbers"] []
  a_dropped_in : Addr
  d_dropped_in : FuncData
  F_dropped_in : Fun K "dropped_in" "dropped_in" s_dropped_in a_dropped_in d_dropped_in
  g_dropped_in : mg "dropped_in" = some (.ref a_dropped_in)
  b_dropped_in : Binds K d_dropped_in ["world", "place"] []
  a_put_in : Addr
  d_put_in : FuncData
  F_put_in : Fun K "put_in" "put_in" s_put_in a_put_in d_put_in
  g_put_in : mg "put_in" = some (.ref a_put_in)
  b_put_in : Binds K d_put_in ["numbers", "place", "number"] []
  a_changed_in : Addr
  d_changed_in : FuncData
  F_changed_in : Fun K "changed_in" "changed_in" s_changed_in a_changed_in d_changed_in
  g_changed_in : mg "changed_in" = some (.ref a_changed_in)
  b_changed_in : Binds K d_changed_in ["world", "thing", "place", "number"] []
  a_require_any_world : Addr
  d_require_any_world : FuncData
  F_require_any_world : Fun K "require_any_world" "require_any_world" s_require_any_world a_require_any_world d_require_any_world
  g_require_any_world : mg "require_any_world" = some (.ref a_require_any_world)
  b_require_any_world : Binds K d_require_any_world ["value"] []
  a_known_thing : Addr
  d_known_thing : FuncData
  F_known_thing : Fun K "known_thing" "known_thing" s_known_thing a_known_thing d_known_thing
  g_known_thing : mg "known_thing" = some (.ref a_known_thing)
  b_known_thing : Binds K d_known_thing ["world", "place"] []
  a_made : Addr
  d_made : FuncData
  F_made : Fun K "made" "made" s_made a_made d_made
  g_made : mg "made" = some (.ref a_made)
  b_made : Binds K d_made ["world", "kind", "numbers"] []
  a_dropped : Addr
  d_dropped : FuncData
  F_dropped : Fun K "dropped" "dropped" s_dropped a_dropped d_dropped
  g_dropped : mg "dropped" = some (.ref a_dropped)
  b_dropped : Binds K d_dropped ["world", "place"] []
  a_changed : Addr
  d_changed : FuncData
  F_changed : Fun K "changed" "changed" s_changed a_changed d_changed
  g_changed : mg "changed" = some (.ref a_changed)
  b_changed : Binds K d_changed ["world", "thing", "place", "number"] []
  a_l_dice : Addr
  d_l_dice : FuncData
  F_l_dice : Fun K "_law_dice" "_law_dice" s_l_dice a_l_dice d_l_dice
  g_l_dice : mg "_law_dice" = some (.ref a_l_dice)
  b_l_dice : Binds K d_l_dice ["_law_script", "_law_spot"] []
  a_l_roll : Addr
  d_l_roll : FuncData
  F_l_roll : Fun K "_law_roll" "_law_roll" s_l_roll a_l_roll d_l_roll
  g_l_roll : mg "_law_roll" = some (.ref a_l_roll)
  b_l_roll : Binds K d_l_roll ["_law_dice_here", "_law_total"] []
  a_l_pick : Addr
  d_l_pick : FuncData
  F_l_pick : Fun K "_law_pick" "_law_pick" s_l_pick a_l_pick d_l_pick
  g_l_pick : mg "_law_pick" = some (.ref a_l_pick)
  b_l_pick : Binds K d_l_pick ["_law_dice_here", "_law_items"] []
  a_l_near : Addr
  d_l_near : FuncData
  F_l_near : Fun K "_law_near" "_law_near" s_l_near a_l_near d_l_near
  g_l_near : mg "_law_near" = some (.ref a_l_near)
  b_l_near : Binds K d_l_near ["_law_dice_here", "_law_most"] []
  a_l_wd_plain : Addr
  d_l_wd_plain : FuncData
  F_l_wd_plain : Fun K "_law_wd_plain" "_law_wd_plain" s_l_wd_plain a_l_wd_plain d_l_wd_plain
  g_l_wd_plain : mg "_law_wd_plain" = some (.ref a_l_wd_plain)
  b_l_wd_plain : Binds K d_l_wd_plain ["_law_world"] []
  a_l_number : Addr
  d_l_number : FuncData
  F_l_number : Fun K "_law_number" "_law_number" s_l_number a_l_number d_l_number
  g_l_number : mg "_law_number" = some (.ref a_l_number)
  b_l_number : Binds K d_l_number ["_law_dice_here"] []
  a_l_numbers : Addr
  d_l_numbers : FuncData
  F_l_numbers : Fun K "_law_numbers" "_law_numbers" s_l_numbers a_l_numbers d_l_numbers
  g_l_numbers : mg "_law_numbers" = some (.ref a_l_numbers)
  b_l_numbers : Binds K d_l_numbers ["_law_dice_here"] []
  a_l_kind_drawn : Addr
  d_l_kind_drawn : FuncData
  F_l_kind_drawn : Fun K "_law_kind_drawn" "_law_kind_drawn" s_l_kind_drawn a_l_kind_drawn d_l_kind_drawn
  g_l_kind_drawn : mg "_law_kind_drawn" = some (.ref a_l_kind_drawn)
  b_l_kind_drawn : Binds K d_l_kind_drawn ["_law_dice_here"] []
  a_l_world_drawn : Addr
  d_l_world_drawn : FuncData
  F_l_world_drawn : Fun K "_law_world_drawn" "_law_world_drawn" s_l_world_drawn a_l_world_drawn d_l_world_drawn
  g_l_world_drawn : mg "_law_world_drawn" = some (.ref a_l_world_drawn)
  b_l_world_drawn : Binds K d_l_world_drawn ["_law_dice_here"] []
  a_l_is_told : Addr
  d_l_is_told : FuncData
  F_l_is_told : Fun K "_law_is_told" "_law_is_told" s_l_is_told a_l_is_told d_l_is_told
  g_l_is_told : mg "_law_is_told" = some (.ref a_l_is_told)
  b_l_is_told : Binds K d_l_is_told ["_law_world", "_law_plain"] []
  a_l_made : Addr
  d_l_made : FuncData
  F_l_made : Fun K "_law_made" "_law_made" s_l_made a_l_made d_l_made
  g_l_made : mg "_law_made" = some (.ref a_l_made)
  b_l_made : Binds K d_l_made ["_law_dice_here", "_law_world", "_law_plain"] []
  a_l_done : Addr
  d_l_done : FuncData
  F_l_done : Fun K "_law_done" "_law_done" s_l_done a_l_done d_l_done
  g_l_done : mg "_law_done" = some (.ref a_l_done)
  b_l_done : Binds K d_l_done ["_law_dice_here", "_law_world", "_law_plain"] []
  a_l_is_alone : Addr
  d_l_is_alone : FuncData
  F_l_is_alone : Fun K "_law_is_alone" "_law_is_alone" s_l_is_alone a_l_is_alone d_l_is_alone
  g_l_is_alone : mg "_law_is_alone" = some (.ref a_l_is_alone)
  b_l_is_alone : Binds K d_l_is_alone ["_law_world", "_law_plain"] []
  a_l_right : Addr
  d_l_right : FuncData
  F_l_right : Fun K "_law_right" "_law_right" s_l_right a_l_right d_l_right
  g_l_right : mg "_law_right" = some (.ref a_l_right)
  b_l_right : Binds K d_l_right ["_law_dice_here"] []
  a_law : Addr
  d_law : FuncData
  F_law : Fun K "law" "law" s_law a_law d_law
  g_law : mg "law" = some (.ref a_law)
  b_law : Binds K d_law ["_law_script"] []
  mk_KnownParts : Mk K C_KnownParts a_KnownParts_init
  mk_World : Mk K C_World a_World_init
  m_abs : mg "abs" = none
  m_all : mg "all" = none
  m_bool : mg "bool" = none
  m_int : mg "int" = none
  m_isinstance : mg "isinstance" = none
  m_iter : mg "iter" = none
  m_len : mg "len" = none
  m_list : mg "list" = none
  m_max : mg "max" = none
  m_min : mg "min" = none
  m_range : mg "range" = none
  m_set : mg "set" = none
  m_str : mg "str" = none
  m_tuple : mg "tuple" = none
  m_zip : mg "zip" = none
  t_GREATEST : Tok
  c_GREATEST : mg "GREATEST" = some (.int (10 ^ 60) t_GREATEST)
  t_MODULUS : Tok
  c_MODULUS : mg "MODULUS" = some (.int 999999937 t_MODULUS)
  t_MOST : Tok
  c_MOST : mg "MOST" = some (.int 1000000000 t_MOST)
  t_MAX_THINGS : Tok
  c_MAX_THINGS : mg "MAX_THINGS" = some (.int 12 t_MAX_THINGS)
  t_MOST_NUMBERS : Tok
  c_MOST_NUMBERS : mg "MOST_NUMBERS" = some (.int 8 t_MOST_NUMBERS)
  t_MOST_NAME : Tok
  c_MOST_NAME : mg "MOST_NAME" = some (.int 8 t_MOST_NAME)
  t_THING_PARTS : Tok
  c_THING_PARTS : mg "THING_PARTS" = some (.int 3 t_THING_PARTS)
  t_LETTERS : Tok
  c_LETTERS : mg "LETTERS" = some (.str "abcdefghijklmnopqrstuvwxyz" t_LETTERS)
namespace Tp
variable {K : PySem.W.Frag} {mg : Str → Option Value} (T : Tp K mg)
theorem r_GREATEST : RelV (.int (10 ^ 60)) (.int (10 ^ 60) T.t_GREATEST) := ⟨_, rfl⟩
theorem r_MODULUS : RelV (.int 999999937) (.int 999999937 T.t_MODULUS) := ⟨_, rfl⟩
theorem r_MOST : RelV (.int 1000000000) (.int 1000000000 T.t_MOST) := ⟨_, rfl⟩
theorem r_MAX_THINGS : RelV (.int 12) (.int 12 T.t_MAX_THINGS) := ⟨_, rfl⟩
theorem r_MOST_NUMBERS : RelV (.int 8) (.int 8 T.t_MOST_NUMBERS) := ⟨_, rfl⟩
theorem r_MOST_NAME : RelV (.int 8) (.int 8 T.t_MOST_NAME) := ⟨_, rfl⟩
theorem r_THING_PARTS : RelV (.int 3) (.int 3 T.t_THING_PARTS) := ⟨_, rfl⟩
theorem r_LETTERS : RelV (.str "abcdefghijklmnopqrstuvwxyz") (.str "abcdefghijklmnopqrstuvwxyz" T.t_LETTERS) := ⟨_, rfl⟩
end Tp
/-! ### general: frames of the heap, the dice -/
/-- all that was tracked is as it was, but d -/
def Ext (d : Addr) (H H' : Hp) : Prop := ∀ b o, b ≠ d → H b = some o → H' b = some o
theorem Ext.refl (d : Addr) (H : Hp) : Ext d H H := fun _ _ _ h => h
theorem Ext.trans {d : Addr} {H H1 H2 : Hp} (a : Ext d H H1) (b : Ext d H1 H2) : Ext d H H2 := fun c o n h => b c o n (a c o n h)
theorem Ext.of {d : Addr} {H H' : Hp} (s : Same H H') : Ext d H H' := fun b o _ h => s b o h
theorem Ext.new {d p : Addr} {o : HO} {H : Hp} (h : H p = none) : Ext d H (upd H p o) := fun b u _ e => by
  rw [upd_ne (ne_of_none e h)]; exact e
theorem Ext.put {d : Addr} {o : HO} {H : Hp} : Ext d H (upd H d o) := fun b u n e => by
  rw [upd_ne n]; exact e
/-- d was not tracked ahead -/
theorem Ext.same {d : Addr} {H H' : Hp} (e : Ext d H H') (h : H d = none) : Same H H' := fun b o q => e b o (ne_of_none q h) q
theorem same_new {H : Hp} {p : Addr} {o : HO} (h : H p = none) : Same H (upd H p o) := fun b x e => by
  rw [upd_ne (ne_of_none e h)]; exact e
theorem Ext.at' {d a : Addr} {H H' : Hp} {o : HO} (e : Ext d H H') (n : a ≠ d) (h : H a = some o) : H' a = some o := e a o n h
theorem Ext.rd {d a : Addr} {H H' : Hp} {o : HO} (e : Ext d H H') (n : a ≠ d) (h : Rd H a o) : Rd H' a o := by
  rcases h with h | ⟨u, h⟩
  · exact .inl (e _ _ n h)
  · exact .inr ⟨u, e _ _ n h⟩
theorem Ext.sql {K : PySem.W.Frag} {d a : Addr} {H H' : Hp} {xs : List V} (e : Ext d H H') (n : a ≠ d) (h : SqL K H a xs) : SqL K H' a xs := by
  rcases h with h | h
  · exact .inl (e.rd n h)
  · exact .inr h
theorem same_sqt {K : PySem.W.Frag} {H H' : Hp} {a : Addr} {xs : List V} (e : Same H H') (h : SqT K H a xs) : SqT K H' a xs := by
  rcases h with (h | ⟨o, h⟩) | h
  · exact .inl (.inl (e _ _ h))
  · exact .inl (.inr ⟨o, e _ _ h⟩)
  · exact .inr h
theorem sql_ne {K : PySem.W.Frag} {d a : Addr} {H : Hp} {xs : List V} (h : Rd H a (.lst xs)) (n : H d = none) : a ≠ d := by
  rcases h with h | ⟨u, h⟩ <;> exact ne_of_none h n
theorem iteY {c A B : Prop} [Decidable c] (hc : c) (h : A) : if c then A else B := by rw [if_pos hc]; exact h
theorem iteN {c A B : Prop} [Decidable c] (hc : ¬ c) (h : B) : if c then A else B := by rw [if_neg hc]; exact h
theorem iteNT {A B : Prop} (h : B) : if (!true) = true then A else B := h
theorem iteNF {A B : Prop} (h : A) : if (!false) = true then A else B := h
theorem Ext.sqt {K : PySem.W.Frag} {d a : Addr} {H H' : Hp} {xs : List V} (e : Ext d H H') (n : a ≠ d) (h : SqT K H a xs) : SqT K H' a xs := by
  rcases h with h | h
  · exact .inl (e.rd n h)
  · exact .inr h
theorem Ext.mut {d a : Addr} {H H' : Hp} {o : HO} (e : Ext d H H') (n : H a = none) : Ext d H (upd H' a o) := fun b u nb hb => by
  rw [upd_ne (ne_of_none hb n)]
  exact e b u nb hb
/-- a wish that the short tactics leave alone -/
inductive Stp (p : Prop) : Prop where
  | of (h : p)
  | no (h : False)
theorem Stp.get {p : Prop} (h : Stp p) : p := by
  cases h with
  | of h => exact h
  | no h => exact h.elim
/-- the dice: three ints -/
def Dice (d : Addr) (H : Hp) : Prop := ∃ x y z : Int, H d = some (.lst [.int x, .int y, .int z])
theorem Dice.same {d : Addr} {H H' : Hp} (h : Dice d H) (s : Same H H') : Dice d H' := by
  obtain ⟨x, y, z, e⟩ := h
  exact ⟨x, y, z, s _ _ e⟩
theorem Dice.ne {d p : Addr} {H : Hp} (h : Dice d H) (n : H p = none) : p ≠ d := by
  obtain ⟨x, y, z, e⟩ := h
  exact (ne_of_none e n).symm
theorem Dice.new {d p : Addr} {o : HO} {H : Hp} (h : Dice d H) (n : H p = none) : Dice d (upd H p o) := h.same (same_new n)
theorem Dice.eq {d : Addr} {H : Hp} (x y z : Int) (h : H d = some (.lst [.int x, .int y, .int z])) : Dice d H := ⟨x, y, z, h⟩
theorem nn {x y : Int} (h : 0 ≤ x) (k : x < y) : -y < x ∧ x < y := ⟨by omega, k⟩
theorem Dice.ne_tup {d p : Addr} {H : Hp} {xs : List V} (h : Dice d H) (n : H p = some (.tup xs)) : p ≠ d := by
  obtain ⟨x, y, z, e⟩ := h
  exact ne_of n e (by intro z; cases z)
theorem Dice.put {d p : Addr} {o : HO} {H : Hp} (h : Dice d H) (n : p ≠ d) : Dice d (upd H p o) := by
  obtain ⟨x, y, z, e⟩ := h
  exact ⟨x, y, z, by rw [upd_ne (fun q => n q.symm)]; exact e⟩
/-- an int within bounds -/
def inB (lo hi : Int) : V → Bool
  | .int i => decide (lo ≤ i) && decide (i < hi)
  | _ => false
theorem inB_of {lo hi : Int} {v : V} (h : inB lo hi v = true) : ∃ i, v = .int i ∧ lo ≤ i ∧ i < hi := by
  cases v with
  | int i =>
    have h : (decide (lo ≤ i) && decide (i < hi)) = true := h
    rw [Bool.and_eq_true] at h
    exact ⟨i, rfl, of_decide_eq_true h.1, of_decide_eq_true h.2⟩
  | _ => exact absurd h (by intro z; cases z)
theorem inB_mem {lo hi : Int} {v : V} {xs : List V} (hv : v ∈ xs) (h : xs.all (inB lo hi) = true) : ∃ i, v = .int i ∧ lo ≤ i ∧ i < hi := inB_of (List.all_eq_true.mp h v hv)
/-! ### the dice's defs -/
def sp_l_dice (K : PySem.W.Frag) : Sp := fun vs H Q _ => ∃ (a : Addr) (ns : List Int) (k : Int), vs = [.ref a, .int k] ∧ SqL K H a (ns.map V.int) ∧ 0 ≤ k ∧ k < 1000 ∧
  ∀ d H', H d = none → Dice d H' → Same H H' → Q (.ref d) H'
def sp_l_roll (_ : PySem.W.Frag) : Sp := fun vs H Q _ => ∃ (d : Addr) (n : Int), vs = [.ref d, .int n] ∧ 0 < n ∧ n < 2 ^ 250 ∧ Dice d H ∧
  ∀ r H', 0 ≤ r → r < n → Dice d H' → Ext d H H' → Q (.int r) H'
/-- a list that isn't the dice's, or a tuple -/
def Itm (K : PySem.W.Frag) (d : Addr) (H : Hp) (a : Addr) (xs : List V) : Prop := (SqL K H a xs ∧ a ≠ d) ∨ SqT K H a xs
def sp_l_pick (K : PySem.W.Frag) : Sp := fun vs H Q _ => ∃ (d a : Addr) (xs : List V), vs = [.ref d, .ref a] ∧ Itm K d H a xs ∧ 0 < xs.length ∧ xs.length < 1000 ∧ Dice d H ∧
  ∀ v H', v ∈ xs → Dice d H' → Ext d H H' → Q v H'
def sp_l_near (_ : PySem.W.Frag) : Sp := fun vs H Q _ => ∃ (d : Addr) (m : Int), vs = [.ref d, .int m] ∧ 0 ≤ m ∧ m < 2 ^ 240 ∧ Dice d H ∧
  ∀ r H', -m ≤ r → r ≤ m → Dice d H' → Ext d H H' → Q (.int r) H'

/-! ### judged values -/
inductive Jd (K : PySem.W.Frag) (H : Hp) : V → Prop where
  | non : Jd K H .non
  | bl (b : Bool) : Jd K H (.bl b)
  | int (i : Int) : Jd K H (.int i)
  | str (x : Str) : Jd K H (.str x)
  | lst {a : Addr} {xs : List V} (e : H a = some (.lst xs)) : Jd K H (.ref a)
  | tup {a : Addr} {xs : List V} (e : H a = some (.tup xs)) : Jd K H (.ref a)
  | dK {a : Addr} {kvs : List (Key × V)} (e : H a = some (.dK kvs)) : Jd K H (.ref a)
@[reducible] def isI : V → Bool
  | .int _ => true
  | _ => false
@[reducible] def isB : V → Bool
  | .bl _ => true
  | _ => false
@[reducible] def isS : V → Bool
  | .str _ => true
  | _ => false
theorem Jd.ty {K : PySem.W.Frag} {H : Hp} {x : V} (j : Jd K H x) : ∃ n, TyX K H x (.type n) ∧ kitB n "int" = some (isI x || isB x) ∧ kitB n "bool" = some (isB x) ∧ kitB n "str" = some (isS x) := by
  cases j with
  | non => exact ⟨_, .base .non, by decide +kernel, by decide +kernel, by decide +kernel⟩
  | bl b => exact ⟨_, .base (.bl b), by show kitB "bool" "int" = some true; decide +kernel, by show kitB "bool" "bool" = some true; decide +kernel, by show kitB "bool" "str" = some false; decide +kernel⟩
  | int i => exact ⟨_, .base (.int i), by show kitB "int" "int" = some true; decide +kernel, by show kitB "int" "bool" = some false; decide +kernel, by show kitB "int" "str" = some false; decide +kernel⟩
  | str x => exact ⟨_, .base (.str x), by show kitB "str" "int" = some false; decide +kernel, by show kitB "str" "bool" = some false; decide +kernel, by show kitB "str" "str" = some true; decide +kernel⟩
  | lst e => exact ⟨_, .base (.lst e), by show kitB "list" "int" = some false; decide +kernel, by show kitB "list" "bool" = some false; decide +kernel, by show kitB "list" "str" = some false; decide +kernel⟩
  | tup e => exact ⟨_, .base (.tup e), by show kitB "tuple" "int" = some false; decide +kernel, by show kitB "tuple" "bool" = some false; decide +kernel, by show kitB "tuple" "str" = some false; decide +kernel⟩
  | dK e => exact ⟨_, .base (.dK e), by show kitB "dict" "int" = some false; decide +kernel, by show kitB "dict" "bool" = some false; decide +kernel, by show kitB "dict" "str" = some false; decide +kernel⟩
theorem Jd.same {K : PySem.W.Frag} {H H' : Hp} {x : V} (j : Jd K H x) (s : Same H H') : Jd K H' x := by
  cases j with
  | non => exact .non
  | bl b => exact .bl b
  | int i => exact .int i
  | str x => exact .str x
  | lst e => exact .lst (s _ _ e)
  | tup e => exact .tup (s _ _ e)
  | dK e => exact .dK (s _ _ e)
def shortB : V → Bool
  | .int i => decide (-(10 ^ 60) < i) && decide (i < 10 ^ 60)
  | _ => false
def fromB : V → Int → Int → Bool
  | .int i, a, b => decide (a ≤ i) && decide (i ≤ b)
  | _, _, _ => false
def sp_is_whole (K : PySem.W.Frag) : Sp := fun vs H Q _ => ∃ x, vs = [x] ∧ Jd K H x ∧ Q (.bl (isI x)) H
def sp_is_short (K : PySem.W.Frag) : Sp := fun vs H Q _ => ∃ x, vs = [x] ∧ Jd K H x ∧ Q (.bl (shortB x)) H
def sp_is_from (K : PySem.W.Frag) : Sp := fun vs H Q _ => ∃ x a b, vs = [x, .int a, .int b] ∧ Jd K H x ∧ Q (.bl (fromB x a b)) H
theorem and_t {a b : Bool} {F : Bool → Prop} (q : F (a && b)) (e : a = true) : F b := by
  subst e
  exact q
theorem and_f {a b : Bool} {F : Bool → Prop} (q : F (a && b)) (e : ¬ a = true) : F false := by
  have e := eq_false_of_ne_true e
  subst e
  exact q

/-! ### further rules -/
section
variable {X : Cx} {pos : Pos}
def tIfT (t ta tb : TT) : TT := fun σ H Q => t σ H fun c H1 => if c = true then ta σ H1 Q else tb σ H1 Q
theorem pt_ifE {c a b : Expr} {tc ta tb : TT} (hc : PT X c tc) (ha : PT X a ta) (hb : PT X b tb) : PT X (.IfExp c a b pos) (tIfT tc ta tb) := by
  refine ⟨fun pins s σ H Q I h => ?_⟩
  refine isTrue_IfExp (thn (hc.run pins s σ H _ I h) fun d s1 ⟨H1, I1, q1⟩ => ?_)
  cases d with
  | true => exact ha.run pins s1 σ H1 Q I1 q1
  | false => exact hb.run pins s1 σ H1 Q I1 q1
end

/-! ### plain worlds -/
structure Th where
  id : Int
  kd : Str
  ns : List Int
  deriving DecidableEq
structure Wd where
  tick : Int
  nx : Int
  luck : Int
  ths : List Th
  deriving DecidableEq
def Num (i : Int) : Prop := -1000000000 ≤ i ∧ i ≤ 1000000000
def letters : Str := "abcdefghijklmnopqrstuvwxyz"
def NmOk (z : Str) : Prop := 1 ≤ z.length ∧ z.length ≤ 8 ∧ ∀ c ∈ z.cps.toList, c ∈ letters.cps.toList
structure Th.ok (t : Th) : Prop where
  id : 0 ≤ t.id
  kd : NmOk t.kd
  n1 : 1 ≤ t.ns.length
  n8 : t.ns.length ≤ 8
  ns : ∀ i ∈ t.ns, Num i
def big : Int := 1000000000000000000000000000000000000000000000000000000000000
/-- ascending ids below the next one -/
def Asc (ts : List Th) (nx : Int) : Prop := (ts.map Th.id).Pairwise (· < ·) ∧ ∀ t ∈ ts, t.id < nx
structure Wd.ok (W : Wd) : Prop where
  tk : 0 ≤ W.tick ∧ W.tick < big
  nx : 0 ≤ W.nx ∧ W.nx < big
  lu : 0 ≤ W.luck ∧ W.luck ≤ 999999936
  n : W.ths.length ≤ 12
  ths : ∀ t ∈ W.ths, t.ok
  as : Asc W.ths W.nx
/-! the heap's things -/
def ivs (ns : List Int) : List V := ns.map V.int
/-- a thing's tuple -/
def ThV (K : PySem.W.Frag) (H : Hp) (v : V) (t : Th) : Prop := ∃ p n, v = .ref p ∧ SqT K H p [.int t.id, .str t.kd, .ref n] ∧ SqT K H n (ivs t.ns) ∧ PyData.strOk t.kd = true
def Ths (K : PySem.W.Frag) (H : Hp) (a : Addr) (ts : List Th) : Prop := ∃ xs, SqT K H a xs ∧ Paired (ThV K H) xs ts
/-- the law's plain world -/
def Pl (K : PySem.W.Frag) (H : Hp) (p : Addr) (W : Wd) : Prop := ∃ a, SqT K H p [.int W.tick, .int W.nx, .int W.luck, .ref a] ∧ Ths K H a W.ths
def ids (W : Wd) : List Int := W.ths.map Th.id
/-- a world's slots -/
@[reducible] def wsl (W : Wd) (l a : Addr) : List (Option V) := [some (.ref l), some (.int W.luck), some (.int W.nx), some (.ref a), some (.int W.tick)]
/-- a world of the package at w; its list of ids is neither of two told ones -/
def Off (l : Addr) (d : Addr × Addr) : Prop := l ≠ d.1 ∧ l ≠ d.2
def WAt (K : PySem.W.Frag) (C : Addr) (d : Addr × Addr) (H : Hp) (w : Addr) (W : Wd) : Prop := ∃ dx l a, SlX.Slt H w C dx (wsl W l a) ∧ H l = some (.lst (ivs (ids W))) ∧ Off l d ∧ Ths K H a W.ths
def Li1 (d : Addr) (H : Hp) : Prop := ∃ o, H d = some o
theorem Li1.same {d : Addr} {H H' : Hp} (l : Li1 d H) (s : Same H H') : Li1 d H' := by
  obtain ⟨o, h⟩ := l
  exact ⟨o, s _ _ h⟩
theorem Li1.ext {d g : Addr} {H H' : Hp} (l : Li1 g H) (e : Ext d H H') (n : g ≠ d) : Li1 g H' := by
  obtain ⟨o, h⟩ := l
  exact ⟨o, e _ _ n h⟩
theorem Li1.ne {d p : Addr} {H : Hp} (l : Li1 d H) (n : H p = none) : p ≠ d := by
  obtain ⟨o, h⟩ := l
  exact (ne_of_none h n).symm
structure Li (d : Addr × Addr) (H : Hp) : Prop where
  one : Li1 d.1 H
  two : Li1 d.2 H
theorem Li.same {d : Addr × Addr} {H H' : Hp} (l : Li d H) (s : Same H H') : Li d H' := ⟨l.one.same s, l.two.same s⟩
theorem Li.ne {d : Addr × Addr} {p : Addr} {H : Hp} (l : Li d H) (n : H p = none) : Off p d := ⟨l.one.ne n, l.two.ne n⟩
theorem Dice.li1 {d : Addr} {H : Hp} (D : Dice d H) : Li1 d H := by
  obtain ⟨x, y, z, h⟩ := D
  exact ⟨_, h⟩
theorem Dice.li {d g : Addr} {H : Hp} (D : Dice d H) (h : Li1 g H) : Li (d, g) H := ⟨D.li1, h⟩
theorem slt_same {H H' : Hp} {a C dx : Addr} {vs : List (Option V)} (h : SlX.Slt H a C dx vs) (s : Same H H') : SlX.Slt H' a C dx vs := by
  rcases h with ⟨h1, h2⟩ | ⟨h1, h2⟩
  · exact .inl ⟨s _ _ h1, h2⟩
  · exact .inr ⟨s _ _ h1, s _ _ h2⟩
theorem ThV.mono {K : PySem.W.Frag} {H H' : Hp} (m : ∀ {a xs}, SqT K H a xs → SqT K H' a xs) {v : V} {t : Th} (h : ThV K H v t) : ThV K H' v t := by
  obtain ⟨p, n, e, h1, h2, h3⟩ := h
  exact ⟨p, n, e, m h1, m h2, h3⟩
theorem Ths.mono {K : PySem.W.Frag} {H H' : Hp} (m : ∀ {a xs}, SqT K H a xs → SqT K H' a xs) {a : Addr} {ts : List Th} (h : Ths K H a ts) : Ths K H' a ts := by
  obtain ⟨xs, h1, h2⟩ := h
  exact ⟨xs, m h1, L2.Paired.mapP h2 (fun _ _ => ThV.mono m)⟩
theorem Ths.same {K : PySem.W.Frag} {H H' : Hp} {a : Addr} {ts : List Th} (h : Ths K H a ts) (s : Same H H') : Ths K H' a ts := h.mono fun z => same_sqt s z
theorem ThV.same {K : PySem.W.Frag} {H H' : Hp} {v : V} {t : Th} (h : ThV K H v t) (s : Same H H') : ThV K H' v t := h.mono fun z => same_sqt s z
theorem Pl.mono {K : PySem.W.Frag} {H H' : Hp} (m : ∀ {a xs}, SqT K H a xs → SqT K H' a xs) {p : Addr} {W : Wd} (h : Pl K H p W) : Pl K H' p W := by
  obtain ⟨a, h1, h2⟩ := h
  exact ⟨a, m h1, h2.mono m⟩
theorem Pl.same {K : PySem.W.Frag} {H H' : Hp} {p : Addr} {W : Wd} (h : Pl K H p W) (s : Same H H') : Pl K H' p W := h.mono fun z => same_sqt s z
theorem WAt.same {K : PySem.W.Frag} {C : Addr} {d : Addr × Addr} {H H' : Hp} {w : Addr} {W : Wd} (h : WAt K C d H w W) (s : Same H H') : WAt K C d H' w W := by
  obtain ⟨dx, l, a, h1, h2, h3, h4⟩ := h
  exact ⟨dx, l, a, slt_same h1 s, s _ _ h2, h3, h4.same s⟩
theorem sqtD {K : PySem.W.Frag} {d : Addr} {H H' : Hp} (e : Ext d H H') (D : Dice d H) {a : Addr} {xs : List V} (h : SqT K H a xs) : SqT K H' a xs := by
  obtain ⟨x, y, z, hd⟩ := D
  rcases h with (h | ⟨o, h⟩) | h
  · exact .inl (.inl (e _ _ (ne_of h hd (by intro z; cases z)) h))
  · exact .inl (.inr ⟨o, e _ _ (ne_of h hd (by intro z; cases z)) h⟩)
  · exact .inr h
theorem Ths.ext {K : PySem.W.Frag} {d : Addr} {H H' : Hp} {a : Addr} {ts : List Th} (h : Ths K H a ts) (e : Ext d H H') (D : Dice d H) : Ths K H' a ts := h.mono fun z => sqtD e D z
theorem ThV.ext {K : PySem.W.Frag} {d : Addr} {H H' : Hp} {v : V} {t : Th} (h : ThV K H v t) (e : Ext d H H') (D : Dice d H) : ThV K H' v t := h.mono fun z => sqtD e D z
theorem Pl.ext {K : PySem.W.Frag} {d : Addr} {H H' : Hp} {p : Addr} {W : Wd} (h : Pl K H p W) (e : Ext d H H') (D : Dice d H) : Pl K H' p W := h.mono fun z => sqtD e D z
theorem WAt.ext {K : PySem.W.Frag} {C : Addr} {d : Addr × Addr} {H H' : Hp} {w : Addr} {W : Wd} (h : WAt K C d H w W) (e : Ext d.1 H H') (D : Dice d.1 H) : WAt K C d H' w W := by
  obtain ⟨dx, l, a, h1, h2, h3, h4⟩ := h
  refine ⟨dx, l, a, ?_, e _ _ h3.1 h2, h3, h4.ext e D⟩
  obtain ⟨x, y, z, hd⟩ := D
  rcases h1 with ⟨h1, h2⟩ | ⟨h1, h2⟩
  · exact .inl ⟨e _ _ (ne_of h1 hd (by intro z; cases z)) h1, h2⟩
  · exact .inr ⟨e _ _ (ne_of h1 hd (by unfold SlX.SlO; intro z; cases z)) h1, e _ _ (ne_of h2 hd (by intro z; cases z)) h2⟩
theorem paired_get {α β : Type} {F : α → β → Prop} : ∀ {xs : List α} {ys : List β} {i : Nat} {x : α}, Paired F xs ys → xs[i]? = some x → ∃ y, ys[i]? = some y ∧ F x y
  | _, _, 0, _, .cons h _, e => by cases e; exact ⟨_, rfl, h⟩
  | _, _, i + 1, _, .cons _ t, e => by
    obtain ⟨y, h1, h2⟩ := paired_get (i := i) t (by simpa using e)
    exact ⟨y, by simpa using h1, h2⟩
theorem paired_app {α β : Type} {F : α → β → Prop} : ∀ {xs ys : List α} {us ws : List β}, Paired F xs us → Paired F ys ws → Paired F (xs ++ ys) (us ++ ws)
  | _, _, _, _, .nil, q => q
  | _, _, _, _, .cons r t, q => .cons r (paired_app t q)
theorem paired_take {α β : Type} {F : α → β → Prop} : ∀ {xs : List α} {us : List β} (n : Nat), Paired F xs us → Paired F (xs.take n) (us.take n)
  | _, _, 0, _ => by rw [List.take_zero, List.take_zero]; exact .nil
  | _, _, n + 1, .nil => .nil
  | _, _, n + 1, .cons r t => .cons r (paired_take n t)
theorem paired_drop {α β : Type} {F : α → β → Prop} : ∀ {xs : List α} {us : List β} (n : Nat), Paired F xs us → Paired F (xs.drop n) (us.drop n)
  | _, _, 0, h => h
  | _, _, n + 1, .nil => .nil
  | _, _, n + 1, .cons r t => paired_drop n t
/-! as data -/
def nsD (ns : List Int) : PyData := .tuple (ns.map PyData.int)
def thD (t : Th) : PyData := .tuple [.int t.id, .str t.kd, nsD t.ns]
def thsD (ts : List Th) : PyData := .tuple (ts.map thD)
def wdD (W : Wd) : PyData := .tuple [.int W.tick, .int W.nx, .int W.luck, thsD W.ths]
theorem dp_intsAll {K : PySem.W.Frag} {H : Hp} : ∀ ns : List Int, DpAll K H (ivs ns) (ns.map PyData.int)
  | [] => .nil
  | i :: r => .cons (.int i) (dp_intsAll r)
theorem dp_ns {K : PySem.W.Frag} {H : Hp} {n : Addr} {ns : List Int} (h : SqT K H n (ivs ns)) : Dp K H (.ref n) (nsD ns) := .tup h (dp_intsAll ns)
theorem dp_il {K : PySem.W.Frag} {H : Hp} {n : Addr} {ns : List Int} (h : SqL K H n (ivs ns)) : Dp K H (.ref n) (.list (ns.map PyData.int)) := .lst h (dp_intsAll ns)
theorem dp_th {K : PySem.W.Frag} {H : Hp} {v : V} {t : Th} (h : ThV K H v t) : Dp K H v (thD t) := by
  obtain ⟨p, n, rfl, h1, h2, _⟩ := h
  exact .tup h1 (.cons (.int _) (.cons (.str _) (.cons (dp_ns h2) .nil)))
theorem dp_thsAll {K : PySem.W.Frag} {H : Hp} : ∀ {xs : List V} {ts : List Th}, Paired (ThV K H) xs ts → DpAll K H xs (ts.map thD)
  | _, _, .nil => .nil
  | _, _, .cons h t => .cons (dp_th h) (dp_thsAll t)
theorem dp_ths {K : PySem.W.Frag} {H : Hp} {a : Addr} {ts : List Th} (h : Ths K H a ts) : Dp K H (.ref a) (thsD ts) := by
  obtain ⟨xs, h1, h2⟩ := h
  exact .tup h1 (dp_thsAll h2)
theorem dp_wd {K : PySem.W.Frag} {H : Hp} {p : Addr} {W : Wd} (h : Pl K H p W) : Dp K H (.ref p) (wdD W) := by
  obtain ⟨a, h1, h2⟩ := h
  exact .tup h1 (.cons (.int _) (.cons (.int _) (.cons (.int _) (.cons (dp_ths h2) .nil))))
theorem int_all : ∀ ns ms : List Int, PyData.eqvAll (ns.map PyData.int) (ms.map PyData.int) = decide (ns = ms)
  | [], [] => by simp [PyData.eqvAll]
  | [], _ :: _ => by simp [PyData.eqvAll]
  | _ :: _, [] => by simp [PyData.eqvAll]
  | i :: r, j :: s => by
    simp only [List.map_cons, PyData.eqvAll, PyData.eqv, int_all r s]
    by_cases h1 : i = j <;> by_cases h2 : r = s <;> simp [h1, h2]
theorem ns_eqv (ns ms : List Int) : PyData.eqv (nsD ns) (nsD ms) = decide (ns = ms) := by
  simp only [nsD, PyData.eqv, int_all]
theorem il_eqv (ns ms : List Int) : PyData.eqv (.list (ns.map PyData.int)) (.list (ms.map PyData.int)) = decide (ns = ms) := by
  simp only [PyData.eqv, int_all]
theorem th_eqv (s t : Th) : PyData.eqv (thD s) (thD t) = decide (s = t) := by
  obtain ⟨i, k, n⟩ := s
  obtain ⟨j, l, m⟩ := t
  simp only [thD, PyData.eqv, PyData.eqvAll, ns_eqv, Th.mk.injEq, Bool.and_true]
  by_cases h1 : i = j <;> by_cases h2 : k = l <;> by_cases h3 : n = m <;> simp [h1, h2, h3]
theorem ths_all : ∀ ss ts : List Th, PyData.eqvAll (ss.map thD) (ts.map thD) = decide (ss = ts)
  | [], [] => by simp [PyData.eqvAll]
  | [], _ :: _ => by simp [PyData.eqvAll]
  | _ :: _, [] => by simp [PyData.eqvAll]
  | i :: r, j :: s => by
    simp only [List.map_cons, PyData.eqvAll, th_eqv, ths_all r s]
    by_cases h1 : i = j <;> by_cases h2 : r = s <;> simp [h1, h2]
theorem ths_eqv (ss ts : List Th) : PyData.eqv (thsD ss) (thsD ts) = decide (ss = ts) := by
  simp only [thsD, PyData.eqv, ths_all]
theorem wd_eqv (W U : Wd) : PyData.eqv (wdD W) (wdD U) = decide (W = U) := by
  obtain ⟨a, b, c, d⟩ := W
  obtain ⟨e, f, g, h⟩ := U
  simp only [wdD, PyData.eqv, PyData.eqvAll, ths_eqv, Wd.mk.injEq, Bool.and_true]
  by_cases h1 : a = e <;> by_cases h2 : b = f <;> by_cases h3 : c = g <;> by_cases h4 : d = h <;> simp [h1, h2, h3, h4]
theorem int_lay : ∀ ns : List Int, PyData.canLayAll0 (ns.map PyData.int) = true
  | [] => rfl
  | i :: r => by simp only [List.map_cons, PyData.canLayAll0, PyData.canLay0, int_lay r, Bool.and_self]
theorem int_dep : ∀ ns : List Int, PyData.depthAll (ns.map PyData.int) ≤ 1
  | [] => by simp [PyData.depthAll]
  | i :: r => by
    have := int_dep r
    simp only [List.map_cons, PyData.depthAll, PyData.depth]
    omega
theorem ns_sh (ns : List Int) : SeqAt.shaped (nsD ns) = true := by
  have := int_dep ns
  simp only [SeqAt.shaped, nsD, PyData.canLay0, int_lay, PyData.depth, Bool.true_and, decide_eq_true_eq]
  omega
theorem il_sh (ns : List Int) : SeqAt.shaped (.list (ns.map PyData.int)) = true := by
  have := int_dep ns
  have e : (PyData.list (ns.map PyData.int)).depth ≤ 64 := by
    rw [PyData.depth]
    omega
  simp only [SeqAt.shaped, PyData.canLay0, int_lay, Bool.true_and, decide_eq_true_eq]
  exact e
theorem ThV.ks {K : PySem.W.Frag} {H : Hp} {v : V} {t : Th} (h : ThV K H v t) : PyData.strOk t.kd = true := by
  obtain ⟨_, _, _, _, _, h⟩ := h
  exact h
def KdS (t : Th) : Prop := PyData.strOk t.kd = true
theorem ths_lay : ∀ ts : List Th, (∀ t ∈ ts, KdS t) → PyData.canLayAll0 (ts.map thD) = true
  | [], _ => rfl
  | t :: r, h => by
    have h1 : PyData.strOk t.kd = true := h t List.mem_cons_self
    simp only [List.map_cons, PyData.canLayAll0, thD, nsD, PyData.canLay0, int_lay, h1, ths_lay r fun u hu => h u (List.mem_cons_of_mem _ hu), Bool.and_self]
theorem ths_dep : ∀ ts : List Th, PyData.depthAll (ts.map thD) ≤ 3
  | [] => by simp [PyData.depthAll]
  | t :: r => by
    have h1 := ths_dep r
    have h2 := int_dep t.ns
    simp only [List.map_cons, PyData.depthAll, PyData.depth, thD, nsD]
    omega
theorem ths_sh {ts : List Th} (h : ∀ t ∈ ts, KdS t) : SeqAt.shaped (thsD ts) = true := by
  have := ths_dep ts
  simp only [SeqAt.shaped, thsD, PyData.canLay0, ths_lay ts h, PyData.depth, Bool.true_and, decide_eq_true_eq]
  omega
theorem wd_sh {W : Wd} (h : ∀ t ∈ W.ths, KdS t) : SeqAt.shaped (wdD W) = true := by
  have := ths_dep W.ths
  have e : (wdD W).depth ≤ 64 := by
    simp only [wdD, thsD, PyData.depth, PyData.depthAll]
    omega
  simp only [SeqAt.shaped, wdD, thsD, PyData.canLay0, PyData.canLayAll0, ths_lay W.ths h, Bool.true_and, Bool.and_self, decide_eq_true_eq]
  exact decide_eq_true e
theorem strOk_of {z : Str} (h : ∀ c ∈ z.cps.toList, c ∈ letters.cps.toList) : PyData.strOk z = true := by
  unfold PyData.strOk
  rw [← Array.all_toList, List.all_eq_true]
  intro c hc
  have h2 := h c hc
  have h3 : ∀ c ∈ letters.cps.toList, c < 0x110000 := by decide +kernel
  exact decide_eq_true (h3 c h2)
theorem Th.ok.ks {t : Th} (h : t.ok) : KdS t := strOk_of h.kd.2.2
theorem tyx_sqt {K : PySem.W.Frag} {H : Hp} {a : Addr} {xs : List V} (h : SqT K H a xs) : TyX K H (.ref a) (.type "tuple") := by
  rcases h with (h | ⟨o, h⟩) | ⟨o, its, n, h1, h2, _⟩
  · exact .base (.tup h)
  · exact .fTuple h
  · exact .kTuple h1 h2
theorem ths_ks {K : PySem.W.Frag} {H : Hp} : ∀ {xs : List V} {ts : List Th}, Paired (ThV K H) xs ts → ∀ t ∈ ts, KdS t
  | _, _, .cons h r, t, m => by
    rcases List.mem_cons.mp m with e | m
    · rw [e]; exact h.ks
    · exact ths_ks r t m
theorem Ths.ks {K : PySem.W.Frag} {H : Hp} {a : Addr} {ts : List Th} (h : Ths K H a ts) : ∀ t ∈ ts, KdS t := by
  obtain ⟨xs, _, h⟩ := h
  exact ths_ks h

/-! ### the program's promises -/
def sp_is_name_in (_ : PySem.W.Frag) : Sp := fun vs H Q _ => ∃ z, vs = [.str z] ∧ NmOk z ∧ ∀ H', Same H H' → Q (.bl true) H'
def sp_is_tick (_ : PySem.W.Frag) : Sp := fun vs H Q _ => ∃ i, vs = [.int i] ∧ (0 ≤ i ∧ i < big) ∧ Q (.bl true) H
def sp_is_luck_in (_ : PySem.W.Frag) : Sp := fun vs H Q _ => ∃ i, vs = [.int i] ∧ (0 ≤ i ∧ i ≤ 999999936) ∧ Q (.bl true) H
def sp_is_luck (_ : PySem.W.Frag) : Sp := fun vs H Q _ => ∃ i, vs = [.int i] ∧ (0 ≤ i ∧ i ≤ 999999936) ∧ Q (.bl true) H
def sp_is_number (_ : PySem.W.Frag) : Sp := fun vs H Q _ => ∃ i, vs = [.int i] ∧ Num i ∧ Q (.bl true) H
def sp_are_numbers_in (K : PySem.W.Frag) : Sp := fun vs H Q _ => ∃ n ns, vs = [.ref n] ∧ SqT K H n (ivs ns) ∧ 1 ≤ ns.length ∧ ns.length ≤ 8 ∧ (∀ i ∈ ns, Num i) ∧ ∀ H', Same H H' → Q (.bl true) H'
def sp_is_thing_in (K : PySem.W.Frag) : Sp := fun vs H Q _ => ∃ v t, vs = [v] ∧ ThV K H v t ∧ t.ok ∧ ∀ H', Same H H' → Q (.bl true) H'
def sp_are_things_in (K : PySem.W.Frag) : Sp := fun vs H Q _ => ∃ nx a ts, vs = [.int nx, .ref a] ∧ Ths K H a ts ∧ ts.length ≤ 12 ∧ (∀ t ∈ ts, t.ok) ∧ Asc ts nx ∧ ∀ H', Same H H' → Q (.bl true) H'
/-- known parts at k: (luck, next id, things, tick) -/
def ksl (lu nx a ti : V) : List (Option V) := [some lu, some nx, some a, some ti]
def KAt (C : Addr) (H : Hp) (k : Addr) (lu nx a ti : V) : Prop := ∃ dx, SlX.Slt H k C dx (ksl lu nx a ti)
/-- all but the new instance and its dict stays -/
def Bar (x dx : Addr) (H H' : Hp) : Prop := ∀ b o, b ≠ x → b ≠ dx → H b = some o → H' b = some o
def sp_KnownParts_init (_ : PySem.W.Frag) (C : Addr) : Sp := fun vs H Q _ => ∃ x dx ti nx lu a, vs = [.ref x, ti, nx, lu, a] ∧ H x = some (.ins C dx []) ∧ dx ≠ x ∧ ∀ H', Bar x dx H H' → SlX.Slt H' x C dx (ksl lu nx a ti) → Q .non H'
def sp_parts_told (K : PySem.W.Frag) (C : Addr) : Sp := fun vs H Q _ => ∃ (a : Addr) (W : Wd), vs = [.int W.tick, .int W.nx, .int W.luck, .ref a] ∧ Ths K H a W.ths ∧ W.ok ∧ ∀ k H', Same H H' → H k = none → KAt C H' k (.int W.luck) (.int W.nx) (.ref a) (.int W.tick) → Q (.ref k) H'
/-- what World is made of -/
def Mks (K : PySem.W.Frag) (CK : Addr) (H : Hp) (vs : List V) (W : Wd) : Prop := ∃ a, Ths K H a W.ths ∧ W.ths.length ≤ 12 ∧
  ((vs = [.int W.tick, .int W.nx, .int W.luck, .ref a] ∧ W.ok) ∨ ∃ k, vs = [.ref k, .non, .non, .non] ∧ KAt CK H k (.int W.luck) (.int W.nx) (.ref a) (.int W.tick))
def sp_World_init (K : PySem.W.Frag) (C CK : Addr) : Sp := fun vs H Q _ => ∃ x dx d us W, vs = .ref x :: us ∧ us.length = 4 ∧ H x = some (.ins C dx []) ∧ H dx = some (.own x) ∧ dx ≠ x ∧ Mks K CK H us W ∧ Li d H ∧ ∀ H', Bar x dx H H' → WAt K C d H' x W → Q .non H'
def sp_World_tick (K : PySem.W.Frag) (C : Addr) : Sp := fun vs H Q _ => ∃ w d W, vs = [.ref w] ∧ WAt K C d H w W ∧ Q (.int W.tick) H
def sp_World_next_id (K : PySem.W.Frag) (C : Addr) : Sp := fun vs H Q _ => ∃ w d W, vs = [.ref w] ∧ WAt K C d H w W ∧ Q (.int W.nx) H
def sp_World_luck (K : PySem.W.Frag) (C : Addr) : Sp := fun vs H Q _ => ∃ w d W, vs = [.ref w] ∧ WAt K C d H w W ∧ Q (.int W.luck) H
def sp_World_things (K : PySem.W.Frag) (C : Addr) : Sp := fun vs H Q _ => ∃ w d W, vs = [.ref w] ∧ WAt K C d H w W ∧ ∀ a, Ths K H a W.ths → Q (.ref a) H
/-- a kind that is asked for: data that the text of a kind is compared with -/
def kdB (x : V) (z : Str) : Bool := decide (x = .str z)
theorem str_sh {z : Str} (h : PyData.strOk z = true) : SeqAt.shaped (.str z) = true := by
  show (PyData.strOk z && true) = true
  rw [h]
  rfl
/-- what may be asked for -/
def KdX (K : PySem.W.Frag) (H : Hp) (x : V) : Prop := (∃ z, x = .str z ∧ PyData.strOk z = true) ∨ x = .non ∨ (∃ i, x = .int i) ∨ ∃ p z, x = .ref p ∧ SqT K H p [.str z] ∧ PyData.strOk z = true
theorem KdX.mono {K : PySem.W.Frag} {H H' : Hp} (m : ∀ {a xs}, SqT K H a xs → SqT K H' a xs) {x : V} (h : KdX K H x) : KdX K H' x := by
  rcases h with h | h | h | ⟨p, z, e, h1, h2⟩
  · exact .inl h
  · exact .inr (.inl h)
  · exact .inr (.inr (.inl h))
  · exact .inr (.inr (.inr ⟨p, z, e, m h1, h2⟩))
theorem KdX.dp {K : PySem.W.Frag} {H : Hp} {x : V} (h : KdX K H x) : ∃ e, Dp K H x e ∧ SeqAt.shaped e = true ∧ ∀ z, PyData.eqv (.str z) e = kdB x z := by
  rcases h with ⟨z, rfl, hz⟩ | rfl | ⟨i, rfl⟩ | ⟨p, z, rfl, h1, h2⟩
  · refine ⟨.str z, .str z, ?_, fun y => ?_⟩
    · exact str_sh hz
    · simp only [PyData.eqv, kdB, V.str.injEq]
      by_cases e : y = z
      · subst e; simp
      · have e2 : ¬ z = y := fun q => e q.symm
        simp [e, e2]
  · exact ⟨.none, .non, rfl, fun y => rfl⟩
  · exact ⟨.int i, .int i, rfl, fun y => rfl⟩
  · refine ⟨.tuple [.str z], .tup h1 (.cons (.str z) .nil), ?_, fun y => rfl⟩
    show ((PyData.strOk z && true) && true) = true
    rw [h2]
    rfl
def sp_World_ids (K : PySem.W.Frag) (C : Addr) : Sp := fun vs H Q _ => ∃ w d W x, vs = [.ref w, x] ∧ WAt K C d H w W ∧ W.ths.length ≤ 12 ∧ KdX K H x ∧
  ∀ p H', Same H H' → SqT K H' p (ivs ((W.ths.filter fun t => kdB x t.kd).map Th.id)) → Q (.ref p) H'
def sp_thing_at (K : PySem.W.Frag) (C : Addr) : Sp := fun vs H Q _ => ∃ w d W i, vs = [.ref w, .int i] ∧ WAt K C d H w W ∧ W.ths.length ≤ 12 ∧ (∃ t ∈ W.ths, t.id = i) ∧ ∀ v t H', Same H H' → ThV K H' v t → t ∈ W.ths → t.id = i → Q v H'
def sp_known_thing (K : PySem.W.Frag) (C : Addr) : Sp := sp_thing_at K C
def sp_World_kind_of (K : PySem.W.Frag) (C : Addr) : Sp := fun vs H Q _ => ∃ w d W i, vs = [.ref w, .int i] ∧ WAt K C d H w W ∧ W.ths.length ≤ 12 ∧ (∃ t ∈ W.ths, t.id = i) ∧ ∀ t H', Same H H' → t ∈ W.ths → t.id = i → Q (.str t.kd) H'
def sp_World_numbers (K : PySem.W.Frag) (C : Addr) : Sp := fun vs H Q _ => ∃ w d W i, vs = [.ref w, .int i] ∧ WAt K C d H w W ∧ W.ths.length ≤ 12 ∧ (∃ t ∈ W.ths, t.id = i) ∧ ∀ t n H', Same H H' → t ∈ W.ths → t.id = i → SqT K H' n (ivs t.ns) → Q (.ref n) H'
def inW (x : V) (W : Wd) : Bool := match x with
  | .int i => decide (i ∈ ids W)
  | _ => false
def sp_World_contains (K : PySem.W.Frag) (C : Addr) : Sp := fun vs H Q _ => ∃ w d W x, vs = [.ref w, x] ∧ WAt K C d H w W ∧ Jd K H x ∧ Q (.bl (inW x W)) H
def sp_World_len (K : PySem.W.Frag) (C : Addr) : Sp := fun vs H Q _ => ∃ w d W, vs = [.ref w] ∧ WAt K C d H w W ∧ Q (.int (W.ths.length : Int)) H
def sp_World_iter (K : PySem.W.Frag) (C : Addr) : Sp := fun vs H Q _ => ∃ w l dx a luck nx tick zs, vs = [.ref w] ∧ SlX.Slt H w C dx [some (.ref l), luck, nx, a, tick] ∧ H l = some (.lst zs) ∧ ∀ it, H it = none → Q (.ref it) (upd H it (ItO l it 0))
def wtxt (W : Wd) : Str := "world at " ++ (toString W.tick : Str) ++ " of " ++ (toString (W.ths.length : Int) : Str) ++ " things"
def sp_World_str (K : PySem.W.Frag) (C : Addr) : Sp := fun vs H Q _ => ∃ w d W, vs = [.ref w] ∧ WAt K C d H w W ∧ (0 ≤ W.tick ∧ W.tick ≤ big) ∧ W.ths.length ≤ 12 ∧ Q (.str (wtxt W)) H
def sp_World_eq (K : PySem.W.Frag) (C : Addr) : Sp := fun vs H Q _ => ∃ w d W y, vs = [.ref w, y] ∧ WAt K C d H w W ∧
  ((∃ u U, y = .ref u ∧ WAt K C d H u U ∧ ∀ H', Same H H' → Q (.bl (decide (W = U))) H') ∨ (∃ n, TyX K H y (.type n) ∧ (n = "tuple" ∨ n = "NoneType" ∨ n = "str") ∧ Q (.bl false) H))
def sp_made_world (K : PySem.W.Frag) (C : Addr) : Sp := fun vs H Q _ => ∃ d a tk nx lu ts, vs = [.int tk, .int nx, .int lu, .ref a] ∧ Ths K H a ts ∧ ts.length ≤ 12 ∧ Li d H ∧ ∀ w H', Same H H' → WAt K C d H' w ⟨tk, nx, lu, ts⟩ → Q (.ref w) H'
def sp_with_things (K : PySem.W.Frag) (C : Addr) : Sp := fun vs H Q _ => ∃ w d a W ts, vs = [.ref w, .ref a] ∧ WAt K C d H w W ∧ Ths K H a ts ∧ ts.length ≤ 12 ∧ Li d H ∧ ∀ u H', Same H H' → WAt K C d H' u ⟨W.tick, W.nx, W.luck, ts⟩ → Q (.ref u) H'
/-- the world with a further thing -/
def madeW (W : Wd) (kd : Str) (ns : List Int) : Wd := ⟨W.tick, W.nx + 1, W.luck, W.ths ++ [⟨W.nx, kd, ns⟩]⟩
def sp_made_in (K : PySem.W.Frag) (C : Addr) : Sp := fun vs H Q _ => ∃ w d n W kd ns, vs = [.ref w, .str kd, .ref n] ∧ WAt K C d H w W ∧ W.ths.length ≤ 12 ∧ PyData.strOk kd = true ∧ SqT K H n (ivs ns) ∧ Li d H ∧
  ∀ p H', Same H H' → ((W.ths.length = 12 ∧ SqT K H' p [.ref w, .non]) ∨ (W.ths.length < 12 ∧ ∃ u, SqT K H' p [.ref u, .int W.nx] ∧ WAt K C d H' u (madeW W kd ns))) → Q (.ref p) H'
def dropW (W : Wd) (i : Int) : Wd := ⟨W.tick, W.nx, W.luck, W.ths.filter fun t => t.id != i⟩
def sp_dropped_in (K : PySem.W.Frag) (C : Addr) : Sp := fun vs H Q _ => ∃ w d W i, vs = [.ref w, .int i] ∧ WAt K C d H w W ∧ W.ths.length ≤ 12 ∧ Li d H ∧ ∀ u H', Same H H' → WAt K C d H' u (dropW W i) → Q (.ref u) H'
def putN (ns : List Int) (j : Nat) (k : Int) : List Int := ns.take j ++ k :: ns.drop (j + 1)
def sp_put_in (K : PySem.W.Frag) : Sp := fun vs H Q _ => ∃ n ns j k, vs = [.ref n, .int ((j : Nat) : Int), .int k] ∧ SqT K H n (ivs ns) ∧ j < ns.length ∧ ns.length ≤ 8 ∧ ∀ p H', Same H H' → SqT K H' p (ivs (putN ns j k)) → Q (.ref p) H'
def chgT (i : Int) (j : Nat) (k : Int) (t : Th) : Th := if t.id = i then ⟨t.id, t.kd, putN t.ns j k⟩ else t
def chgW (W : Wd) (i : Int) (j : Nat) (k : Int) : Wd := ⟨W.tick, W.nx, W.luck, W.ths.map (chgT i j k)⟩
def sp_changed_in (K : PySem.W.Frag) (C : Addr) : Sp := fun vs H Q _ => ∃ w d W i j k, vs = [.ref w, .int i, .int ((j : Nat) : Int), .int k] ∧ WAt K C d H w W ∧ W.ths.length ≤ 12 ∧ (∀ t ∈ W.ths, t.id = i → j < t.ns.length) ∧ (∀ t ∈ W.ths, t.ns.length ≤ 8) ∧ Li d H ∧ ∀ u H', Same H H' → WAt K C d H' u (chgW W i j k) → Q (.ref u) H'
def sp_require_any_world (K : PySem.W.Frag) (C : Addr) : Sp := fun vs H Q _ => ∃ w d W, vs = [.ref w] ∧ WAt K C d H w W ∧ Q .non H
def sp_made (K : PySem.W.Frag) (C : Addr) : Sp := fun vs H Q _ => ∃ w d n W kd ns, vs = [.ref w, .str kd, .ref n] ∧ WAt K C d H w W ∧ W.ths.length ≤ 12 ∧ NmOk kd ∧ SqT K H n (ivs ns) ∧ 1 ≤ ns.length ∧ ns.length ≤ 8 ∧ (∀ i ∈ ns, Num i) ∧ Li d H ∧
  ∀ p H', Same H H' → ((W.ths.length = 12 ∧ SqT K H' p [.ref w, .non]) ∨ (W.ths.length < 12 ∧ ∃ u, SqT K H' p [.ref u, .int W.nx] ∧ WAt K C d H' u (madeW W kd ns))) → Q (.ref p) H'
def sp_dropped (K : PySem.W.Frag) (C : Addr) : Sp := fun vs H Q _ => ∃ w d W i, vs = [.ref w, .int i] ∧ WAt K C d H w W ∧ W.ths.length ≤ 12 ∧ (∃ t ∈ W.ths, t.id = i) ∧ Li d H ∧ ∀ u H', Same H H' → WAt K C d H' u (dropW W i) → Q (.ref u) H'
def sp_changed (K : PySem.W.Frag) (C : Addr) : Sp := fun vs H Q _ => ∃ w d W i j k, vs = [.ref w, .int i, .int ((j : Nat) : Int), .int k] ∧ WAt K C d H w W ∧ W.ths.length ≤ 12 ∧ (∃ t ∈ W.ths, t.id = i) ∧ (∀ t ∈ W.ths, t.id = i → j < t.ns.length) ∧ (∀ t ∈ W.ths, t.ns.length ≤ 8) ∧ Num k ∧ Li d H ∧ ∀ u H', Same H H' → WAt K C d H' u (chgW W i j k) → Q (.ref u) H'

/-! ### the law's promises -/
def sp_l_wd_plain (K : PySem.W.Frag) (C : Addr) : Sp := fun vs H Q _ => ∃ w d W, vs = [.ref w] ∧ WAt K C d H w W ∧ ∀ p H', Same H H' → Pl K H' p W → Q (.ref p) H'
def sp_l_number (_ : PySem.W.Frag) : Sp := fun vs H Q _ => ∃ d, vs = [.ref d] ∧ Dice d H ∧ ∀ i H', Num i → Dice d H' → Ext d H H' → Q (.int i) H'
def sp_l_numbers (K : PySem.W.Frag) : Sp := fun vs H Q _ => ∃ d, vs = [.ref d] ∧ Dice d H ∧ ∀ n ns H', 1 ≤ ns.length → ns.length ≤ 8 → (∀ i ∈ ns, Num i) → SqT K H' n (ivs ns) → Dice d H' → Ext d H H' → Q (.ref n) H'
def sp_l_kind_drawn (_ : PySem.W.Frag) : Sp := fun vs H Q _ => ∃ d, vs = [.ref d] ∧ Dice d H ∧ ∀ z H', NmOk z → Dice d H' → Ext d H H' → Q (.str z) H'
/-- the worlds of the law: b bounds the next id -/
structure Wd.fine (W : Wd) (b : Int) : Prop where
  tk : 0 ≤ W.tick ∧ W.tick ≤ 100000000000000000000000000000000000000000000000000000000000
  nx : 0 ≤ W.nx ∧ W.nx ≤ 100000000000000 + b
  lu : 0 ≤ W.luck ∧ W.luck ≤ 999999936
  n : W.ths.length ≤ 12
  ths : ∀ t ∈ W.ths, t.ok
  as : Asc W.ths W.nx
theorem Wd.fine.ok {W : Wd} {b : Int} (f : W.fine b) (h : b ≤ 1000) : W.ok := by
  have h1 := f.tk
  have h2 := f.nx
  refine ⟨?_, ?_, f.lu, f.n, f.ths, f.as⟩ <;> (unfold big; omega)
def sp_l_world_drawn (K : PySem.W.Frag) : Sp := fun vs H Q _ => ∃ d, vs = [.ref d] ∧ Dice d H ∧ ∀ p W H', Wd.fine W 0 → Pl K H' p W → Dice d H' → Ext d H H' → Q (.ref p) H'
def sp_l_is_told (K : PySem.W.Frag) (C : Addr) : Sp := fun vs H Q _ => ∃ w p d W b, vs = [.ref w, .ref p] ∧ WAt K C d H w W ∧ Pl K H p W ∧ W.fine b ∧ b ≤ 1000 ∧ ∀ H', Same H H' → Q (.bl true) H'
def sp_l_made (K : PySem.W.Frag) (C : Addr) : Sp := fun vs H Q _ => ∃ d g w p W b, vs = [.ref d, .ref w, .ref p] ∧ Dice d H ∧ Li1 g H ∧ g ≠ d ∧ WAt K C (d, g) H w W ∧ Pl K H p W ∧ W.fine b ∧ b ≤ 100 ∧
  ∀ q u r W' H', W'.fine (b + 1) → W.nx ≤ W'.nx → SqT K H' q [.ref u, .ref r] → WAt K C (d, g) H' u W' → Pl K H' r W' → Dice d H' → Ext d H H' → Q (.ref q) H'
def sp_l_done (K : PySem.W.Frag) (C : Addr) : Sp := sp_l_made K C
def sp_l_is_alone (K : PySem.W.Frag) (C : Addr) : Sp := fun vs H Q _ => ∃ w p d W b, vs = [.ref w, .ref p] ∧ Li d H ∧ WAt K C d H w W ∧ Pl K H p W ∧ W.fine b ∧ b ≤ 100 ∧ ∀ H', Same H H' → Q (.bl true) H'
def sp_l_right (_ : PySem.W.Frag) : Sp := fun vs H Q _ => ∃ d, vs = [.ref d] ∧ Dice d H ∧ ∀ H', Dice d H' → Ext d H H' → Q (.bl true) H'
def sp_law (K : PySem.W.Frag) : Sp := fun vs H Q _ => ∃ (a : Addr) (ns : List Int), vs = [.ref a] ∧ SqL K H a (ns.map V.int) ∧ ns.length ≤ 63 ∧ ∀ H', Q (.bl true) H'

section
variable {P : Program} {w : World} {K : PySem.W.Frag} {mg : Str → Option Value} {base : Heap}
/-! ### short tactics -/
local macro_rules | `(tactic| walk_at "side") => `(tactic| first
  | with_reducible assumption | (exact ⟨by omega, by omega⟩) | exact True.intro | rfl | exact Nat.le_of_ble_eq_true rfl | with_reducible exact Int.natCast_nonneg _ | decide | omega
  | ((with_reducible show KDct _ _ _ _ _); assumption)
  | ((with_reducible show Jd _ _ _); first | assumption | exact .int _ | exact .str _ | exact .non | exact .bl _)
  | ((with_reducible show SqT _ _ _ _); walk_at "sq") | ((with_reducible show SqL _ _ _ _); walk_at "sq")
  | exact Or.inl rfl | exact Or.inr rfl
  | (intro z; exact absurd (show 1 = 0 from z.1) (by decide)) | (intro z; exact absurd (show 2 = 0 from z.1) (by decide))
  | (exact Or.inl ⟨by omega, by omega⟩) | (exact Or.inr ⟨by omega, by omega⟩)
  | (exact ⟨by omega, by omega, by omega⟩) | (exact ⟨by decide, by decide, by decide⟩)
  | (exact wide_div (b := 250) (by omega) (by omega) (by decide) (by decide))
  | (exact wide_mul (a := 250) (b := 250) (by omega) (by omega) (by decide) (by decide) (by decide))
  | decide +kernel | (dsimp only; decide +kernel)
  | (exact wide_mul (a := 250) (b := 250) (by decide +kernel) (by decide +kernel) (by decide) (by decide) (by decide)))
local macro_rules | `(tactic| walk_at "idx") => `(tactic| first
  | assumption | exact atI_nat (j := 0) rfl | exact atI_nat (j := 1) rfl | exact atI_nat (j := 2) rfl | exact atI_nat (j := 3) rfl | exact atI_nat (j := 4) rfl | exact atI_nat (j := 5) rfl)
local macro_rules | `(tactic| walk_at "sq") => `(tactic| first
  | assumption | exact SqL.of upd_same | exact SqT.of upd_same | exact SqL.of (by assumption) | exact SqT.of (by assumption)
  | exact SqT.of (same_new (by assumption) _ _ upd_same) | exact SqL.of (same_new (by assumption) _ _ upd_same)
  | exact SqT.of (same_new (by assumption) _ _ (by assumption)) | exact SqL.of (same_new (by assumption) _ _ (by assumption))
  | exact SqT.of (same_new (by assumption) _ _ (same_new (by assumption) _ _ upd_same)) | exact SqL.of (same_new (by assumption) _ _ (same_new (by assumption) _ _ upd_same)))
local macro_rules | `(tactic| walk_at "dp") => `(tactic| first
  | exact .non | exact .bl _ | exact .int _ | exact .str _
  | (refine .tup (by walk_at "sq") ?_; walk_at "dps") | (refine .lst (by walk_at "sq") ?_; walk_at "dps"))
local macro_rules | `(tactic| walk_at "dps") => `(tactic| first
  | exact .nil | (refine .cons (by walk_at "dp") ?_; walk_at "dps"))
local macro_rules | `(tactic| walk_at "go") => `(tactic| repeat first
  | (show @ite _ _ _ _ _; with_reducible (first | refine iteT ?_ | refine iteF ?_ | refine iteNT ?_ | refine iteNF ?_))
  | ((fail_if_success (show @ite _ _ _ _ _)); first
    | refine And.intro (by walk_at "side") ?_
    | refine ⟨_, rfl, ?_⟩
    | refine ⟨_, _, rfl, rfl, ?_⟩
    | refine ⟨_, _, rfl, .inl (by walk_at "sq"), ?_⟩
    | refine ⟨_, _, rfl, .inr (by walk_at "sq"), ?_⟩
    | refine ⟨_, _, rfl, ?_⟩
    | refine ⟨_, _, _, rfl, ?_⟩
    | refine ⟨_, _, _, _, rfl, ?_⟩
    | refine ⟨_, _, _, _, _, rfl, ?_⟩
    | refine ⟨_, _, _, _, rfl, rfl, (by walk_at "sq"), (by walk_at "idx"), ?_⟩
    | refine ⟨_, _, _, _, _, rfl, .ty _, (by assumption), kit_ty (by assumption), ?_⟩
    | refine And.intro ⟨_, by walk_at "sq"⟩ ?_
    | refine .inl ⟨_, rfl, ?_⟩
    | refine .inr ⟨_, rfl, ?_⟩
    | (apply Exists.intro; (repeat apply Exists.intro); refine And.intro rfl ?_)))
local macro_rules | `(tactic| walk_at "unp2") => `(tactic| refine ⟨_, _, rfl, (by walk_at "sq"), rfl, _, _, rfl, _, _, rfl, rfl, ?_⟩)
local macro_rules | `(tactic| walk_at "unp3") => `(tactic| refine ⟨_, _, rfl, (by walk_at "sq"), rfl, _, _, rfl, _, _, rfl, _, _, rfl, rfl, ?_⟩)
local macro_rules | `(tactic| walk_at "pick") => `(tactic| refine ⟨_, _, _, rfl, SqL.of upd_same, Dice.ne (by assumption) (by assumption), Nat.zero_lt_succ _, Nat.le_of_ble_eq_true rfl, Dice.new (by assumption) (by assumption), ?_⟩)
local macro_rules | `(tactic| walk_at "tt") => `(tactic| first
  | refine iteY rfl ?_ | refine iteN (fun z => Bool.noConfusion (show false = true from z)) ?_)

theorem ok_is_whole (T : Tp K mg) : FnOk P w K mg base CX0 1 T.a_is_whole T.d_is_whole ["value"] (sp_is_whole K) := by
  refine T.F_is_whole.ok sc_is_whole ?len (fun cdv A outer s H vs Q E hr h => ?_)
  case len =>
    intro vs H Q E h
    obtain ⟨x, rfl, _⟩ := h
    rfl
  obtain ⟨x, rfl, j, q⟩ := h
  obtain ⟨n, t, hi, hb, hs⟩ := j.ty
  refine ⟨_, (pss_one (ps_ret (pe_and (pe_callB call_isi (by rfl) T.m_isinstance (by decide +kernel) (pa_cons (pv 0) (pa_cons (pe_bltn (v := .ty "int") (by rfl) T.m_int (by decide +kernel) rfl) pa_nil))) (pe_one (pe_not (pe_callB call_isi (by rfl) T.m_isinstance (by decide +kernel) (pa_cons (pv 0) (pa_cons (pe_bltn (v := .ty "bool") (by rfl) T.m_bool (by decide +kernel) rfl) pa_nil)))))))), ?_⟩
  walk_at "go"
  cases x <;> first
    | (refine iteF ?_; exact q)
    | (refine iteT ?_; walk_at "go"; exact q)
theorem ok_is_from (T : Tp K mg) : FnOk P w K mg base CX0 2 T.a_is_from T.d_is_from ["value", "least", "most"] (sp_is_from K) := by
  refine T.F_is_from.ok sc_is_from ?len (fun cdv A outer s H vs Q E hr h => ?_)
  case len =>
    intro vs H Q E h
    obtain ⟨x, a, b, rfl, _⟩ := h
    rfl
  obtain ⟨x, a, b, rfl, j, q⟩ := h
  refine ⟨_, (pss_one (ps_ret (pe_and (pe_call (ok_is_whole T) (hr.mono (by decide)) (by rfl) T.g_is_whole T.F_is_whole.kp T.b_is_whole .nil pass0 (pa_cons (pv 0) pa_nil)) (pe_one (pe_chain op_le op_le (pv 1) (pv 0) (pv 2)))))), ?_⟩
  walk_at "go"
  cases x with
  | int i =>
    walk_at "go"
    refine ite2 (fun e => ?_) (fun e => ?_)
    · walk_at "go"
      exact and_t (F := fun c => Q (.bl c) H) q e
    · exact and_f (F := fun c => Q (.bl c) H) q e
  | _ => refine iteF ?_; exact q

theorem ok_is_short (T : Tp K mg) : FnOk P w K mg base CX0 2 T.a_is_short T.d_is_short ["value"] (sp_is_short K) := by
  refine T.F_is_short.ok sc_is_short ?len (fun cdv A outer s H vs Q E hr h => ?_)
  case len =>
    intro vs H Q E h
    obtain ⟨x, rfl, _⟩ := h
    rfl
  obtain ⟨x, rfl, j, q⟩ := h
  refine ⟨_, (pss_one (ps_ret (pe_and (pe_call (ok_is_whole T) (hr.mono (by decide)) (by rfl) T.g_is_whole T.F_is_whole.kp T.b_is_whole .nil pass0 (pa_cons (pv 0) pa_nil)) (pe_one (pe_chain op_lt op_lt (pe_un un_neg (pe_glob (by rfl) T.c_GREATEST T.r_GREATEST)) (pv 0) (pe_glob (by rfl) T.c_GREATEST T.r_GREATEST)))))), ?_⟩
  walk_at "go"
  cases x with
  | int i =>
    walk_at "go"
    refine ite2 (fun e => ?_) (fun e => ?_)
    · walk_at "go"
      exact and_t (F := fun c => Q (.bl c) H) q e
    · exact and_f (F := fun c => Q (.bl c) H) q e
  | _ => refine iteF ?_; exact q
theorem ok_is_tick (T : Tp K mg) : FnOk P w K mg base CX0 3 T.a_is_tick T.d_is_tick ["value"] (sp_is_tick K) := by
  refine T.F_is_tick.ok sc_is_tick ?len (fun cdv A outer s H vs Q E hr h => ?_)
  case len => intro vs H Q E h; obtain ⟨i, rfl, _⟩ := h; rfl
  obtain ⟨i, rfl, hi, q⟩ := h
  have e1 : shortB (.int i) = true := by
    have := hi.1
    have := hi.2
    simp only [shortB, Bool.and_eq_true, decide_eq_true_eq]
    unfold big at *
    omega
  refine ⟨_, (pss_one (ps_ret (pe_and (pe_call (ok_is_short T) (hr.mono (by decide)) (by rfl) T.g_is_short T.F_is_short.kp T.b_is_short .nil pass0 (pa_cons (pv 0) pa_nil)) (pe_one (pe_cmpR op_ge (pv 0) pe_int (nomark _)))))), ?_⟩
  walk_at "go"
  rw [e1]
  refine iteT ?_
  walk_at "go"
  show Q (.bl (decide (0 ≤ i))) H
  rw [decide_eq_true hi.1]
  exact q
theorem ok_is_luck_in (T : Tp K mg) : FnOk P w K mg base CX0 3 T.a_is_luck_in T.d_is_luck_in ["value"] (sp_is_luck_in K) := by
  refine T.F_is_luck_in.ok sc_is_luck_in ?len (fun cdv A outer s H vs Q E hr h => ?_)
  case len => intro vs H Q E h; obtain ⟨i, rfl, _⟩ := h; rfl
  obtain ⟨i, rfl, hi, q⟩ := h
  have e1 : fromB (.int i) 0 (999999937 - 1) = true := by
    have := hi.1
    have := hi.2
    simp only [fromB, Bool.and_eq_true, decide_eq_true_eq]
    omega
  refine ⟨_, (pss_one (ps_ret (pe_call (ok_is_from T) (hr.mono (by decide)) (by rfl) T.g_is_from T.F_is_from.kp T.b_is_from .nil pass0 (pa_cons (pv 0) (pa_cons pe_int (pa_cons (pe_op op_sub (pe_glob (by rfl) T.c_MODULUS T.r_MODULUS) pe_int) pa_nil)))))), ?_⟩
  walk_at "go"
  rw [e1]
  exact q
theorem ok_is_luck (T : Tp K mg) : FnOk P w K mg base CX0 4 T.a_is_luck T.d_is_luck ["value"] (sp_is_luck K) := by
  refine T.F_is_luck.ok sc_is_luck ?len (fun cdv A outer s H vs Q E hr h => ?_)
  case len => intro vs H Q E h; obtain ⟨i, rfl, _⟩ := h; rfl
  obtain ⟨i, rfl, hi, q⟩ := h
  refine ⟨_, (pss_one (ps_ret (pe_call (ok_is_luck_in T) (hr.mono (by decide)) (by rfl) T.g_is_luck_in T.F_is_luck_in.kp T.b_is_luck_in .nil pass0 (pa_cons (pv 0) pa_nil)))), ?_⟩
  walk_at "go"
  exact q
theorem ok_is_number (T : Tp K mg) : FnOk P w K mg base CX0 3 T.a_is_number T.d_is_number ["value"] (sp_is_number K) := by
  refine T.F_is_number.ok sc_is_number ?len (fun cdv A outer s H vs Q E hr h => ?_)
  case len => intro vs H Q E h; obtain ⟨i, rfl, _⟩ := h; rfl
  obtain ⟨i, rfl, hi, q⟩ := h
  have e1 : fromB (.int i) (-1000000000) 1000000000 = true := by
    have := hi.1
    have := hi.2
    simp only [fromB, Bool.and_eq_true, decide_eq_true_eq]
    omega
  refine ⟨_, (pss_one (ps_ret (pe_call (ok_is_from T) (hr.mono (by decide)) (by rfl) T.g_is_from T.F_is_from.kp T.b_is_from .nil pass0 (pa_cons (pv 0) (pa_cons (pe_un un_neg (pe_glob (by rfl) T.c_MOST T.r_MOST)) (pa_cons (pe_glob (by rfl) T.c_MOST T.r_MOST) pa_nil)))))), ?_⟩
  walk_at "go"
  rw [e1]
  exact q
theorem ivs_get {ns : List Int} {i : Nat} {x : V} (h : (ivs ns)[i]? = some x) : ∃ k, ns[i]? = some k ∧ x = .int k ∧ k ∈ ns := by
  unfold ivs at h
  rw [List.getElem?_map] at h
  cases e : ns[i]? with
  | none => rw [e] at h; cases h
  | some k =>
    rw [e] at h
    cases h
    exact ⟨k, rfl, rfl, List.mem_of_getElem? e⟩
theorem nd_f {p : Prop} [Decidable p] (h : p) : ¬ (!decide p) = true := by
  rw [decide_eq_true h]
  exact Bool.false_ne_true
theorem d_f {p : Prop} [Decidable p] (h : ¬ p) : ¬ decide p = true := fun z => h (of_decide_eq_true z)
theorem d_t {p : Prop} [Decidable p] (h : p) : decide p = true := decide_eq_true h
theorem nd_t {p : Prop} [Decidable p] (h : ¬ p) : (!decide p) = true := by
  rw [decide_eq_false h]
  rfl
theorem cut_from (xs : List V) (k : Nat) : cutV xs (some (k : Int)) none = xs.drop k := by
  unfold cutV
  rw [HT.sIx_nat, HT.sIx_none]
  by_cases h : k ≤ xs.length
  · rw [Nat.min_eq_left h, List.take_of_length_le (by rw [List.length_drop]; omega)]
  · rw [Nat.min_eq_right (by omega), List.drop_of_length_le (Nat.le_refl _), List.drop_of_length_le (by omega), List.take_nil]
theorem cut_to (xs : List V) (k : Nat) : cutV xs none (some (k : Int)) = xs.take k := by
  unfold cutV
  rw [HT.sIx_nat, HT.sIx_none, List.drop_zero, Nat.sub_zero]
  by_cases h : k ≤ xs.length
  · rw [Nat.min_eq_left h]
  · rw [Nat.min_eq_right (by omega), List.take_of_length_le (Nat.le_refl _), List.take_of_length_le (by omega)]
theorem asc_next {ts : List Th} {nx k1 k2 : Int} {i : Nat} (h : Asc ts nx) (h1 : (ts.map Th.id ++ [nx])[i]? = some k1) (h2 : (ts.map Th.id ++ [nx])[i + 1]? = some k2) : k1 < k2 := by
  have hp : (ts.map Th.id ++ [nx]).Pairwise (· < ·) := by
    rw [List.pairwise_append]
    refine ⟨h.1, List.pairwise_singleton .., fun a ha b hb => ?_⟩
    obtain ⟨t, ht, rfl⟩ := List.mem_map.mp ha
    rw [List.mem_singleton.mp hb]
    exact h.2 t ht
  obtain ⟨a1, a2⟩ := List.getElem?_eq_some_iff.mp h1
  obtain ⟨b1, b2⟩ := List.getElem?_eq_some_iff.mp h2
  rw [← a2, ← b2]
  exact List.pairwise_iff_getElem.mp hp i (i + 1) a1 b1 (Nat.lt_succ_self i)
theorem all_rep (n : Nat) : (List.replicate n true).all id = true := by
  rw [List.all_eq_true]
  intro x hx
  rw [(List.mem_replicate.mp hx).2]
  rfl
theorem map_rep (n : Nat) : (List.replicate n true).map V.bl = List.replicate n (V.bl true) := List.map_replicate
theorem rep_snoc (n : Nat) : List.replicate n (V.bl true) ++ [V.bl true] = List.replicate (n + 1) (V.bl true) := (List.replicate_succ' ..).symm
theorem ok_is_name_in (T : Tp K mg) : FnOk P w K mg base CX0 1 T.a_is_name_in T.d_is_name_in ["value"] (sp_is_name_in K) := by
  refine T.F_is_name_in.ok sc_is_name_in ?len (fun cdv A outer s H vs Q E hr h => ?_)
  case len => intro vs H Q E h; obtain ⟨z, rfl, _⟩ := h; rfl
  obtain ⟨z, rfl, hz, q⟩ := h
  have ty : TyX K H (.str z) (.type "str") := .base (.str z)
  have hk : kitB "str" "str" = some true := by decide +kernel
  obtain ⟨z1, z8, zs⟩ := hz
  have hl : z.length ≤ sizeLine := Nat.le_trans z8 (by decide)
  refine ⟨_, (pss_one (ps_ret (pe_and (pe_callB call_isi (by rfl) T.m_isinstance (by decide +kernel) (pa_cons (pv 0) (pa_cons (pe_bltn (v := .ty "str") (by rfl) T.m_str (by decide +kernel) rfl) pa_nil))) (pe_and (pe_chain op_le op_le pe_int (pe_callB call_len_str (by rfl) T.m_len (by decide +kernel) (pa_cons (pv 0) pa_nil)) (pe_glob (by rfl) T.c_MOST_NAME T.r_MOST_NAME)) (pe_one (pe_callB (cr_all rfl) (by rfl) T.m_all (by decide +kernel) (pa_cons (pe_lc (own := [("sign", 1)]) (g := gName 1) (tt := tYes) (by rfl) sc_is_name_in.nd (pi_str (pv 0)) (blkOk_by (own := [("sign", 1)]) (N := N_is_name_in) (sc := defScope s_is_name_in) (by decide +kernel)) (fun _ _ _ _ _ => pg_name (i := 1) sc_is_name_in.nd rfl (Or.inl rfl)) (fun _ _ _ _ _ => pts_nil) (fun _ _ _ _ _ => (pe_cmpR op_in_sign (pv 1) (pe_glob (by rfl) T.c_LETTERS T.r_LETTERS) (by rfl)))) pa_nil))))))), ?_⟩
  walk_at "go"
  refine iteY (decide_eq_true (show (1 : Int) ≤ (z.length : Int) by omega)) ?_
  walk_at "go"
  rw [decide_eq_true (show (z.length : Int) ≤ 8 by omega)]
  walk_at "go"
  refine fun D nD => lc_it walk_str (fun i H' => H' D = some (.lst (List.replicate i (V.bl true))) ∧ Ext D H H') ⟨upd_same, Ext.new nD⟩ (fun _ _ _ _ => True.intro) (fun i x H1 H2 hi hW hy => ?_) (fun H1 hW => ?_)
  · obtain ⟨rfl, c, hc, rfl⟩ := hy
    obtain ⟨hD, X⟩ := hW
    have hm : c ∈ letters.cps.toList := zs c (by
      obtain ⟨h1, h2⟩ := Array.getElem?_eq_some_iff.mp hc
      rw [← h2, Array.mem_toList_iff]
      exact Array.getElem_mem h1)
    walk_at "go"
    refine ⟨_, hD, ?_, ?_, Ext.trans X Ext.put⟩
    · rw [List.length_replicate]
      exact small1000 (by
        have : z.cps.size ≤ 8 := z8
        omega)
    · rw [upd_same, ← rep_snoc]
      refine congrArg (fun b => some (HO.lst (List.replicate i (V.bl true) ++ [V.bl b]))) ?_
      exact decide_eq_true hm
  · obtain ⟨hD, X⟩ := hW
    refine ⟨D, List.replicate z.cps.size true, rfl, .of (by rw [map_rep]; exact hD), ?_⟩
    rw [all_rep]
    exact q _ (X.same nD)
theorem ok_are_numbers_in (T : Tp K mg) : FnOk P w K mg base CX0 4 T.a_are_numbers_in T.d_are_numbers_in ["value"] (sp_are_numbers_in K) := by
  refine T.F_are_numbers_in.ok sc_are_numbers_in ?len (fun cdv A outer s H vs Q E hr h => ?_)
  case len => intro vs H Q E h; obtain ⟨n, ns, rfl, _⟩ := h; rfl
  obtain ⟨n, ns, rfl, hn, h1, h8, hns, q⟩ := h
  have ty := tyx_sqt hn
  have hk : kitB "tuple" "tuple" = some true := by decide +kernel
  have hl : (ivs ns).length = ns.length := List.length_map ..
  refine ⟨_, (pss_one (ps_ret (pe_and (pe_callB call_isi (by rfl) T.m_isinstance (by decide +kernel) (pa_cons (pv 0) (pa_cons (pe_bltn (v := .ty "tuple") (by rfl) T.m_tuple (by decide +kernel) rfl) pa_nil))) (pe_and (pe_chain op_le op_le pe_int (pe_callB call_len_seq (by rfl) T.m_len (by decide +kernel) (pa_cons (pv 0) pa_nil)) (pe_glob (by rfl) T.c_MOST_NUMBERS T.r_MOST_NUMBERS)) (pe_one (pe_callB (cr_all rfl) (by rfl) T.m_all (by decide +kernel) (pa_cons (pe_lc (own := [("one", 1)]) (g := gName 1) (tt := tYes) (by rfl) sc_are_numbers_in.nd (pi_tup (pv 0)) (blkOk_by (own := [("one", 1)]) (N := N_are_numbers_in) (sc := defScope s_are_numbers_in) (by decide +kernel)) (fun _ _ _ _ _ => pg_name (i := 1) sc_are_numbers_in.nd rfl (Or.inl rfl)) (fun _ _ _ _ _ => pts_nil) (fun _ _ _ _ _ => (pe_call (ok_is_number T) (hr.mono (by decide)) (by rfl) T.g_is_number T.F_is_number.kp T.b_is_number .nil pass0 (pa_cons (pv 1) pa_nil)))) pa_nil))))))), ?_⟩
  walk_at "go"
  refine iteY (decide_eq_true (show (1 : Int) ≤ ((ivs ns).length : Int) by omega)) ?_
  walk_at "go"
  rw [decide_eq_true (show ((ivs ns).length : Int) ≤ 8 by omega)]
  walk_at "go"
  refine fun D nD => lc_it walk_tup (fun i H' => H' D = some (.lst (List.replicate i (V.bl true))) ∧ Ext D H H') ⟨upd_same, Ext.new nD⟩ (fun _ _ _ hW => same_sqt (hW.2.same nD) hn) (fun i x H1 H2 hi hW hy => ?_) (fun H1 hW => ?_)
  · obtain ⟨rfl, hx⟩ := hy
    obtain ⟨hD, X⟩ := hW
    obtain ⟨k, hk, rfl, hkm⟩ := ivs_get hx
    have hnum := hns k hkm
    walk_at "go"
    refine ⟨_, hD, ?_, ?_, Ext.trans X Ext.put⟩
    · rw [List.length_replicate]
      exact small1000 (by omega)
    · rw [upd_same, ← rep_snoc]
  · obtain ⟨hD, X⟩ := hW
    refine ⟨D, List.replicate (ivs ns).length true, rfl, .of (by rw [map_rep]; exact hD), ?_⟩
    rw [all_rep]
    exact q _ (X.same nD)
theorem ok_is_thing_in (T : Tp K mg) : FnOk P w K mg base CX0 5 T.a_is_thing_in T.d_is_thing_in ["value"] (sp_is_thing_in K) := by
  refine T.F_is_thing_in.ok sc_is_thing_in ?len (fun cdv A outer s H vs Q E hr h => ?_)
  case len => intro vs H Q E h; obtain ⟨v, t, rfl, _⟩ := h; rfl
  obtain ⟨v, t, rfl, ⟨p, n, rfl, hp, hn, hkd⟩, ht, q⟩ := h
  have ty := tyx_sqt hp
  have hk : kitB "tuple" "tuple" = some true := by decide +kernel
  obtain ⟨t0, tk, t1, t8, tn⟩ := ht
  refine ⟨_, (pss_cons (ps_if (PW.pt (pw_or (pt_not (pt_val (pe_callB call_isi (by rfl) T.m_isinstance (by decide +kernel) (pa_cons (pv 0) (pa_cons (pe_bltn (v := .ty "tuple") (by rfl) T.m_tuple (by decide +kernel) rfl) pa_nil))))) (pw_or (pt_cmpR op_ne (pe_callB call_len_seq (by rfl) T.m_len (by decide +kernel) (pa_cons (pv 0) pa_nil)) (pe_glob (by rfl) T.c_THING_PARTS T.r_THING_PARTS) (nomark _)) (pw_or (pt_not (pt_val (pe_call (ok_is_whole T) (hr.mono (by decide)) (by rfl) T.g_is_whole T.F_is_whole.kp T.b_is_whole .nil pass0 (pa_cons (pe_ix ix_tup (pv 0) pe_int (fun _ _ => rfl)) pa_nil)))) (pw_or1 (pt_cmpR op_lt (pe_ix ix_tup (pv 0) pe_int (fun _ _ => rfl)) pe_int (nomark _))))))) (pss_one (ps_ret pe_bl)) pss_nil)
    (pss_one (ps_ret (pe_and (pe_call (ok_is_name_in T) (hr.mono (by decide)) (by rfl) T.g_is_name_in T.F_is_name_in.kp T.b_is_name_in .nil pass0 (pa_cons (pe_ix ix_tup (pv 0) pe_int (fun _ _ => rfl)) pa_nil)) (pe_one (pe_call (ok_are_numbers_in T) (hr.mono (by decide)) (by rfl) T.g_are_numbers_in T.F_are_numbers_in.kp T.b_are_numbers_in .nil pass0 (pa_cons (pe_ix ix_tup (pv 0) pe_int (fun _ _ => rfl)) pa_nil))))))), ?_⟩
  walk_at "go"
  refine iteN (nd_f rfl) ?_
  walk_at "go"
  refine iteN (d_f (by omega)) ?_
  walk_at "go"
  refine fun H1 S1 => ?_
  have hp1 := same_sqt S1 hp
  have hn1 := same_sqt S1 hn
  walk_at "go"
  refine fun H2 S2 => ?_
  exact q _ (S1.trans S2)
theorem ok_are_things_in (T : Tp K mg) : FnOk P w K mg base CX0 6 T.a_are_things_in T.d_are_things_in ["next_id", "value"] (sp_are_things_in K) := by
  refine T.F_are_things_in.ok sc_are_things_in ?len (fun cdv A outer s H vs Q E hr h => ?_)
  case len => intro vs H Q E h; obtain ⟨nx, a, ts, rfl, _⟩ := h; rfl
  obtain ⟨nx, a, ts, rfl, ⟨xs, ha, hxs⟩, n12, hok, has, q⟩ := h
  have ty := tyx_sqt ha
  have hk : kitB "tuple" "tuple" = some true := by decide +kernel
  have hl := Paired.length hxs
  refine ⟨_, (pss_cons (ps_if (PW.pt (pw_or (pt_not (pt_val (pe_callB call_isi (by rfl) T.m_isinstance (by decide +kernel) (pa_cons (pv 1) (pa_cons (pe_bltn (v := .ty "tuple") (by rfl) T.m_tuple (by decide +kernel) rfl) pa_nil))))) (pw_or (pt_cmpR op_gt (pe_callB call_len_seq (by rfl) T.m_len (by decide +kernel) (pa_cons (pv 1) pa_nil)) (pe_glob (by rfl) T.c_MAX_THINGS T.r_MAX_THINGS) (nomark _)) (pw_or1 (pt_not (pt_val (pe_callB (cr_all rfl) (by rfl) T.m_all (by decide +kernel) (pa_cons (pe_lc (own := [("one", 3)]) (g := gName 3) (tt := tYes) (by rfl) sc_are_things_in.nd (pi_tup (pv 1)) (blkOk_by (own := [("one", 3)]) (N := N_are_things_in) (sc := defScope s_are_things_in) (by decide +kernel)) (fun _ _ _ _ _ => pg_name (i := 3) sc_are_things_in.nd rfl (Or.inl rfl)) (fun _ _ _ _ _ => pts_nil) (fun _ _ _ _ _ => (pe_call (ok_is_thing_in T) (hr.mono (by decide)) (by rfl) T.g_is_thing_in T.F_is_thing_in.kp T.b_is_thing_in .nil pass0 (pa_cons (pv 3) pa_nil)))) pa_nil)))))))) (pss_one (ps_ret pe_bl)) pss_nil)
    (pss_cons (ps_set (i := 2) sc_are_things_in.nd rfl (Or.inl rfl) (pe_op op_cat (pe_lc (own := [("one", 3)]) (g := gName 3) (tt := tYes) (by rfl) sc_are_things_in.nd (pi_tup (pv 1)) (blkOk_by (own := [("one", 3)]) (N := N_are_things_in) (sc := defScope s_are_things_in) (by decide +kernel)) (fun _ _ _ _ _ => pg_name (i := 3) sc_are_things_in.nd rfl (Or.inl rfl)) (fun _ _ _ _ _ => pts_nil) (fun _ _ _ _ _ => (pe_ix (r := rIxT K) ix_tup (pv 3) pe_int (fun _ _ => rfl)))) (pe_lst (pa_cons (pv 0) pa_nil))))
    (pss_one (ps_ret (pe_callB (cr_all rfl) (by rfl) T.m_all (by decide +kernel) (pa_cons (pe_lc (own := [("one", 3), ("other", 4)]) (g := gTup K 2 (gCons (gName 3) (gCons (gName 4) gNil))) (tt := tYes) (by rfl) sc_are_things_in.nd (pi_zip (by rfl) T.m_zip (pa_cons (pv 2) (pa_cons (pe_slice sl_list (pv 2) (po_some pe_int) po_none) pa_nil))) (blkOk_by (own := [("one", 3), ("other", 4)]) (N := N_are_things_in) (sc := defScope s_are_things_in) (by decide +kernel)) (fun _ _ _ _ _ => pg_tup (by rfl) (pgs_cons (pg_name (i := 3) sc_are_things_in.nd rfl (Or.inl rfl)) (pgs_cons (pg_name (i := 4) sc_are_things_in.nd rfl (Or.inl rfl)) pgs_nil))) (fun _ _ _ _ _ => pts_nil) (fun _ _ _ _ _ => (pe_cmpR op_lt (pv 3) (pv 4) (nomark _)))) pa_nil)))))), ?_⟩
  walk_at "go"
  refine iteN (d_f (by omega)) ?_
  walk_at "go"
  refine fun D nD => lc_it walk_tup (fun i H' => H' D = some (.lst (List.replicate i (V.bl true))) ∧ Ext D H H') ⟨upd_same, Ext.new nD⟩ (fun _ _ _ hW => same_sqt (hW.2.same nD) ha) (fun i x H1 H2 hi hW hy => ?_) (fun H1 hW => ?_)
  · obtain ⟨rfl, hx⟩ := hy
    obtain ⟨hD, X⟩ := hW
    obtain ⟨t, ht, hxt⟩ := paired_get hxs hx
    have htok := hok t (List.mem_of_getElem? ht)
    have hxt1 := hxt.same (X.same nD)
    walk_at "go"
    refine fun H3 S3 => ?_
    refine ⟨_, S3 _ _ hD, ?_, ?_, (X.trans (.of S3)).trans Ext.put⟩
    · rw [List.length_replicate]
      exact small1000 (by omega)
    · rw [upd_same, ← rep_snoc]
  obtain ⟨hD, X⟩ := hW
  have S1 := X.same nD
  have ha1 := same_sqt S1 ha
  have hxs1 := L2.Paired.mapP hxs fun _ _ h => ThV.same h S1
  clear X
  refine ⟨D, List.replicate xs.length true, rfl, .of (by rw [map_rep]; exact hD), ?_⟩
  rw [all_rep]
  walk_at "go"
  refine fun D2 nD2 => lc_it walk_tup (fun i H' => H' D2 = some (.lst (ivs ((ts.map Th.id).take i))) ∧ Ext D2 H1 H') ⟨upd_same, Ext.new nD2⟩ (fun _ _ _ hW => same_sqt (hW.2.same nD2) ha1) (fun i x H1 H2 hi hW hy => ?_) (fun H2 hW => ?_)
  · obtain ⟨rfl, hx⟩ := hy
    obtain ⟨hD, X⟩ := hW
    obtain ⟨t, ht, hxt⟩ := paired_get hxs1 hx
    obtain ⟨p, n, rfl, hp, hn, hkd⟩ := hxt.same (X.same nD2)
    walk_at "go"
    refine ⟨_, hD, ?_, ?_, X.trans Ext.put⟩
    · unfold ivs
      rw [List.length_map, List.length_take, List.length_map]
      exact small1000 (by omega)
    · rw [upd_same, List.take_add_one, List.getElem?_map, ht]
      unfold ivs
      rw [List.map_append]
      rfl
  obtain ⟨hD2, X2⟩ := hW
  have S2 := X2.same nD2
  rw [hl, ← List.length_map (f := Th.id), List.take_length] at hD2
  clear X2
  walk_at "go"
  refine fun p np => ?_
  generalize hH : upd H2 p _ = H3
  have S3 : Same H2 H3 := by rw [← hH]; exact same_new np
  have hp : H3 p = some (.lst [V.int nx]) := by rw [← hH]; exact upd_same
  clear hH
  have hD3 := S3 _ _ hD2
  have hln : (ivs (ts.map Th.id)).length = ts.length := by unfold ivs; rw [List.length_map, List.length_map]
  refine ⟨_, _, _, _, rfl, rfl, hD3, hp, ?_, fun p2 np2 => ?_⟩
  · rw [hln]
    exact Nat.le_of_lt (small1000 (by show ts.length + 1 ≤ 1000; omega))
  generalize hH : upd H3 p2 _ = H4
  have S4 : Same H3 H4 := by rw [← hH]; exact same_new np2
  have hi4 : SqL K H4 p2 (ivs (ts.map Th.id ++ [nx])) := by rw [← hH]; refine .of ?_; rw [upd_same]; unfold ivs; rw [List.map_append]; rfl
  clear hH
  walk_at "go"
  refine fun p3 np3 => ?_
  generalize hH : upd H4 p3 _ = H5
  have S5 : Same H4 H5 := by rw [← hH]; exact same_new np3
  have hc5 : SqL K H5 p3 ((ivs (ts.map Th.id ++ [nx])).drop 1) := by rw [← hH]; refine .of ?_; rw [upd_same, ← cut_from]; rfl
  clear hH
  have hi5 := S5.seq hi4
  have hlz : (ivs (ts.map Th.id ++ [nx])).length = ts.length + 1 := by unfold ivs; rw [List.length_map, List.length_append, List.length_map]; rfl
  refine ⟨_, _, _, _, rfl, hi5, hc5, ?_⟩
  refine fun D3 nD3 => lc_it (walk_zip (n := ts.length) (by rw [List.length_drop, hlz]; omega)) (fun i H' => H' D3 = some (.lst (List.replicate i (V.bl true))) ∧ Ext D3 H5 H') ⟨upd_same, Ext.new nD3⟩ (fun _ _ _ hW => ⟨(hW.2.same nD3).seq hi5, (hW.2.same nD3).seq hc5⟩) (fun i x H6 H7 hi hW hy => ?_) (fun H6 hW => ?_)
  · obtain ⟨hD, X⟩ := hW
    obtain ⟨tt, x1, x2, rfl, ntt, rfl, hx1, hx2⟩ := hy
    dsimp only at hx1 hx2
    rw [List.getElem?_drop] at hx2
    obtain ⟨k1, hk1, rfl, _⟩ := ivs_get hx1
    obtain ⟨k2, hk2, rfl, _⟩ := ivs_get hx2
    have hlt : k1 < k2 := asc_next has hk1 (by rw [Nat.add_comm]; exact hk2)
    have htt : SqT K (upd H6 tt (.tup [V.int k1, V.int k2])) tt [V.int k1, V.int k2] := .of upd_same
    walk_at "unp2"
    walk_at "go"
    have hD7 : upd H6 tt (.tup [V.int k1, V.int k2]) D3 = some (.lst (List.replicate i (V.bl true))) := by rw [upd_ne (ne_of_none hD ntt)]; exact hD
    refine ⟨_, hD7, ?_, ?_, (X.trans (Ext.new ntt)).trans Ext.put⟩
    · rw [List.length_replicate]
      exact small1000 (by omega)
    · rw [upd_same, ← rep_snoc]
      refine congrArg (fun b => some (HO.lst (List.replicate i (V.bl true) ++ [V.bl b]))) ?_
      exact decide_eq_true hlt
  · obtain ⟨hD, X⟩ := hW
    refine ⟨D3, List.replicate ts.length true, rfl, .of (by rw [map_rep]; exact hD), ?_⟩
    rw [all_rep]
    exact q _ (S1.trans (S2.trans (S3.trans (S4.trans (S5.trans (X.same nD3))))))

end
section
variable {P : Program} {w : World} {K : PySem.W.Frag} {mg : Str → Option Value} {base : Heap}
/-! ### short tactics -/
local macro_rules | `(tactic| walk_at "side") => `(tactic| first
  | with_reducible assumption | (exact ⟨by omega, by omega⟩) | exact True.intro | rfl | exact Nat.le_of_ble_eq_true rfl | with_reducible exact Int.natCast_nonneg _ | decide | omega
  | ((with_reducible show KDct _ _ _ _ _); assumption)
  | ((with_reducible show SlX.SCls _ _); assumption)
  | ((with_reducible show SlX.Slot1 _ _ _ _ _); assumption)
  | ((with_reducible show ClsV _ _); first | exact .own _ | exact .ty _)
  | ((with_reducible show TyA _ _ _ _); assumption)
  | ((with_reducible show Eq (PySem.W.kitOne _ _ _) _); assumption)
  | ((with_reducible show Jd _ _ _); first | assumption | exact .int _ | exact .str _ | exact .non | exact .bl _)
  | ((with_reducible show SqT _ _ _ _); walk_at "sq") | ((with_reducible show SqL _ _ _ _); walk_at "sq")
  | exact Or.inl rfl | exact Or.inr rfl
  | (intro z; exact absurd (show 1 = 0 from z.1) (by decide)) | (intro z; exact absurd (show 2 = 0 from z.1) (by decide))
  | (exact Or.inl ⟨by omega, by omega⟩) | (exact Or.inr ⟨by omega, by omega⟩)
  | (exact ⟨by omega, by omega, by omega⟩) | (exact ⟨by decide, by decide, by decide⟩)
  | (exact wide_div (b := 250) (by omega) (by omega) (by decide) (by decide))
  | (exact wide_mul (a := 250) (b := 250) (by omega) (by omega) (by decide) (by decide) (by decide))
  | decide +kernel | (dsimp only; decide +kernel)
  | (exact wide_mul (a := 250) (b := 250) (by decide +kernel) (by decide +kernel) (by decide) (by decide) (by decide)))
local macro_rules | `(tactic| walk_at "idx") => `(tactic| first
  | assumption | exact atI_nat (j := 0) rfl | exact atI_nat (j := 1) rfl | exact atI_nat (j := 2) rfl | exact atI_nat (j := 3) rfl | exact atI_nat (j := 4) rfl | exact atI_nat (j := 5) rfl)
local macro_rules | `(tactic| walk_at "sq") => `(tactic| first
  | assumption | exact SqL.of upd_same | exact SqT.of upd_same | exact SqL.of (by assumption) | exact SqT.of (by assumption)
  | exact SqT.of (same_new (by assumption) _ _ upd_same) | exact SqL.of (same_new (by assumption) _ _ upd_same)
  | exact SqT.of (same_new (by assumption) _ _ (by assumption)) | exact SqL.of (same_new (by assumption) _ _ (by assumption))
  | exact SqT.of (same_new (by assumption) _ _ (same_new (by assumption) _ _ upd_same)) | exact SqL.of (same_new (by assumption) _ _ (same_new (by assumption) _ _ upd_same)))
local macro_rules | `(tactic| walk_at "dp") => `(tactic| first
  | exact .non | exact .bl _ | exact .int _ | exact .str _
  | (refine .tup (by walk_at "sq") ?_; walk_at "dps") | (refine .lst (by walk_at "sq") ?_; walk_at "dps"))
local macro_rules | `(tactic| walk_at "dps") => `(tactic| first
  | exact .nil | (refine .cons (by walk_at "dp") ?_; walk_at "dps"))
local macro_rules | `(tactic| walk_at "go") => `(tactic| repeat first
  | (show @ite _ _ _ _ _; with_reducible (first | refine iteT ?_ | refine iteF ?_ | refine iteNT ?_ | refine iteNF ?_))
  | ((fail_if_success (show @ite _ _ _ _ _)); first
    | refine And.intro (by walk_at "side") ?_
    | refine ⟨_, rfl, ?_⟩
    | refine ⟨_, _, rfl, rfl, ?_⟩
    | refine ⟨_, _, rfl, .inl (by walk_at "sq"), ?_⟩
    | refine ⟨_, _, rfl, .inr (by walk_at "sq"), ?_⟩
    | refine ⟨_, _, rfl, ?_⟩
    | refine ⟨_, _, _, rfl, ?_⟩
    | refine ⟨_, _, _, _, rfl, ?_⟩
    | refine ⟨_, _, _, _, _, rfl, ?_⟩
    | refine ⟨_, _, _, _, rfl, rfl, (by walk_at "sq"), (by walk_at "idx"), ?_⟩
    | refine ⟨_, _, _, _, _, rfl, .ty _, (by assumption), kit_ty (by assumption), ?_⟩
    | refine And.intro ⟨_, by walk_at "sq"⟩ ?_
    | refine .inl ⟨_, rfl, ?_⟩
    | refine .inr ⟨_, rfl, ?_⟩
    | (apply Exists.intro; (repeat apply Exists.intro); refine And.intro rfl ?_)))
local macro_rules | `(tactic| walk_at "unp2") => `(tactic| refine ⟨_, _, rfl, (by walk_at "sq"), rfl, _, _, rfl, _, _, rfl, rfl, ?_⟩)
local macro_rules | `(tactic| walk_at "unp3") => `(tactic| refine ⟨_, _, rfl, (by walk_at "sq"), rfl, _, _, rfl, _, _, rfl, _, _, rfl, rfl, ?_⟩)
local macro_rules | `(tactic| walk_at "pick") => `(tactic| refine ⟨_, _, _, rfl, SqL.of upd_same, Dice.ne (by assumption) (by assumption), Nat.zero_lt_succ _, Nat.le_of_ble_eq_true rfl, Dice.new (by assumption) (by assumption), ?_⟩)
local macro_rules | `(tactic| walk_at "tt") => `(tactic| first
  | refine iteY rfl ?_ | refine iteN (fun z => Bool.noConfusion (show false = true from z)) ?_)

theorem ok_KnownParts_init (T : Tp K mg) : FnOk P w K mg base CX0 1 T.a_KnownParts_init T.d_KnownParts_init ["self", "tick", "next_id", "luck", "things"] (sp_KnownParts_init K T.C_KnownParts) := by
  refine T.F_KnownParts_init.ok sc_KnownParts_init ?len (fun cdv A outer s H vs Q E hr h => ?_)
  case len => intro vs H Q E h; obtain ⟨x, dx, ti, nx, lu, a, rfl, _⟩ := h; rfl
  obtain ⟨x, dx, ti, nx, lu, a, rfl, hx, ne, q⟩ := h
  refine ⟨_, (pss_cons (ps_sl (pv 0) (pv 1))
    (pss_cons (ps_sl (pv 0) (pv 2))
    (pss_cons (ps_sl (pv 0) (pv 3))
    (pss_one (ps_sl (pv 0) (pv 4)))))), ?_⟩
  have hs0 : Slt H x T.C_KnownParts dx [] := .inl ⟨hx, rfl⟩
  refine ⟨_, rfl, _, rfl, _, _, _, _, _, _, rfl, hs0, T.cl_KnownParts, T.t_KnownParts_own_tick, ?_⟩
  have hs1 := slH_slt (H := H) (C := T.C_KnownParts) (vs := putS 3 ti []) ne
  refine ⟨_, rfl, _, rfl, _, _, _, _, _, _, rfl, hs1, T.cl_KnownParts, T.t_KnownParts_own_next_id, ?_⟩
  have hs2 := slH_slt (H := slH H x T.C_KnownParts dx (putS 3 ti [])) (C := T.C_KnownParts) (vs := putS 1 nx (putS 3 ti [])) ne
  refine ⟨_, rfl, _, rfl, _, _, _, _, _, _, rfl, hs2, T.cl_KnownParts, T.t_KnownParts_own_luck, ?_⟩
  rw [slH_twice ne, slH_twice ne]
  have hs3 := slH_slt (H := H) (C := T.C_KnownParts) (vs := putS 0 lu (putS 1 nx (putS 3 ti []))) ne
  refine ⟨_, rfl, _, rfl, _, _, _, _, _, _, rfl, hs3, T.cl_KnownParts, T.t_KnownParts_own_things, ?_⟩
  rw [slH_twice ne]
  exact q _ (fun b o h1 h2 e => by rw [slH_ne h1 h2]; exact e) (slH_slt ne)
theorem KAt.same {CK : Addr} {H H' : Hp} {k : Addr} {lu nx a ti : V} (h : KAt CK H k lu nx a ti) (s : Same H H') : KAt CK H' k lu nx a ti := by
  obtain ⟨dk, h⟩ := h
  exact ⟨dk, slt_same h s⟩
theorem Bar.trans {x dx : Addr} {H H1 H2 : Hp} (a : Bar x dx H H1) (b : Bar x dx H1 H2) : Bar x dx H H2 := fun c o h1 h2 e => b c o h1 h2 (a c o h1 h2 e)
theorem Bar.of {x dx : Addr} {H H1 : Hp} (s : Same H H1) : Bar x dx H H1 := fun c o _ _ e => s c o e
theorem Bar.slH {x dx C : Addr} {H : Hp} {vs : List (Option V)} : Bar x dx H (slH H x C dx vs) := fun c o h1 h2 e => by rw [slH_ne h1 h2]; exact e
theorem kfar {CK C x dx k dk : Addr} {H : Hp} {lu nx a ti : V} (h : SlX.Slt H k CK dk (ksl lu nx a ti)) (hx : H x = some (.ins C dx [])) (hd : H dx = some (.own x)) : k ≠ x ∧ k ≠ dx ∧ dk ≠ x ∧ dk ≠ dx := by
  rcases h with ⟨_, h2⟩ | ⟨h1, h2⟩
  · unfold ksl at h2
    cases h2
  · exact ⟨ne_of h1 hx (by unfold SlO; intro z; cases z), ne_of h1 hd (by unfold SlO; intro z; cases z), ne_of h2 hx (by intro z; cases z), ne_of h2 hd (by intro z; cases z)⟩
theorem kbar {CK x dx k dk : Addr} {H H' : Hp} {lu nx a ti : V} (h : SlX.Slt H k CK dk (ksl lu nx a ti)) (n1 : k ≠ x) (n2 : k ≠ dx) (n3 : dk ≠ x) (n4 : dk ≠ dx) (B : Bar x dx H H') : SlX.Slt H' k CK dk (ksl lu nx a ti) := by
  rcases h with ⟨_, h2⟩ | ⟨h1, h2⟩
  · unfold ksl at h2
    cases h2
  · exact .inr ⟨B _ _ n1 n2 h1, B _ _ n3 n4 h2⟩
theorem slt_li1 {H : Hp} {a C dx : Addr} {v : Option V} {vs : List (Option V)} (h : SlX.Slt H a C dx (v :: vs)) : ∃ o, H a = some o := by
  rcases h with ⟨h1, h2⟩ | ⟨h1, h2⟩
  · exact ⟨_, h1⟩
  · exact ⟨_, h1⟩
theorem slt_li2 {H : Hp} {a C dx : Addr} {v : Option V} {vs : List (Option V)} (h : SlX.Slt H a C dx (v :: vs)) : ∃ o, H dx = some o := by
  rcases h with ⟨h1, h2⟩ | ⟨h1, h2⟩
  · cases h2
  · exact ⟨_, h2⟩
theorem li1_bar {x dx d : Addr} {H H' : Hp} (h : Li1 d H) (B : Bar x dx H H') (h1 : ∃ o, H' x = some o) (h2 : ∃ o, H' dx = some o) : Li1 d H' := by
  obtain ⟨o, e⟩ := h
  by_cases z : d = x
  · rw [z]; exact h1
  · by_cases z2 : d = dx
    · rw [z2]; exact h2
    · exact ⟨o, B _ _ z z2 e⟩
theorem li_bar {x dx : Addr} {d : Addr × Addr} {H H' : Hp} (h : Li d H) (B : Bar x dx H H') (h1 : ∃ o, H' x = some o) (h2 : ∃ o, H' dx = some o) : Li d H' := ⟨li1_bar h.one B h1 h2, li1_bar h.two B h1 h2⟩
theorem bar_sqt {K : PySem.W.Frag} {C x dx : Addr} {H H' : Hp} {a : Addr} {xs : List V} (h : SqT K H a xs) (hx : H x = some (.ins C dx [])) (hd : H dx = some (.own x)) (b : Bar x dx H H') : SqT K H' a xs := by
  rcases h with (h | ⟨o, h⟩) | h
  · exact .inl (.inl (b _ _ (ne_of h hx (by intro z; cases z)) (ne_of h hd (by intro z; cases z)) h))
  · exact .inl (.inr ⟨o, b _ _ (ne_of h hx (by intro z; cases z)) (ne_of h hd (by intro z; cases z)) h⟩)
  · exact .inr h
theorem ok_parts_told (T : Tp K mg) : FnOk P w K mg base CX0 7 T.a_parts_told T.d_parts_told ["tick", "next_id", "luck", "things"] (sp_parts_told K T.C_KnownParts) := by
  refine T.F_parts_told.ok sc_parts_told ?len (fun cdv A outer s H vs Q E hr h => ?_)
  case len => intro vs H Q E h; obtain ⟨a, W, rfl, _⟩ := h; rfl
  obtain ⟨a, W, rfl, hth, ok, q⟩ := h
  have e1 := ok.tk
  have e2 := ok.nx
  have e3 := ok.lu
  have e4 := ok.n
  have e5 := ok.ths
  have e6 := ok.as
  refine ⟨_, (pss_cons (ps_if (PW.pt (pw_or (pt_not (pt_val (pe_call (ok_is_tick T) (hr.mono (by decide)) (by rfl) T.g_is_tick T.F_is_tick.kp T.b_is_tick .nil pass0 (pa_cons (pv 0) pa_nil)))) (pw_or (pt_not (pt_val (pe_call (ok_is_tick T) (hr.mono (by decide)) (by rfl) T.g_is_tick T.F_is_tick.kp T.b_is_tick .nil pass0 (pa_cons (pv 1) pa_nil)))) (pw_or1 (pt_not (pt_val (pe_call (ok_is_luck T) (hr.mono (by decide)) (by rfl) T.g_is_luck T.F_is_luck.kp T.b_is_luck .nil pass0 (pa_cons (pv 2) pa_nil)))))))) (pss_one ps_never) pss_nil)
    (pss_cons (ps_if (pt_not (pt_val (pe_call (ok_are_things_in T) (hr.mono (by decide)) (by rfl) T.g_are_things_in T.F_are_things_in.kp T.b_are_things_in .nil pass0 (pa_cons (pv 1) (pa_cons (pv 3) pa_nil))))) (pss_one ps_never) pss_nil)
    (pss_one (ps_ret (pe_make T.mk_KnownParts (ok_KnownParts_init T) (hr.mono (by decide)) (by rfl) T.g_KnownParts T.b_KnownParts_init .nil pass0 (pa_cons (pv 0) (pa_cons (pv 1) (pa_cons (pv 2) (pa_cons (pv 3) pa_nil))))))))), ?_⟩
  walk_at "go"
  refine fun H1 S1 => ?_
  walk_at "go"
  refine fun k dk nk ndk ne => ?_
  refine ⟨_, _, _, _, _, _, rfl, upd_same, ne, fun H2 B2 h2 => ⟨rfl, ?_⟩⟩
  have S2 : Same H1 H2 := fun b o e => B2 b o (ne_of_none e nk) (ne_of_none e ndk) (by rw [upd_ne (ne_of_none e nk), upd_ne (ne_of_none e ndk)]; exact e)
  exact q k H2 (S1.trans S2) (S1.free nk) ⟨dk, h2⟩
theorem ok_World_init (T : Tp K mg) : FnOk P w K mg base CX0 8 T.a_World_init T.d_World_init ["self", "tick", "next_id", "luck", "things"] (sp_World_init K T.C_World T.C_KnownParts) := by
  refine T.F_World_init.ok sc_World_init ?len (fun cdv A outer s H vs Q E hr h => ?_)
  case len => intro vs H Q E h; obtain ⟨x, dx, d, us, W, rfl, hl, _⟩ := h; rw [List.length_cons, hl]; rfl
  obtain ⟨x, dx, d, us, W, rfl, hl, hx, hdx, ne, hm, hli, q⟩ := h
  obtain ⟨a, hth, n12, hm⟩ := hm
  have hc_KnownParts := T.cl_KnownParts
  have ht_KnownParts_own_luck := T.t_KnownParts_own_luck
  have ht_KnownParts_own_next_id := T.t_KnownParts_own_next_id
  have ht_KnownParts_own_things := T.t_KnownParts_own_things
  have ht_KnownParts_own_tick := T.t_KnownParts_own_tick
  have hc_World := T.cl_World
  have ht_World_own_ids := T.t_World_own_ids
  have ht_World_own_luck := T.t_World_own_luck
  have ht_World_own_next_id := T.t_World_own_next_id
  have ht_World_own_things := T.t_World_own_things
  have ht_World_own_tick := T.t_World_own_tick
  obtain ⟨xs, ha, hxs⟩ := hth
  have hl2 := Paired.length hxs
  have hk1 : PySem.W.kitOne K (.type "int") (.ref T.C_KnownParts) = some false := kit_own T.cl_KnownParts.ic T.ty_KnownParts T.k_KnownParts_int rfl
  have hk2 : PySem.W.kitOne K (.ref T.C_KnownParts) (.ref T.C_KnownParts) = some true := kit_self
  have hs0 : Slt H x T.C_World dx [] := .inl ⟨hx, rfl⟩
  refine ⟨_, (pss_cons (ps_set (i := 5) sc_World_init.nd rfl (Or.inl rfl) (pe_ifExp (pt_val (pe_callB call_isA (by rfl) T.m_isinstance (by decide +kernel) (pa_cons (pv 1) (pa_cons (pe_glob (v := .ref T.C_KnownParts) (by rfl) T.g_KnownParts rfl) pa_nil)))) (pv 1) (pe_call (ok_parts_told T) (hr.mono (by decide)) (by rfl) T.g_parts_told T.F_parts_told.kp T.b_parts_told .nil pass0 (pa_cons (pv 1) (pa_cons (pv 2) (pa_cons (pv 3) (pa_cons (pv 4) pa_nil)))))))
    (pss_cons (ps_sl (pv 0) (pe_sl (pv 5)))
    (pss_cons (ps_sl (pv 0) (pe_sl (pv 5)))
    (pss_cons (ps_sl (pv 0) (pe_sl (pv 5)))
    (pss_cons (ps_sl (pv 0) (pe_sl (pv 5)))
    (pss_one (ps_sl (pv 0) (pe_lc (own := [("one", 6)]) (g := gName 6) (tt := tYes) (by rfl) sc_World_init.nd (pi_tup (pe_sl (pv 5))) (blkOk_by (own := [("one", 6)]) (N := N_World_init) (sc := defScope s_World_init) (by decide +kernel)) (fun _ _ _ _ _ => pg_name (i := 6) sc_World_init.nd rfl (Or.inl rfl)) (fun _ _ _ _ _ => pts_nil) (fun _ _ _ _ _ => (pe_ix (r := rIxT K) ix_tup (pv 6) pe_int (fun _ _ => rfl))))))))))), ?_⟩
  rcases hm with ⟨rfl, ok⟩ | ⟨k, rfl, hk⟩
  · have hty : TyA K H (.int W.tick) (.type "int") := .ty (.base (.int _))
    have hth : Ths K H a W.ths := ⟨xs, ha, hxs⟩
    walk_at "go"
    refine fun k H1 S1 nk hk => ?_
    obtain ⟨dk, hks⟩ := hk
    have hs0' := slt_same hs0 S1
    have hx1 := S1 _ _ hx
    have hdx1 := S1 _ _ hdx
    obtain ⟨n1, n2, n3, n4⟩ := kfar hks hx1 hdx1
    have ha1 := same_sqt S1 ha
    walk_at "go"
    generalize hH : slH H1 x T.C_World dx _ = Ga
    have Ba : Bar x dx H1 Ga := by rw [← hH]; exact Bar.slH
    have qa : Slt Ga x T.C_World dx [none, none, none, none, some (.int W.tick)] := by rw [← hH]; exact slH_slt ne
    clear hH
    have ka := kbar hks n1 n2 n3 n4 Ba
    walk_at "go"
    generalize hH : slH Ga x T.C_World dx _ = Gb
    have Bb : Bar x dx Ga Gb := by rw [← hH]; exact Bar.slH
    have qb : Slt Gb x T.C_World dx [none, none, some (.int W.nx), none, some (.int W.tick)] := by rw [← hH]; exact slH_slt ne
    clear hH
    have kb := kbar ka n1 n2 n3 n4 Bb
    walk_at "go"
    generalize hH : slH Gb x T.C_World dx _ = Gc
    have Bc : Bar x dx Gb Gc := by rw [← hH]; exact Bar.slH
    have qc : Slt Gc x T.C_World dx [none, some (.int W.luck), some (.int W.nx), none, some (.int W.tick)] := by rw [← hH]; exact slH_slt ne
    clear hH
    have kc := kbar kb n1 n2 n3 n4 Bc
    walk_at "go"
    generalize hH : slH Gc x T.C_World dx _ = Gd
    have Bd : Bar x dx Gc Gd := by rw [← hH]; exact Bar.slH
    have qd : Slt Gd x T.C_World dx [none, some (.int W.luck), some (.int W.nx), some (.ref a), some (.int W.tick)] := by rw [← hH]; exact slH_slt ne
    clear hH
    have kd := kbar kc n1 n2 n3 n4 Bd
    walk_at "go"
    have B5 := Ba.trans (Bb.trans (Bc.trans Bd))
    have ha5 := bar_sqt ha1 hx1 hdx1 B5
    clear ka kb kc qa qb qc
    walk_at "go"
    have hxs5 := L2.Paired.mapP hxs fun _ _ h => ThV.mono (fun z => bar_sqt (same_sqt S1 z) hx1 hdx1 B5) h
    refine fun D nD => lc_it walk_tup (fun i H5 => H5 D = some (.lst (ivs ((ids W).take i))) ∧ Ext D Gd H5) ⟨upd_same, Ext.new nD⟩ (fun _ _ _ hW => same_sqt (hW.2.same nD) ha5) (fun i y H5 H6 hi hW hy => ?_) (fun H6 hW => ?_)
    · obtain ⟨rfl, hy⟩ := hy
      obtain ⟨hD, X⟩ := hW
      obtain ⟨t, ht, hyt⟩ := paired_get hxs5 hy
      obtain ⟨p, n, rfl, hp, hn, hkd⟩ := hyt.same (X.same nD)
      walk_at "go"
      refine ⟨_, hD, ?_, ?_, X.trans Ext.put⟩
      · unfold ivs ids
        rw [List.length_map, List.length_take, List.length_map]
        exact small1000 (by omega)
      · unfold ids
        rw [upd_same, List.take_add_one, List.getElem?_map, ht]
        unfold ivs
        rw [List.map_append]
        rfl
    · obtain ⟨hD, X⟩ := hW
      have S6 := X.same nD
      have q6 := slt_same qd S6
      walk_at "go"
      refine q _ ((Bar.of S1).trans (B5.trans ((Bar.of S6).trans Bar.slH))) ⟨dx, D, a, slH_slt ne, ?_, ?_, ?_⟩
      · have nx1 : D ≠ x := fun z => by rw [z] at nD; obtain ⟨u, hu⟩ := slt_li1 qd; rw [hu] at nD; cases nD
        have nx2 : D ≠ dx := fun z => by rw [z] at nD; obtain ⟨u, hu⟩ := slt_li2 qd; rw [hu] at nD; cases nD
        rw [slH_ne nx1 nx2, hD]
        unfold ids
        rw [hl2, ← List.length_map (f := Th.id), List.take_length]
      · refine (Li.ne ?_ nD)
        exact li_bar (hli.same S1) B5 (slt_li1 qd) (slt_li2 qd)
      · refine ⟨xs, ?_, ?_⟩
        · exact bar_sqt ha hx hdx ((Bar.of S1).trans (B5.trans ((Bar.of S6).trans Bar.slH)))
        · exact L2.Paired.mapP hxs fun _ _ h => ThV.mono (fun z => bar_sqt z hx hdx ((Bar.of S1).trans (B5.trans ((Bar.of S6).trans Bar.slH)))) h
  · obtain ⟨dk, hks⟩ := hk
    have hty : TyA K H (.ref k) (.ref T.C_KnownParts) := .sl hks T.cl_KnownParts T.is_KnownParts
    have S1 : Same H H := Same.refl H
    have hs0' := slt_same hs0 S1
    have hx1 := S1 _ _ hx
    have hdx1 := S1 _ _ hdx
    obtain ⟨n1, n2, n3, n4⟩ := kfar hks hx1 hdx1
    have ha1 := same_sqt S1 ha
    walk_at "go"
    generalize hH : slH H x T.C_World dx _ = Ga
    have Ba : Bar x dx H Ga := by rw [← hH]; exact Bar.slH
    have qa : Slt Ga x T.C_World dx [none, none, none, none, some (.int W.tick)] := by rw [← hH]; exact slH_slt ne
    clear hH
    have ka := kbar hks n1 n2 n3 n4 Ba
    walk_at "go"
    generalize hH : slH Ga x T.C_World dx _ = Gb
    have Bb : Bar x dx Ga Gb := by rw [← hH]; exact Bar.slH
    have qb : Slt Gb x T.C_World dx [none, none, some (.int W.nx), none, some (.int W.tick)] := by rw [← hH]; exact slH_slt ne
    clear hH
    have kb := kbar ka n1 n2 n3 n4 Bb
    walk_at "go"
    generalize hH : slH Gb x T.C_World dx _ = Gc
    have Bc : Bar x dx Gb Gc := by rw [← hH]; exact Bar.slH
    have qc : Slt Gc x T.C_World dx [none, some (.int W.luck), some (.int W.nx), none, some (.int W.tick)] := by rw [← hH]; exact slH_slt ne
    clear hH
    have kc := kbar kb n1 n2 n3 n4 Bc
    walk_at "go"
    generalize hH : slH Gc x T.C_World dx _ = Gd
    have Bd : Bar x dx Gc Gd := by rw [← hH]; exact Bar.slH
    have qd : Slt Gd x T.C_World dx [none, some (.int W.luck), some (.int W.nx), some (.ref a), some (.int W.tick)] := by rw [← hH]; exact slH_slt ne
    clear hH
    have kd := kbar kc n1 n2 n3 n4 Bd
    walk_at "go"
    have B5 := Ba.trans (Bb.trans (Bc.trans Bd))
    have ha5 := bar_sqt ha1 hx1 hdx1 B5
    clear ka kb kc qa qb qc
    walk_at "go"
    have hxs5 := L2.Paired.mapP hxs fun _ _ h => ThV.mono (fun z => bar_sqt (same_sqt S1 z) hx1 hdx1 B5) h
    refine fun D nD => lc_it walk_tup (fun i H5 => H5 D = some (.lst (ivs ((ids W).take i))) ∧ Ext D Gd H5) ⟨upd_same, Ext.new nD⟩ (fun _ _ _ hW => same_sqt (hW.2.same nD) ha5) (fun i y H5 H6 hi hW hy => ?_) (fun H6 hW => ?_)
    · obtain ⟨rfl, hy⟩ := hy
      obtain ⟨hD, X⟩ := hW
      obtain ⟨t, ht, hyt⟩ := paired_get hxs5 hy
      obtain ⟨p, n, rfl, hp, hn, hkd⟩ := hyt.same (X.same nD)
      walk_at "go"
      refine ⟨_, hD, ?_, ?_, X.trans Ext.put⟩
      · unfold ivs ids
        rw [List.length_map, List.length_take, List.length_map]
        exact small1000 (by omega)
      · unfold ids
        rw [upd_same, List.take_add_one, List.getElem?_map, ht]
        unfold ivs
        rw [List.map_append]
        rfl
    · obtain ⟨hD, X⟩ := hW
      have S6 := X.same nD
      have q6 := slt_same qd S6
      walk_at "go"
      refine q _ ((Bar.of S1).trans (B5.trans ((Bar.of S6).trans Bar.slH))) ⟨dx, D, a, slH_slt ne, ?_, ?_, ?_⟩
      · have nx1 : D ≠ x := fun z => by rw [z] at nD; obtain ⟨u, hu⟩ := slt_li1 qd; rw [hu] at nD; cases nD
        have nx2 : D ≠ dx := fun z => by rw [z] at nD; obtain ⟨u, hu⟩ := slt_li2 qd; rw [hu] at nD; cases nD
        rw [slH_ne nx1 nx2, hD]
        unfold ids
        rw [hl2, ← List.length_map (f := Th.id), List.take_length]
      · refine (Li.ne ?_ nD)
        exact li_bar (hli.same S1) B5 (slt_li1 qd) (slt_li2 qd)
      · refine ⟨xs, ?_, ?_⟩
        · exact bar_sqt ha hx hdx ((Bar.of S1).trans (B5.trans ((Bar.of S6).trans Bar.slH)))
        · exact L2.Paired.mapP hxs fun _ _ h => ThV.mono (fun z => bar_sqt z hx hdx ((Bar.of S1).trans (B5.trans ((Bar.of S6).trans Bar.slH)))) h

end
section
variable {P : Program} {w : World} {K : PySem.W.Frag} {mg : Str → Option Value} {base : Heap}
/-! ### short tactics -/
local macro_rules | `(tactic| walk_at "side") => `(tactic| first
  | with_reducible assumption | (exact ⟨by omega, by omega⟩) | exact True.intro | rfl | exact Nat.le_of_ble_eq_true rfl | with_reducible exact Int.natCast_nonneg _ | decide | omega
  | ((with_reducible show KDct _ _ _ _ _); assumption)
  | ((with_reducible show SlX.SCls _ _); assumption)
  | ((with_reducible show SlX.Slot1 _ _ _ _ _); assumption)
  | ((with_reducible show ClsV _ _); first | exact .own _ | exact .ty _)
  | ((with_reducible show TyA _ _ _ _); assumption)
  | ((with_reducible show Eq (PySem.W.kitOne _ _ _) _); assumption)
  | ((with_reducible show Jd _ _ _); first | assumption | exact .int _ | exact .str _ | exact .non | exact .bl _)
  | ((with_reducible show SqT _ _ _ _); walk_at "sq") | ((with_reducible show SqL _ _ _ _); walk_at "sq")
  | exact Or.inl rfl | exact Or.inr rfl
  | (intro z; exact absurd (show 1 = 0 from z.1) (by decide)) | (intro z; exact absurd (show 2 = 0 from z.1) (by decide))
  | (exact Or.inl ⟨by omega, by omega⟩) | (exact Or.inr ⟨by omega, by omega⟩)
  | (exact ⟨by omega, by omega, by omega⟩) | (exact ⟨by decide, by decide, by decide⟩)
  | (exact wide_div (b := 250) (by omega) (by omega) (by decide) (by decide))
  | (exact wide_mul (a := 250) (b := 250) (by omega) (by omega) (by decide) (by decide) (by decide))
  | decide +kernel | (dsimp only; decide +kernel)
  | (exact wide_mul (a := 250) (b := 250) (by decide +kernel) (by decide +kernel) (by decide) (by decide) (by decide)))
local macro_rules | `(tactic| walk_at "idx") => `(tactic| first
  | assumption | exact atI_nat (j := 0) rfl | exact atI_nat (j := 1) rfl | exact atI_nat (j := 2) rfl | exact atI_nat (j := 3) rfl | exact atI_nat (j := 4) rfl | exact atI_nat (j := 5) rfl)
local macro_rules | `(tactic| walk_at "sq") => `(tactic| first
  | assumption | exact SqL.of upd_same | exact SqT.of upd_same | exact SqL.of (by assumption) | exact SqT.of (by assumption)
  | exact SqT.of (same_new (by assumption) _ _ upd_same) | exact SqL.of (same_new (by assumption) _ _ upd_same)
  | exact SqT.of (same_new (by assumption) _ _ (by assumption)) | exact SqL.of (same_new (by assumption) _ _ (by assumption))
  | exact SqT.of (same_new (by assumption) _ _ (same_new (by assumption) _ _ upd_same)) | exact SqL.of (same_new (by assumption) _ _ (same_new (by assumption) _ _ upd_same)))
local macro_rules | `(tactic| walk_at "dp") => `(tactic| first
  | exact .non | exact .bl _ | exact .int _ | exact .str _
  | (refine .tup (by walk_at "sq") ?_; walk_at "dps") | (refine .lst (by walk_at "sq") ?_; walk_at "dps"))
local macro_rules | `(tactic| walk_at "dps") => `(tactic| first
  | exact .nil | (refine .cons (by walk_at "dp") ?_; walk_at "dps"))
local macro_rules | `(tactic| walk_at "go") => `(tactic| repeat first
  | (show @ite _ _ _ _ _; with_reducible (first | refine iteT ?_ | refine iteF ?_ | refine iteNT ?_ | refine iteNF ?_))
  | ((fail_if_success (show @ite _ _ _ _ _)); first
    | refine And.intro (by walk_at "side") ?_
    | refine ⟨_, rfl, ?_⟩
    | refine ⟨_, _, rfl, rfl, ?_⟩
    | refine ⟨_, _, rfl, .inl (by walk_at "sq"), ?_⟩
    | refine ⟨_, _, rfl, .inr (by walk_at "sq"), ?_⟩
    | refine ⟨_, _, rfl, ?_⟩
    | refine ⟨_, _, _, rfl, ?_⟩
    | refine ⟨_, _, _, _, rfl, ?_⟩
    | refine ⟨_, _, _, _, _, rfl, ?_⟩
    | refine ⟨_, _, _, _, rfl, rfl, (by walk_at "sq"), (by walk_at "idx"), ?_⟩
    | refine ⟨_, _, _, _, _, rfl, .ty _, (by assumption), kit_ty (by assumption), ?_⟩
    | refine And.intro ⟨_, by walk_at "sq"⟩ ?_
    | refine .inl ⟨_, rfl, ?_⟩
    | refine .inr ⟨_, rfl, ?_⟩
    | (apply Exists.intro; (repeat apply Exists.intro); refine And.intro rfl ?_)))
local macro_rules | `(tactic| walk_at "unp2") => `(tactic| refine ⟨_, _, rfl, (by walk_at "sq"), rfl, _, _, rfl, _, _, rfl, rfl, ?_⟩)
local macro_rules | `(tactic| walk_at "unp3") => `(tactic| refine ⟨_, _, rfl, (by walk_at "sq"), rfl, _, _, rfl, _, _, rfl, _, _, rfl, rfl, ?_⟩)
local macro_rules | `(tactic| walk_at "pick") => `(tactic| refine ⟨_, _, _, rfl, SqL.of upd_same, Dice.ne (by assumption) (by assumption), Nat.zero_lt_succ _, Nat.le_of_ble_eq_true rfl, Dice.new (by assumption) (by assumption), ?_⟩)
local macro_rules | `(tactic| walk_at "tt") => `(tactic| first
  | refine iteY rfl ?_ | refine iteN (fun z => Bool.noConfusion (show false = true from z)) ?_)

theorem sqt_put {K : PySem.W.Frag} {H : Hp} {D a : Addr} {xs ys : List V} {o : HO} (hD : H D = some (.lst xs)) (h : SqT K H a ys) : SqT K (upd H D o) a ys := by
  rcases h with (h | ⟨u, h⟩) | h
  · exact .inl (.inl (by rw [upd_ne (ne_of h hD (by intro z; cases z))]; exact h))
  · exact .inl (.inr ⟨u, by rw [upd_ne (ne_of h hD (by intro z; cases z))]; exact h⟩)
  · exact .inr h
theorem flt_step {α : Type} {P : α → Bool} {ts : List α} {i : Nat} {t : α} (h : ts[i]? = some t) : (ts.take (i + 1)).filter P = (ts.take i).filter P ++ (if P t = true then [t] else []) := by
  rw [List.take_add_one, h, List.filter_append]
  show _ ++ List.filter P [t] = _
  by_cases e : P t = true
  · rw [if_pos e, List.filter_cons_of_pos e]; rfl
  · rw [if_neg e, List.filter_cons_of_neg e]; rfl
theorem ivs_flat (ns : List Int) : (ivs ns).all flatV = true := by
  rw [List.all_eq_true]
  intro x hx
  obtain ⟨k, _, rfl⟩ := List.mem_map.mp hx
  rfl
theorem inV_int (i : Int) (ns : List Int) : inV (.int i) (ivs ns) = decide (i ∈ ns) := by
  unfold inV ivs
  rw [List.any_map]
  induction ns with
  | nil => rfl
  | cons k r ih =>
    rw [List.any_cons, ih]
    show ((k == i) || decide (i ∈ r)) = _
    by_cases h : k = i
    · subst h; simp
    · have h2 : ¬ i = k := fun z => h z.symm
      simp [h, h2]
theorem log_big {i : Int} (h0 : 0 ≤ i) (h1 : i ≤ big) : i.natAbs.log2 < 1920 := by
  unfold big at h1
  by_cases z : i.natAbs = 0
  · rw [z]; decide
  · refine (Nat.log2_lt z).mpr (Nat.lt_of_le_of_lt (m := 1000000000000000000000000000000000000000000000000000000000000) (by omega) (by decide))
theorem ok_World_tick (T : Tp K mg) : FnOk P w K mg base CX0 1 T.a_World_tick T.d_World_tick ["self"] (sp_World_tick K T.C_World) := by
  refine T.F_World_tick.ok sc_World_tick ?len (fun cdv A outer s H vs Q E hr h => ?_)
  case len => intro vs H Q E h; obtain ⟨w, d, W, rfl, _⟩ := h; rfl
  obtain ⟨w, d, W, rfl, ⟨dx, l, a, hs, hl, hld, hth⟩, q⟩ := h
  have hc_World := T.cl_World
  have ht_World_own_ids := T.t_World_own_ids
  have ht_World_own_luck := T.t_World_own_luck
  have ht_World_own_next_id := T.t_World_own_next_id
  have ht_World_own_things := T.t_World_own_things
  have ht_World_own_tick := T.t_World_own_tick
  unfold wsl at hs
  refine ⟨_, (pss_one (ps_ret (pe_sl (pv 0)))), ?_⟩
  walk_at "go"
  exact q
theorem ok_World_next_id (T : Tp K mg) : FnOk P w K mg base CX0 1 T.a_World_next_id T.d_World_next_id ["self"] (sp_World_next_id K T.C_World) := by
  refine T.F_World_next_id.ok sc_World_next_id ?len (fun cdv A outer s H vs Q E hr h => ?_)
  case len => intro vs H Q E h; obtain ⟨w, d, W, rfl, _⟩ := h; rfl
  obtain ⟨w, d, W, rfl, ⟨dx, l, a, hs, hl, hld, hth⟩, q⟩ := h
  have hc_World := T.cl_World
  have ht_World_own_ids := T.t_World_own_ids
  have ht_World_own_luck := T.t_World_own_luck
  have ht_World_own_next_id := T.t_World_own_next_id
  have ht_World_own_things := T.t_World_own_things
  have ht_World_own_tick := T.t_World_own_tick
  unfold wsl at hs
  refine ⟨_, (pss_one (ps_ret (pe_sl (pv 0)))), ?_⟩
  walk_at "go"
  exact q
theorem ok_World_luck (T : Tp K mg) : FnOk P w K mg base CX0 1 T.a_World_luck T.d_World_luck ["self"] (sp_World_luck K T.C_World) := by
  refine T.F_World_luck.ok sc_World_luck ?len (fun cdv A outer s H vs Q E hr h => ?_)
  case len => intro vs H Q E h; obtain ⟨w, d, W, rfl, _⟩ := h; rfl
  obtain ⟨w, d, W, rfl, ⟨dx, l, a, hs, hl, hld, hth⟩, q⟩ := h
  have hc_World := T.cl_World
  have ht_World_own_ids := T.t_World_own_ids
  have ht_World_own_luck := T.t_World_own_luck
  have ht_World_own_next_id := T.t_World_own_next_id
  have ht_World_own_things := T.t_World_own_things
  have ht_World_own_tick := T.t_World_own_tick
  unfold wsl at hs
  refine ⟨_, (pss_one (ps_ret (pe_sl (pv 0)))), ?_⟩
  walk_at "go"
  exact q
theorem ok_World_things (T : Tp K mg) : FnOk P w K mg base CX0 1 T.a_World_things T.d_World_things ["self"] (sp_World_things K T.C_World) := by
  refine T.F_World_things.ok sc_World_things ?len (fun cdv A outer s H vs Q E hr h => ?_)
  case len => intro vs H Q E h; obtain ⟨w, d, W, rfl, _⟩ := h; rfl
  obtain ⟨w, d, W, rfl, ⟨dx, l, a, hs, hl, hld, hth⟩, q⟩ := h
  have hc_World := T.cl_World
  have ht_World_own_ids := T.t_World_own_ids
  have ht_World_own_luck := T.t_World_own_luck
  have ht_World_own_next_id := T.t_World_own_next_id
  have ht_World_own_things := T.t_World_own_things
  have ht_World_own_tick := T.t_World_own_tick
  unfold wsl at hs
  refine ⟨_, (pss_one (ps_ret (pe_sl (pv 0)))), ?_⟩
  walk_at "go"
  exact q a hth
theorem ok_World_len (T : Tp K mg) : FnOk P w K mg base CX0 1 T.a_World_len T.d_World_len ["self"] (sp_World_len K T.C_World) := by
  refine T.F_World_len.ok sc_World_len ?len (fun cdv A outer s H vs Q E hr h => ?_)
  case len => intro vs H Q E h; obtain ⟨w, d, W, rfl, _⟩ := h; rfl
  obtain ⟨w, d, W, rfl, ⟨dx, l, a, hs, hl, hld, hth⟩, q⟩ := h
  have hc_World := T.cl_World
  have ht_World_own_ids := T.t_World_own_ids
  have ht_World_own_luck := T.t_World_own_luck
  have ht_World_own_next_id := T.t_World_own_next_id
  have ht_World_own_things := T.t_World_own_things
  have ht_World_own_tick := T.t_World_own_tick
  unfold wsl at hs
  have hl' : SqL K H l (ivs (ids W)) := .of hl
  have e : ((ivs (ids W)).length : Int) = (W.ths.length : Int) := by unfold ivs ids; rw [List.length_map, List.length_map]
  refine ⟨_, (pss_one (ps_ret (pe_callB call_len_seq (by rfl) T.m_len (by decide +kernel) (pa_cons (pe_sl (pv 0)) pa_nil)))), ?_⟩
  walk_at "go"
  show Q (.int ((ivs (ids W)).length : Int)) H
  rw [e]
  exact q
theorem ok_World_contains (T : Tp K mg) : FnOk P w K mg base CX0 2 T.a_World_contains T.d_World_contains ["self", "value"] (sp_World_contains K T.C_World) := by
  refine T.F_World_contains.ok sc_World_contains ?len (fun cdv A outer s H vs Q E hr h => ?_)
  case len => intro vs H Q E h; obtain ⟨w, d, W, x, rfl, _⟩ := h; rfl
  obtain ⟨w, d, W, x, rfl, ⟨dx, l, a, hs, hl, hld, hth⟩, j, q⟩ := h
  have hc_World := T.cl_World
  have ht_World_own_ids := T.t_World_own_ids
  have ht_World_own_luck := T.t_World_own_luck
  have ht_World_own_next_id := T.t_World_own_next_id
  have ht_World_own_things := T.t_World_own_things
  have ht_World_own_tick := T.t_World_own_tick
  unfold wsl at hs
  have hl' : SqL K H l (ivs (ids W)) := .of hl
  refine ⟨_, (pss_one (ps_ret (pe_and (pe_call (ok_is_whole T) (hr.mono (by decide)) (by rfl) T.g_is_whole T.F_is_whole.kp T.b_is_whole .nil pass0 (pa_cons (pv 1) pa_nil)) (pe_one (pe_cmpR op_in_seq (pv 1) (pe_sl (pv 0)) (by rfl)))))), ?_⟩
  walk_at "go"
  cases x with
  | int i =>
    refine iteT ?_
    walk_at "go"
    refine ⟨ivs_flat _, ?_⟩
    show Q (.bl (inV (.int i) (ivs (ids W)))) H
    rw [inV_int]
    exact q
  | _ => refine iteF ?_; exact q
theorem ok_World_iter (T : Tp K mg) : FnOk P w K mg base CX0 1 T.a_World_iter T.d_World_iter ["self"] (sp_World_iter K T.C_World) := by
  refine T.F_World_iter.ok sc_World_iter ?len (fun cdv A outer s H vs Q E hr h => ?_)
  case len => intro vs H Q E h; obtain ⟨w, l, dx, a, luck, nx, tick, zs, rfl, _⟩ := h; rfl
  obtain ⟨w, l, dx, a, luck, nx, tick, zs, rfl, hs, hl, q⟩ := h
  have hc_World := T.cl_World
  have ht_World_own_ids := T.t_World_own_ids
  have ht_World_own_luck := T.t_World_own_luck
  have ht_World_own_next_id := T.t_World_own_next_id
  have ht_World_own_things := T.t_World_own_things
  have ht_World_own_tick := T.t_World_own_tick
  have hl' : SqL K H l zs := .of hl
  refine ⟨_, (pss_one (ps_ret (pe_callB call_iterL (by rfl) T.m_iter (by decide +kernel) (pa_cons (pe_sl (pv 0)) pa_nil)))), ?_⟩
  walk_at "go"
  exact q
theorem ok_World_str (T : Tp K mg) : FnOk P w K mg base CX0 1 T.a_World_str T.d_World_str ["self"] (sp_World_str K T.C_World) := by
  refine T.F_World_str.ok sc_World_str ?len (fun cdv A outer s H vs Q E hr h => ?_)
  case len => intro vs H Q E h; obtain ⟨w, d, W, rfl, _⟩ := h; rfl
  obtain ⟨w, d, W, rfl, ⟨dx, l, a, hs, hl, hld, xs, ha, hxs⟩, ht, hn, q⟩ := h
  have hl2 := Paired.length hxs
  have hc_World := T.cl_World
  have ht_World_own_ids := T.t_World_own_ids
  have ht_World_own_luck := T.t_World_own_luck
  have ht_World_own_next_id := T.t_World_own_next_id
  have ht_World_own_things := T.t_World_own_things
  have ht_World_own_tick := T.t_World_own_tick
  unfold wsl at hs
  have g1 : W.tick.natAbs.log2 < 1920 := log_big ht.1 ht.2
  have g2 : ((xs.length : Int)).natAbs.log2 < 1920 := log_big (by omega) (by unfold big; omega)
  have m1 := int_text_len_1921 g1
  have m2 := int_text_len_1921 g2
  have z1 : (Str.empty ++ ("world at " : Str)).length ≤ sizeLine := by decide +kernel
  have z2 : (Str.empty ++ ("world at " : Str) ++ (toString W.tick : Str)).length ≤ sizeLine := by
    rw [Str.length_append, show (Str.empty ++ ("world at " : Str)).length = 9 by decide +kernel, sizeLine_eq]
    omega
  have z3 : (Str.empty ++ ("world at " : Str) ++ (toString W.tick : Str) ++ (" of " : Str)).length ≤ sizeLine := by
    rw [Str.length_append, Str.length_append, show (Str.empty ++ ("world at " : Str)).length = 9 by decide +kernel, show (" of " : Str).length = 4 by decide +kernel, sizeLine_eq]
    omega
  have z4 : (Str.empty ++ ("world at " : Str) ++ (toString W.tick : Str) ++ (" of " : Str) ++ (toString (xs.length : Int) : Str)).length ≤ sizeLine := by
    rw [Str.length_append, Str.length_append, Str.length_append, show (Str.empty ++ ("world at " : Str)).length = 9 by decide +kernel, show (" of " : Str).length = 4 by decide +kernel, sizeLine_eq]
    omega
  have z5 : (Str.empty ++ ("world at " : Str) ++ (toString W.tick : Str) ++ (" of " : Str) ++ (toString (xs.length : Int) : Str) ++ (" things" : Str)).length ≤ sizeLine := by
    rw [Str.length_append, Str.length_append, Str.length_append, Str.length_append, show (Str.empty ++ ("world at " : Str)).length = 9 by decide +kernel, show (" of " : Str).length = 4 by decide +kernel, show (" things" : Str).length = 7 by decide +kernel, sizeLine_eq]
    omega
  refine ⟨_, (pss_one (ps_ret (pe_joined (.cons pe_str (.cons (pe_fmt (pe_sl (pv 0))) (.cons pe_str (.cons (pe_fmt (pe_callB call_len_seq (by rfl) T.m_len (by decide +kernel) (pa_cons (pe_sl (pv 0)) pa_nil))) (.cons pe_str .nil)))))))), ?_⟩
  walk_at "go"
  rw [hl2, Str.empty_append]
  exact q
theorem ok_World_eq (T : Tp K mg) : FnOk P w K mg base CX0 1 T.a_World_eq T.d_World_eq ["self", "other"] (sp_World_eq K T.C_World) := by
  refine T.F_World_eq.ok sc_World_eq ?len (fun cdv A outer s H vs Q E hr h => ?_)
  case len => intro vs H Q E h; obtain ⟨w, d, W, y, rfl, _⟩ := h; rfl
  obtain ⟨w, d, W, y, rfl, ⟨dx, l, a, hs, hl, hld, hth⟩, h⟩ := h
  have hks := hth.ks
  have hc_World := T.cl_World
  have ht_World_own_ids := T.t_World_own_ids
  have ht_World_own_luck := T.t_World_own_luck
  have ht_World_own_next_id := T.t_World_own_next_id
  have ht_World_own_things := T.t_World_own_things
  have ht_World_own_tick := T.t_World_own_tick
  unfold wsl at hs
  have hk1 : PySem.W.kitOne K (.type "tuple") (.ref T.C_World) = some false := kit_own T.cl_World.ic T.ty_World T.k_World_tuple rfl
  have hk2 : PySem.W.kitOne K (.type "NoneType") (.ref T.C_World) = some false := kit_own T.cl_World.ic T.ty_World T.k_World_NoneType rfl
  have hk3 : PySem.W.kitOne K (.type "str") (.ref T.C_World) = some false := kit_own T.cl_World.ic T.ty_World T.k_World_str rfl
  have hk4 : PySem.W.kitOne K (.ref T.C_World) (.ref T.C_World) = some true := kit_self
  refine ⟨_, (pss_cons (ps_if (pt_not (pt_val (pe_callB call_isA (by rfl) T.m_isinstance (by decide +kernel) (pa_cons (pv 1) (pa_cons (pe_glob (v := .ref T.C_World) (by rfl) T.g_World rfl) pa_nil))))) (pss_one (ps_ret pe_bl)) pss_nil)
    (pss_cons (ps_if (pt_cmpR (op_neD hr.units) (pe_tup (pa_cons (pe_sl (pv 0)) (pa_cons (pe_sl (pv 0)) (pa_cons (pe_sl (pv 0)) pa_nil)))) (pe_tup (pa_cons (pe_sl (pv 1)) (pa_cons (pe_sl (pv 1)) (pa_cons (pe_sl (pv 1)) pa_nil)))) (nomark _)) (pss_one (ps_ret pe_bl)) pss_nil)
    (pss_one (ps_ret (pe_cmpR (op_eqD hr.units) (pe_sl (pv 0)) (pe_sl (pv 1)) (nomark _)))))), ?_⟩
  rcases h with ⟨u, U, rfl, ⟨dy, l2, a2, hs2, hl2, hld2, hth2⟩, q⟩ | ⟨n, ty, hn, q⟩
  · have hks2 := hth2.ks
    unfold wsl at hs2
    have hty : TyA K H (.ref u) (.ref T.C_World) := .sl hs2 T.cl_World T.is_World
    have ew : decide (W = U) = (decide (W.tick = U.tick ∧ W.nx = U.nx ∧ W.luck = U.luck) && decide (W.ths = U.ths)) := by
      obtain ⟨a, b, c, d⟩ := W
      obtain ⟨e, f, g, h⟩ := U
      simp only [Wd.mk.injEq]
      by_cases h1 : a = e <;> by_cases h2 : b = f <;> by_cases h3 : c = g <;> by_cases h4 : d = h <;> simp [h1, h2, h3, h4]
    walk_at "go"
    refine fun p1 np1 => ?_
    generalize hH : upd H p1 _ = H1
    have S1 : Same H H1 := by rw [← hH]; exact same_new np1
    have hp1 : SqT K H1 p1 [V.int W.tick, V.int W.nx, V.int W.luck] := by rw [← hH]; exact .of upd_same
    clear hH
    replace hs := slt_same hs S1
    replace hs2 := slt_same hs2 S1
    replace hth := hth.same S1
    replace hth2 := hth2.same S1
    walk_at "go"
    refine fun p2 np2 => ?_
    generalize hH : upd H1 p2 _ = H2
    have S2 : Same H1 H2 := by rw [← hH]; exact same_new np2
    have hp2 : SqT K H2 p2 [V.int U.tick, V.int U.nx, V.int U.luck] := by rw [← hH]; exact .of upd_same
    clear hH
    replace hp1 := same_sqt S2 hp1
    replace hs := slt_same hs S2
    replace hs2 := slt_same hs2 S2
    replace hth := hth.same S2
    replace hth2 := hth2.same S2
    have q' := q H2 (S1.trans S2)
    refine ⟨.tuple [.int W.tick, .int W.nx, .int W.luck], .tuple [.int U.tick, .int U.nx, .int U.luck], .tup hp1 (.cons (.int _) (.cons (.int _) (.cons (.int _) .nil))), .tup hp2 (.cons (.int _) (.cons (.int _) (.cons (.int _) .nil))), rfl, rfl, ?_⟩
    have e3 : PyData.eqv (.tuple [.int W.tick, .int W.nx, .int W.luck]) (.tuple [.int U.tick, .int U.nx, .int U.luck]) = decide (W.tick = U.tick ∧ W.nx = U.nx ∧ W.luck = U.luck) := by
      simp only [PyData.eqv, PyData.eqvAll, Bool.and_true]
      by_cases h1 : W.tick = U.tick <;> by_cases h2 : W.nx = U.nx <;> by_cases h3 : W.luck = U.luck <;> simp [h1, h2, h3]
    rw [e3]
    walk_at "go"
    refine ite2 (fun e => ?_) (fun e => ?_)
    · rw [ew, show decide (W.tick = U.tick ∧ W.nx = U.nx ∧ W.luck = U.luck) = false from (Bool.not_eq_true' _).mp e] at q'
      exact q'
    · rw [ew, show decide (W.tick = U.tick ∧ W.nx = U.nx ∧ W.luck = U.luck) = true by simpa using e, Bool.true_and] at q'
      walk_at "go"
      refine ⟨_, _, dp_ths hth, dp_ths hth2, ths_sh hks, ths_sh hks2, ?_⟩
      rw [ths_eqv]
      exact q'
  · have hty : TyA K H y (.type n) := .ty ty
    rcases hn with rfl | rfl | rfl
    · walk_at "go"
      exact q
    · walk_at "go"
      exact q
    · walk_at "go"
      exact q
theorem ok_World_ids (T : Tp K mg) : FnOk P w K mg base CX0 1 T.a_World_ids T.d_World_ids ["self", "kind"] (sp_World_ids K T.C_World) := by
  refine T.F_World_ids.ok sc_World_ids ?len (fun cdv A outer s H vs Q E hr h => ?_)
  case len => intro vs H Q E h; obtain ⟨w, d, W, x, rfl, _⟩ := h; rfl
  obtain ⟨w, d, W, x, rfl, ⟨dx, l, a, hs, hl, hld, xs, ha, hxs⟩, n12, hx, q⟩ := h
  have hc_World := T.cl_World
  have ht_World_own_ids := T.t_World_own_ids
  have ht_World_own_luck := T.t_World_own_luck
  have ht_World_own_next_id := T.t_World_own_next_id
  have ht_World_own_things := T.t_World_own_things
  have ht_World_own_tick := T.t_World_own_tick
  unfold wsl at hs
  have hl2 := Paired.length hxs
  refine ⟨_, (pss_one (ps_ret (pe_callTy call_tuple_of (by rfl) T.m_tuple (by decide +kernel) (pa_cons (pe_lc (own := [("one", 2)]) (g := gName 2)  (by rfl) sc_World_ids.nd (pi_tup (pe_sl (pv 0))) (blkOk_by (own := [("one", 2)]) (N := N_World_ids) (sc := defScope s_World_ids) (by decide +kernel)) (fun _ _ _ _ _ => pg_name (i := 2) sc_World_ids.nd rfl (Or.inl rfl)) (fun _ _ _ _ _ => (pts_one (pt_cmpR (show OpR _ (compareOp .Eq) (rEqD K) from op_eqD hr.units) (pe_ix (r := rIxT K) ix_tup (pv 2) pe_int (fun _ _ => rfl)) (pv 1) (nomark _)))) (fun _ _ _ _ _ => (pe_ix (r := rIxT K) ix_tup (pv 2) pe_int (fun _ _ => rfl)))) pa_nil)))), ?_⟩
  walk_at "go"
  refine fun D nD => lc_it walk_tup (fun i H' => H' D = some (.lst (ivs (((W.ths.take i).filter fun t => kdB x t.kd).map Th.id))) ∧ Ext D H H') ⟨upd_same, Ext.new nD⟩ (fun _ _ _ hW => same_sqt (hW.2.same nD) ha) (fun i y H1 H2 hi hW hy => ?_) (fun H1 hW => ?_)
  · obtain ⟨rfl, hy⟩ := hy
    obtain ⟨hD, X⟩ := hW
    obtain ⟨t, ht, hyt⟩ := paired_get hxs hy
    obtain ⟨p, n, rfl, hp, hn, hkd⟩ := hyt.same (X.same nD)
    obtain ⟨e, he, hse, hev⟩ := (hx.mono fun z => same_sqt (X.same nD) z).dp
    have hsk : SeqAt.shaped (.str t.kd) = true := str_sh hkd
    walk_at "go"
    refine ⟨.str t.kd, e, .str _, he, hsk, hse, ?_⟩
    rw [hev]
    walk_at "go"
    refine ite2 (fun e => ?_) (fun e => ?_)
    · walk_at "go"
      refine ⟨_, hD, ?_, ?_, X.trans Ext.put⟩
      · unfold ivs
        rw [List.length_map, List.length_map]
        refine small1000 ?_
        have := List.length_filter_le (fun t => kdB x t.kd) (W.ths.take i)
        rw [List.length_take] at this
        omega
      · rw [upd_same, flt_step ht, e]
        unfold ivs
        rw [if_pos rfl, List.map_append, List.map_append]
        rfl
    · refine ⟨?_, X⟩
      rw [flt_step ht, if_neg e, List.append_nil]
      exact hD
  · obtain ⟨hD, X⟩ := hW
    rw [hl2, List.take_length] at hD
    have hD' : SqL K H1 D (ivs ((W.ths.filter fun t => kdB x t.kd).map Th.id)) := .of hD
    have S1 := X.same nD
    walk_at "go"
    refine .inl ⟨hD', ?_⟩
    refine fun p np => ?_
    generalize hH : upd H1 p _ = H2
    have S2 : Same H1 H2 := by rw [← hH]; exact same_new np
    have hp : SqT K H2 p (ivs ((W.ths.filter fun t => kdB x t.kd).map Th.id)) := by rw [← hH]; exact .of upd_same
    clear hH
    exact q p H2 (S1.trans S2) hp
theorem ok_thing_at (T : Tp K mg) : FnOk P w K mg base CX0 2 T.a_thing_at T.d_thing_at ["world", "place"] (sp_thing_at K T.C_World) := by
  refine T.F_thing_at.ok sc_thing_at ?len (fun cdv A outer s H vs Q E hr h => ?_)
  case len => intro vs H Q E h; obtain ⟨w, d, W, i, rfl, _⟩ := h; rfl
  obtain ⟨w, d, W, i, rfl, ⟨dx, l, a, hs, hl, hld, xs, ha, hxs⟩, n12, hm, q⟩ := h
  have hc_World := T.cl_World
  have ht_World_own_ids := T.t_World_own_ids
  have ht_World_own_luck := T.t_World_own_luck
  have ht_World_own_next_id := T.t_World_own_next_id
  have ht_World_own_things := T.t_World_own_things
  have ht_World_own_tick := T.t_World_own_tick
  unfold wsl at hs
  have hl2 := Paired.length hxs
  refine ⟨_, (pss_cons (ps_setLc (i := 2) (own := [("one", 3)]) (g := gName 3)  (by rfl) sc_thing_at.nd rfl rfl (sw_true rfl rfl rfl (by decide +kernel)) (pi_tup (pe_sl (pv 0))) (blkOk_by (own := [("one", 3)]) (N := N_thing_at) (sc := defScope s_thing_at) (by decide +kernel)) (fun _ _ _ _ _ => pg_name (i := 3) sc_thing_at.nd rfl (Or.inl rfl)) (fun _ _ _ _ _ => (pts_one (PW.pt (pw_and (pt_val (pe_call (ok_is_whole T) (hr.mono (by decide)) (by rfl) T.g_is_whole T.F_is_whole.kp T.b_is_whole .nil pass0 (pa_cons (pv 1) pa_nil))) (pw_and1 (pt_cmpR op_eq (pe_ix (r := rIxT K) ix_tup (pv 3) pe_int (fun _ _ => rfl)) (pv 1) (nomark _))))))) (fun _ _ _ _ _ => (pv 3)))
    (pss_one (ps_ret (pe_ifExp (pt_cmpR (op_neD hr.units) (pv 2) (pe_lst pa_nil) (nomark _)) (pe_ix ix_list (pv 2) pe_int (fun _ _ => rfl)) pe_non)))), ?_⟩
  walk_at "go"
  refine fun D nD => lc_it walk_tup (fun j H' => (∃ acc us, H' D = some (.lst acc) ∧ Paired (ThV K H') acc us ∧ us = (W.ths.take j).filter fun t => decide (t.id = i)) ∧ Ext D H H' ∧ Li1 D H') ⟨⟨[], [], upd_same, .nil, rfl⟩, Ext.new nD, ⟨_, upd_same⟩⟩ (fun _ _ _ hW => same_sqt (hW.2.1.same nD) ha) (fun j y H1 H2 hi hW hy => ?_) (fun H1 hW => ?_)
  · obtain ⟨rfl, hy⟩ := hy
    obtain ⟨⟨acc, us, hD, hP, hu⟩, X, _⟩ := hW
    obtain ⟨t, ht, hyt⟩ := paired_get hxs hy
    have hyt1 := hyt.same (X.same nD)
    obtain ⟨p, n, rfl, hp, hn, hkd⟩ := id hyt1
    have put : ∀ z, ∀ v u, ThV K H2 v u → ThV K (upd H2 D (.lst z)) v u := fun z v u h => h.mono fun q => sqt_put hD q
    have hlen : acc.length ≤ 12 := by
      rw [Paired.length hP, hu]
      have := List.length_filter_le (fun t => decide (t.id = i)) (W.ths.take j)
      rw [List.length_take] at this
      omega
    walk_at "go"
    refine ite2 (fun e => ?_) (fun e => ?_)
    · walk_at "go"
      refine ⟨_, hD, small1000 (by omega), ⟨⟨_, us ++ [t], upd_same, paired_app (L2.Paired.mapP hP (put _)) (.cons (put _ _ _ hyt1) .nil), ?_⟩, X.trans Ext.put, ⟨_, upd_same⟩⟩⟩
      rw [flt_step ht, if_pos (show decide (t.id = i) = true from decide_eq_true (by have := of_decide_eq_true e; injection this)), hu]
    · refine ⟨⟨acc, us, hD, hP, ?_⟩, X, ⟨_, hD⟩⟩
      rw [flt_step ht, if_neg (fun z => e (decide_eq_true (by rw [of_decide_eq_true z]))), List.append_nil, hu]
  · obtain ⟨⟨acc, us, hD, hP, hu⟩, X, _⟩ := hW
    rw [hl2, List.take_length] at hu
    have S1 := X.same nD
    have hDl : SqL K H1 D acc := .of hD
    obtain ⟨t0, ht0, hti⟩ := hm
    have hin : t0 ∈ us := by rw [hu]; exact List.mem_filter.mpr ⟨ht0, decide_eq_true hti⟩
    walk_at "go"
    refine fun p np => ?_
    generalize hH : upd H1 p _ = H2
    have S2 : Same H1 H2 := by rw [← hH]; exact same_new np
    have hpn : SqL K H2 p [] := by rw [← hH]; exact .of upd_same
    clear hH
    have hD2 := S2.seq hDl
    have hP2 := L2.Paired.mapP hP fun _ _ h => ThV.same h S2
    have hsh : SeqAt.shaped (.list (us.map thD)) = true := by
      have h1 := ths_dep us
      have e : (PyData.list (us.map thD)).depth ≤ 64 := by
        rw [PyData.depth]
        omega
      have h2 := ths_lay us (ths_ks hP2)
      simp only [SeqAt.shaped, PyData.canLay0, h2, Bool.true_and, decide_eq_true_eq]
      exact e
    refine ⟨.list (us.map thD), .list [], .lst hD2 (dp_thsAll hP2), .lst hpn .nil, hsh, rfl, ?_⟩
    cases hP2 with
    | nil => exact absurd hin (List.not_mem_nil)
    | @cons v u acc' us' h1 h2 =>
      rw [show PyData.eqv (.list ((u :: us').map thD)) (.list []) = false by simp [PyData.eqv, PyData.eqvAll]]
      walk_at "go"
      have hu1 : u ∈ W.ths ∧ decide (u.id = i) = true := List.mem_filter.mp (by rw [← hu]; exact List.mem_cons_self)
      exact q _ u H2 (S1.trans S2) h1 hu1.1 (of_decide_eq_true hu1.2)
theorem ok_known_thing (T : Tp K mg) : FnOk P w K mg base CX0 3 T.a_known_thing T.d_known_thing ["world", "place"] (sp_known_thing K T.C_World) := by
  refine T.F_known_thing.ok sc_known_thing ?len (fun cdv A outer s H vs Q E hr h => ?_)
  case len => intro vs H Q E h; obtain ⟨w, d, W, i, rfl, _⟩ := h; rfl
  obtain ⟨w, d, W, i, rfl, hW, n12, hm, q⟩ := h
  refine ⟨_, (pss_cons (ps_set (i := 2) sc_known_thing.nd rfl (Or.inl rfl) (pe_call (ok_thing_at T) (hr.mono (by decide)) (by rfl) T.g_thing_at T.F_thing_at.kp T.b_thing_at .nil pass0 (pa_cons (pv 0) (pa_cons (pv 1) pa_nil))))
    (pss_cons (ps_if (pt_cmp (pc_isN (pv 2)) rfl) (pss_one ps_never) pss_nil)
    (pss_one (ps_ret (pv 2))))), ?_⟩
  walk_at "go"
  refine fun v t H1 S1 hv hm hi => ?_
  obtain ⟨p, n, rfl, hp, hn, hkd⟩ := id hv
  walk_at "go"
  refine iteN (by intro z; cases z) ?_
  walk_at "go"
  exact q _ t H1 S1 hv hm hi
theorem ok_World_kind_of (T : Tp K mg) : FnOk P w K mg base CX0 4 T.a_World_kind_of T.d_World_kind_of ["self", "place"] (sp_World_kind_of K T.C_World) := by
  refine T.F_World_kind_of.ok sc_World_kind_of ?len (fun cdv A outer s H vs Q E hr h => ?_)
  case len => intro vs H Q E h; obtain ⟨w, d, W, i, rfl, _⟩ := h; rfl
  obtain ⟨w, d, W, i, rfl, hW, n12, hm, q⟩ := h
  refine ⟨_, (pss_one (ps_ret (pe_ix ix_tup (pe_call (ok_known_thing T) (hr.mono (by decide)) (by rfl) T.g_known_thing T.F_known_thing.kp T.b_known_thing .nil pass0 (pa_cons (pv 0) (pa_cons (pv 1) pa_nil))) pe_int (fun _ _ => rfl)))), ?_⟩
  walk_at "go"
  refine fun v t H1 S1 hv hm hi => ?_
  obtain ⟨p, n, rfl, hp, hn, hkd⟩ := id hv
  walk_at "go"
  exact q t H1 S1 hm hi
theorem ok_World_numbers (T : Tp K mg) : FnOk P w K mg base CX0 4 T.a_World_numbers T.d_World_numbers ["self", "place"] (sp_World_numbers K T.C_World) := by
  refine T.F_World_numbers.ok sc_World_numbers ?len (fun cdv A outer s H vs Q E hr h => ?_)
  case len => intro vs H Q E h; obtain ⟨w, d, W, i, rfl, _⟩ := h; rfl
  obtain ⟨w, d, W, i, rfl, hW, n12, hm, q⟩ := h
  refine ⟨_, (pss_one (ps_ret (pe_ix ix_tup (pe_call (ok_known_thing T) (hr.mono (by decide)) (by rfl) T.g_known_thing T.F_known_thing.kp T.b_known_thing .nil pass0 (pa_cons (pv 0) (pa_cons (pv 1) pa_nil))) pe_int (fun _ _ => rfl)))), ?_⟩
  walk_at "go"
  refine fun v t H1 S1 hv hm hi => ?_
  obtain ⟨p, n, rfl, hp, hn, hkd⟩ := id hv
  walk_at "go"
  exact q t n H1 S1 hm hi hn

end
section
variable {P : Program} {w : World} {K : PySem.W.Frag} {mg : Str → Option Value} {base : Heap}
/-! ### short tactics -/
local macro_rules | `(tactic| walk_at "side") => `(tactic| first
  | with_reducible assumption | (exact ⟨by omega, by omega⟩) | exact True.intro | rfl | exact Nat.le_of_ble_eq_true rfl | with_reducible exact Int.natCast_nonneg _ | decide | omega
  | ((with_reducible show KDct _ _ _ _ _); assumption)
  | ((with_reducible show SlX.SCls _ _); assumption)
  | ((with_reducible show SlX.Slot1 _ _ _ _ _); assumption)
  | ((with_reducible show ClsV _ _); first | exact .own _ | exact .ty _)
  | ((with_reducible show TyA _ _ _ _); assumption)
  | ((with_reducible show Eq (PySem.W.kitOne _ _ _) _); assumption)
  | ((with_reducible show Jd _ _ _); first | assumption | exact .int _ | exact .str _ | exact .non | exact .bl _)
  | ((with_reducible show SqT _ _ _ _); walk_at "sq") | ((with_reducible show SqL _ _ _ _); walk_at "sq")
  | exact Or.inl rfl | exact Or.inr rfl
  | (intro z; exact absurd (show 1 = 0 from z.1) (by decide)) | (intro z; exact absurd (show 2 = 0 from z.1) (by decide))
  | (exact Or.inl ⟨by omega, by omega⟩) | (exact Or.inr ⟨by omega, by omega⟩)
  | (exact ⟨by omega, by omega, by omega⟩) | (exact ⟨by decide, by decide, by decide⟩)
  | (exact wide_div (b := 250) (by omega) (by omega) (by decide) (by decide))
  | (exact wide_mul (a := 250) (b := 250) (by omega) (by omega) (by decide) (by decide) (by decide))
  | decide +kernel | (dsimp only; decide +kernel)
  | (exact wide_mul (a := 250) (b := 250) (by decide +kernel) (by decide +kernel) (by decide) (by decide) (by decide)))
local macro_rules | `(tactic| walk_at "idx") => `(tactic| first
  | assumption | exact atI_nat (j := 0) rfl | exact atI_nat (j := 1) rfl | exact atI_nat (j := 2) rfl | exact atI_nat (j := 3) rfl | exact atI_nat (j := 4) rfl | exact atI_nat (j := 5) rfl)
local macro_rules | `(tactic| walk_at "sq") => `(tactic| first
  | assumption | exact SqL.of upd_same | exact SqT.of upd_same | exact SqL.of (by assumption) | exact SqT.of (by assumption)
  | exact SqT.of (same_new (by assumption) _ _ upd_same) | exact SqL.of (same_new (by assumption) _ _ upd_same)
  | exact SqT.of (same_new (by assumption) _ _ (by assumption)) | exact SqL.of (same_new (by assumption) _ _ (by assumption))
  | exact SqT.of (same_new (by assumption) _ _ (same_new (by assumption) _ _ upd_same)) | exact SqL.of (same_new (by assumption) _ _ (same_new (by assumption) _ _ upd_same)))
local macro_rules | `(tactic| walk_at "dp") => `(tactic| first
  | exact .non | exact .bl _ | exact .int _ | exact .str _
  | (refine .tup (by walk_at "sq") ?_; walk_at "dps") | (refine .lst (by walk_at "sq") ?_; walk_at "dps"))
local macro_rules | `(tactic| walk_at "dps") => `(tactic| first
  | exact .nil | (refine .cons (by walk_at "dp") ?_; walk_at "dps"))
local macro_rules | `(tactic| walk_at "go") => `(tactic| repeat first
  | (show @ite _ _ _ _ _; with_reducible (first | refine iteT ?_ | refine iteF ?_ | refine iteNT ?_ | refine iteNF ?_))
  | ((fail_if_success (show @ite _ _ _ _ _)); first
    | refine And.intro (by walk_at "side") ?_
    | refine ⟨_, rfl, ?_⟩
    | refine ⟨_, _, rfl, rfl, ?_⟩
    | refine ⟨_, _, rfl, .inl (by walk_at "sq"), ?_⟩
    | refine ⟨_, _, rfl, .inr (by walk_at "sq"), ?_⟩
    | refine ⟨_, _, rfl, ?_⟩
    | refine ⟨_, _, _, rfl, ?_⟩
    | refine ⟨_, _, _, _, rfl, ?_⟩
    | refine ⟨_, _, _, _, _, rfl, ?_⟩
    | refine ⟨_, _, _, _, rfl, rfl, (by walk_at "sq"), (by walk_at "idx"), ?_⟩
    | refine ⟨_, _, _, _, _, rfl, .ty _, (by assumption), kit_ty (by assumption), ?_⟩
    | refine And.intro ⟨_, by walk_at "sq"⟩ ?_
    | refine .inl ⟨_, rfl, ?_⟩
    | refine .inr ⟨_, rfl, ?_⟩
    | (apply Exists.intro; (repeat apply Exists.intro); refine And.intro rfl ?_)))
local macro_rules | `(tactic| walk_at "unp2") => `(tactic| refine ⟨_, _, rfl, (by walk_at "sq"), rfl, _, _, rfl, _, _, rfl, rfl, ?_⟩)
local macro_rules | `(tactic| walk_at "unp3") => `(tactic| refine ⟨_, _, rfl, (by walk_at "sq"), rfl, _, _, rfl, _, _, rfl, _, _, rfl, rfl, ?_⟩)
local macro_rules | `(tactic| walk_at "pick") => `(tactic| refine ⟨_, _, _, rfl, SqL.of upd_same, Dice.ne (by assumption) (by assumption), Nat.zero_lt_succ _, Nat.le_of_ble_eq_true rfl, Dice.new (by assumption) (by assumption), ?_⟩)
local macro_rules | `(tactic| walk_at "tt") => `(tactic| first
  | refine iteY rfl ?_ | refine iteN (fun z => Bool.noConfusion (show false = true from z)) ?_)

theorem ok_made_world (T : Tp K mg) : FnOk P w K mg base CX0 10 T.a_made_world T.d_made_world ["tick", "next_id", "luck", "things"] (sp_made_world K T.C_World) := by
  refine T.F_made_world.ok sc_made_world ?len (fun cdv A outer s H vs Q E hr h => ?_)
  case len => intro vs H Q E h; obtain ⟨d, a, tk, nx, lu, ts, rfl, _⟩ := h; rfl
  obtain ⟨d, a, tk, nx, lu, ts, rfl, hth, n12, hli, q⟩ := h
  generalize hWd : (⟨tk, nx, lu, ts⟩ : Wd) = W at *
  obtain rfl : tk = W.tick := by rw [← hWd]
  obtain rfl : nx = W.nx := by rw [← hWd]
  obtain rfl : lu = W.luck := by rw [← hWd]
  obtain rfl : ts = W.ths := by rw [← hWd]
  clear hWd
  refine ⟨_, (pss_one (ps_ret (pe_make T.mk_World (ok_World_init T) (hr.mono (by decide)) (by rfl) T.g_World T.b_World_init .nil pass0 (pa_cons (pe_make T.mk_KnownParts (ok_KnownParts_init T) (hr.mono (by decide)) (by rfl) T.g_KnownParts T.b_KnownParts_init .nil pass0 (pa_cons (pv 0) (pa_cons (pv 1) (pa_cons (pv 2) (pa_cons (pv 3) pa_nil))))) (pa_cons pe_non (pa_cons pe_non (pa_cons pe_non pa_nil))))))), ?_⟩
  walk_at "go"
  refine fun k dk nk ndk ne => ?_
  refine ⟨_, _, _, _, _, _, rfl, upd_same, ne, fun H2 B2 h2 => ⟨rfl, ?_⟩⟩
  have S2 : Same H H2 := fun b o e => B2 b o (ne_of_none e nk) (ne_of_none e ndk) (by rw [upd_ne (ne_of_none e nk), upd_ne (ne_of_none e ndk)]; exact e)
  have hk : KAt T.C_KnownParts H2 k (.int W.luck) (.int W.nx) (.ref a) (.int W.tick) := ⟨dk, h2⟩
  walk_at "go"
  refine fun x dx nx ndx ne2 => ?_
  have S3 : Same H2 (upd (upd H2 dx (.own x)) x (.ins T.C_World dx [])) := fun b o e => by rw [upd_ne (ne_of_none e nx), upd_ne (ne_of_none e ndx)]; exact e
  refine ⟨x, dx, d, _, W, rfl, rfl, upd_same, by rw [upd_ne ne2, upd_same], ne2, ⟨a, (hth.same S2).same S3, n12, .inr ⟨k, rfl, hk.same S3⟩⟩, (hli.same S2).same S3, fun H4 B4 hW => ⟨rfl, ?_⟩⟩
  exact q x H4 (fun b o e => B4 b o (ne_of_none (S2 _ _ e) nx) (ne_of_none (S2 _ _ e) ndx) (S3 _ _ (S2 _ _ e))) hW
theorem ok_with_things (T : Tp K mg) : FnOk P w K mg base CX0 11 T.a_with_things T.d_with_things ["world", "things"] (sp_with_things K T.C_World) := by
  refine T.F_with_things.ok sc_with_things ?len (fun cdv A outer s H vs Q E hr h => ?_)
  case len => intro vs H Q E h; obtain ⟨w, d, a, W, ts, rfl, _⟩ := h; rfl
  obtain ⟨w, d, a, W, ts, rfl, ⟨dx, l, b, hs, hl, hld, hth⟩, hts, n12, hli, q⟩ := h
  have hc_World := T.cl_World
  have ht_World_own_ids := T.t_World_own_ids
  have ht_World_own_luck := T.t_World_own_luck
  have ht_World_own_next_id := T.t_World_own_next_id
  have ht_World_own_things := T.t_World_own_things
  have ht_World_own_tick := T.t_World_own_tick
  unfold wsl at hs
  refine ⟨_, (pss_one (ps_ret (pe_call (ok_made_world T) (hr.mono (by decide)) (by rfl) T.g_made_world T.F_made_world.kp T.b_made_world .nil pass0 (pa_cons (pe_sl (pv 0)) (pa_cons (pe_sl (pv 0)) (pa_cons (pe_sl (pv 0)) (pa_cons (pv 1) pa_nil))))))), ?_⟩
  walk_at "go"
  exact q
theorem ok_made_in (T : Tp K mg) : FnOk P w K mg base CX0 11 T.a_made_in T.d_made_in ["world", "kind", "numbers"] (sp_made_in K T.C_World) := by
  refine T.F_made_in.ok sc_made_in ?len (fun cdv A outer s H vs Q E hr h => ?_)
  case len => intro vs H Q E h; obtain ⟨w, d, n, W, kd, ns, rfl, _⟩ := h; rfl
  obtain ⟨w, d, n, W, kd, ns, rfl, hW, n12, hkd, hn, hli, q⟩ := h
  obtain ⟨dx, l, a, hs, hl, hld, xs, ha, hxs⟩ := id hW
  have hl2 := Paired.length hxs
  have hc_World := T.cl_World
  have ht_World_own_ids := T.t_World_own_ids
  have ht_World_own_luck := T.t_World_own_luck
  have ht_World_own_next_id := T.t_World_own_next_id
  have ht_World_own_things := T.t_World_own_things
  have ht_World_own_tick := T.t_World_own_tick
  unfold wsl at hs
  refine ⟨_, (pss_cons (ps_if (pt_cmpR op_ge (pe_callB call_len_seq (by rfl) T.m_len (by decide +kernel) (pa_cons (pe_sl (pv 0)) pa_nil)) (pe_glob (by rfl) T.c_MAX_THINGS T.r_MAX_THINGS) (nomark _)) (pss_one (ps_ret (pe_tup (pa_cons (pv 0) (pa_cons pe_non pa_nil))))) pss_nil)
    (pss_cons (ps_set (i := 3) sc_made_in.nd rfl (Or.inl rfl) (pe_sl (pv 0)))
    (pss_cons (ps_set (i := 4) sc_made_in.nd rfl (Or.inl rfl) (pe_tup (StX.pa_star (pe_sl (pv 0)) (pa_cons (pe_tup (pa_cons (pv 3) (pa_cons (pv 1) (pa_cons (pv 2) pa_nil)))) pa_nil))))
    (pss_one (ps_ret (pe_tup (pa_cons (pe_call (ok_made_world T) (hr.mono (by decide)) (by rfl) T.g_made_world T.F_made_world.kp T.b_made_world .nil pass0 (pa_cons (pe_sl (pv 0)) (pa_cons (pe_op op_add (pv 3) pe_int) (pa_cons (pe_sl (pv 0)) (pa_cons (pv 4) pa_nil))))) (pa_cons (pv 3) pa_nil)))))))), ?_⟩
  walk_at "go"
  refine ite2 (fun e => ?_) (fun e => ?_)
  · have e := of_decide_eq_true e
    walk_at "go"
    refine fun p np => ?_
    generalize hH : upd H p _ = H1
    have S1 : Same H H1 := by rw [← hH]; exact same_new np
    have hp : SqT K H1 p [.ref w, .non] := by rw [← hH]; exact .of upd_same
    clear hH
    exact q p H1 S1 (.inl ⟨by omega, hp⟩)
  · have e : ¬ ((12 : Int) ≤ (xs.length : Int)) := fun z => e (decide_eq_true z)
    walk_at "go"
    refine fun p1 np1 => ?_
    generalize hH : upd H p1 _ = H1
    have S1 : Same H H1 := by rw [← hH]; exact same_new np1
    have hp1 : SqT K H1 p1 [.int W.nx, .str kd, .ref n] := by rw [← hH]; exact .of upd_same
    clear hH
    have ha1 := same_sqt S1 ha
    have hth1 : Paired (ThV K H1) (xs ++ [.ref p1]) (W.ths ++ [⟨W.nx, kd, ns⟩]) := paired_app (L2.Paired.mapP hxs fun _ _ h => ThV.same h S1) (.cons ⟨p1, n, rfl, hp1, same_sqt S1 hn, hkd⟩ .nil)
    have z1 : (xs ++ [V.ref p1]).length ≤ sizeLine := by
      rw [List.length_append, List.length_singleton]
      exact Nat.le_of_lt (small1000 (by omega))
    walk_at "go"
    refine fun p2 np2 => ?_
    generalize hH : upd H1 p2 _ = H2
    have S2 : Same H1 H2 := by rw [← hH]; exact same_new np2
    have hp2 : SqT K H2 p2 (xs ++ [V.ref p1]) := by rw [← hH]; exact .of upd_same
    clear hH
    have S12 := S1.trans S2
    replace hs := slt_same hs S12
    have hts2 : Ths K H2 p2 (W.ths ++ [⟨W.nx, kd, ns⟩]) := ⟨_, hp2, L2.Paired.mapP hth1 fun _ _ h => ThV.same h S2⟩
    have hli2 := hli.same S12
    have z2 : (W.ths ++ [(⟨W.nx, kd, ns⟩ : Th)]).length ≤ 12 := by
      rw [List.length_append, List.length_singleton]
      omega
    walk_at "go"
    refine fun u H3 S3 hu => ?_
    walk_at "go"
    refine fun p3 np3 => ?_
    generalize hH : upd H3 p3 _ = H4
    have S4 : Same H3 H4 := by rw [← hH]; exact same_new np3
    have hp3 : SqT K H4 p3 [.ref u, .int W.nx] := by rw [← hH]; exact .of upd_same
    clear hH
    exact q p3 H4 (S12.trans (S3.trans S4)) (.inr ⟨by omega, u, hp3, hu.same S4⟩)
theorem ok_dropped_in (T : Tp K mg) : FnOk P w K mg base CX0 12 T.a_dropped_in T.d_dropped_in ["world", "place"] (sp_dropped_in K T.C_World) := by
  refine T.F_dropped_in.ok sc_dropped_in ?len (fun cdv A outer s H vs Q E hr h => ?_)
  case len => intro vs H Q E h; obtain ⟨w, d, W, i, rfl, _⟩ := h; rfl
  obtain ⟨w, d, W, i, rfl, hW, n12, hli, q⟩ := h
  obtain ⟨dx, l, a, hs, hl, hld, xs, ha, hxs⟩ := id hW
  have hl2 := Paired.length hxs
  have hc_World := T.cl_World
  have ht_World_own_ids := T.t_World_own_ids
  have ht_World_own_luck := T.t_World_own_luck
  have ht_World_own_next_id := T.t_World_own_next_id
  have ht_World_own_things := T.t_World_own_things
  have ht_World_own_tick := T.t_World_own_tick
  unfold wsl at hs
  refine ⟨_, (pss_one (ps_ret (pe_call (ok_with_things T) (hr.mono (by decide)) (by rfl) T.g_with_things T.F_with_things.kp T.b_with_things .nil pass0 (pa_cons (pv 0) (pa_cons (pe_callTy call_tuple_of (by rfl) T.m_tuple (by decide +kernel) (pa_cons (pe_lc (own := [("one", 2)]) (g := gName 2)  (by rfl) sc_dropped_in.nd (pi_tup (pe_sl (pv 0))) (blkOk_by (own := [("one", 2)]) (N := N_dropped_in) (sc := defScope s_dropped_in) (by decide +kernel)) (fun _ _ _ _ _ => pg_name (i := 2) sc_dropped_in.nd rfl (Or.inl rfl)) (fun _ _ _ _ _ => (pts_one (pt_cmpR op_ne (pe_ix (r := rIxT K) ix_tup (pv 2) pe_int (fun _ _ => rfl)) (pv 1) (nomark _)))) (fun _ _ _ _ _ => (pv 2))) pa_nil)) pa_nil))))), ?_⟩
  walk_at "go"
  refine fun D nD => lc_it walk_tup (fun j H' => (∃ acc us, H' D = some (.lst acc) ∧ Paired (ThV K H') acc us ∧ us = (W.ths.take j).filter fun t => t.id != i) ∧ Ext D H H' ∧ Li1 D H') ⟨⟨[], [], upd_same, .nil, rfl⟩, Ext.new nD, ⟨_, upd_same⟩⟩ (fun _ _ _ hW => same_sqt (hW.2.1.same nD) ha) (fun j y H1 H2 hi hW hy => ?_) (fun H1 hW1 => ?_)
  · obtain ⟨rfl, hy⟩ := hy
    obtain ⟨⟨acc, us, hD, hP, hu⟩, X, _⟩ := hW
    obtain ⟨t, ht, hyt⟩ := paired_get hxs hy
    have hyt1 := hyt.same (X.same nD)
    obtain ⟨p, n, rfl, hp, hn, hkd⟩ := id hyt1
    have put : ∀ z, ∀ v u, ThV K H2 v u → ThV K (upd H2 D (.lst z)) v u := fun z v u h => h.mono fun q => sqt_put hD q
    have hlen : acc.length ≤ 12 := by
      rw [Paired.length hP, hu]
      have := List.length_filter_le (fun t => t.id != i) (W.ths.take j)
      rw [List.length_take] at this
      omega
    walk_at "go"
    refine ite2 (fun e => ?_) (fun e => ?_)
    · have e1 : (t.id != i) = true := by
        rw [Bool.not_eq_true'] at e
        have := of_decide_eq_false e
        simp only [bne_iff_ne]
        intro z
        exact this (by rw [z])
      walk_at "go"
      refine ⟨_, hD, small1000 (by omega), ⟨⟨_, us ++ [t], upd_same, paired_app (L2.Paired.mapP hP (put _)) (.cons (put _ _ _ hyt1) .nil), ?_⟩, X.trans Ext.put, ⟨_, upd_same⟩⟩⟩
      rw [flt_step ht, if_pos e1, hu]
    · have e1 : ¬ (t.id != i) = true := by
        rw [Bool.not_eq_true', Bool.not_eq_false] at e
        have := of_decide_eq_true e
        injection this with this
        simp only [bne_iff_ne]
        exact fun z => z this
      refine ⟨⟨acc, us, hD, hP, ?_⟩, X, ⟨_, hD⟩⟩
      rw [flt_step ht, if_neg e1, List.append_nil, hu]
  · obtain ⟨⟨acc, us, hD, hP, hu⟩, X, _⟩ := hW1
    rw [hl2, List.take_length] at hu
    have S1 := X.same nD
    have hDl : SqL K H1 D acc := .of hD
    walk_at "go"
    refine .inl ⟨hDl, ?_⟩
    refine fun p2 np2 => ?_
    generalize hH : upd H1 p2 _ = H2
    have S2 : Same H1 H2 := by rw [← hH]; exact same_new np2
    have hp2 : SqT K H2 p2 acc := by rw [← hH]; exact .of upd_same
    clear hH
    have hW2 := (hW.same S1).same S2
    have hts : Ths K H2 p2 (W.ths.filter fun t => t.id != i) := ⟨acc, hp2, by rw [← hu]; exact L2.Paired.mapP hP fun _ _ h => ThV.same h S2⟩
    have z2 : (W.ths.filter fun t => t.id != i).length ≤ 12 := Nat.le_trans (List.length_filter_le ..) n12
    have hli2 := (hli.same S1).same S2
    walk_at "go"
    exact fun u H3 S3 hu => q u H3 (S1.trans (S2.trans S3)) hu
theorem ok_put_in (T : Tp K mg) : FnOk P w K mg base CX0 1 T.a_put_in T.d_put_in ["numbers", "place", "number"] (sp_put_in K) := by
  refine T.F_put_in.ok sc_put_in ?len (fun cdv A outer s H vs Q E hr h => ?_)
  case len => intro vs H Q E h; obtain ⟨n, ns, j, k, rfl, _⟩ := h; rfl
  obtain ⟨n, ns, j, k, rfl, hn, hj, h8, q⟩ := h
  have hln : (ivs ns).length = ns.length := List.length_map ..
  refine ⟨_, (pss_one (ps_ret (pe_tup (StX.pa_star (pe_slice sl_tupA (pv 0) po_none (po_some (pv 1))) (pa_cons (pv 2) (StX.pa_star (pe_slice sl_tupA (pv 0) (po_some (pe_op op_add (pv 1) pe_int)) po_none) pa_nil)))))), ?_⟩
  walk_at "go"
  refine ⟨fun z => absurd z.2 (by rw [HT.sIx_nat, hln]; omega), fun _ => ?_⟩
  refine fun p1 np1 => ?_
  generalize hH : upd H p1 _ = H1
  have S1 : Same H H1 := by rw [← hH]; exact same_new np1
  have hp1 : SqT K H1 p1 (cutV (ivs ns) none (some (j : Int))) := by rw [← hH]; exact .of upd_same
  clear hH
  have hn1 := same_sqt S1 hn
  walk_at "go"
  refine ⟨fun z => absurd z.1 ?_, fun _ => ?_⟩
  · rw [show ((j : Int) + 1) = ((j + 1 : Nat) : Int) by omega, HT.sIx_nat, hln]
    omega
  refine fun p2 np2 => ?_
  generalize hH : upd H1 p2 _ = H2
  have S2 : Same H1 H2 := by rw [← hH]; exact same_new np2
  have hp2 : SqT K H2 p2 (cutV (ivs ns) (some ((j : Int) + 1)) none) := by rw [← hH]; exact .of upd_same
  clear hH
  have hp12 := same_sqt S2 hp1
  have el : cutV (ivs ns) none (some (j : Int)) ++ (V.int k :: cutV (ivs ns) (some ((j : Int) + 1)) none) = ivs (putN ns j k) := by
    rw [show ((j : Int) + 1) = ((j + 1 : Nat) : Int) by omega, cut_to, cut_from]
    unfold putN ivs
    rw [List.map_append, List.map_cons, List.map_take, List.map_drop]
  have z1 : (cutV (ivs ns) none (some (j : Int)) ++ (V.int k :: (cutV (ivs ns) (some ((j : Int) + 1)) none ++ []))).length ≤ sizeLine := by
    rw [List.append_nil, el]
    unfold putN ivs
    rw [List.length_map, List.length_append, List.length_cons, List.length_take, List.length_drop]
    exact Nat.le_of_lt (small1000 (by omega))
  walk_at "go"
  refine fun p3 np3 => ?_
  generalize hH : upd H2 p3 _ = H3
  have S3 : Same H2 H3 := by rw [← hH]; exact same_new np3
  have hp3 : SqT K H3 p3 (cutV (ivs ns) none (some (j : Int)) ++ V.int k :: (cutV (ivs ns) (some ((j : Int) + 1)) none ++ [])) := by rw [← hH]; exact .of upd_same
  clear hH
  rw [List.append_nil, el] at hp3
  exact q p3 H3 (S1.trans (S2.trans S3)) hp3
theorem ok_changed_in (T : Tp K mg) : FnOk P w K mg base CX0 12 T.a_changed_in T.d_changed_in ["world", "thing", "place", "number"] (sp_changed_in K T.C_World) := by
  refine T.F_changed_in.ok sc_changed_in ?len (fun cdv A outer s H vs Q E hr h => ?_)
  case len => intro vs H Q E h; obtain ⟨w, d, W, i, j, k, rfl, _⟩ := h; rfl
  obtain ⟨w, d, W, i, j, k, rfl, hW, n12, hj, h8, hli, q⟩ := h
  obtain ⟨dx, l, a, hs, hl, hld, xs, ha, hxs⟩ := id hW
  have hl2 := Paired.length hxs
  have hc_World := T.cl_World
  have ht_World_own_ids := T.t_World_own_ids
  have ht_World_own_luck := T.t_World_own_luck
  have ht_World_own_next_id := T.t_World_own_next_id
  have ht_World_own_things := T.t_World_own_things
  have ht_World_own_tick := T.t_World_own_tick
  unfold wsl at hs
  refine ⟨_, (pss_cons (ps_setLc (i := 4) (own := [("one", 5)]) (g := gName 5) (tt := tYes) (by rfl) sc_changed_in.nd rfl rfl (sw_true rfl rfl rfl (by decide +kernel)) (pi_tup (pe_sl (pv 0))) (blkOk_by (own := [("one", 5)]) (N := N_changed_in) (sc := defScope s_changed_in) (by decide +kernel)) (fun _ _ _ _ _ => pg_name (i := 5) sc_changed_in.nd rfl (Or.inl rfl)) (fun _ _ _ _ _ => pts_nil) (fun _ _ _ _ _ => (pe_ifExp (pt_cmpR op_eq (pe_ix (r := rIxT K) ix_tup (pv 5) pe_int (fun _ _ => rfl)) (pv 1) (nomark _)) (pe_tup (show PA _ _ (StX.tStar K _ _) from StX.pa_star (pe_slice (show SlR _ (rSlA K) from sl_tupA) (pv 5) po_none (po_some pe_int)) (pa_cons (pe_call (ok_put_in T) (hr.mono (by decide)) (by rfl) T.g_put_in T.F_put_in.kp T.b_put_in .nil pass0 (pa_cons (pe_ix (r := rIxT K) ix_tup (pv 5) pe_int (fun _ _ => rfl)) (pa_cons (pv 2) (pa_cons (pv 3) pa_nil)))) pa_nil))) (pv 5))))
    (pss_one (ps_ret (pe_call (ok_with_things T) (hr.mono (by decide)) (by rfl) T.g_with_things T.F_with_things.kp T.b_with_things .nil pass0 (pa_cons (pv 0) (pa_cons (pe_callTy call_tuple_of (by rfl) T.m_tuple (by decide +kernel) (pa_cons (pv 4) pa_nil)) pa_nil)))))), ?_⟩
  walk_at "go"
  refine fun D nD => lc_it walk_tup (fun m H' => (∃ acc us, H' D = some (.lst acc) ∧ Paired (ThV K H') acc us ∧ us = (W.ths.take m).map (chgT i j k)) ∧ Ext D H H' ∧ Li1 D H') ⟨⟨[], [], upd_same, .nil, rfl⟩, Ext.new nD, ⟨_, upd_same⟩⟩ (fun _ _ _ hW => same_sqt (hW.2.1.same nD) ha) (fun m y H1 H2 hi hW hy => ?_) (fun H1 hW1 => ?_)
  · obtain ⟨rfl, hy⟩ := hy
    obtain ⟨⟨acc, us, hD, hP, hu⟩, X, _⟩ := hW
    obtain ⟨t, ht, hyt⟩ := paired_get hxs hy
    have hyt1 := hyt.same (X.same nD)
    have htm := List.mem_of_getElem? ht
    obtain ⟨p, n, rfl, hp, hn, hkd⟩ := id hyt1
    have hlen : acc.length ≤ 12 := by
      rw [Paired.length hP, hu, List.length_map, List.length_take]
      omega
    have eu : (W.ths.take (m + 1)).map (chgT i j k) = us ++ [chgT i j k t] := by
      rw [List.take_add_one, ht, List.map_append, hu]
      rfl
    walk_at "go"
    refine ite2 (fun e => ?_) (fun e => ?_)
    · have e := of_decide_eq_true e
      injection e with e
      have hjt := hj t htm e
      have h8t := h8 t htm
      have ec : chgT i j k t = ⟨t.id, t.kd, putN t.ns j k⟩ := if_pos e
      walk_at "go"
      refine ⟨fun z => absurd z.2 (by show ¬ (2 : Nat) = 3; decide), fun _ => ?_⟩
      refine fun p1 np1 => ?_
      generalize hH : upd H2 p1 _ = H3
      have S3 : Same H2 H3 := by rw [← hH]; exact same_new np1
      have hp1 : SqT K H3 p1 [.int t.id, .str t.kd] := by rw [← hH]; exact .of upd_same
      clear hH
      have hn3 := same_sqt S3 hn
      have hp3 := same_sqt S3 hp
      walk_at "go"
      refine fun p2 H4 S4 hp2 => ?_
      have hp14 := same_sqt S4 hp1
      walk_at "go"
      refine fun p3 np3 => ?_
      generalize hH : upd H4 p3 _ = H5
      have S5 : Same H4 H5 := by rw [← hH]; exact same_new np3
      have hp5 : SqT K H5 p3 [.int t.id, .str t.kd, .ref p2] := by rw [← hH]; exact .of upd_same
      clear hH
      have S25 := S3.trans (S4.trans S5)
      have hD5 := S25 _ _ hD
      have hp25 := same_sqt S5 hp2
      have hP5 := L2.Paired.mapP hP fun _ _ h => ThV.same h S25
      have put : ∀ z, ∀ v u, ThV K H5 v u → ThV K (upd H5 D (.lst z)) v u := fun z v u h => h.mono fun q => sqt_put hD5 q
      refine ⟨_, hD5, small1000 (by omega), ⟨⟨_, us ++ [chgT i j k t], upd_same, paired_app (L2.Paired.mapP hP5 (put _)) (.cons (put _ _ _ ?_) .nil), eu.symm⟩, (X.trans (.of S25)).trans Ext.put, ⟨_, upd_same⟩⟩⟩
      rw [ec]
      exact ⟨p3, p2, rfl, hp5, hp25, hkd⟩
    · have ec : chgT i j k t = t := if_neg fun z => e (decide_eq_true (by rw [z]))
      walk_at "go"
      have put : ∀ z, ∀ v u, ThV K H2 v u → ThV K (upd H2 D (.lst z)) v u := fun z v u h => h.mono fun q => sqt_put hD q
      refine ⟨_, hD, small1000 (by omega), ⟨⟨_, us ++ [chgT i j k t], upd_same, paired_app (L2.Paired.mapP hP (put _)) (.cons (put _ _ _ (by rw [ec]; exact hyt1)) .nil), eu.symm⟩, X.trans Ext.put, ⟨_, upd_same⟩⟩⟩
  · obtain ⟨⟨acc, us, hD, hP, hu⟩, X, _⟩ := hW1
    rw [hl2, List.take_length] at hu
    have S1 := X.same nD
    have hDl : SqL K H1 D acc := .of hD
    walk_at "go"
    refine .inl ⟨hDl, ?_⟩
    refine fun p2 np2 => ?_
    generalize hH : upd H1 p2 _ = H2
    have S2 : Same H1 H2 := by rw [← hH]; exact same_new np2
    have hp2 : SqT K H2 p2 acc := by rw [← hH]; exact .of upd_same
    clear hH
    have hW2 := (hW.same S1).same S2
    have hts : Ths K H2 p2 (W.ths.map (chgT i j k)) := ⟨acc, hp2, by rw [← hu]; exact L2.Paired.mapP hP fun _ _ h => ThV.same h S2⟩
    have z2 : (W.ths.map (chgT i j k)).length ≤ 12 := by rw [List.length_map]; exact n12
    have hli2 := (hli.same S1).same S2
    walk_at "go"
    exact fun u H3 S3 hu => q u H3 (S1.trans (S2.trans S3)) hu
theorem ok_require_any_world (T : Tp K mg) : FnOk P w K mg base CX0 1 T.a_require_any_world T.d_require_any_world ["value"] (sp_require_any_world K T.C_World) := by
  refine T.F_require_any_world.ok sc_require_any_world ?len (fun cdv A outer s H vs Q E hr h => ?_)
  case len => intro vs H Q E h; obtain ⟨w, d, W, rfl, _⟩ := h; rfl
  obtain ⟨w, d, W, rfl, ⟨dx, l, a, hs, hl, hld, hth⟩, q⟩ := h
  have hty : TyA K H (.ref w) (.ref T.C_World) := .sl hs T.cl_World T.is_World
  have hk4 : PySem.W.kitOne K (.ref T.C_World) (.ref T.C_World) = some true := kit_self
  refine ⟨_, (pss_one (ps_if (pt_not (pt_val (pe_callB call_isA (by rfl) T.m_isinstance (by decide +kernel) (pa_cons (pv 0) (pa_cons (pe_glob (v := .ref T.C_World) (by rfl) T.g_World rfl) pa_nil))))) (pss_one ps_never) pss_nil)), ?_⟩
  walk_at "go"
  exact q
theorem ok_made (T : Tp K mg) : FnOk P w K mg base CX0 12 T.a_made T.d_made ["world", "kind", "numbers"] (sp_made K T.C_World) := by
  refine T.F_made.ok sc_made ?len (fun cdv A outer s H vs Q E hr h => ?_)
  case len => intro vs H Q E h; obtain ⟨w, d, n, W, kd, ns, rfl, _⟩ := h; rfl
  obtain ⟨w, d, n, W, kd, ns, rfl, hW, n12, hkd, hn, n1, n8, hns, hli, q⟩ := h
  have hks : PyData.strOk kd = true := strOk_of hkd.2.2
  refine ⟨_, (pss_cons (ps_expr (pe_call (ok_require_any_world T) (hr.mono (by decide)) (by rfl) T.g_require_any_world T.F_require_any_world.kp T.b_require_any_world .nil pass0 (pa_cons (pv 0) pa_nil)))
    (pss_cons (ps_if (pt_not (pt_val (pe_call (ok_is_name_in T) (hr.mono (by decide)) (by rfl) T.g_is_name_in T.F_is_name_in.kp T.b_is_name_in .nil pass0 (pa_cons (pv 1) pa_nil)))) (pss_one ps_never) pss_nil)
    (pss_cons (ps_if (pt_not (pt_val (pe_call (ok_are_numbers_in T) (hr.mono (by decide)) (by rfl) T.g_are_numbers_in T.F_are_numbers_in.kp T.b_are_numbers_in .nil pass0 (pa_cons (pv 2) pa_nil)))) (pss_one ps_never) pss_nil)
    (pss_one (ps_ret (pe_call (ok_made_in T) (hr.mono (by decide)) (by rfl) T.g_made_in T.F_made_in.kp T.b_made_in .nil pass0 (pa_cons (pv 0) (pa_cons (pv 1) (pa_cons (pv 2) pa_nil))))))))), ?_⟩
  walk_at "go"
  refine fun H1 S1 => ?_
  have hn1 := same_sqt S1 hn
  walk_at "go"
  refine fun H2 S2 => ?_
  have hn2 := same_sqt S2 hn1
  have S12 := S1.trans S2
  have hW2 := hW.same S12
  have hli2 := hli.same S12
  walk_at "go"
  exact fun p H3 S3 h => q p H3 (S12.trans S3) h
theorem ok_dropped (T : Tp K mg) : FnOk P w K mg base CX0 13 T.a_dropped T.d_dropped ["world", "place"] (sp_dropped K T.C_World) := by
  refine T.F_dropped.ok sc_dropped ?len (fun cdv A outer s H vs Q E hr h => ?_)
  case len => intro vs H Q E h; obtain ⟨w, d, W, i, rfl, _⟩ := h; rfl
  obtain ⟨w, d, W, i, rfl, hW, n12, hm, hli, q⟩ := h
  refine ⟨_, (pss_cons (ps_expr (pe_call (ok_require_any_world T) (hr.mono (by decide)) (by rfl) T.g_require_any_world T.F_require_any_world.kp T.b_require_any_world .nil pass0 (pa_cons (pv 0) pa_nil)))
    (pss_cons (ps_expr (pe_call (ok_known_thing T) (hr.mono (by decide)) (by rfl) T.g_known_thing T.F_known_thing.kp T.b_known_thing .nil pass0 (pa_cons (pv 0) (pa_cons (pv 1) pa_nil))))
    (pss_one (ps_ret (pe_call (ok_dropped_in T) (hr.mono (by decide)) (by rfl) T.g_dropped_in T.F_dropped_in.kp T.b_dropped_in .nil pass0 (pa_cons (pv 0) (pa_cons (pv 1) pa_nil))))))), ?_⟩
  walk_at "go"
  refine fun v t H1 S1 hv _ _ => ?_
  have hW1 := hW.same S1
  have hli1 := hli.same S1
  walk_at "go"
  exact fun u H2 S2 h => q u H2 (S1.trans S2) h
theorem ok_changed (T : Tp K mg) : FnOk P w K mg base CX0 13 T.a_changed T.d_changed ["world", "thing", "place", "number"] (sp_changed K T.C_World) := by
  refine T.F_changed.ok sc_changed ?len (fun cdv A outer s H vs Q E hr h => ?_)
  case len => intro vs H Q E h; obtain ⟨w, d, W, i, j, k, rfl, _⟩ := h; rfl
  obtain ⟨w, d, W, i, j, k, rfl, hW, n12, hm, hj, h8, hk, hli, q⟩ := h
  refine ⟨_, (pss_cons (ps_expr (pe_call (ok_require_any_world T) (hr.mono (by decide)) (by rfl) T.g_require_any_world T.F_require_any_world.kp T.b_require_any_world .nil pass0 (pa_cons (pv 0) pa_nil)))
    (pss_cons (ps_set (i := 4) sc_changed.nd rfl (Or.inl rfl) (pe_ix ix_tup (pe_call (ok_known_thing T) (hr.mono (by decide)) (by rfl) T.g_known_thing T.F_known_thing.kp T.b_known_thing .nil pass0 (pa_cons (pv 0) (pa_cons (pv 1) pa_nil))) pe_int (fun _ _ => rfl)))
    (pss_cons (ps_if (pt_not (pt_val (pe_call (ok_is_from T) (hr.mono (by decide)) (by rfl) T.g_is_from T.F_is_from.kp T.b_is_from .nil pass0 (pa_cons (pv 2) (pa_cons pe_int (pa_cons (pe_op op_sub (pe_callB call_len_seq (by rfl) T.m_len (by decide +kernel) (pa_cons (pv 4) pa_nil)) pe_int) pa_nil)))))) (pss_one ps_never) pss_nil)
    (pss_cons (ps_if (pt_not (pt_val (pe_call (ok_is_number T) (hr.mono (by decide)) (by rfl) T.g_is_number T.F_is_number.kp T.b_is_number .nil pass0 (pa_cons (pv 3) pa_nil)))) (pss_one ps_never) pss_nil)
    (pss_one (ps_ret (pe_call (ok_changed_in T) (hr.mono (by decide)) (by rfl) T.g_changed_in T.F_changed_in.kp T.b_changed_in .nil pass0 (pa_cons (pv 0) (pa_cons (pv 1) (pa_cons (pv 2) (pa_cons (pv 3) pa_nil))))))))))), ?_⟩
  walk_at "go"
  refine fun v t H1 S1 hv htm hti => ?_
  have hW1 := hW.same S1
  have hli1 := hli.same S1
  obtain ⟨p, n, rfl, hp, hn, hkd⟩ := id hv
  have hjt := hj t htm hti
  have hln : (ivs t.ns).length = t.ns.length := List.length_map ..
  have ef : fromB (.int (j : Int)) 0 (((ivs t.ns).length : Int) - 1) = true := by
    simp only [fromB, Bool.and_eq_true, decide_eq_true_eq]
    omega
  walk_at "go"
  rw [ef]
  walk_at "go"
  exact fun u H2 S2 h => q u H2 (S1.trans S2) h

end
section
variable {P : Program} {w : World} {K : PySem.W.Frag} {mg : Str → Option Value} {base : Heap}
/-! ### short tactics -/
local macro_rules | `(tactic| walk_at "side") => `(tactic| first
  | with_reducible assumption | (exact ⟨by omega, by omega⟩) | exact True.intro | rfl | exact Nat.le_of_ble_eq_true rfl | with_reducible exact Int.natCast_nonneg _ | decide | omega
  | (exact Or.inl ⟨by omega, by omega⟩) | (exact Or.inr ⟨by omega, by omega⟩)
  | (exact ⟨by omega, by omega, by omega⟩) | (exact ⟨by decide, by decide, by decide⟩)
  | (exact wide_div (b := 250) (by omega) (by omega) (by decide) (by decide))
  | (exact wide_mul (a := 250) (b := 250) (by omega) (by omega) (by decide) (by decide) (by decide))
  | decide +kernel | (dsimp only; decide +kernel)
  | (exact wide_mul (a := 250) (b := 250) (by decide +kernel) (by decide +kernel) (by decide) (by decide) (by decide)))
local macro_rules | `(tactic| walk_at "idx") => `(tactic| first
  | assumption | exact atI_nat (j := 0) rfl | exact atI_nat (j := 1) rfl | exact atI_nat (j := 2) rfl | exact atI_nat (j := 3) rfl | exact atI_nat (j := 4) rfl | exact atI_nat (j := 5) rfl)
local macro_rules | `(tactic| walk_at "sq") => `(tactic| first
  | assumption | exact SqL.of upd_same | exact SqT.of upd_same | exact SqL.of (by assumption) | exact SqT.of (by assumption)
  | exact SqT.of (same_new (by assumption) _ _ upd_same) | exact SqL.of (same_new (by assumption) _ _ upd_same)
  | exact SqT.of (same_new (by assumption) _ _ (by assumption)) | exact SqL.of (same_new (by assumption) _ _ (by assumption))
  | exact SqT.of (same_new (by assumption) _ _ (same_new (by assumption) _ _ upd_same)) | exact SqL.of (same_new (by assumption) _ _ (same_new (by assumption) _ _ upd_same)))
local macro_rules | `(tactic| walk_at "dp") => `(tactic| first
  | exact .non | exact .bl _ | exact .int _ | exact .str _
  | (refine .tup (by walk_at "sq") ?_; walk_at "dps") | (refine .lst (by walk_at "sq") ?_; walk_at "dps"))
local macro_rules | `(tactic| walk_at "dps") => `(tactic| first
  | exact .nil | (refine .cons (by walk_at "dp") ?_; walk_at "dps"))
local macro_rules | `(tactic| walk_at "go") => `(tactic| repeat first
  | (show @ite _ _ _ _ _; with_reducible (first | refine iteT ?_ | refine iteF ?_ | refine iteNT ?_ | refine iteNF ?_))
  | ((fail_if_success (show @ite _ _ _ _ _)); first
    | refine And.intro (by walk_at "side") ?_
    | refine ⟨_, rfl, ?_⟩
    | refine ⟨_, _, rfl, rfl, ?_⟩
    | refine ⟨_, _, rfl, .inl (by walk_at "sq"), ?_⟩
    | refine ⟨_, _, rfl, .inr (by walk_at "sq"), ?_⟩
    | refine ⟨_, _, rfl, ?_⟩
    | refine ⟨_, _, _, rfl, ?_⟩
    | refine ⟨_, _, _, _, rfl, ?_⟩
    | refine ⟨_, _, _, _, _, rfl, ?_⟩
    | refine ⟨_, _, _, _, rfl, rfl, (by walk_at "sq"), (by walk_at "idx"), ?_⟩
    | refine ⟨_, _, _, _, _, rfl, .ty _, (by assumption), kit_ty (by assumption), ?_⟩
    | refine .inl ⟨_, rfl, ?_⟩
    | refine .inr ⟨_, rfl, ?_⟩))
local macro_rules | `(tactic| walk_at "unp2") => `(tactic| refine ⟨_, _, rfl, (by walk_at "sq"), rfl, _, _, rfl, _, _, rfl, rfl, ?_⟩)
local macro_rules | `(tactic| walk_at "unp3") => `(tactic| refine ⟨_, _, rfl, (by walk_at "sq"), rfl, _, _, rfl, _, _, rfl, _, _, rfl, rfl, ?_⟩)
local macro_rules | `(tactic| walk_at "pick") => `(tactic| refine ⟨_, _, _, rfl, SqL.of upd_same, Dice.ne (by assumption) (by assumption), Nat.zero_lt_succ _, Nat.le_of_ble_eq_true rfl, Dice.new (by assumption) (by assumption), ?_⟩)

theorem ok_l_roll (T : Tp K mg) : FnOk P w K mg base CX0 1 T.a_l_roll T.d_l_roll ["_law_dice_here", "_law_total"] (sp_l_roll K) := by
  refine T.F_l_roll.ok sc_l_roll ?len (fun cdv A outer s H vs Q E hr h => ?_)
  case len =>
    intro vs H Q E h
    obtain ⟨d, n, rfl, _⟩ := h
    rfl
  obtain ⟨d, n, rfl, h0, hn, ⟨x, y, z, hd⟩, q⟩ := h
  have hw : CDivW x n := wide_div (b := 250) h0 (by omega) (by decide) (by decide)
  refine ⟨_, (pss_cons (ps_if (pt_cmpR op_gt (pe_ix ix_list (pv 0) pe_int (fun _ _ => rfl)) pe_int (nomark _)) (pss_cons (ps_set (i := 4) sc_l_roll.nd rfl (Or.inl rfl) (pe_op op_mod (pe_callTy call_int1 (by rfl) T.m_int (by decide +kernel) (pa_cons (pe_ix ix_list (pv 0) pe_int (fun _ _ => rfl)) pa_nil)) (pv 1)))
      (pss_cons (ps_asg (pe_op op_fdivW (pe_ix ix_list (pv 0) pe_int (fun _ _ => rfl)) (pv 1)) (pg_sub (pv 0) pe_int set_list))
      (pss_one (ps_ret (pv 4))))) pss_nil)
    (pss_cons (ps_asg (pe_op op_add (pe_ix ix_list (pv 0) pe_int (fun _ _ => rfl)) pe_int) (pg_sub (pv 0) pe_int set_list))
    (pss_cons (ps_set (i := 2) sc_l_roll.nd rfl (Or.inl rfl) (pe_op op_mod (pe_callTy call_int1 (by rfl) T.m_int (by decide +kernel) (pa_cons (pe_op op_add (pe_ix ix_list (pv 0) pe_int (fun _ _ => rfl)) (pe_op op_mul pe_int (pe_ix ix_list (pv 0) pe_int (fun _ _ => rfl)))) pa_nil)) pe_int))
    (pss_cons (ps_set (i := 3) sc_l_roll.nd rfl (Or.inl rfl) (pe_op op_add (pe_op op_mul (pe_op op_mod (pe_callTy call_int1 (by rfl) T.m_int (by decide +kernel) (pa_cons (pe_op op_add (pe_op op_mul (pv 2) (pv 2)) (pe_op op_mul pe_int (pe_ix ix_list (pv 0) pe_int (fun _ _ => rfl)))) pa_nil)) pe_int) pe_int) (pv 2)))
    (pss_one (ps_ret (pe_op op_mod (pe_callTy call_int1 (by rfl) T.m_int (by decide +kernel) (pa_cons (pe_op op_fdivW (pv 3) pe_int) pa_nil)) (pv 1)))))))), ?_⟩
  walk_at "go"
  refine ite2 (fun e => ?_) (fun e => ?_)
  · walk_at "go"
    refine ⟨_, _, _, 0, rfl, rfl, hd, rfl, ?_⟩
    walk_at "go"
    exact q _ _ (Int.emod_nonneg _ (by omega)) (Int.emod_lt_of_pos _ h0) ⟨_, _, _, upd_same⟩ Ext.put
  · walk_at "go"
    refine ⟨_, _, _, 2, rfl, rfl, hd, rfl, ?_⟩
    have hd2 : upd H d (.lst [V.int x, V.int y, V.int (z + 1)]) d = some (.lst [V.int x, V.int y, V.int (z + 1)]) := upd_same
    walk_at "go"
    exact q _ _ (Int.emod_nonneg _ (by omega)) (Int.emod_lt_of_pos _ h0) ⟨_, _, _, upd_same⟩ Ext.put
theorem ok_l_pick (T : Tp K mg) : FnOk P w K mg base CX0 2 T.a_l_pick T.d_l_pick ["_law_dice_here", "_law_items"] (sp_l_pick K) := by
  refine T.F_l_pick.ok sc_l_pick ?len (fun cdv A outer s H vs Q E hr h => ?_)
  case len =>
    intro vs H Q E h
    obtain ⟨d, a, xs, rfl, _⟩ := h
    rfl
  obtain ⟨d, a, xs, rfl, hx, h0, h1, D0, q⟩ := h
  refine ⟨_, (pss_one (ps_ret (pe_ix ix_seq (pv 1) (pe_call (ok_l_roll T) (hr.mono (by decide)) (by rfl) T.g_l_roll T.F_l_roll.kp T.b_l_roll .nil pass0 (pa_cons (pv 0) (pa_cons (pe_callB call_len_seq (by rfl) T.m_len (by decide +kernel) (pa_cons (pv 1) pa_nil)) pa_nil))) (fun _ _ => rfl)))), ?_⟩
  rcases hx with ⟨hx, hne⟩ | hx
  · walk_at "go"
    refine fun r H1 r0 r1 D1 X1 => ?_
    have hx1 : SqL K H1 a xs := X1.sql hne hx
    have hr : r.toNat < xs.length := by omega
    have hi : atI xs r = some xs[r.toNat] := at_of (j := r.toNat) (by omega) (List.getElem?_eq_getElem hr)
    refine .inl ⟨a, xs, _, xs[r.toNat], rfl, rfl, hx1, hi, ?_⟩
    exact q _ _ (List.getElem_mem hr) D1 X1
  · walk_at "go"
    refine fun r H1 r0 r1 D1 X1 => ?_
    have hx1 : SqT K H1 a xs := by
      obtain ⟨x, y, z, hd⟩ := D0
      rcases hx with (hx | ⟨o, hx⟩) | hx
      · exact .inl (.inl (X1 _ _ (ne_of hx hd (by intro z; cases z)) hx))
      · exact .inl (.inr ⟨o, X1 _ _ (ne_of hx hd (by intro z; cases z)) hx⟩)
      · exact .inr hx
    have hr : r.toNat < xs.length := by omega
    have hi : atI xs r = some xs[r.toNat] := at_of (j := r.toNat) (by omega) (List.getElem?_eq_getElem hr)
    refine .inr (.inl ⟨a, xs, _, xs[r.toNat], rfl, rfl, hx1, hi, ?_⟩)
    exact q _ _ (List.getElem_mem hr) D1 X1
theorem ok_l_dice (T : Tp K mg) : FnOk P w K mg base CX0 1 T.a_l_dice T.d_l_dice ["_law_script", "_law_spot"] (sp_l_dice K) := by
  refine T.F_l_dice.ok sc_l_dice ?len (fun cdv A outer s H vs Q E hr h => ?_)
  case len =>
    intro vs H Q E h
    obtain ⟨a, ns, k, rfl, _⟩ := h
    rfl
  obtain ⟨a, ns, k, rfl, hS, k0, k1, q⟩ := h
  refine ⟨_, (pss_cons (ps_set (i := 2) sc_l_dice.nd rfl (Or.inl rfl) (pe_ifExp (pt_cmpR op_lt (pv 1) (pe_callB call_len_seq (by rfl) T.m_len (by decide +kernel) (pa_cons (pv 0) pa_nil)) (nomark _)) (pe_callTy call_int1 (by rfl) T.m_int (by decide +kernel) (pa_cons (pe_ix ix_list (pv 0) (pv 1) (fun _ _ => rfl)) pa_nil)) (pe_op op_add (pe_op op_mul pe_int (pv 1)) pe_int)))
    (pss_cons (ps_set (i := 3) sc_l_dice.nd rfl (Or.inl rfl) (pe_op op_mod (pe_callB (call_max2 rfl) (by rfl) T.m_max (by decide +kernel) (pa_cons pe_int (pa_cons (pe_op op_sub (pe_callB call_abs (by rfl) T.m_abs (by decide +kernel) (pa_cons (pv 2) pa_nil)) (pe_op op_pow pe_int pe_int)) pa_nil))) (pe_op op_mulW (pe_op op_pow pe_int pe_int) (pe_op op_pow pe_int pe_int))))
    (pss_one (ps_ret (pe_lst (pa_cons (pv 3) (pa_cons (pe_op op_add (pe_op op_add (pe_op op_add (pe_op op_mul (pe_op op_mod (pe_callB call_abs (by rfl) T.m_abs (by decide +kernel) (pa_cons (pv 2) pa_nil)) pe_int) pe_int) (pe_op op_mul pe_int (pv 1))) (pe_op op_mul pe_int (pe_callTy call_int1 (by rfl) T.m_int (by decide +kernel) (pa_cons (pe_cmpR op_lt (pv 2) pe_int (nomark _)) pa_nil)))) pe_int) (pa_cons pe_int pa_nil)))))))), ?_⟩
  walk_at "go"
  refine ite2 (fun e => ?_) (fun e => ?_)
  · have hk : k.toNat < ns.length := by
      have := of_decide_eq_true e
      rw [List.length_map] at this
      omega
    have hi : atI (ns.map V.int) k = some (.int ns[k.toNat]) := at_of (j := k.toNat) (by omega) (by rw [List.getElem?_map, List.getElem?_eq_getElem hk]; rfl)
    walk_at "go"
    refine fun p np => ?_
    exact q p _ np ⟨_, _, _, upd_same⟩ (same_new np)
  · walk_at "go"
    refine fun p np => ?_
    exact q p _ np ⟨_, _, _, upd_same⟩ (same_new np)

end
section
variable {P : Program} {w : World} {K : PySem.W.Frag} {mg : Str → Option Value} {base : Heap}
/-! ### short tactics -/
local macro_rules | `(tactic| walk_at "side") => `(tactic| first
  | with_reducible assumption | (exact ⟨by omega, by omega⟩) | exact True.intro | rfl | exact Nat.le_of_ble_eq_true rfl | with_reducible exact Int.natCast_nonneg _ | decide | omega
  | ((with_reducible show KDct _ _ _ _ _); assumption)
  | ((with_reducible show SlX.SCls _ _); assumption)
  | ((with_reducible show SlX.Slot1 _ _ _ _ _); assumption)
  | ((with_reducible show ClsV _ _); first | exact .own _ | exact .ty _)
  | ((with_reducible show TyA _ _ _ _); assumption)
  | ((with_reducible show Eq (PySem.W.kitOne _ _ _) _); assumption)
  | ((with_reducible show Jd _ _ _); first | assumption | exact .int _ | exact .str _ | exact .non | exact .bl _)
  | ((with_reducible show SqT _ _ _ _); walk_at "sq") | ((with_reducible show SqL _ _ _ _); walk_at "sq")
  | exact Or.inl rfl | exact Or.inr rfl
  | (intro z; exact absurd (show 1 = 0 from z.1) (by decide)) | (intro z; exact absurd (show 2 = 0 from z.1) (by decide))
  | (exact Or.inl ⟨by omega, by omega⟩) | (exact Or.inr ⟨by omega, by omega⟩)
  | (exact ⟨by omega, by omega, by omega⟩) | (exact ⟨by decide, by decide, by decide⟩)
  | (exact wide_div (b := 250) (by omega) (by omega) (by decide) (by decide))
  | (exact wide_mul (a := 250) (b := 250) (by omega) (by omega) (by decide) (by decide) (by decide))
  | decide +kernel | (dsimp only; decide +kernel)
  | (exact wide_mul (a := 250) (b := 250) (by decide +kernel) (by decide +kernel) (by decide) (by decide) (by decide)))
local macro_rules | `(tactic| walk_at "idx") => `(tactic| first
  | assumption | exact atI_nat (j := 0) rfl | exact atI_nat (j := 1) rfl | exact atI_nat (j := 2) rfl | exact atI_nat (j := 3) rfl | exact atI_nat (j := 4) rfl | exact atI_nat (j := 5) rfl)
local macro_rules | `(tactic| walk_at "sq") => `(tactic| first
  | assumption | exact SqL.of upd_same | exact SqT.of upd_same | exact SqL.of (by assumption) | exact SqT.of (by assumption)
  | exact SqT.of (same_new (by assumption) _ _ upd_same) | exact SqL.of (same_new (by assumption) _ _ upd_same)
  | exact SqT.of (same_new (by assumption) _ _ (by assumption)) | exact SqL.of (same_new (by assumption) _ _ (by assumption))
  | exact SqT.of (same_new (by assumption) _ _ (same_new (by assumption) _ _ upd_same)) | exact SqL.of (same_new (by assumption) _ _ (same_new (by assumption) _ _ upd_same)))
local macro_rules | `(tactic| walk_at "dp") => `(tactic| first
  | exact .non | exact .bl _ | exact .int _ | exact .str _
  | (refine .tup (by walk_at "sq") ?_; walk_at "dps") | (refine .lst (by walk_at "sq") ?_; walk_at "dps"))
local macro_rules | `(tactic| walk_at "dps") => `(tactic| first
  | exact .nil | (refine .cons (by walk_at "dp") ?_; walk_at "dps"))
local macro_rules | `(tactic| walk_at "go") => `(tactic| repeat first
  | (show @ite _ _ _ _ _; with_reducible (first | refine iteT ?_ | refine iteF ?_ | refine iteNT ?_ | refine iteNF ?_))
  | ((fail_if_success (show @ite _ _ _ _ _)); first
    | refine And.intro (by walk_at "side") ?_
    | refine ⟨_, rfl, ?_⟩
    | refine ⟨_, _, rfl, rfl, ?_⟩
    | refine ⟨_, _, rfl, .inl (by walk_at "sq"), ?_⟩
    | refine ⟨_, _, rfl, .inr (by walk_at "sq"), ?_⟩
    | refine ⟨_, _, rfl, ?_⟩
    | refine ⟨_, _, _, rfl, ?_⟩
    | refine ⟨_, _, _, _, rfl, ?_⟩
    | refine ⟨_, _, _, _, _, rfl, ?_⟩
    | refine ⟨_, _, _, _, rfl, rfl, (by walk_at "sq"), (by walk_at "idx"), ?_⟩
    | refine ⟨_, _, _, _, _, rfl, .ty _, (by assumption), kit_ty (by assumption), ?_⟩
    | refine And.intro ⟨_, by walk_at "sq"⟩ ?_
    | refine .inl ⟨_, rfl, ?_⟩
    | refine .inr ⟨_, rfl, ?_⟩
    | (apply Exists.intro; (repeat apply Exists.intro); refine And.intro rfl ?_)))
local macro_rules | `(tactic| walk_at "unp2") => `(tactic| refine ⟨_, _, rfl, (by walk_at "sq"), rfl, _, _, rfl, _, _, rfl, rfl, ?_⟩)
local macro_rules | `(tactic| walk_at "unp3") => `(tactic| refine ⟨_, _, rfl, (by walk_at "sq"), rfl, _, _, rfl, _, _, rfl, _, _, rfl, rfl, ?_⟩)
local macro_rules | `(tactic| walk_at "pick") => `(tactic| refine ⟨_, _, _, rfl, SqL.of upd_same, Dice.ne (by assumption) (by assumption), Nat.zero_lt_succ _, Nat.le_of_ble_eq_true rfl, Dice.new (by assumption) (by assumption), ?_⟩)
local macro_rules | `(tactic| walk_at "tt") => `(tactic| first
  | refine iteY rfl ?_ | refine iteN (fun z => Bool.noConfusion (show false = true from z)) ?_)

theorem ok_l_near (T : Tp K mg) : FnOk P w K mg base CX0 2 T.a_l_near T.d_l_near ["_law_dice_here", "_law_most"] (sp_l_near K) := by
  refine T.F_l_near.ok sc_l_near ?len (fun cdv A outer s H vs Q E hr h => ?_)
  case len => intro vs H Q E h; obtain ⟨d, m, rfl, _⟩ := h; rfl
  obtain ⟨d, m, rfl, m0, m1, D0, q⟩ := h
  have hm : 0 < 2 * m + 1 := by omega
  have hm2 : 2 * m + 1 < 2 ^ 250 := by omega
  refine ⟨_, (pss_one (ps_ret (pe_op op_sub (pe_call (ok_l_roll T) (hr.mono (by decide)) (by rfl) T.g_l_roll T.F_l_roll.kp T.b_l_roll .nil pass0 (pa_cons (pv 0) (pa_cons (pe_op op_add (pe_op op_mul pe_int (pv 1)) pe_int) pa_nil))) (pv 1)))), ?_⟩
  walk_at "go"
  refine fun r H1 r0 r1 D1 X1 => ?_
  walk_at "go"
  exact q _ _ (by omega) (by omega) D1 X1
theorem ok_l_wd_plain (T : Tp K mg) : FnOk P w K mg base CX0 3 T.a_l_wd_plain T.d_l_wd_plain ["_law_world"] (sp_l_wd_plain K T.C_World) := by
  refine T.F_l_wd_plain.ok sc_l_wd_plain ?len (fun cdv A outer s H vs Q E hr h => ?_)
  case len => intro vs H Q E h; obtain ⟨w, d, W, rfl, _⟩ := h; rfl
  obtain ⟨w, d, W, rfl, hW, q⟩ := h
  obtain ⟨dx, l, a, hs, hl, hld, hth⟩ := id hW
  refine ⟨_, (pss_one (ps_ret (pe_tup (pa_cons (pe_propSl (E := E0) (pv 0) T.cl_World T.p_World_tick.at_ T.p_World_tick.get T.p_World_tick.tak T.p_World_tick.rec_ ((ok_World_tick T).raw T.b_World_tick .nil) (hr.mono (by decide)) (fun _ _ _ _ z => z)) (pa_cons (pe_propSl (E := E0) (pv 0) T.cl_World T.p_World_next_id.at_ T.p_World_next_id.get T.p_World_next_id.tak T.p_World_next_id.rec_ ((ok_World_next_id T).raw T.b_World_next_id .nil) (hr.mono (by decide)) (fun _ _ _ _ z => z)) (pa_cons (pe_propSl (E := E0) (pv 0) T.cl_World T.p_World_luck.at_ T.p_World_luck.get T.p_World_luck.tak T.p_World_luck.rec_ ((ok_World_luck T).raw T.b_World_luck .nil) (hr.mono (by decide)) (fun _ _ _ _ z => z)) (pa_cons (pe_propSl (E := E0) (pv 0) T.cl_World T.p_World_things.at_ T.p_World_things.get T.p_World_things.tak T.p_World_things.rec_ ((ok_World_things T).raw T.b_World_things .nil) (hr.mono (by decide)) (fun _ _ _ _ z => z)) pa_nil))))))), ?_⟩
  walk_at "go"
  refine fun a hth => ?_
  have z : ([V.int W.tick, V.int W.nx, V.int W.luck, V.ref a]).length ≤ sizeLine := by show 4 ≤ sizeLine; decide
  walk_at "go"
  refine fun p np => ?_
  generalize hH : upd H p _ = H1
  have S1 : Same H H1 := by rw [← hH]; exact same_new np
  have hp : SqT K H1 p [V.int W.tick, V.int W.nx, V.int W.luck, V.ref a] := by rw [← hH]; exact .of upd_same
  clear hH
  exact q p H1 S1 ⟨a, hp, hth.same S1⟩
theorem pick_new {d p : Addr} {H H1 : Hp} {xs : List V} (D0 : Dice d H) (np : H p = none) (h : SqL K H1 p xs) : Itm K d H1 p xs := .inl ⟨h, D0.ne np⟩
theorem ok_l_number (T : Tp K mg) : FnOk P w K mg base CX0 3 T.a_l_number T.d_l_number ["_law_dice_here"] (sp_l_number K) := by
  refine T.F_l_number.ok sc_l_number ?len (fun cdv A outer s H vs Q E hr h => ?_)
  case len => intro vs H Q E h; obtain ⟨d, rfl, _⟩ := h; rfl
  obtain ⟨d, rfl, D0, q⟩ := h
  refine ⟨_, (pss_one (ps_ret (pe_call (ok_l_pick T) (hr.mono (by decide)) (by rfl) T.g_l_pick T.F_l_pick.kp T.b_l_pick .nil pass0 (pa_cons (pv 0) (pa_cons (pe_lst (pa_cons pe_int (pa_cons pe_int (pa_cons (pe_un un_neg pe_int) (pa_cons pe_int (pa_cons (pe_op op_pow pe_int pe_int) (pa_cons (pe_un un_neg (pe_op op_pow pe_int pe_int)) (pa_cons (pe_call (ok_l_near T) (hr.mono (by decide)) (by rfl) T.g_l_near T.F_l_near.kp T.b_l_near .nil pass0 (pa_cons (pv 0) (pa_cons pe_int pa_nil))) (pa_cons (pe_call (ok_l_near T) (hr.mono (by decide)) (by rfl) T.g_l_near T.F_l_near.kp T.b_l_near .nil pass0 (pa_cons (pv 0) (pa_cons (pe_op op_pow pe_int pe_int) pa_nil))) pa_nil))))))))) pa_nil))))), ?_⟩
  walk_at "go"
  refine fun r1 H1 a0 a1 D1 X1 => ?_
  have hm : (0 : Int) ≤ (10 : Int) ^ (9 : Int).toNat := by decide
  have hm2 : (10 : Int) ^ (9 : Int).toNat < 2 ^ 240 := by decide
  walk_at "go"
  refine fun r2 H2 b0 b1 D2 X2 => ?_
  walk_at "go"
  refine fun p np => ?_
  generalize hH : upd H2 p _ = H3
  have S3 : Same H2 H3 := by rw [← hH]; exact same_new np
  have hp : SqL K H3 p [V.int 0, V.int 1, V.int (-1), V.int 7, V.int (10 ^ Int.toNat 9), V.int (-(10 ^ Int.toNat 9)), V.int r1, V.int r2] := by rw [← hH]; exact .of upd_same
  clear hH
  have hI := pick_new D2 np hp
  have D3 := D2.same S3
  walk_at "go"
  refine fun v H4 hv D4 X4 => ?_
  have e9 : (10 : Int) ^ (9 : Int).toNat = 1000000000 := by decide
  have : ∃ i, v = .int i ∧ Num i := by
    simp only [List.mem_cons, List.not_mem_nil, or_false] at hv
    rw [e9] at hv b0 b1
    rcases hv with rfl | rfl | rfl | rfl | rfl | rfl | rfl | rfl <;> refine ⟨_, rfl, ?_, ?_⟩ <;> omega
  obtain ⟨i, rfl, hi⟩ := this
  exact q i H4 hi D4 (X1.trans (X2.trans ((Ext.of S3).trans X4)))
theorem ok_l_kind_drawn (T : Tp K mg) : FnOk P w K mg base CX0 3 T.a_l_kind_drawn T.d_l_kind_drawn ["_law_dice_here"] (sp_l_kind_drawn K) := by
  refine T.F_l_kind_drawn.ok sc_l_kind_drawn ?len (fun cdv A outer s H vs Q E hr h => ?_)
  case len => intro vs H Q E h; obtain ⟨d, rfl, _⟩ := h; rfl
  obtain ⟨d, rfl, D0, q⟩ := h
  refine ⟨_, (pss_one (ps_ret (pe_call (ok_l_pick T) (hr.mono (by decide)) (by rfl) T.g_l_pick T.F_l_pick.kp T.b_l_pick .nil pass0 (pa_cons (pv 0) (pa_cons (pe_lst (pa_cons pe_str (pa_cons pe_str (pa_cons pe_str (pa_cons pe_str (pa_cons pe_str pa_nil)))))) pa_nil))))), ?_⟩
  walk_at "go"
  refine fun p np => ?_
  generalize hH : upd H p _ = H1
  have S1 : Same H H1 := by rw [← hH]; exact same_new np
  have hp : SqL K H1 p [.str "hero", .str "coin", .str "a", .str "zzzzzzzz", .str "box"] := by rw [← hH]; exact .of upd_same
  clear hH
  have hI := pick_new D0 np hp
  have D1 := D0.same S1
  walk_at "go"
  refine fun v H2 hv D2 X2 => ?_
  have : ∃ z, v = .str z ∧ NmOk z := by
    simp only [List.mem_cons, List.not_mem_nil, or_false] at hv
    rcases hv with rfl | rfl | rfl | rfl | rfl <;> exact ⟨_, rfl, by decide +kernel, by decide +kernel, by decide +kernel⟩
  obtain ⟨z, rfl, hz⟩ := this
  exact q z H2 hz D2 ((Ext.of S1).trans X2)
theorem ok_l_numbers (T : Tp K mg) : FnOk P w K mg base CX0 4 T.a_l_numbers T.d_l_numbers ["_law_dice_here"] (sp_l_numbers K) := by
  refine T.F_l_numbers.ok sc_l_numbers ?len (fun cdv A outer s H vs Q E hr h => ?_)
  case len => intro vs H Q E h; obtain ⟨d, rfl, _⟩ := h; rfl
  obtain ⟨d, rfl, D0, q⟩ := h
  refine ⟨_, (pss_one (ps_ret (pe_callTy call_tuple_of (by rfl) T.m_tuple (by decide +kernel) (pa_cons (pe_lc (own := [("_law_spot", 1)]) (g := gName 1) (tt := tYes) (by rfl) sc_l_numbers.nd (pi_range1 rfl T.m_range (pa_cons (pe_op op_add pe_int (pe_call (ok_l_roll T) (hr.mono (by decide)) (by rfl) T.g_l_roll T.F_l_roll.kp T.b_l_roll .nil pass0 (pa_cons (pv 0) (pa_cons pe_int pa_nil)))) pa_nil)) (blkOk_by (own := [("_law_spot", 1)]) (N := N_l_numbers) (sc := defScope s_l_numbers) (by decide +kernel)) (fun _ _ _ _ _ => pg_name (i := 1) sc_l_numbers.nd rfl (Or.inl rfl)) (fun _ _ _ _ _ => pts_nil) (fun _ _ _ _ _ => (pe_call (ok_l_number T) (hr.mono (by decide)) (by rfl) T.g_l_number T.F_l_number.kp T.b_l_number .nil pass0 (pa_cons (pv 0) pa_nil)))) pa_nil)))), ?_⟩
  walk_at "go"
  refine fun r H1 r0 r1 D1 X1 => ?_
  walk_at "go"
  refine fun D nD => lc_it walk_range (fun i H' => ∃ ns : List Int, H' D = some (.lst (ivs ns)) ∧ ns.length = i ∧ (∀ k ∈ ns, Num k) ∧ Dice d H' ∧ Ext d H1 H' ∧ D ≠ d) ⟨[], upd_same, rfl, (fun k hk => nomatch hk), D1.new nD, Ext.new nD, D1.ne nD⟩ (fun _ _ _ _ => True.intro) (fun i x H2 H3 hi hW hy => ?_) (fun H2 hW => ?_)
  · obtain ⟨rfl, rfl⟩ := hy
    obtain ⟨ns, hD, hn, hns, D2, X2, ne⟩ := hW
    walk_at "go"
    refine fun k H4 hk D4 X4 => ?_
    have hD4 := X4 D _ ne hD
    refine ⟨_, hD4, ?_, ns ++ [k], ?_, ?_, ?_, D4.put ne, (X2.trans X4).mut nD, ne⟩
    · unfold ivs
      rw [List.length_map, hn]
      exact small1000 (by omega)
    · rw [upd_same]
      unfold ivs
      rw [List.map_append]
      rfl
    · rw [List.length_append, hn]
      rfl
    · intro z hz
      rcases List.mem_append.mp hz with h | h
      · exact hns z h
      · rw [List.mem_singleton.mp h]; exact hk
  · obtain ⟨ns, hD, hn, hns, D2, X2, ne⟩ := hW
    have hDl : SqL K H2 D (ivs ns) := .of hD
    walk_at "go"
    refine .inl ⟨hDl, ?_⟩
    refine fun p np => ?_
    generalize hH : upd H2 p _ = H3
    have S3 : Same H2 H3 := by rw [← hH]; exact same_new np
    have hp : SqT K H3 p (ivs ns) := by rw [← hH]; exact .of upd_same
    clear hH
    exact q p ns H3 (by omega) (by omega) hns hp (D2.same S3) (X1.trans (X2.trans (.of S3)))

end
section
variable {P : Program} {w : World} {K : PySem.W.Frag} {mg : Str → Option Value} {base : Heap}
/-! ### short tactics -/
local macro_rules | `(tactic| walk_at "side") => `(tactic| first
  | with_reducible assumption | (exact ⟨by omega, by omega⟩) | exact True.intro | rfl | exact Nat.le_of_ble_eq_true rfl | with_reducible exact Int.natCast_nonneg _ | decide | omega
  | ((with_reducible show KDct _ _ _ _ _); assumption)
  | ((with_reducible show SlX.SCls _ _); assumption)
  | ((with_reducible show SlX.Slot1 _ _ _ _ _); assumption)
  | ((with_reducible show ClsV _ _); first | exact .own _ | exact .ty _)
  | ((with_reducible show TyA _ _ _ _); assumption)
  | ((with_reducible show Eq (PySem.W.kitOne _ _ _) _); assumption)
  | ((with_reducible show Jd _ _ _); first | assumption | exact .int _ | exact .str _ | exact .non | exact .bl _)
  | ((with_reducible show SqT _ _ _ _); walk_at "sq") | ((with_reducible show SqL _ _ _ _); walk_at "sq")
  | exact Or.inl rfl | exact Or.inr rfl
  | (intro z; exact absurd (show 1 = 0 from z.1) (by decide)) | (intro z; exact absurd (show 2 = 0 from z.1) (by decide))
  | (exact Or.inl ⟨by omega, by omega⟩) | (exact Or.inr ⟨by omega, by omega⟩)
  | (exact ⟨by omega, by omega, by omega⟩) | (exact ⟨by decide, by decide, by decide⟩)
  | (exact wide_div (b := 250) (by omega) (by omega) (by decide) (by decide))
  | (exact wide_mul (a := 250) (b := 250) (by omega) (by omega) (by decide) (by decide) (by decide))
  | decide +kernel | (dsimp only; decide +kernel)
  | (exact wide_mul (a := 250) (b := 250) (by decide +kernel) (by decide +kernel) (by decide) (by decide) (by decide)))
local macro_rules | `(tactic| walk_at "idx") => `(tactic| first
  | assumption | exact atI_nat (j := 0) rfl | exact atI_nat (j := 1) rfl | exact atI_nat (j := 2) rfl | exact atI_nat (j := 3) rfl | exact atI_nat (j := 4) rfl | exact atI_nat (j := 5) rfl)
local macro_rules | `(tactic| walk_at "sq") => `(tactic| first
  | assumption | exact SqL.of upd_same | exact SqT.of upd_same | exact SqL.of (by assumption) | exact SqT.of (by assumption)
  | exact SqT.of (same_new (by assumption) _ _ upd_same) | exact SqL.of (same_new (by assumption) _ _ upd_same)
  | exact SqT.of (same_new (by assumption) _ _ (by assumption)) | exact SqL.of (same_new (by assumption) _ _ (by assumption))
  | exact SqT.of (same_new (by assumption) _ _ (same_new (by assumption) _ _ upd_same)) | exact SqL.of (same_new (by assumption) _ _ (same_new (by assumption) _ _ upd_same)))
local macro_rules | `(tactic| walk_at "dp") => `(tactic| first
  | exact .non | exact .bl _ | exact .int _ | exact .str _
  | (refine .tup (by walk_at "sq") ?_; walk_at "dps") | (refine .lst (by walk_at "sq") ?_; walk_at "dps"))
local macro_rules | `(tactic| walk_at "dps") => `(tactic| first
  | exact .nil | (refine .cons (by walk_at "dp") ?_; walk_at "dps"))
local macro_rules | `(tactic| walk_at "go") => `(tactic| repeat first
  | (show @ite _ _ _ _ _; with_reducible (first | refine iteT ?_ | refine iteF ?_ | refine iteNT ?_ | refine iteNF ?_))
  | ((fail_if_success (show @ite _ _ _ _ _)); first
    | refine And.intro (by walk_at "side") ?_
    | refine ⟨_, rfl, ?_⟩
    | refine ⟨_, _, rfl, rfl, ?_⟩
    | refine ⟨_, _, rfl, .inl (by walk_at "sq"), ?_⟩
    | refine ⟨_, _, rfl, .inr (by walk_at "sq"), ?_⟩
    | refine ⟨_, _, rfl, ?_⟩
    | refine ⟨_, _, _, rfl, ?_⟩
    | refine ⟨_, _, _, _, rfl, ?_⟩
    | refine ⟨_, _, _, _, _, rfl, ?_⟩
    | refine ⟨_, _, _, _, rfl, rfl, (by walk_at "sq"), (by walk_at "idx"), ?_⟩
    | refine ⟨_, _, _, _, _, rfl, .ty _, (by assumption), kit_ty (by assumption), ?_⟩
    | refine And.intro ⟨_, by walk_at "sq"⟩ ?_
    | refine .inl ⟨_, rfl, ?_⟩
    | refine .inr ⟨_, rfl, ?_⟩
    | (apply Exists.intro; (repeat apply Exists.intro); refine And.intro rfl ?_)))
local macro_rules | `(tactic| walk_at "unp2") => `(tactic| refine ⟨_, _, rfl, (by walk_at "sq"), rfl, _, _, rfl, _, _, rfl, rfl, ?_⟩)
local macro_rules | `(tactic| walk_at "unp3") => `(tactic| refine ⟨_, _, rfl, (by walk_at "sq"), rfl, _, _, rfl, _, _, rfl, _, _, rfl, rfl, ?_⟩)
local macro_rules | `(tactic| walk_at "pick") => `(tactic| refine ⟨_, _, _, rfl, SqL.of upd_same, Dice.ne (by assumption) (by assumption), Nat.zero_lt_succ _, Nat.le_of_ble_eq_true rfl, Dice.new (by assumption) (by assumption), ?_⟩)
local macro_rules | `(tactic| walk_at "tt") => `(tactic| first
  | refine iteY rfl ?_ | refine iteN (fun z => Bool.noConfusion (show false = true from z)) ?_)

theorem asc_snoc {ts : List Th} {ah nx : Int} {t : Th} (h : Asc ts ah) (h1 : ah ≤ t.id) (h2 : t.id < nx) : Asc (ts ++ [t]) nx := by
  refine ⟨?_, fun u hu => ?_⟩
  · rw [List.map_append, List.pairwise_append]
    refine ⟨h.1, List.pairwise_singleton .., fun a ha b hb => ?_⟩
    obtain ⟨u, hu, rfl⟩ := List.mem_map.mp ha
    obtain ⟨u2, hu2, rfl⟩ := List.mem_map.mp hb
    rw [List.mem_singleton.mp hu2]
    have := h.2 u hu
    omega
  · rcases List.mem_append.mp hu with z | z
    · have := h.2 u z
      omega
    · rw [List.mem_singleton.mp z]
      exact h2
theorem ok_l_world_drawn (T : Tp K mg) : FnOk P w K mg base CX0 5 T.a_l_world_drawn T.d_l_world_drawn ["_law_dice_here"] (sp_l_world_drawn K) := by
  refine T.F_l_world_drawn.ok sc_l_world_drawn ?len (fun cdv A outer s H vs Q E hr h => ?_)
  case len => intro vs H Q E h; obtain ⟨d, rfl, _⟩ := h; rfl
  obtain ⟨d, rfl, D0, q⟩ := h
  refine ⟨_, (pss_cons (ps_par (i := 1) (j := 2) (by rfl) sc_l_world_drawn.nd rfl rfl (by decide) rfl rfl (pa_cons (pe_lst pa_nil) (pa_cons pe_int pa_nil)) (by rfl))
    (pss_cons (ps_for PassesOwn.never rfl (pi_range1 rfl T.m_range (pa_cons (pe_call (ok_l_pick T) (hr.mono (by decide)) (by rfl) T.g_l_pick T.F_l_pick.kp T.b_l_pick .nil pass0 (pa_cons (pv 0) (pa_cons (pe_lst (pa_cons pe_int (pa_cons pe_int (pa_cons pe_int (pa_cons pe_int (pa_cons pe_int (pa_cons pe_int pa_nil))))))) pa_nil))) pa_nil)) (pg_name (i := 3) sc_l_world_drawn.nd rfl (Or.inl rfl)) (pss_cons (ps_set (i := 5) sc_l_world_drawn.nd rfl (Or.inl rfl) (pe_op op_add (pv 2) (pe_call (ok_l_roll T) (hr.mono (by decide)) (by rfl) T.g_l_roll T.F_l_roll.kp T.b_l_roll .nil pass0 (pa_cons (pv 0) (pa_cons (pe_call (ok_l_pick T) (hr.mono (by decide)) (by rfl) T.g_l_pick T.F_l_pick.kp T.b_l_pick .nil pass0 (pa_cons (pv 0) (pa_cons (pe_lst (pa_cons pe_int (pa_cons pe_int (pa_cons pe_int (pa_cons (pe_op op_pow pe_int pe_int) pa_nil))))) pa_nil))) pa_nil)))))
      (pss_cons (ps_expr (pe_bm PySem.F.plainAttrs_list PySem.F.slot_list_append PySem.F.type_list_append mt_append (pv 1) (pa_cons (pe_tup (pa_cons (pv 5) (pa_cons (pe_call (ok_l_kind_drawn T) (hr.mono (by decide)) (by rfl) T.g_l_kind_drawn T.F_l_kind_drawn.kp T.b_l_kind_drawn .nil pass0 (pa_cons (pv 0) pa_nil)) (pa_cons (pe_call (ok_l_numbers T) (hr.mono (by decide)) (by rfl) T.g_l_numbers T.F_l_numbers.kp T.b_l_numbers .nil pass0 (pa_cons (pv 0) pa_nil)) pa_nil)))) pa_nil)))
      (pss_one (ps_set (i := 2) sc_l_world_drawn.nd rfl (Or.inl rfl) (pe_op op_add (pv 5) pe_int))))))
    (pss_cons (ps_set (i := 4) sc_l_world_drawn.nd rfl (Or.inl rfl) (pe_call (ok_l_pick T) (hr.mono (by decide)) (by rfl) T.g_l_pick T.F_l_pick.kp T.b_l_pick .nil pass0 (pa_cons (pv 0) (pa_cons (pe_lst (pa_cons pe_int (pa_cons pe_int (pa_cons (pe_op op_pow pe_int pe_int) pa_nil)))) pa_nil))))
    (pss_one (ps_ret (pe_tup (pa_cons (pv 4) (pa_cons (pe_op op_add (pv 2) (pe_call (ok_l_roll T) (hr.mono (by decide)) (by rfl) T.g_l_roll T.F_l_roll.kp T.b_l_roll .nil pass0 (pa_cons (pv 0) (pa_cons pe_int pa_nil)))) (pa_cons (pe_call (ok_l_pick T) (hr.mono (by decide)) (by rfl) T.g_l_pick T.F_l_pick.kp T.b_l_pick .nil pass0 (pa_cons (pv 0) (pa_cons (pe_lst (pa_cons pe_int (pa_cons pe_int (pa_cons pe_int pa_nil)))) pa_nil))) (pa_cons (pe_callTy call_tuple_of (by rfl) T.m_tuple (by decide +kernel) (pa_cons (pv 1) pa_nil)) pa_nil)))))))))), ?_⟩
  walk_at "go"
  refine fun L nL => ?_
  generalize hH : upd H L _ = H1
  have S1 : Same H H1 := by rw [← hH]; exact same_new nL
  have hL : H1 L = some (.lst []) := by rw [← hH]; exact upd_same
  clear hH
  have D1 := D0.same S1
  have neL : L ≠ d := D0.ne nL
  walk_at "go"
  refine fun p np => ?_
  generalize hH : upd H1 p _ = H2
  have S2 : Same H1 H2 := by rw [← hH]; exact same_new np
  have hp : SqL K H2 p [V.int 0, V.int 1, V.int 3, V.int 8, V.int 11, V.int 12] := by rw [← hH]; exact .of upd_same
  clear hH
  have hI := pick_new D1 np hp
  have D2 := D1.same S2
  walk_at "go"
  refine fun v H3 hv D3 X3 => ?_
  have : ∃ n : Int, v = .int n ∧ 0 ≤ n ∧ n ≤ 12 := by
    simp only [List.mem_cons, List.not_mem_nil, or_false] at hv
    rcases hv with rfl | rfl | rfl | rfl | rfl | rfl <;> exact ⟨_, rfl, by decide, by decide⟩
  obtain ⟨n, rfl, n0, n12⟩ := this
  have hL3 : H3 L = some (.lst []) := X3 _ _ neL (S2 _ _ hL)
  have X13 : Ext d H H3 := (Ext.of S1).trans ((Ext.of S2).trans X3)
  clear hL S1 D1 hp hI D2 X3 hv S2
  walk_at "go"
  refine for_it walk_range (fun i σ H' => Stp (∃ ts xs ah y3 y4 y5, σ = [some (.ref d), some (.ref L), some (.int ah), y3, y4, y5] ∧ H' L = some (.lst xs) ∧ Paired (ThV K H') xs ts ∧ ts.length = i ∧ (∀ t ∈ ts, Th.ok t) ∧ Asc ts ah ∧ 0 ≤ ah ∧ ah ≤ 1000000000001 * (i : Int) ∧ Dice d H' ∧ Ext d H H'))
    (.of ⟨[], [], 0, none, none, none, rfl, hL3, .nil, rfl, (fun t ht => nomatch ht), ⟨.nil, fun t ht => nomatch ht⟩, Int.le_refl _, by decide, D3, X13⟩) (fun _ _ _ _ _ => True.intro) (fun i x σ H4 H5 hi hW hy => ?_) (fun σ H4 hW => ?_)
  · obtain ⟨rfl, rfl⟩ := hy
    obtain ⟨ts, xs, ah, y3, y4, y5, rfl, hL4, hP, hlen, hok, has, ah0, ah1, D4, X4⟩ := hW.get
    clear hW hL3 D3 X13
    walk_at "go"
    refine fun p np => ?_
    generalize hH : upd H5 p _ = H6
    have S6 : Same H5 H6 := by rw [← hH]; exact same_new np
    have hp : SqL K H6 p [V.int 1, V.int 1, V.int 3, V.int (10 ^ Int.toNat 12)] := by rw [← hH]; exact .of upd_same
    clear hH
    have hI : Itm K d H6 p [V.int 1, V.int 1, V.int 3, V.int (10 ^ Int.toNat 12)] := .inl ⟨hp, D4.ne np⟩
    have D6 := D4.same S6
    walk_at "go"
    refine fun v H7 hv D7 X7 => ?_
    have : ∃ m : Int, v = .int m ∧ 0 < m ∧ m ≤ 1000000000000 := by
      simp only [List.mem_cons, List.not_mem_nil, or_false] at hv
      rw [show (10 : Int) ^ (12 : Int).toNat = 1000000000000 by decide] at hv
      rcases hv with rfl | rfl | rfl | rfl <;> exact ⟨_, rfl, by decide, by decide⟩
    obtain ⟨m, rfl, m0, m1⟩ := this
    have m2 : m < 2 ^ 250 := by omega
    walk_at "go"
    refine fun r H8 r0 r1 D8 X8 => ?_
    walk_at "go"
    have hL8 := ((Ext.of S6).trans (X7.trans X8)) _ _ neL hL4
    refine ⟨.inl ⟨rfl, _, .inl (.inl hL8)⟩, ?_⟩
    walk_at "go"
    refine fun kd H9 hkd D9 X9 => ?_
    walk_at "go"
    refine fun nn ns Ha n1 n8 hns hnn Da Xa => ?_
    have Xb : Ext d H5 Ha := (Ext.of S6).trans (X7.trans (X8.trans (X9.trans Xa)))
    have hLa := Xb _ _ neL hL4
    have hPa := L2.Paired.mapP hP fun _ _ h => ThV.ext h Xb D4
    clear hL4 hP hp hI
    walk_at "go"
    refine fun tp ntp => ?_
    generalize hH : upd Ha tp _ = Hb
    have Sb : Same Ha Hb := by rw [← hH]; exact same_new ntp
    have htp : SqT K Hb tp [V.int (ah + r), V.str kd, V.ref nn] := by rw [← hH]; exact .of upd_same
    clear hH
    have hLb := Sb _ _ hLa
    have hPb := L2.Paired.mapP hPa fun _ _ h => ThV.same h Sb
    have Db := Da.same Sb
    have hlx := Paired.length hPb
    have hti : Th.ok ⟨ah + r, kd, ns⟩ := ⟨by show 0 ≤ ah + r; omega, hkd, n1, n8, hns⟩
    have hlx2 : xs.length < sizeLine := small1000 (by omega)
    walk_at "go"
    refine .of ⟨ts ++ [⟨ah + r, kd, ns⟩], xs ++ [.ref tp], ah + r + 1, _, _, _, rfl, upd_same, paired_app (L2.Paired.mapP hPb fun _ _ h => ThV.mono (fun q => sqt_put hLb q) h) (.cons ⟨tp, nn, rfl, sqt_put hLb htp, sqt_put hLb (same_sqt Sb hnn), strOk_of hkd.2.2⟩ .nil), ?_, ?_, asc_snoc has (by show ah ≤ ah + r; omega) (by show ah + r < ah + r + 1; omega), ?_, ?_, Db.put neL, (X4.trans (Xb.trans (.of Sb))).mut nL⟩
    · rw [List.length_append, hlen]
      rfl
    · intro t ht
      rcases List.mem_append.mp ht with h | h
      · exact hok t h
      · rw [List.mem_singleton.mp h]; exact hti
    · omega
    · rw [Int.natCast_add]
      show ah + r + 1 ≤ 1000000000001 * ((i : Int) + 1)
      omega
  · obtain ⟨ts, xs, ah, y3, y4, y5, rfl, hL4, hP, hlen, hok, has, ah0, ah1, D4, X4⟩ := hW.get
    clear hW hL3 D3 X13
    walk_at "go"
    refine fun p np => ?_
    generalize hH : upd H4 p _ = H5
    have S5 : Same H4 H5 := by rw [← hH]; exact same_new np
    have hp : SqL K H5 p [V.int 0, V.int 3, V.int (10 ^ Int.toNat 59)] := by rw [← hH]; exact .of upd_same
    clear hH
    have hI : Itm K d H5 p [V.int 0, V.int 3, V.int (10 ^ Int.toNat 59)] := .inl ⟨hp, D4.ne np⟩
    have D5 := D4.same S5
    walk_at "go"
    refine fun v H6 hv D6 X6 => ?_
    have : ∃ m : Int, v = .int m ∧ 0 ≤ m ∧ m ≤ 100000000000000000000000000000000000000000000000000000000000 := by
      simp only [List.mem_cons, List.not_mem_nil, or_false] at hv
      rcases hv with rfl | rfl | rfl <;> exact ⟨_, rfl, by decide, by decide⟩
    obtain ⟨tk, rfl, tk0, tk1⟩ := this
    clear hv hI hp
    walk_at "go"
    refine fun r H7 r0 r1 D7 X7 => ?_
    walk_at "go"
    refine fun p2 np2 => ?_
    generalize hH : upd H7 p2 _ = H8
    have S8 : Same H7 H8 := by rw [← hH]; exact same_new np2
    have hp2 : SqL K H8 p2 [V.int 0, V.int 5, V.int 999999936] := by rw [← hH]; exact .of upd_same
    clear hH
    have hI : Itm K d H8 p2 [V.int 0, V.int 5, V.int 999999936] := .inl ⟨hp2, D7.ne np2⟩
    have D8 := D7.same S8
    walk_at "go"
    refine fun v H9 hv D9 X9 => ?_
    have : ∃ m : Int, v = .int m ∧ 0 ≤ m ∧ m ≤ 999999936 := by
      simp only [List.mem_cons, List.not_mem_nil, or_false] at hv
      rcases hv with rfl | rfl | rfl <;> exact ⟨_, rfl, by decide, by decide⟩
    obtain ⟨lu, rfl, lu0, lu1⟩ := this
    have Xb : Ext d H4 H9 := (Ext.of S5).trans (X6.trans (X7.trans ((Ext.of S8).trans X9)))
    have hL9 : SqL K H9 L xs := .of (Xb _ _ neL hL4)
    have hP9 := L2.Paired.mapP hP fun _ _ h => ThV.ext h Xb D4
    clear hv hI hp2
    walk_at "go"
    refine .inl ⟨hL9, ?_⟩
    refine fun p3 np3 => ?_
    generalize hH : upd H9 p3 _ = Ha
    have Sa : Same H9 Ha := by rw [← hH]; exact same_new np3
    have hp3 : SqT K Ha p3 xs := by rw [← hH]; exact .of upd_same
    clear hH
    have hPa := L2.Paired.mapP hP9 fun _ _ h => ThV.same h Sa
    have z4 : ([V.int tk, V.int (ah + r), V.int lu, V.ref p3]).length ≤ sizeLine := by show 4 ≤ sizeLine; decide
    walk_at "go"
    refine fun p4 np4 => ?_
    generalize hH : upd Ha p4 _ = Hb
    have Sb : Same Ha Hb := by rw [← hH]; exact same_new np4
    have hp4 : SqT K Hb p4 [V.int tk, V.int (ah + r), V.int lu, V.ref p3] := by rw [← hH]; exact .of upd_same
    clear hH
    have hts : Ths K Hb p3 ts := ⟨xs, same_sqt Sb hp3, L2.Paired.mapP hPa fun _ _ h => ThV.same h Sb⟩
    refine q p4 ⟨tk, ah + r, lu, ts⟩ Hb ⟨⟨tk0, tk1⟩, ⟨?_, ?_⟩, ⟨lu0, lu1⟩, ?_, hok, has.1, fun t ht => ?_⟩ ⟨p3, hp4, hts⟩ ((D9.same Sa).same Sb) (X4.trans (Xb.trans ((Ext.of Sa).trans (.of Sb))))
    · show 0 ≤ ah + r
      omega
    · show ah + r ≤ 100000000000000 + 0
      omega
    · show ts.length ≤ 12
      omega
    · have := has.2 t ht
      show t.id < ah + r
      omega

end
section
variable {P : Program} {w : World} {K : PySem.W.Frag} {mg : Str → Option Value} {base : Heap}
/-! ### short tactics -/
local macro_rules | `(tactic| walk_at "side") => `(tactic| first
  | with_reducible assumption | (exact ⟨by omega, by omega⟩) | exact True.intro | rfl | exact Nat.le_of_ble_eq_true rfl | with_reducible exact Int.natCast_nonneg _ | decide | omega
  | ((with_reducible show KDct _ _ _ _ _); assumption)
  | ((with_reducible show SlX.SCls _ _); assumption)
  | ((with_reducible show SlX.Slot1 _ _ _ _ _); assumption)
  | ((with_reducible show ClsV _ _); first | exact .own _ | exact .ty _)
  | ((with_reducible show TyA _ _ _ _); assumption)
  | ((with_reducible show Eq (PySem.W.kitOne _ _ _) _); assumption)
  | ((with_reducible show Jd _ _ _); first | assumption | exact .int _ | exact .str _ | exact .non | exact .bl _)
  | ((with_reducible show SqT _ _ _ _); walk_at "sq") | ((with_reducible show SqL _ _ _ _); walk_at "sq")
  | exact Or.inl rfl | exact Or.inr rfl
  | (intro z; exact absurd (show 1 = 0 from z.1) (by decide)) | (intro z; exact absurd (show 2 = 0 from z.1) (by decide))
  | (exact Or.inl ⟨by omega, by omega⟩) | (exact Or.inr ⟨by omega, by omega⟩)
  | (exact ⟨by omega, by omega, by omega⟩) | (exact ⟨by decide, by decide, by decide⟩)
  | (exact wide_div (b := 250) (by omega) (by omega) (by decide) (by decide))
  | (exact wide_mul (a := 250) (b := 250) (by omega) (by omega) (by decide) (by decide) (by decide))
  | decide +kernel | (dsimp only; decide +kernel)
  | (exact wide_mul (a := 250) (b := 250) (by decide +kernel) (by decide +kernel) (by decide) (by decide) (by decide)))
local macro_rules | `(tactic| walk_at "idx") => `(tactic| first
  | assumption | exact atI_nat (j := 0) rfl | exact atI_nat (j := 1) rfl | exact atI_nat (j := 2) rfl | exact atI_nat (j := 3) rfl | exact atI_nat (j := 4) rfl | exact atI_nat (j := 5) rfl)
local macro_rules | `(tactic| walk_at "sq") => `(tactic| first
  | assumption | exact SqL.of upd_same | exact SqT.of upd_same | exact SqL.of (by assumption) | exact SqT.of (by assumption)
  | exact SqT.of (same_new (by assumption) _ _ upd_same) | exact SqL.of (same_new (by assumption) _ _ upd_same)
  | exact SqT.of (same_new (by assumption) _ _ (by assumption)) | exact SqL.of (same_new (by assumption) _ _ (by assumption))
  | exact SqT.of (same_new (by assumption) _ _ (same_new (by assumption) _ _ upd_same)) | exact SqL.of (same_new (by assumption) _ _ (same_new (by assumption) _ _ upd_same)))
local macro_rules | `(tactic| walk_at "dp") => `(tactic| first
  | exact .non | exact .bl _ | exact .int _ | exact .str _
  | (refine .tup (by walk_at "sq") ?_; walk_at "dps") | (refine .lst (by walk_at "sq") ?_; walk_at "dps"))
local macro_rules | `(tactic| walk_at "dps") => `(tactic| first
  | exact .nil | (refine .cons (by walk_at "dp") ?_; walk_at "dps"))
local macro_rules | `(tactic| walk_at "go") => `(tactic| repeat first
  | (show @ite _ _ _ _ _; with_reducible (first | refine iteT ?_ | refine iteF ?_ | refine iteNT ?_ | refine iteNF ?_))
  | ((fail_if_success (show @ite _ _ _ _ _)); first
    | refine And.intro (by walk_at "side") ?_
    | refine ⟨_, rfl, ?_⟩
    | refine ⟨_, _, rfl, rfl, ?_⟩
    | refine ⟨_, _, rfl, .inl (by walk_at "sq"), ?_⟩
    | refine ⟨_, _, rfl, .inr (by walk_at "sq"), ?_⟩
    | refine ⟨_, _, rfl, ?_⟩
    | refine ⟨_, _, _, rfl, ?_⟩
    | refine ⟨_, _, _, _, rfl, ?_⟩
    | refine ⟨_, _, _, _, _, rfl, ?_⟩
    | refine ⟨_, _, _, _, rfl, rfl, (by walk_at "sq"), (by walk_at "idx"), ?_⟩
    | refine ⟨_, _, _, _, _, rfl, .ty _, (by assumption), kit_ty (by assumption), ?_⟩
    | refine And.intro ⟨_, by walk_at "sq"⟩ ?_
    | refine .inl ⟨_, rfl, ?_⟩
    | refine .inr ⟨_, rfl, ?_⟩
    | (apply Exists.intro; (repeat apply Exists.intro); refine And.intro rfl ?_)))
local macro_rules | `(tactic| walk_at "unp2") => `(tactic| refine ⟨_, _, rfl, (by walk_at "sq"), rfl, _, _, rfl, _, _, rfl, rfl, ?_⟩)
local macro_rules | `(tactic| walk_at "unp3") => `(tactic| refine ⟨_, _, rfl, (by walk_at "sq"), rfl, _, _, rfl, _, _, rfl, _, _, rfl, rfl, ?_⟩)
local macro_rules | `(tactic| walk_at "pick") => `(tactic| refine ⟨_, _, _, rfl, SqL.of upd_same, Dice.ne (by assumption) (by assumption), Nat.zero_lt_succ _, Nat.le_of_ble_eq_true rfl, Dice.new (by assumption) (by assumption), ?_⟩)
local macro_rules | `(tactic| walk_at "tt") => `(tactic| first
  | refine iteY rfl ?_ | refine iteN (fun z => Bool.noConfusion (show false = true from z)) ?_)

@[reducible] def odd (nx : Int) (p0 : Addr) : List V := [V.bl true, V.bl false, V.non, V.str "0", V.int nx, V.int (-1), V.ref p0, V.int (nx + 10 ^ Int.toNat 40)]
theorem th_uniq {ts : List Th} {nx : Int} (h : Asc ts nx) {s t : Th} (hs : s ∈ ts) (ht : t ∈ ts) (e : s.id = t.id) : s = t := by
  have hp := h.1
  rw [List.pairwise_map] at hp
  obtain ⟨i, hi, rfl⟩ := List.mem_iff_getElem.mp hs
  obtain ⟨j, hj, rfl⟩ := List.mem_iff_getElem.mp ht
  rcases Nat.lt_trichotomy i j with q | q | q
  · have := List.pairwise_iff_getElem.mp hp i j hi hj q
    omega
  · subst q; rfl
  · have := List.pairwise_iff_getElem.mp hp j i hj hi q
    omega
@[reducible] def kinds (pt : Addr) : List V := [V.str "hero", V.str "coin", V.str "a", V.str "zzzzzzzz", V.str "box", V.str "none", V.non, V.int 0, V.ref pt]
theorem ne_of_none' {H : Hp} {a b : Addr} {o : HO} (h : H a = some o) (n : H b = none) : b ≠ a := (ne_of_none h n).symm
theorem ok_l_is_told (T : Tp K mg) : FnOk P w K mg base CX0 6 T.a_l_is_told T.d_l_is_told ["_law_world", "_law_plain"] (sp_l_is_told K T.C_World) := by
  refine T.F_l_is_told.ok sc_l_is_told ?len (fun cdv A outer s H vs Q E hr h => ?_)
  case len => intro vs H Q E h; obtain ⟨w, p, d, W, b, rfl, _⟩ := h; rfl
  obtain ⟨w, p, d, W, b, rfl, hW, hP, hf, hb, q⟩ := h
  obtain ⟨a, hp, xs, ha, hxs⟩ := id hP
  have hl2 := Paired.length hxs
  have n12 := hf.n
  refine ⟨_, (pss_cons (ps_setLc (i := 2) (own := [("_law_thing", 4)]) (g := gName 4) (tt := tYes) (by rfl) sc_l_is_told.nd rfl rfl (sw_true rfl rfl rfl (by decide +kernel)) (pi_tup (pe_ix ix_tup (pv 1) pe_int (fun _ _ => rfl))) (blkOk_by (own := [("_law_thing", 4)]) (N := N_l_is_told) (sc := defScope s_l_is_told) (by decide +kernel)) (fun _ _ _ _ _ => pg_name (i := 4) sc_l_is_told.nd rfl (Or.inl rfl)) (fun _ _ _ _ _ => pts_nil) (fun _ _ _ _ _ => (pe_ix (r := rIxT K) ix_tup (pv 4) pe_int (fun _ _ => rfl))))
    (pss_cons (ps_if (PW.pt (pw_or (pt_cmpR (op_neD hr.units) (pe_call (ok_l_wd_plain T) (hr.mono (by decide)) (by rfl) T.g_l_wd_plain T.F_l_wd_plain.kp T.b_l_wd_plain .nil pass0 (pa_cons (pv 0) pa_nil)) (pv 1) (nomark _)) (pw_or (pt_cmpR (op_neD hr.units) (pe_callTy (call_listA (E := E0) (C := T.C_World) T.m_World_iter.at_ T.m_World_iter.fn T.m_World_len.at_ T.m_World_len.fn ((ok_World_iter T).raw T.b_World_iter .nil) ((ok_World_len T).raw T.b_World_len .nil) (hr.mono (by decide)) (fun _ _ _ _ z => z)) (by rfl) T.m_list (by decide +kernel) (pa_cons (pv 0) pa_nil)) (pv 2) (nomark _)) (pw_or1 (pt_cmpR op_ne (pe_callB (call_lenA (E := E0) (C := T.C_World) T.m_World_len.at_ T.m_World_len.fn ((ok_World_len T).raw T.b_World_len .nil) (hr.mono (by decide)) (fun _ _ _ _ z => z)) (by rfl) T.m_len (by decide +kernel) (pa_cons (pv 0) pa_nil)) (pe_callB call_len_seq (by rfl) T.m_len (by decide +kernel) (pa_cons (pv 2) pa_nil)) (nomark _)))))) (pss_one (ps_ret pe_bl)) pss_nil)
    (pss_cons (ps_if (pt_cmpR op_ne (pe_callTy (call_strA (C := T.C_World) T.m_World_str.at_ T.m_World_str.fn ((ok_World_str T).raw T.b_World_str .nil) (hr.mono (by decide)) pass0) (by rfl) T.m_str (by decide +kernel) (pa_cons (pv 0) pa_nil)) (pe_op op_add_str (pe_op op_add_str (pe_op op_add_str (pe_op op_add_str pe_str (pe_callTy call_str_int (by rfl) T.m_str (by decide +kernel) (pa_cons (pe_ix ix_tup (pv 1) pe_int (fun _ _ => rfl)) pa_nil))) pe_str) (pe_callTy call_str_int (by rfl) T.m_str (by decide +kernel) (pa_cons (pe_callB call_len_seq (by rfl) T.m_len (by decide +kernel) (pa_cons (pv 2) pa_nil)) pa_nil))) pe_str) (nomark _)) (pss_one (ps_ret pe_bl)) pss_nil)
    (pss_cons (ps_for PassesOwn.never rfl (pi_tup (pe_tup (pa_cons pe_str (pa_cons pe_str (pa_cons pe_str (pa_cons pe_str (pa_cons pe_str (pa_cons pe_str (pa_cons pe_non (pa_cons pe_int (pa_cons (pe_tup (pa_cons pe_str pa_nil)) pa_nil))))))))))) (pg_name (i := 3) sc_l_is_told.nd rfl (Or.inr rfl)) (pss_one (ps_if (pt_cmpR (op_neD hr.units) (pe_methSl (pv 0) T.cl_World T.m_World_ids ((ok_World_ids T).raw T.b_World_ids .nil) (hr.mono (by decide)) pass0 (pa_cons (pv 3) pa_nil)) (pe_callTy call_tuple_of (by rfl) T.m_tuple (by decide +kernel) (pa_cons (pe_lc (own := [("_law_thing", 4)]) (g := gName 4)  (by rfl) sc_l_is_told.nd (pi_tup (pe_ix ix_tup (pv 1) pe_int (fun _ _ => rfl))) (blkOk_by (own := [("_law_thing", 4)]) (N := N_l_is_told) (sc := defScope s_l_is_told) (by decide +kernel)) (fun _ _ _ _ _ => pg_name (i := 4) sc_l_is_told.nd rfl (Or.inl rfl)) (fun _ _ _ _ _ => (pts_one (pt_cmpR (show OpR _ (compareOp .Eq) (rEqD K) from op_eqD hr.units) (pe_ix (r := rIxT K) ix_tup (pv 4) pe_int (fun _ _ => rfl)) (pv 3) (nomark _)))) (fun _ _ _ _ _ => (pe_ix (r := rIxT K) ix_tup (pv 4) pe_int (fun _ _ => rfl)))) pa_nil)) (nomark _)) (pss_one (ps_ret pe_bl)) pss_nil)))
    (pss_cons (ps_for PassesOwn.never rfl (pi_tup (pe_ix ix_tup (pv 1) pe_int (fun _ _ => rfl))) (pg_tup (by rfl) (pgs_cons (pg_name (i := 4) sc_l_is_told.nd rfl (Or.inl rfl)) (pgs_cons (pg_name (i := 3) sc_l_is_told.nd rfl (Or.inr rfl)) (pgs_cons (pg_name (i := 5) sc_l_is_told.nd rfl (Or.inl rfl)) pgs_nil)))) (pss_one (ps_if (PW.pt (pw_or (pt_cmpR (op_ninA (C := T.C_World) T.m_World_contains.at_ T.m_World_contains.fn ((ok_World_contains T).raw T.b_World_contains .nil) (hr.mono (by decide)) pass0) (pv 4) (pv 0) (by rfl)) (pw_or (pt_cmpR op_ne (pe_methSl (pv 0) T.cl_World T.m_World_kind_of ((ok_World_kind_of T).raw T.b_World_kind_of .nil) (hr.mono (by decide)) pass0 (pa_cons (pv 4) pa_nil)) (pv 3) (nomark _)) (pw_or1 (pt_cmpR (op_neD hr.units) (pe_methSl (pv 0) T.cl_World T.m_World_numbers ((ok_World_numbers T).raw T.b_World_numbers .nil) (hr.mono (by decide)) pass0 (pa_cons (pv 4) pa_nil)) (pv 5) (nomark _)))))) (pss_one (ps_ret pe_bl)) pss_nil)))
    (pss_cons (ps_set (i := 6) sc_l_is_told.nd rfl (Or.inl rfl) (pe_lst (pa_cons pe_bl (pa_cons pe_bl (pa_cons pe_non (pa_cons pe_str (pa_cons (pe_ix ix_tup (pv 1) pe_int (fun _ _ => rfl)) (pa_cons (pe_un un_neg pe_int) (pa_cons (pe_tup (pa_cons pe_int pa_nil)) (pa_cons (pe_op op_add (pe_ix ix_tup (pv 1) pe_int (fun _ _ => rfl)) (pe_op op_pow pe_int pe_int)) pa_nil))))))))))
    (pss_one (ps_ret (pe_cmpR (op_eqD hr.units) (pe_lc (own := [("_law_value", 7)]) (g := gName 7)  (by rfl) sc_l_is_told.nd (pi_list (pv 6)) (blkOk_by (own := [("_law_value", 7)]) (N := N_l_is_told) (sc := defScope s_l_is_told) (by decide +kernel)) (fun _ _ _ _ _ => pg_name (i := 7) sc_l_is_told.nd rfl (Or.inl rfl)) (fun _ _ _ _ _ => (pts_one (pt_cmpR (op_inA (C := T.C_World) T.m_World_contains.at_ T.m_World_contains.fn ((ok_World_contains T).raw T.b_World_contains .nil) (hr.mono (by decide)) pass0) (pv 7) (pv 0) (by rfl)))) (fun _ _ _ _ _ => (pv 7))) (pe_lst pa_nil) (nomark _)))))))))), ?_⟩
  walk_at "go"
  refine fun D nD => lc_it walk_tup (fun i H' => H' D = some (.lst (ivs ((ids W).take i))) ∧ Ext D H H') ⟨upd_same, Ext.new nD⟩ (fun _ _ _ hW => same_sqt (hW.2.same nD) ha) (fun i y H1 H2 hi hW hy => ?_) (fun H1 hX => ?_)
  · obtain ⟨rfl, hy⟩ := hy
    obtain ⟨hD, X⟩ := hW
    obtain ⟨t, ht, hyt⟩ := paired_get hxs hy
    obtain ⟨p, n, rfl, hp, hn, hkd⟩ := hyt.same (X.same nD)
    walk_at "go"
    refine ⟨_, hD, ?_, ?_, X.trans Ext.put⟩
    · unfold ivs ids
      rw [List.length_map, List.length_take, List.length_map]
      exact small1000 (by omega)
    · unfold ids
      rw [upd_same, List.take_add_one, List.getElem?_map, ht]
      unfold ivs
      rw [List.map_append]
      rfl
  obtain ⟨hD, X⟩ := hX
  have S1 := X.same nD
  clear X nD
  have hDl : H1 D = some (.lst (ivs (ids W))) := by
    rw [hD]
    unfold ids
    rw [hl2, ← List.length_map (f := Th.id), List.take_length]
  clear hD
  replace hW := hW.same S1
  replace hP := hP.same S1
  have hks : ∀ t ∈ W.ths, KdS t := ths_ks hxs
  walk_at "go"
  refine fun p2 H2 S2 hP2 => ?_
  replace hW := hW.same S2
  replace hP := hP.same S2
  replace hDl := S2 _ _ hDl
  walk_at "go"
  refine ⟨_, _, dp_wd hP2, dp_wd hP, wd_sh hks, wd_sh hks, ?_⟩
  rw [wd_eqv, decide_eq_true rfl]
  clear hP2
  obtain ⟨dx, l, a2, hs, hl, hld, hth⟩ := id hW
  walk_at "go"
  have hll : (ivs (ids W)).length < sizeLine := by
    unfold ivs ids
    rw [List.length_map, List.length_map]
    exact small1000 (by omega)
  have hb1 : (0 : Int) ≤ (W.ths.length : Int) ∧ (W.ths.length : Int) < 2 ^ 63 := ⟨by omega, by omega⟩
  have hb2 : (W.ths.length : Int) ≤ 1000 := by omega
  refine fun ql nql => ?_
  generalize hH : upd H2 ql _ = H3
  have S3 : Same H2 H3 := by rw [← hH]; exact same_new nql
  have hql : H3 ql = some (.lst []) := by rw [← hH]; exact upd_same
  clear hH
  have hs3 := slt_same hs S3
  have hl3 := S3 _ _ hl
  have ne1 : l ≠ ql := ne_of_none hl nql
  walk_at "go"
  refine fun it nit => ?_
  generalize hH : upd H3 it _ = H4
  have S4 : Same H3 H4 := by rw [← hH]; exact same_new nit
  have hit : H4 it = some ((ItO l it 0)) := by rw [← hH]; exact upd_same
  clear hH
  have hs4 := slt_same hs3 S4
  have hl4 : SqL K H4 l (ivs (ids W)) := .of (S4 _ _ hl3)
  have hq4 := S4 _ _ hql
  have ne2 : l ≠ it := ne_of_none hl3 nit
  have ne3 : it ≠ ql := ne_of_none' hql nit
  have hW4 := (hW.same S3).same S4
  walk_at "go"
  refine fun H5 h51 h52 => ?_
  have S5 : Same H2 H5 := fun b o e => by
    rw [h51 b (ne_of_none e nql) (ne_of_none (S3 _ _ e) nit)]
    exact S4 _ _ (S3 _ _ e)
  have hq5 : SqL K H5 ql (ivs (ids W)) := .of h52
  have hD5 : SqL K H5 D (ivs (ids W)) := .of (S5 _ _ hDl)
  clear hs3 hl3 hs4 hl4 hq4 hW4 h51 h52 hit hql ne1 ne2 ne3 S3 S4 nit nql
  replace hW := hW.same S5
  replace hP := hP.same S5
  replace hs := slt_same hs S5
  replace hl := S5 _ _ hl
  replace hth := hth.same S5
  walk_at "go"
  refine ⟨_, _, dp_il hq5, dp_il hD5, il_sh _, il_sh _, ?_⟩
  rw [il_eqv, decide_eq_true rfl]
  have hD6 : (ivs (ids W)).length = W.ths.length := by unfold ivs ids; rw [List.length_map, List.length_map]
  walk_at "go"
  refine iteN (nd_f (by rw [hD6])) ?_
  have ht1 := hf.tk
  have ht : 0 ≤ W.tick ∧ W.tick ≤ big := ⟨ht1.1, by unfold big; omega⟩
  have g1 : W.tick.natAbs.log2 < 1920 := log_big ht.1 ht.2
  have g2 : (((ivs (ids W)).length : Int)).natAbs.log2 < 1920 := log_big (by omega) (by unfold big; omega)
  have m1 := int_text_len_1921 g1
  have m2 := int_text_len_1921 g2
  have z1 : ("world at " : Str).length + (toString W.tick : Str).length ≤ sizeLine := by
    rw [show ("world at " : Str).length = 9 by decide +kernel, sizeLine_eq]
    omega
  have z2 : (("world at " : Str) ++ (toString W.tick : Str)).length + (" of " : Str).length ≤ sizeLine := by
    rw [Str.length_append, show ("world at " : Str).length = 9 by decide +kernel, show (" of " : Str).length = 4 by decide +kernel, sizeLine_eq]
    omega
  have z3 : (("world at " : Str) ++ (toString W.tick : Str) ++ (" of " : Str)).length + (toString ((ivs (ids W)).length : Int) : Str).length ≤ sizeLine := by
    rw [Str.length_append, Str.length_append, show ("world at " : Str).length = 9 by decide +kernel, show (" of " : Str).length = 4 by decide +kernel, sizeLine_eq]
    omega
  have z4 : (("world at " : Str) ++ (toString W.tick : Str) ++ (" of " : Str) ++ (toString ((ivs (ids W)).length : Int) : Str)).length + (" things" : Str).length ≤ sizeLine := by
    rw [Str.length_append, Str.length_append, Str.length_append, show ("world at " : Str).length = 9 by decide +kernel, show (" of " : Str).length = 4 by decide +kernel, show (" things" : Str).length = 7 by decide +kernel, sizeLine_eq]
    omega
  obtain ⟨a3, hp5, hth5⟩ := id hP
  walk_at "go"
  refine iteN (nd_f (by rw [hD6]; rfl)) ?_
  clear m1 m2 z1 z2 z3 z4 g1 g2 hq5 hD5 hDl
  walk_at "go"
  refine fun pt npt => ?_
  generalize hH : upd H5 pt _ = H6
  have S6 : Same H5 H6 := by rw [← hH]; exact same_new npt
  have hpt : SqT K H6 pt [V.str "hero"] := by rw [← hH]; exact .of upd_same
  clear hH
  have z9 : ([V.str "hero", V.str "coin", V.str "a", V.str "zzzzzzzz", V.str "box", V.str "none", V.non, V.int 0, V.ref pt]).length ≤ sizeLine := by show 9 ≤ sizeLine; decide
  walk_at "go"
  refine fun pk npk => ?_
  generalize hH : upd H6 pk _ = H7
  have S7 : Same H6 H7 := by rw [← hH]; exact same_new npk
  have hpk : SqT K H7 pk (kinds pt) := by rw [← hH]; exact .of upd_same
  clear hH
  have S57 := S6.trans S7
  replace hW := hW.same S57
  replace hP := hP.same S57
  replace hpt := same_sqt S7 hpt
  have hkx : ∀ (i : Nat) (x : V), (kinds pt)[i]? = some x → KdX K H7 x := by
    intro i x hx
    have hx := List.mem_of_getElem? hx
    simp only [kinds, List.mem_cons, List.not_mem_nil, or_false] at hx
    rcases hx with rfl | rfl | rfl | rfl | rfl | rfl | rfl | rfl | rfl
    · exact .inl ⟨_, rfl, by decide +kernel⟩
    · exact .inl ⟨_, rfl, by decide +kernel⟩
    · exact .inl ⟨_, rfl, by decide +kernel⟩
    · exact .inl ⟨_, rfl, by decide +kernel⟩
    · exact .inl ⟨_, rfl, by decide +kernel⟩
    · exact .inl ⟨_, rfl, by decide +kernel⟩
    · exact .inr (.inl rfl)
    · exact .inr (.inr (.inl ⟨_, rfl⟩))
    · exact .inr (.inr (.inr ⟨pt, _, rfl, hpt, by decide +kernel⟩))
  have S17 : Same H H7 := S1.trans (S2.trans (S5.trans S57))
  clear hs hl hth hp5 hth5 S57 S6 S7 S5 S2 S1 hll hb1 hb2 hld z9 hpt ht ht1
  refine ⟨_, rfl, ⟨_, hpk⟩, for_it (walk_tup (xs := kinds pt)) (fun i σ H' => Stp (∃ y3 y4 y5 y6 y7, σ = [some (.ref w), some (.ref p), some (.ref D), y3, y4, y5, y6, y7] ∧ Same H7 H')) (.of ⟨_, _, _, _, _, rfl, Same.refl _⟩) (fun i σ H' hi hX => ?_) (fun i x σ H8 H9 hi hX hy => ?_) (fun σ H8 hX => ?_)⟩
  · obtain ⟨_, _, _, _, _, _, S⟩ := hX.get
    exact same_sqt S hpk
  · obtain ⟨rfl, hy⟩ := hy
    obtain ⟨y3, y4, y5, y6, y7, rfl, S8⟩ := hX.get
    have hx := (hkx i x hy).mono fun q => same_sqt S8 q
    have hW8 := hW.same S8
    obtain ⟨a, hp8, xs, ha, hxs⟩ := hP.same S8
    clear hX hW hP hpk hkx
    obtain ⟨dx, l, a2, hs, _⟩ := id hW8
    have hl3 := Paired.length hxs
    walk_at "go"
    refine fun pi Hb Sb hpi => ?_
    replace hx := hx.mono fun q => same_sqt Sb q
    replace hW8 := hW8.same Sb
    replace ha := same_sqt Sb ha
    replace hp8 := same_sqt Sb hp8
    replace hxs := L2.Paired.mapP hxs fun _ _ h => ThV.same h Sb
    clear hs
    walk_at "go"
    refine fun E1 nE => lc_it walk_tup (fun j H' => H' E1 = some (.lst (ivs (((W.ths.take j).filter fun t => kdB x t.kd).map Th.id))) ∧ Ext E1 Hb H') ⟨upd_same, Ext.new nE⟩ (fun _ _ _ hW => same_sqt (hW.2.same nE) ha) (fun j y H1 H2 hj hX hy => ?_) (fun H1 hX => ?_)
    · obtain ⟨rfl, hy⟩ := hy
      obtain ⟨hD, X⟩ := hX
      obtain ⟨t, ht, hyt⟩ := paired_get hxs hy
      obtain ⟨p, n, rfl, hp, hn, hkd⟩ := hyt.same (X.same nE)
      obtain ⟨e, he, hse, hev⟩ := (hx.mono fun z => same_sqt (X.same nE) z).dp
      have hsk : SeqAt.shaped (.str t.kd) = true := str_sh hkd
      walk_at "go"
      refine ⟨.str t.kd, e, .str _, he, hsk, hse, ?_⟩
      rw [hev]
      walk_at "go"
      refine ite2 (fun e => ?_) (fun e => ?_)
      · walk_at "go"
        refine ⟨_, hD, ?_, ?_, X.trans Ext.put⟩
        · unfold ivs
          rw [List.length_map, List.length_map]
          refine small1000 ?_
          have := List.length_filter_le (fun t => kdB x t.kd) (W.ths.take j)
          rw [List.length_take] at this
          omega
        · rw [upd_same, flt_step ht, e]
          unfold ivs
          rw [if_pos rfl, List.map_append, List.map_append]
          rfl
      · refine ⟨?_, X⟩
        rw [flt_step ht, if_neg e, List.append_nil]
        exact hD
    · obtain ⟨hD, X⟩ := hX
      rw [hl3, List.take_length] at hD
      have hD' : SqL K H1 E1 (ivs ((W.ths.filter fun t => kdB x t.kd).map Th.id)) := .of hD
      have S1 := X.same nE
      replace hpi := same_sqt S1 hpi
      walk_at "go"
      refine .inl ⟨hD', ?_⟩
      refine fun pj npj => ?_
      generalize hH : upd H1 pj _ = H2
      have S2 : Same H1 H2 := by rw [← hH]; exact same_new npj
      have hpj : SqT K H2 pj (ivs ((W.ths.filter fun t => kdB x t.kd).map Th.id)) := by rw [← hH]; exact .of upd_same
      clear hH
      replace hpi := same_sqt S2 hpi
      refine ⟨_, _, dp_ns hpi, dp_ns hpj, ns_sh _, ns_sh _, ?_⟩
      rw [ns_eqv, decide_eq_true rfl]
      walk_at "go"
      exact .of ⟨_, _, _, _, _, rfl, S8.trans (Sb.trans (S1.trans S2))⟩
  · obtain ⟨y3, y4, y5, y6, y7, rfl, S8⟩ := hX.get
    replace hW := hW.same S8
    obtain ⟨a, hp8, xs, ha, hxs⟩ := hP.same S8
    clear hX hP hpk hkx
    have hl3 := Paired.length hxs
    walk_at "go"
    refine for_it (walk_tup (xs := xs)) (fun i σ H' => Stp (∃ y3 y4 y5 y6 y7, σ = [some (.ref w), some (.ref p), some (.ref D), y3, y4, y5, y6, y7] ∧ Same H8 H')) (.of ⟨_, _, _, _, _, rfl, Same.refl _⟩) (fun i σ H' hi hX => ?_) (fun i x σ H9 Ha hi hX hy => ?_) (fun σ H9 hX => ?_)
    · obtain ⟨_, _, _, _, _, _, S⟩ := hX.get
      exact same_sqt S ha
    · obtain ⟨rfl, hy⟩ := hy
      obtain ⟨y3, y4, y5, y6, y7, rfl, S9⟩ := hX.get
      obtain ⟨t, ht, hyt⟩ := paired_get hxs hy
      obtain ⟨pp, n, rfl, hpp, hn, hkd⟩ := hyt.same S9
      have hW9 := hW.same S9
      obtain ⟨dx, l, a2, hs, _⟩ := id hW9
      clear hX hW hxs ha hp8
      have htm := List.mem_of_getElem? ht
      have hin : inW (.int t.id) W = true := decide_eq_true (List.mem_map.mpr ⟨t, htm, rfl⟩)
      have hex : ∃ u ∈ W.ths, u.id = t.id := ⟨t, htm, rfl⟩
      walk_at "go"
      rw [hin]
      walk_at "go"
      refine fun t1 Hb Sb ht1 hi1 => ?_
      obtain rfl := th_uniq hf.as ht1 htm hi1
      replace hW9 := hW9.same Sb
      replace hs := slt_same hs Sb
      replace hn := same_sqt Sb hn
      walk_at "go"
      refine iteN (nd_f rfl) ?_
      walk_at "go"
      refine fun t2 n2 Hc Sc ht2 hi2 hn2 => ?_
      obtain rfl := th_uniq hf.as ht2 htm hi2
      replace hn := same_sqt Sc hn
      walk_at "go"
      refine ⟨_, _, dp_ns hn2, dp_ns hn, ns_sh _, ns_sh _, ?_⟩
      rw [ns_eqv, decide_eq_true rfl]
      walk_at "go"
      exact .of ⟨_, _, _, _, _, rfl, S9.trans (Sb.trans Sc)⟩
    · obtain ⟨y3, y4, y5, y6, y7, rfl, S9⟩ := hX.get
      replace hW := hW.same S9
      replace hp8 := same_sqt S9 hp8
      clear hX ha hxs
      walk_at "go"
      refine fun p0 np0 => ?_
      generalize hH : upd H9 p0 _ = Ha
      have Sa : Same H9 Ha := by rw [← hH]; exact same_new np0
      have hp0 : Ha p0 = some (.tup [V.int 0]) := by rw [← hH]; exact upd_same
      clear hH
      replace hW := hW.same Sa
      replace hp8 := same_sqt Sa hp8
      walk_at "go"
      refine fun po npo => ?_
      generalize hH : upd Ha po _ = Hb
      have Sb : Same Ha Hb := by rw [← hH]; exact same_new npo
      have hpo : SqL K Hb po (odd W.nx p0) := by rw [← hH]; exact .of upd_same
      clear hH
      replace hW := hW.same Sb
      replace hp0 := Sb _ _ hp0
      have hodd : ∀ (i : Nat) (x : V), (odd W.nx p0)[i]? = some x → Jd K Hb x ∧ inW x W = false := by
        intro i x hx
        have hx := List.mem_of_getElem? hx
        simp only [odd, List.mem_cons, List.not_mem_nil, or_false] at hx
        have hid : ∀ k : Int, (∀ t ∈ W.ths, t.id ≠ k) → inW (.int k) W = false := fun k h => decide_eq_false fun z => by
          obtain ⟨t, ht, e⟩ := List.mem_map.mp z
          exact h t ht e
        rcases hx with rfl | rfl | rfl | rfl | rfl | rfl | rfl | rfl
        · exact ⟨.bl _, rfl⟩
        · exact ⟨.bl _, rfl⟩
        · exact ⟨.non, rfl⟩
        · exact ⟨.str _, rfl⟩
        · refine ⟨.int _, hid _ fun t ht => ?_⟩
          have := hf.as.2 t ht
          omega
        · refine ⟨.int _, hid _ fun t ht => ?_⟩
          have := (hf.ths t ht).id
          omega
        · exact ⟨.tup hp0, rfl⟩
        · refine ⟨.int _, hid _ fun t ht => ?_⟩
          have := hf.as.2 t ht
          have h40 : (0 : Int) ≤ 10 ^ Int.toNat 40 := by decide
          omega
      walk_at "go"
      refine fun E1 nE => lc_it (walk_list (xs := odd W.nx p0)) (fun j H' => H' E1 = some (.lst []) ∧ Ext E1 Hb H') ⟨upd_same, Ext.new nE⟩ (fun _ _ _ hW => (hW.2.same nE).seq hpo) (fun j y H1 H2 hj hX hy => ?_) (fun H1 hX => ?_)
      · obtain ⟨rfl, hy⟩ := hy
        obtain ⟨hD, X⟩ := hX
        obtain ⟨hj1, hj2⟩ := hodd j y hy
        have hj3 := hj1.same (X.same nE)
        have hW9 := hW.same (X.same nE)
        obtain ⟨dx, l, a2, hs, _⟩ := id hW9
        walk_at "go"
        rw [hj2]
        walk_at "go"
        exact X
      · obtain ⟨hD, X⟩ := hX
        have hDl : SqL K H1 E1 [] := .of hD
        have S1 := X.same nE
        walk_at "go"
        refine fun pz npz => ?_
        generalize hH : upd H1 pz _ = H2
        have S2 : Same H1 H2 := by rw [← hH]; exact same_new npz
        have hpz : SqL K H2 pz [] := by rw [← hH]; exact .of upd_same
        clear hH
        have hDl2 := S2.seq hDl
        refine ⟨.list [], .list [], .lst hDl2 .nil, .lst hpz .nil, rfl, rfl, ?_⟩
        exact q H2 (S17.trans (S8.trans (S9.trans (Sa.trans (Sb.trans (S1.trans S2))))))

end
/-! ### tuples one behind the other, slices of them: one way for all -/
section
variable {X : Cx}
def rCatW (K : PySem.W.Frag) : R2 := fun x y H Q => ∃ a b xs ys, x = .ref a ∧ y = .ref b ∧ SqT K H a xs ∧ SqT K H b ys ∧ xs.length + ys.length ≤ sizeLine ∧ ∀ pc H', Same H H' → SqT K H' pc (xs ++ ys) → Q (.ref pc) H'
theorem op_catW : OpR X (binaryOp .Add) (rCatW X.K) := by
  intro pins s σ H x y v u Q I rx ry h
  obtain ⟨a, b, xs, ys, rfl, rfl, ha, hb, hl, q⟩ := h
  refine op_catA pins s σ H _ _ v u Q I rx ry ⟨a, b, xs, ys, rfl, rfl, ha, hb, hl, fun e => ?_, fun _ e => ?_, fun _ _ p np => q p _ (same_new np) (.of upd_same)⟩
  · subst e
    exact q b H (Same.refl H) hb
  · subst e
    exact q a H (Same.refl H) (by rw [List.append_nil]; exact ha)
theorem cut_whole {xs : List V} {lo hi : Option Int} (h : HT.sIx xs.length 0 lo = 0 ∧ HT.sIx xs.length xs.length hi = xs.length) : cutV xs lo hi = xs := by
  unfold cutV
  rw [h.1, h.2, List.drop_zero, Nat.sub_zero, List.take_length]
def rSlW (K : PySem.W.Frag) : V → Option Int → Option Int → Hp → VK → Prop := fun x lo hi H Q => ∃ a xs, x = .ref a ∧ SqT K H a xs ∧ ∀ pc H', Same H H' → SqT K H' pc (cutV xs lo hi) → Q (.ref pc) H'
theorem sl_tupW : SlR X (rSlW X.K) := by
  intro pins s σ H x v vl vu lo hi sl Q I rx hs pl pu h
  obtain ⟨a, xs, rfl, hx, q⟩ := h
  exact sl_tupA pins s σ H _ v vl vu lo hi sl Q I rx hs pl pu ⟨a, xs, rfl, hx, fun e => q a H (Same.refl H) (by rw [cut_whole e]; exact hx), fun _ p np => q p _ (same_new np) (.of upd_same)⟩
end

section
variable {P : Program} {w : World} {K : PySem.W.Frag} {mg : Str → Option Value} {base : Heap}
/-! ### short tactics -/
local macro_rules | `(tactic| walk_at "side") => `(tactic| first
  | with_reducible assumption | (exact ⟨by omega, by omega⟩) | exact True.intro | rfl | exact Nat.le_of_ble_eq_true rfl | with_reducible exact Int.natCast_nonneg _ | decide | omega
  | ((with_reducible show KDct _ _ _ _ _); assumption)
  | ((with_reducible show SlX.SCls _ _); assumption)
  | ((with_reducible show SlX.Slot1 _ _ _ _ _); assumption)
  | ((with_reducible show ClsV _ _); first | exact .own _ | exact .ty _)
  | ((with_reducible show TyA _ _ _ _); assumption)
  | ((with_reducible show Eq (PySem.W.kitOne _ _ _) _); assumption)
  | ((with_reducible show Jd _ _ _); first | assumption | exact .int _ | exact .str _ | exact .non | exact .bl _)
  | ((with_reducible show SqT _ _ _ _); walk_at "sq") | ((with_reducible show SqL _ _ _ _); walk_at "sq")
  | exact Or.inl rfl | exact Or.inr rfl
  | (intro z; exact absurd (show 1 = 0 from z.1) (by decide)) | (intro z; exact absurd (show 2 = 0 from z.1) (by decide))
  | (exact Or.inl ⟨by omega, by omega⟩) | (exact Or.inr ⟨by omega, by omega⟩)
  | (exact ⟨by omega, by omega, by omega⟩) | (exact ⟨by decide, by decide, by decide⟩)
  | (exact wide_div (b := 250) (by omega) (by omega) (by decide) (by decide))
  | (exact wide_mul (a := 250) (b := 250) (by omega) (by omega) (by decide) (by decide) (by decide))
  | decide +kernel | (dsimp only; decide +kernel)
  | (exact wide_mul (a := 250) (b := 250) (by decide +kernel) (by decide +kernel) (by decide) (by decide) (by decide)))
local macro_rules | `(tactic| walk_at "idx") => `(tactic| first
  | assumption | exact atI_nat (j := 0) rfl | exact atI_nat (j := 1) rfl | exact atI_nat (j := 2) rfl | exact atI_nat (j := 3) rfl | exact atI_nat (j := 4) rfl | exact atI_nat (j := 5) rfl)
local macro_rules | `(tactic| walk_at "sq") => `(tactic| first
  | assumption | exact SqL.of upd_same | exact SqT.of upd_same | exact SqL.of (by assumption) | exact SqT.of (by assumption)
  | exact SqT.of (same_new (by assumption) _ _ upd_same) | exact SqL.of (same_new (by assumption) _ _ upd_same)
  | exact SqT.of (same_new (by assumption) _ _ (by assumption)) | exact SqL.of (same_new (by assumption) _ _ (by assumption))
  | exact SqT.of (same_new (by assumption) _ _ (same_new (by assumption) _ _ upd_same)) | exact SqL.of (same_new (by assumption) _ _ (same_new (by assumption) _ _ upd_same)))
local macro_rules | `(tactic| walk_at "dp") => `(tactic| first
  | exact .non | exact .bl _ | exact .int _ | exact .str _
  | (refine .tup (by walk_at "sq") ?_; walk_at "dps") | (refine .lst (by walk_at "sq") ?_; walk_at "dps"))
local macro_rules | `(tactic| walk_at "dps") => `(tactic| first
  | exact .nil | (refine .cons (by walk_at "dp") ?_; walk_at "dps"))
local macro_rules | `(tactic| walk_at "go") => `(tactic| repeat first
  | (show @ite _ _ _ _ _; with_reducible (first | refine iteT ?_ | refine iteF ?_ | refine iteNT ?_ | refine iteNF ?_))
  | ((fail_if_success (show @ite _ _ _ _ _)); first
    | refine And.intro (by walk_at "side") ?_
    | refine ⟨_, rfl, ?_⟩
    | refine ⟨_, _, rfl, rfl, ?_⟩
    | refine ⟨_, _, rfl, .inl (by walk_at "sq"), ?_⟩
    | refine ⟨_, _, rfl, .inr (by walk_at "sq"), ?_⟩
    | refine ⟨_, _, rfl, ?_⟩
    | refine ⟨_, _, _, rfl, ?_⟩
    | refine ⟨_, _, _, _, rfl, ?_⟩
    | refine ⟨_, _, _, _, _, rfl, ?_⟩
    | refine ⟨_, _, _, _, rfl, rfl, (by walk_at "sq"), (by walk_at "idx"), ?_⟩
    | refine ⟨_, _, _, _, _, rfl, .ty _, (by assumption), kit_ty (by assumption), ?_⟩
    | refine And.intro ⟨_, by walk_at "sq"⟩ ?_
    | refine .inl ⟨_, rfl, ?_⟩
    | refine .inr ⟨_, rfl, ?_⟩
    | (apply Exists.intro; (repeat apply Exists.intro); refine And.intro rfl ?_)))
local macro_rules | `(tactic| walk_at "unp2") => `(tactic| refine ⟨_, _, rfl, (by walk_at "sq"), rfl, _, _, rfl, _, _, rfl, rfl, ?_⟩)
local macro_rules | `(tactic| walk_at "unp3") => `(tactic| refine ⟨_, _, rfl, (by walk_at "sq"), rfl, _, _, rfl, _, _, rfl, _, _, rfl, rfl, ?_⟩)
local macro_rules | `(tactic| walk_at "pick") => `(tactic| refine ⟨_, _, _, rfl, SqL.of upd_same, Dice.ne (by assumption) (by assumption), Nat.zero_lt_succ _, Nat.le_of_ble_eq_true rfl, Dice.new (by assumption) (by assumption), ?_⟩)
local macro_rules | `(tactic| walk_at "tt") => `(tactic| first
  | refine iteY rfl ?_ | refine iteN (fun z => Bool.noConfusion (show false = true from z)) ?_)

theorem Wd.fine.mono {W : Wd} {b c : Int} (f : W.fine b) (h : b ≤ c) : W.fine c := ⟨f.tk, ⟨f.nx.1, by have := f.nx.2; omega⟩, f.lu, f.n, f.ths, f.as⟩
theorem Wd.fine.made {W : Wd} {b : Int} {kd : Str} {ns : List Int} (f : W.fine b) (hk : NmOk kd) (n1 : 1 ≤ ns.length) (n8 : ns.length ≤ 8) (hns : ∀ i ∈ ns, Num i) (h : W.ths.length < 12) (hb : b ≤ 100) : (madeW W kd ns).fine (b + 1) := by
  have h1 := f.nx
  refine ⟨f.tk, ⟨by show 0 ≤ W.nx + 1; omega, by show W.nx + 1 ≤ _; omega⟩, f.lu, ?_, fun t ht => ?_, asc_snoc f.as (Int.le_refl _) (by show W.nx < W.nx + 1; omega)⟩
  · show (W.ths ++ [_]).length ≤ 12
    rw [List.length_append, List.length_singleton]
    omega
  · rcases List.mem_append.mp ht with z | z
    · exact f.ths t z
    · rw [List.mem_singleton.mp z]
      exact ⟨h1.1, hk, n1, n8, hns⟩
theorem ok_l_made (T : Tp K mg) : FnOk P w K mg base CX0 13 T.a_l_made T.d_l_made ["_law_dice_here", "_law_world", "_law_plain"] (sp_l_made K T.C_World) := by
  refine T.F_l_made.ok sc_l_made ?len (fun cdv A outer s H vs Q E hr h => ?_)
  case len => intro vs H Q E h; obtain ⟨d, g, w, p, W, b, rfl, _⟩ := h; rfl
  obtain ⟨d, g, w, p, W, b, rfl, D0, hg, hgd, hW, hP, hf, hb, q_1⟩ := h
  have n12 := hf.n
  refine ⟨_, (pss_cons (ps_par (i := 3) (j := 4) (by rfl) sc_l_made.nd rfl rfl (by decide) rfl rfl (pa_cons (pe_call (ok_l_kind_drawn T) (hr.mono (by decide)) (by rfl) T.g_l_kind_drawn T.F_l_kind_drawn.kp T.b_l_kind_drawn .nil pass0 (pa_cons (pv 0) pa_nil)) (pa_cons (pe_call (ok_l_numbers T) (hr.mono (by decide)) (by rfl) T.g_l_numbers T.F_l_numbers.kp T.b_l_numbers .nil pass0 (pa_cons (pv 0) pa_nil)) pa_nil)) (by rfl))
    (pss_cons (ps_set (i := 5) sc_l_made.nd rfl (Or.inl rfl) (pe_call (ok_made T) (hr.mono (by decide)) (by rfl) T.g_made T.F_made.kp T.b_made .nil pass0 (pa_cons (pv 1) (pa_cons (pv 3) (pa_cons (pv 4) pa_nil)))))
    (pss_cons (ps_if (pt_cmpR op_eq (pe_callB call_len_seq (by rfl) T.m_len (by decide +kernel) (pa_cons (pe_ix ix_tup (pv 2) pe_int (fun _ _ => rfl)) pa_nil)) pe_int (nomark _)) (pss_one (ps_ret (pe_ifExp (pt_cmp (pc_isN (pe_ix ix_tup (pv 5) pe_int (fun _ _ => rfl))) rfl) (pe_tup (pa_cons (pe_ix ix_tup (pv 5) pe_int (fun _ _ => rfl)) (pa_cons (pv 2) pa_nil))) pe_non))) pss_nil)
    (pss_cons (ps_if (pt_cmpR op_ne (pe_ix ix_tup (pv 5) pe_int (fun _ _ => rfl)) (pe_ix ix_tup (pv 2) pe_int (fun _ _ => rfl)) (nomark _)) (pss_one (ps_ret pe_non)) pss_nil)
    (pss_one (ps_ret (pe_tup (pa_cons (pe_ix ix_tup (pv 5) pe_int (fun _ _ => rfl)) (pa_cons (pe_tup (pa_cons (pe_ix ix_tup (pv 2) pe_int (fun _ _ => rfl)) (pa_cons (pe_op op_add (pe_ix ix_tup (pv 2) pe_int (fun _ _ => rfl)) pe_int) (pa_cons (pe_ix ix_tup (pv 2) pe_int (fun _ _ => rfl)) (pa_cons (pe_op op_catW (pe_ix ix_tup (pv 2) pe_int (fun _ _ => rfl)) (pe_tup (pa_cons (pe_tup (pa_cons (pe_ix ix_tup (pv 2) pe_int (fun _ _ => rfl)) (pa_cons (pv 3) (pa_cons (pv 4) pa_nil)))) pa_nil))) pa_nil))))) pa_nil))))))))), ?_⟩
  walk_at "go"
  refine fun kd H1 hkd D1 X1 => ?_
  walk_at "go"
  refine fun n ns H2 n1 n8 hns hn D2 X2 => ?_
  have X12 := X1.trans X2
  replace hW := hW.ext X12 D0
  replace hP := hP.ext X12 D0
  replace hg := hg.ext X12 hgd
  have hli := D2.li hg
  walk_at "go"
  refine fun r H3 S3 hr => ?_
  have D3 := D2.same S3
  replace hn := same_sqt S3 hn
  replace hW := hW.same S3
  obtain ⟨a, hp, xs, ha, hxs⟩ := hP.same S3
  have hl3 := Paired.length hxs
  rcases hr with ⟨hlen, hr⟩ | ⟨hlen, u, hr, hu⟩
  · walk_at "go"
    refine iteY (d_t (by rw [hl3, hlen]; rfl)) ?_
    walk_at "go"
    refine iteY (d_t rfl) ?_
    walk_at "go"
    refine fun q nq => ?_
    generalize hH : upd H3 q _ = H4
    have S4 : Same H3 H4 := by rw [← hH]; exact same_new nq
    have hq : SqT K H4 q [.ref w, .ref p] := by rw [← hH]; exact .of upd_same
    clear hH
    exact q_1 q w p W H4 (hf.mono (by omega)) (Int.le_refl _) hq (hW.same S4) ⟨a, same_sqt S4 hp, xs, same_sqt S4 ha, L2.Paired.mapP hxs fun _ _ h => ThV.same h S4⟩ (D3.same S4) (X12.trans ((Ext.of S3).trans (.of S4)))
  · have hne : ¬ (V.int (xs.length : Int) = V.int 12) := fun z => by
      injection z with z
      omega
    walk_at "go"
    refine iteN (d_f hne) ?_
    walk_at "go"
    refine iteN (nd_f rfl) ?_
    walk_at "go"
    refine fun t1 nt1 => ?_
    generalize hH : upd H3 t1 _ = H4
    have S4 : Same H3 H4 := by rw [← hH]; exact same_new nt1
    have ht1 : SqT K H4 t1 [.int W.nx, .str kd, .ref n] := by rw [← hH]; exact .of upd_same
    clear hH
    replace ha := same_sqt S4 ha
    walk_at "go"
    refine fun t2 nt2 => ?_
    generalize hH : upd H4 t2 _ = H5
    have S5 : Same H4 H5 := by rw [← hH]; exact same_new nt2
    have ht2 : SqT K H5 t2 [.ref t1] := by rw [← hH]; exact .of upd_same
    clear hH
    replace ha := same_sqt S5 ha
    have S35 := S4.trans S5
    have z1 : xs.length + [V.ref t1].length ≤ sizeLine := Nat.le_of_lt (small1000 (by show xs.length + 1 ≤ 1000; omega))
    walk_at "go"
    refine fun pc H6 S6 hpc => ?_
    have hpc : SqT K H6 pc (xs ++ [V.ref t1]) := hpc
    have S36 := S35.trans S6
    have z4 : ([V.int W.tick, V.int (W.nx + 1), V.int W.luck, V.ref pc]).length ≤ sizeLine := by show 4 ≤ sizeLine; decide
    walk_at "go"
    refine fun p2 np2 => ?_
    generalize hH : upd H6 p2 _ = H7
    have S7 : Same H6 H7 := by rw [← hH]; exact same_new np2
    have hp2 : SqT K H7 p2 [V.int W.tick, V.int (W.nx + 1), V.int W.luck, V.ref pc] := by rw [← hH]; exact .of upd_same
    clear hH
    walk_at "go"
    refine fun q nq => ?_
    generalize hH : upd H7 q _ = H8
    have S8 : Same H7 H8 := by rw [← hH]; exact same_new nq
    have hq : SqT K H8 q [.ref u, .ref p2] := by rw [← hH]; exact .of upd_same
    clear hH
    have S68 := S7.trans S8
    have S58 := S6.trans S68
    have S38 := S36.trans S68
    refine q_1 q u p2 (madeW W kd ns) H8 (hf.made hkd n1 n8 hns hlen hb) (by show W.nx ≤ W.nx + 1; omega) hq (hu.same S38) ⟨pc, same_sqt S8 hp2, xs ++ [.ref t1], same_sqt S68 hpc, ?_⟩ (D3.same S38) (X12.trans ((Ext.of S3).trans (.of S38)))
    exact paired_app (L2.Paired.mapP hxs fun _ _ h => ThV.same h S38) (.cons ⟨t1, n, rfl, same_sqt (S5.trans S58) ht1, same_sqt S38 hn, strOk_of hkd.2.2⟩ .nil)
theorem Wd.fine.drop {W : Wd} {b i : Int} (f : W.fine b) : (dropW W i).fine b := by
  refine ⟨f.tk, f.nx, f.lu, Nat.le_trans (List.length_filter_le ..) f.n, fun t ht => f.ths t (List.mem_filter.mp ht).1, ?_, fun t ht => f.as.2 t (List.mem_filter.mp ht).1⟩
  have h := f.as.1
  rw [List.pairwise_map] at h ⊢
  exact h.sublist (List.filter_sublist ..)
theorem mem_put {ns : List Int} {j : Nat} {k x : Int} (h : x ∈ putN ns j k) : x = k ∨ x ∈ ns := by
  rcases List.mem_append.mp h with h | h
  · exact .inr (List.mem_of_mem_take h)
  · rcases List.mem_cons.mp h with h | h
    · exact .inl h
    · exact .inr (List.mem_of_mem_drop h)
theorem len_put {ns : List Int} {j : Nat} {k : Int} (h : j < ns.length) : (putN ns j k).length = ns.length := by
  unfold putN
  rw [List.length_append, List.length_cons, List.length_take, List.length_drop]
  omega
theorem chg_id (i : Int) (j : Nat) (k : Int) (t : Th) : (chgT i j k t).id = t.id := by
  unfold chgT
  split <;> rfl
theorem Wd.fine.chg {W : Wd} {b i : Int} {j : Nat} {k : Int} (f : W.fine b) (hj : ∀ t ∈ W.ths, t.id = i → j < t.ns.length) (hk : Num k) : (chgW W i j k).fine b := by
  refine ⟨f.tk, f.nx, f.lu, by show (W.ths.map _).length ≤ 12; rw [List.length_map]; exact f.n, fun t ht => ?_, ?_, fun t ht => ?_⟩
  · obtain ⟨u, hu, rfl⟩ := List.mem_map.mp ht
    have hok := f.ths u hu
    unfold chgT
    split
    · next e =>
      have hju := hj u hu e
      refine ⟨hok.id, hok.kd, ?_, ?_, fun x hx => ?_⟩
      · show 1 ≤ (putN u.ns j k).length
        rw [len_put hju]
        exact hok.n1
      · show (putN u.ns j k).length ≤ 8
        rw [len_put hju]
        exact hok.n8
      · rcases mem_put hx with z | z
        · rw [z]; exact hk
        · exact hok.ns x z
    · exact hok
  · have h := f.as.1
    show ((W.ths.map (chgT i j k)).map Th.id).Pairwise (· < ·)
    rw [List.map_map, show Th.id ∘ chgT i j k = Th.id from funext fun t => chg_id i j k t]
    exact h
  · obtain ⟨u, hu, rfl⟩ := List.mem_map.mp ht
    rw [chg_id]
    exact f.as.2 u hu
theorem ok_l_done (T : Tp K mg) : FnOk P w K mg base CX0 14 T.a_l_done T.d_l_done ["_law_dice_here", "_law_world", "_law_plain"] (sp_l_done K T.C_World) := by
  refine T.F_l_done.ok sc_l_done ?len (fun cdv A outer s H vs Q E hr h => ?_)
  case len => intro vs H Q E h; obtain ⟨d, g, w, p, W, b, rfl, _⟩ := h; rfl
  obtain ⟨d, g, w, p, W, b, rfl, D0, hg, hgd, hW, hP, hf, hb, q_1⟩ := h
  have n12 := hf.n
  refine ⟨_, (pss_cons (ps_set (i := 3) sc_l_done.nd rfl (Or.inl rfl) (pe_call (ok_l_roll T) (hr.mono (by decide)) (by rfl) T.g_l_roll T.F_l_roll.kp T.b_l_roll .nil pass0 (pa_cons (pv 0) (pa_cons pe_int pa_nil))))
    (pss_cons (ps_if (PW.pt (pw_or (pt_cmpR op_lt (pv 3) pe_int (nomark _)) (pw_or1 (pt_cmpR (op_eqD hr.units) (pe_ix ix_tup (pv 2) pe_int (fun _ _ => rfl)) (pe_tup pa_nil) (nomark _))))) (pss_one (ps_ret (pe_call (ok_l_made T) (hr.mono (by decide)) (by rfl) T.g_l_made T.F_l_made.kp T.b_l_made .nil pass0 (pa_cons (pv 0) (pa_cons (pv 1) (pa_cons (pv 2) pa_nil)))))) pss_nil)
    (pss_cons (ps_asg (pe_call (ok_l_pick T) (hr.mono (by decide)) (by rfl) T.g_l_pick T.F_l_pick.kp T.b_l_pick .nil pass0 (pa_cons (pv 0) (pa_cons (pe_ix ix_tup (pv 2) pe_int (fun _ _ => rfl)) pa_nil))) (pg_tup (by rfl) (pgs_cons (pg_name (i := 4) sc_l_done.nd rfl (Or.inr rfl)) (pgs_cons (pg_name (i := 5) sc_l_done.nd rfl (Or.inl rfl)) (pgs_cons (pg_name (i := 6) sc_l_done.nd rfl (Or.inl rfl)) pgs_nil)))))
    (pss_cons (ps_if (pt_cmpR op_eq (pv 3) pe_int (nomark _)) (pss_one (ps_ret (pe_tup (pa_cons (pe_call (ok_dropped T) (hr.mono (by decide)) (by rfl) T.g_dropped T.F_dropped.kp T.b_dropped .nil pass0 (pa_cons (pv 1) (pa_cons (pv 4) pa_nil))) (pa_cons (pe_op op_catW (pe_slice sl_tupW (pv 2) po_none (po_some pe_int)) (pe_tup (pa_cons (pe_callTy call_tuple_of (by rfl) T.m_tuple (by decide +kernel) (pa_cons (pe_lc (own := [("_law_one", 10)]) (g := gName 10)  (by rfl) sc_l_done.nd (pi_tup (pe_ix ix_tup (pv 2) pe_int (fun _ _ => rfl))) (blkOk_by (own := [("_law_one", 10)]) (N := N_l_done) (sc := defScope s_l_done) (by decide +kernel)) (fun _ _ _ _ _ => pg_name (i := 10) sc_l_done.nd rfl (Or.inl rfl)) (fun _ _ _ _ _ => (pts_one (pt_cmpR op_ne (pe_ix (r := rIxT K) ix_tup (pv 10) pe_int (fun _ _ => rfl)) (pv 4) (nomark _)))) (fun _ _ _ _ _ => (pv 10))) pa_nil)) pa_nil))) pa_nil))))) pss_nil)
    (pss_cons (ps_par (i := 7) (j := 8) (by rfl) sc_l_done.nd rfl rfl (by decide) rfl rfl (pa_cons (pe_call (ok_l_roll T) (hr.mono (by decide)) (by rfl) T.g_l_roll T.F_l_roll.kp T.b_l_roll .nil pass0 (pa_cons (pv 0) (pa_cons (pe_callB call_len_seq (by rfl) T.m_len (by decide +kernel) (pa_cons (pv 6) pa_nil)) pa_nil))) (pa_cons (pe_call (ok_l_number T) (hr.mono (by decide)) (by rfl) T.g_l_number T.F_l_number.kp T.b_l_number .nil pass0 (pa_cons (pv 0) pa_nil)) pa_nil)) (by rfl))
    (pss_cons (ps_set (i := 9) sc_l_done.nd rfl (Or.inr rfl) (pe_tup (pa_cons (pv 4) (pa_cons (pv 5) (pa_cons (pe_op op_catW (pe_op op_catW (pe_slice sl_tupW (pv 6) po_none (po_some (pv 7))) (pe_tup (pa_cons (pv 8) pa_nil))) (pe_slice sl_tupW (pv 6) (po_some (pe_op op_add (pv 7) pe_int)) po_none)) pa_nil)))))
    (pss_one (ps_ret (pe_tup (pa_cons (pe_call (ok_changed T) (hr.mono (by decide)) (by rfl) T.g_changed T.F_changed.kp T.b_changed .nil pass0 (pa_cons (pv 1) (pa_cons (pv 4) (pa_cons (pv 7) (pa_cons (pv 8) pa_nil))))) (pa_cons (pe_op op_catW (pe_slice sl_tupW (pv 2) po_none (po_some pe_int)) (pe_tup (pa_cons (pe_callTy call_tuple_of (by rfl) T.m_tuple (by decide +kernel) (pa_cons (pe_lc (own := [("_law_one", 10)]) (g := gName 10) (tt := tYes) (by rfl) sc_l_done.nd (pi_tup (pe_ix ix_tup (pv 2) pe_int (fun _ _ => rfl))) (blkOk_by (own := [("_law_one", 10)]) (N := N_l_done) (sc := defScope s_l_done) (by decide +kernel)) (fun _ _ _ _ _ => pg_name (i := 10) sc_l_done.nd rfl (Or.inl rfl)) (fun _ _ _ _ _ => pts_nil) (fun _ _ _ _ _ => (pe_ifExp (pt_cmpR op_eq (pe_ix (r := rIxT K) ix_tup (pv 10) pe_int (fun _ _ => rfl)) (pv 4) (nomark _)) (pv 9) (pv 10)))) pa_nil)) pa_nil))) pa_nil))))))))))), ?_⟩
  walk_at "go"
  refine fun r H1 r0 r1 D1 X1 => ?_
  replace hW := hW.ext X1 D0
  replace hP := hP.ext X1 D0
  obtain ⟨a, hp, hth⟩ := id hP
  have hg1 := hg.ext X1 hgd
  walk_at "go"
  refine ite2 (fun e => ?_) (fun e => ?_)
  · walk_at "go"
    exact fun q u r W' H' h1 h2 h3 h4 h5 h6 h7 => q_1 q u r W' H' h1 h2 h3 h4 h5 h6 (X1.trans h7)
  walk_at "go"
  refine fun p0 np0 => ?_
  generalize hH : upd H1 p0 _ = H2
  have S2 : Same H1 H2 := by rw [← hH]; exact same_new np0
  have hp0 : SqT K H2 p0 [] := by rw [← hH]; exact .of upd_same
  clear hH
  replace hW := hW.same S2
  replace hP := hP.same S2
  replace hp := same_sqt S2 hp
  replace hth := hth.same S2
  have D2 := D1.same S2
  have X2 := X1.trans (Ext.of S2)
  have hg2 := hg.ext X2 hgd
  refine ⟨thsD W.ths, thsD [], dp_ths hth, .tup hp0 .nil, ths_sh hth.ks, rfl, ?_⟩
  rw [ths_eqv]
  walk_at "go"
  refine ite2 (fun e => ?_) (fun e0 => ?_)
  · walk_at "go"
    exact fun q u r W' H' h1 h2 h3 h4 h5 h6 h7 => q_1 q u r W' H' h1 h2 h3 h4 h5 h6 (X2.trans h7)
  obtain ⟨xs, ha, hxs⟩ := hth
  have hl3 := Paired.length hxs
  have e1 : W.ths ≠ [] := fun z => e0 (decide_eq_true z)
  have hpos : 0 < xs.length := by
    rw [hl3]
    exact List.length_pos_iff.mpr e1
  have hlt : xs.length < 1000 := by omega
  have hI : Itm K d H2 a xs := .inr ha
  walk_at "go"
  refine fun v H3 hv D3 X3 => ?_
  have hW3 := hW.ext X3 D2
  obtain ⟨i, hi⟩ := List.mem_iff_getElem?.mp hv
  obtain ⟨t, ht, hvt⟩ := paired_get hxs hi
  have htm := List.mem_of_getElem? ht
  obtain ⟨pt, n, rfl, hpt, hn, hkd⟩ := hvt.ext X3 D2
  have hxs3 := L2.Paired.mapP hxs fun _ _ h => ThV.ext h X3 D2
  have ha3 := sqtD X3 D2 ha
  have hp3 := sqtD X3 D2 hp
  have hex : ∃ u ∈ W.ths, u.id = t.id := ⟨t, htm, rfl⟩
  have X13 := X2.trans X3
  have hg3 := hg.ext X13 hgd
  have hli := D3.li hg3
  have hok := hf.ths t htm
  have hln : (ivs t.ns).length = t.ns.length := List.length_map ..
  clear hW hP hp ha hxs hI hv hvt hi X1 X2 X3 D1 D2 S2
  walk_at "go"
  refine ite2 (fun e2 => ?_) (fun e2 => ?_)
  · walk_at "go"
    refine fun u H4 S4 hu => ?_
    have hp4 := same_sqt S4 hp3
    have ha4 := same_sqt S4 ha3
    have hxs4 := L2.Paired.mapP hxs3 fun _ _ h => ThV.same h S4
    walk_at "go"
    refine fun pc H5 S5 hpc => ?_
    have hpc : SqT K H5 pc [V.int W.tick, V.int W.nx, V.int W.luck] := hpc
    have hp5 := same_sqt S5 hp4
    have ha5 := same_sqt S5 ha4
    have hxs5 := L2.Paired.mapP hxs4 fun _ _ h => ThV.same h S5
    walk_at "go"
    refine fun D nD => lc_it walk_tup (fun j H' => (∃ acc us, H' D = some (.lst acc) ∧ Paired (ThV K H') acc us ∧ us = (W.ths.take j).filter fun u => u.id != t.id) ∧ Ext D H5 H' ∧ Li1 D H') ⟨⟨[], [], upd_same, .nil, rfl⟩, Ext.new nD, ⟨_, upd_same⟩⟩ (fun _ _ _ hW => same_sqt (hW.2.1.same nD) ha5) (fun j y H1 H2 hi hX hy => ?_) (fun H6 hX => ?_)
    · obtain ⟨rfl, hy⟩ := hy
      obtain ⟨⟨acc, us, hD, hP, hu2⟩, X, _⟩ := hX
      obtain ⟨t2, ht2, hyt⟩ := paired_get hxs5 hy
      have hyt1 := hyt.same (X.same nD)
      obtain ⟨pp, n2, rfl, hpp, hn2, hkd2⟩ := id hyt1
      have put : ∀ z, ∀ v u, ThV K H2 v u → ThV K (upd H2 D (.lst z)) v u := fun z v u h => h.mono fun q => sqt_put hD q
      have hlen : acc.length ≤ 12 := by
        rw [Paired.length hP, hu2]
        have := List.length_filter_le (fun u => u.id != t.id) (W.ths.take j)
        rw [List.length_take] at this
        omega
      walk_at "go"
      refine ite2 (fun e => ?_) (fun e => ?_)
      · have e1 : (t2.id != t.id) = true := by
          rw [Bool.not_eq_true'] at e
          have := of_decide_eq_false e
          simp only [bne_iff_ne]
          intro z
          exact this (by rw [z])
        walk_at "go"
        refine ⟨_, hD, small1000 (by omega), ⟨⟨_, us ++ [t2], upd_same, paired_app (L2.Paired.mapP hP (put _)) (.cons (put _ _ _ hyt1) .nil), ?_⟩, X.trans Ext.put, ⟨_, upd_same⟩⟩⟩
        rw [flt_step ht2, if_pos e1, hu2]
      · have e1 : ¬ (t2.id != t.id) = true := by
          rw [Bool.not_eq_true', Bool.not_eq_false] at e
          have := of_decide_eq_true e
          injection this with this
          simp only [bne_iff_ne]
          exact fun z => z this
        refine ⟨⟨acc, us, hD, hP, ?_⟩, X, ⟨_, hD⟩⟩
        rw [flt_step ht2, if_neg e1, List.append_nil, hu2]
    obtain ⟨⟨acc, us, hD, hP, hu2⟩, X, _⟩ := hX
    rw [hl3, List.take_length] at hu2
    have S6 := X.same nD
    have hDl : SqL K H6 D acc := .of hD
    have hpc6 := same_sqt S6 hpc
    walk_at "go"
    refine .inl ⟨hDl, ?_⟩
    refine fun p6 np6 => ?_
    generalize hH : upd H6 p6 _ = H7
    have S7 : Same H6 H7 := by rw [← hH]; exact same_new np6
    have hp6 : SqT K H7 p6 acc := by rw [← hH]; exact .of upd_same
    clear hH
    have hpc7 := same_sqt S7 hpc6
    walk_at "go"
    refine fun p7 np7 => ?_
    generalize hH : upd H7 p7 _ = H8
    have S8 : Same H7 H8 := by rw [← hH]; exact same_new np7
    have hp7 : SqT K H8 p7 [V.ref p6] := by rw [← hH]; exact .of upd_same
    clear hH
    have hpc8 := same_sqt S8 hpc7
    have z1 : ([V.int W.tick, V.int W.nx, V.int W.luck]).length + [V.ref p6].length ≤ sizeLine := by show 3 + 1 ≤ sizeLine; decide
    walk_at "go"
    refine fun p8 H9 S9 hp8 => ?_
    have hp8 : SqT K H9 p8 [V.int W.tick, V.int W.nx, V.int W.luck, V.ref p6] := hp8
    walk_at "go"
    refine fun p9 np9 => ?_
    generalize hH : upd H9 p9 _ = Ha
    have Sa : Same H9 Ha := by rw [← hH]; exact same_new np9
    have hp9 : SqT K Ha p9 [.ref u, .ref p8] := by rw [← hH]; exact .of upd_same
    clear hH
    have S8a := S9.trans Sa
    have S7a := S8.trans S8a
    have S6a := S7.trans S7a
    refine q_1 p9 u p8 (dropW W t.id) Ha (hf.drop.mono (by omega)) (Int.le_refl _) hp9 (hu.same (S5.trans (S6.trans S6a))) ⟨p6, same_sqt Sa hp8, acc, same_sqt S7a hp6, ?_⟩ ((((D3.same S4).same S5).same S6).same S6a) (X13.trans (.of (S4.trans (S5.trans (S6.trans S6a)))))
    show Paired (ThV K Ha) acc (W.ths.filter fun u => u.id != t.id)
    rw [← hu2]
    exact L2.Paired.mapP hP fun _ _ h => ThV.same h S6a
  · have hpl : (0 : Int) < ((ivs t.ns).length : Int) := by have := hok.n1; omega
    have hpl2 : ((ivs t.ns).length : Int) < 2 ^ 250 := by have := hok.n8; omega
    walk_at "go"
    refine fun j H4 j0 j1 D4 X4 => ?_
    walk_at "go"
    refine fun k H5 hk D5 X5 => ?_
    have X45 := X4.trans X5
    have hW5 := hW3.ext X45 D3
    have hn5 := sqtD X45 D3 hn
    have hp5 := sqtD X45 D3 hp3
    have ha5 := sqtD X45 D3 ha3
    have hxs5 := L2.Paired.mapP hxs3 fun _ _ h => ThV.ext h X45 D3
    have hli5 := D5.li (hg3.ext X45 hgd)
    obtain ⟨jn, rfl⟩ : ∃ jn : Nat, j = (jn : Int) := ⟨j.toNat, by omega⟩
    have hjn : jn < t.ns.length := by omega
    have hjall : ∀ u ∈ W.ths, u.id = t.id → jn < u.ns.length := fun u hu e => by
      rw [th_uniq hf.as hu htm e]
      exact hjn
    have h8all : ∀ u ∈ W.ths, u.ns.length ≤ 8 := fun u hu => (hf.ths u hu).n8
    clear hW3 hp3 ha3 hxs3 hn hli
    walk_at "go"
    refine fun pa H6 S6 hpa => ?_
    have hpa : SqT K H6 pa (cutV (ivs t.ns) none (some (jn : Int))) := hpa
    walk_at "go"
    refine fun pb npb => ?_
    generalize hH : upd H6 pb _ = H7
    have S7 : Same H6 H7 := by rw [← hH]; exact same_new npb
    have hpb : SqT K H7 pb [V.int k] := by rw [← hH]; exact .of upd_same
    clear hH
    replace hpa := same_sqt S7 hpa
    have n8 := hok.n8
    have hlc : (cutV (ivs t.ns) none (some (jn : Int))).length ≤ 8 := Nat.le_trans (cutV_length ..) (by omega)
    have hlc2 : (cutV (ivs t.ns) (some ((jn : Int) + 1)) none).length ≤ 8 := Nat.le_trans (cutV_length ..) (by omega)
    have z1 : (cutV (ivs t.ns) none (some (jn : Int))).length + [V.int k].length ≤ sizeLine := Nat.le_of_lt (small1000 (by show _ + 1 ≤ 1000; omega))
    walk_at "go"
    refine fun pc H8 S8 hpc => ?_
    have hpc : SqT K H8 pc (cutV (ivs t.ns) none (some (jn : Int)) ++ [V.int k]) := hpc
    have S58 := S6.trans (S7.trans S8)
    have hn8 := same_sqt S58 hn5
    walk_at "go"
    refine fun pd H9 S9 hpd => ?_
    have hpd : SqT K H9 pd (cutV (ivs t.ns) (some ((jn : Int) + 1)) none) := hpd
    replace hpc := same_sqt S9 hpc
    have z2 : (cutV (ivs t.ns) none (some (jn : Int)) ++ [V.int k]).length + (cutV (ivs t.ns) (some ((jn : Int) + 1)) none).length ≤ sizeLine := Nat.le_of_lt (small1000 (by rw [List.length_append, List.length_singleton]; omega))
    walk_at "go"
    refine fun pe Ha Sa hpe => ?_
    have hpe : SqT K Ha pe (cutV (ivs t.ns) none (some (jn : Int)) ++ [V.int k] ++ cutV (ivs t.ns) (some ((jn : Int) + 1)) none) := hpe
    have el : cutV (ivs t.ns) none (some (jn : Int)) ++ [V.int k] ++ cutV (ivs t.ns) (some ((jn : Int) + 1)) none = ivs (putN t.ns jn k) := by
      rw [show ((jn : Int) + 1) = ((jn + 1 : Nat) : Int) by omega, cut_to, cut_from]
      unfold putN ivs
      rw [List.map_append, List.map_cons, List.map_take, List.map_drop, List.append_assoc]
      rfl
    rw [el] at hpe
    walk_at "go"
    refine fun pl npl => ?_
    generalize hH : upd Ha pl _ = Hb
    have Sb : Same Ha Hb := by rw [← hH]; exact same_new npl
    have hpl3 : SqT K Hb pl [V.int t.id, V.str t.kd, V.ref pe] := by rw [← hH]; exact .of upd_same
    clear hH
    have S5b := S58.trans (S9.trans (Sa.trans Sb))
    have hli_b := hli5.same S5b
    have hWb := hW5.same S5b
    have hTb : ThV K Hb (.ref pl) ⟨t.id, t.kd, putN t.ns jn k⟩ := ⟨pl, pe, rfl, hpl3, same_sqt Sb hpe, hkd⟩
    walk_at "go"
    refine fun u Hc Sc hu => ?_
    have S5c := S5b.trans Sc
    have hp_c := same_sqt S5c hp5
    have ha_c := same_sqt S5c ha5
    have hxs_c := L2.Paired.mapP hxs5 fun _ _ h => ThV.same h S5c
    have hT_c := hTb.same Sc
    walk_at "go"
    refine fun pf Hd Sd hpf => ?_
    have hpf : SqT K Hd pf [V.int W.tick, V.int W.nx, V.int W.luck] := hpf
    have hp_d := same_sqt Sd hp_c
    have ha_d := same_sqt Sd ha_c
    have hxs_d := L2.Paired.mapP hxs_c fun _ _ h => ThV.same h Sd
    have hT_d := hT_c.same Sd
    clear hp_c ha_c hxs_c hT_c hp5 ha5 hxs5 hn5 hW5 hWb hTb
    walk_at "go"
    refine fun D nD => lc_it walk_tup (fun j H' => (∃ acc us, H' D = some (.lst acc) ∧ Paired (ThV K H') acc us ∧ us = (W.ths.take j).map (chgT t.id jn k)) ∧ Ext D Hd H' ∧ Li1 D H') ⟨⟨[], [], upd_same, .nil, rfl⟩, Ext.new nD, ⟨_, upd_same⟩⟩ (fun _ _ _ hW => same_sqt (hW.2.1.same nD) ha_d) (fun j y H1 H2 hi hX hy => ?_) (fun H6 hX => ?_)
    · obtain ⟨rfl, hy⟩ := hy
      obtain ⟨⟨acc, us, hD, hP, hu2⟩, X, _⟩ := hX
      obtain ⟨t2, ht2, hyt⟩ := paired_get hxs_d hy
      have htm2 := List.mem_of_getElem? ht2
      have hyt1 := hyt.same (X.same nD)
      obtain ⟨pp, n2, rfl, hpp, hn2, hkd2⟩ := id hyt1
      have hT2 := hT_d.same (X.same nD)
      have put : ∀ z, ∀ v u, ThV K H2 v u → ThV K (upd H2 D (.lst z)) v u := fun z v u h => h.mono fun q => sqt_put hD q
      have hlen : acc.length ≤ 12 := by
        rw [Paired.length hP, hu2, List.length_map, List.length_take]
        omega
      have eu : (W.ths.take (j + 1)).map (chgT t.id jn k) = us ++ [chgT t.id jn k t2] := by
        rw [List.take_add_one, ht2, List.map_append, hu2]
        rfl
      walk_at "go"
      refine ite2 (fun e => ?_) (fun e => ?_)
      · have e := of_decide_eq_true e
        injection e with e
        obtain rfl := th_uniq hf.as htm2 htm e
        walk_at "go"
        refine ⟨_, hD, small1000 (by omega), ⟨⟨_, us ++ [chgT t2.id jn k t2], upd_same, paired_app (L2.Paired.mapP hP (put _)) (.cons (put _ _ _ (by rw [show chgT t2.id jn k t2 = ⟨t2.id, t2.kd, putN t2.ns jn k⟩ from if_pos rfl]; exact hT2)) .nil), eu.symm⟩, X.trans Ext.put, ⟨_, upd_same⟩⟩⟩
      · have ec : chgT t.id jn k t2 = t2 := if_neg fun z => e (decide_eq_true (by rw [z]))
        walk_at "go"
        refine ⟨_, hD, small1000 (by omega), ⟨⟨_, us ++ [chgT t.id jn k t2], upd_same, paired_app (L2.Paired.mapP hP (put _)) (.cons (put _ _ _ (by rw [ec]; exact hyt1)) .nil), eu.symm⟩, X.trans Ext.put, ⟨_, upd_same⟩⟩⟩
    obtain ⟨⟨acc, us, hD, hP, hu2⟩, X, _⟩ := hX
    rw [hl3, List.take_length] at hu2
    have S6 := X.same nD
    have hDl : SqL K H6 D acc := .of hD
    have hpc6 := same_sqt S6 hpf
    walk_at "go"
    refine .inl ⟨hDl, ?_⟩
    refine fun p6 np6 => ?_
    generalize hH : upd H6 p6 _ = H7
    have S7 : Same H6 H7 := by rw [← hH]; exact same_new np6
    have hp6 : SqT K H7 p6 acc := by rw [← hH]; exact .of upd_same
    clear hH
    have hpc7 := same_sqt S7 hpc6
    walk_at "go"
    refine fun p7 np7 => ?_
    generalize hH : upd H7 p7 _ = H8
    have S8 : Same H7 H8 := by rw [← hH]; exact same_new np7
    have hp7 : SqT K H8 p7 [V.ref p6] := by rw [← hH]; exact .of upd_same
    clear hH
    have hpc8 := same_sqt S8 hpc7
    have z1 : ([V.int W.tick, V.int W.nx, V.int W.luck]).length + [V.ref p6].length ≤ sizeLine := by show 3 + 1 ≤ sizeLine; decide
    walk_at "go"
    refine fun p8 H9 S9 hp8 => ?_
    have hp8 : SqT K H9 p8 [V.int W.tick, V.int W.nx, V.int W.luck, V.ref p6] := hp8
    walk_at "go"
    refine fun p9 np9 => ?_
    generalize hH : upd H9 p9 _ = Ha
    have Sa : Same H9 Ha := by rw [← hH]; exact same_new np9
    have hp9 : SqT K Ha p9 [.ref u, .ref p8] := by rw [← hH]; exact .of upd_same
    clear hH
    have S8a := S9.trans Sa
    have S7a := S8.trans S8a
    have S6a := S7.trans S7a
    have S5a := S5c.trans (Sd.trans (S6.trans S6a))
    refine q_1 p9 u p8 (chgW W t.id jn k) Ha ((hf.chg hjall hk).mono (by omega)) (Int.le_refl _) hp9 (hu.same (Sd.trans (S6.trans S6a))) ⟨p6, same_sqt Sa hp8, acc, same_sqt S7a hp6, ?_⟩ (D5.same S5a) (X13.trans (X45.trans (.of S5a)))
    show Paired (ThV K Ha) acc (W.ths.map (chgT t.id jn k))
    rw [← hu2]
    exact L2.Paired.mapP hP fun _ _ h => ThV.same h S6a

end
section
variable {P : Program} {w : World} {K : PySem.W.Frag} {mg : Str → Option Value} {base : Heap}
/-! ### short tactics -/
local macro_rules | `(tactic| walk_at "side") => `(tactic| first
  | with_reducible assumption | (exact ⟨by omega, by omega⟩) | exact True.intro | rfl | exact Nat.le_of_ble_eq_true rfl | with_reducible exact Int.natCast_nonneg _ | decide | omega
  | ((with_reducible show KDct _ _ _ _ _); assumption)
  | ((with_reducible show SlX.SCls _ _); assumption)
  | ((with_reducible show SlX.Slot1 _ _ _ _ _); assumption)
  | ((with_reducible show ClsV _ _); first | exact .own _ | exact .ty _)
  | ((with_reducible show TyA _ _ _ _); assumption)
  | ((with_reducible show Eq (PySem.W.kitOne _ _ _) _); assumption)
  | ((with_reducible show Jd _ _ _); first | assumption | exact .int _ | exact .str _ | exact .non | exact .bl _)
  | ((with_reducible show SqT _ _ _ _); walk_at "sq") | ((with_reducible show SqL _ _ _ _); walk_at "sq")
  | exact Or.inl rfl | exact Or.inr rfl
  | (intro z; exact absurd (show 1 = 0 from z.1) (by decide)) | (intro z; exact absurd (show 2 = 0 from z.1) (by decide))
  | (exact Or.inl ⟨by omega, by omega⟩) | (exact Or.inr ⟨by omega, by omega⟩)
  | (exact ⟨by omega, by omega, by omega⟩) | (exact ⟨by decide, by decide, by decide⟩)
  | (exact wide_div (b := 250) (by omega) (by omega) (by decide) (by decide))
  | (exact wide_mul (a := 250) (b := 250) (by omega) (by omega) (by decide) (by decide) (by decide))
  | decide +kernel | (dsimp only; decide +kernel)
  | (exact wide_mul (a := 250) (b := 250) (by decide +kernel) (by decide +kernel) (by decide) (by decide) (by decide)))
local macro_rules | `(tactic| walk_at "idx") => `(tactic| first
  | assumption | exact atI_nat (j := 0) rfl | exact atI_nat (j := 1) rfl | exact atI_nat (j := 2) rfl | exact atI_nat (j := 3) rfl | exact atI_nat (j := 4) rfl | exact atI_nat (j := 5) rfl)
local macro_rules | `(tactic| walk_at "sq") => `(tactic| first
  | assumption | exact SqL.of upd_same | exact SqT.of upd_same | exact SqL.of (by assumption) | exact SqT.of (by assumption)
  | exact SqT.of (same_new (by assumption) _ _ upd_same) | exact SqL.of (same_new (by assumption) _ _ upd_same)
  | exact SqT.of (same_new (by assumption) _ _ (by assumption)) | exact SqL.of (same_new (by assumption) _ _ (by assumption))
  | exact SqT.of (same_new (by assumption) _ _ (same_new (by assumption) _ _ upd_same)) | exact SqL.of (same_new (by assumption) _ _ (same_new (by assumption) _ _ upd_same)))
local macro_rules | `(tactic| walk_at "dp") => `(tactic| first
  | exact .non | exact .bl _ | exact .int _ | exact .str _
  | (refine .tup (by walk_at "sq") ?_; walk_at "dps") | (refine .lst (by walk_at "sq") ?_; walk_at "dps"))
local macro_rules | `(tactic| walk_at "dps") => `(tactic| first
  | exact .nil | (refine .cons (by walk_at "dp") ?_; walk_at "dps"))
local macro_rules | `(tactic| walk_at "go") => `(tactic| repeat first
  | (show @ite _ _ _ _ _; with_reducible (first | refine iteT ?_ | refine iteF ?_ | refine iteNT ?_ | refine iteNF ?_))
  | ((fail_if_success (show @ite _ _ _ _ _)); first
    | refine And.intro (by walk_at "side") ?_
    | refine ⟨_, rfl, ?_⟩
    | refine ⟨_, _, rfl, rfl, ?_⟩
    | refine ⟨_, _, rfl, .inl (by walk_at "sq"), ?_⟩
    | refine ⟨_, _, rfl, .inr (by walk_at "sq"), ?_⟩
    | refine ⟨_, _, rfl, ?_⟩
    | refine ⟨_, _, _, rfl, ?_⟩
    | refine ⟨_, _, _, _, rfl, ?_⟩
    | refine ⟨_, _, _, _, _, rfl, ?_⟩
    | refine ⟨_, _, _, _, rfl, rfl, (by walk_at "sq"), (by walk_at "idx"), ?_⟩
    | refine ⟨_, _, _, _, _, rfl, .ty _, (by assumption), kit_ty (by assumption), ?_⟩
    | refine And.intro ⟨_, by walk_at "sq"⟩ ?_
    | refine .inl ⟨_, rfl, ?_⟩
    | refine .inr ⟨_, rfl, ?_⟩
    | (apply Exists.intro; (repeat apply Exists.intro); refine And.intro rfl ?_)))
local macro_rules | `(tactic| walk_at "unp2") => `(tactic| refine ⟨_, _, rfl, (by walk_at "sq"), rfl, _, _, rfl, _, _, rfl, rfl, ?_⟩)
local macro_rules | `(tactic| walk_at "unp3") => `(tactic| refine ⟨_, _, rfl, (by walk_at "sq"), rfl, _, _, rfl, _, _, rfl, _, _, rfl, rfl, ?_⟩)
local macro_rules | `(tactic| walk_at "pick") => `(tactic| refine ⟨_, _, _, rfl, SqL.of upd_same, Dice.ne (by assumption) (by assumption), Nat.zero_lt_succ _, Nat.le_of_ble_eq_true rfl, Dice.new (by assumption) (by assumption), ?_⟩)
local macro_rules | `(tactic| walk_at "tt") => `(tactic| first
  | refine iteY rfl ?_ | refine iteN (fun z => Bool.noConfusion (show false = true from z)) ?_)

/-- a world made of plain parts -/
theorem mkW {K : PySem.W.Frag} {C CK : Addr} {d : Addr × Addr} {H : Hp} {W : Wd} {a : Addr} {Q : Addr → Hp → Prop} {E : XK} (hth : Ths K H a W.ths) (ok : W.ok) (hli : Li d H) (q : ∀ u H', Same H H' → WAt K C d H' u W → Q u H') :
    ∀ x dx, H x = none → H dx = none → dx ≠ x → sp_World_init K C CK [.ref x, .int W.tick, .int W.nx, .int W.luck, .ref a] (upd (upd H dx (.own x)) x (.ins C dx [])) (fun v H' => v = .non ∧ Q x H') E := by
  intro x dx nx ndx ne
  have S : Same H (upd (upd H dx (.own x)) x (.ins C dx [])) := fun b o e => by rw [upd_ne (ne_of_none e nx), upd_ne (ne_of_none e ndx)]; exact e
  exact ⟨x, dx, d, _, W, rfl, rfl, upd_same, by rw [upd_ne ne, upd_same], ne, ⟨a, hth.same S, ok.n, .inl ⟨rfl, ok⟩⟩, hli.same S, fun H4 B4 hW => ⟨rfl, q x H4 (fun b o e => B4 b o (ne_of_none e nx) (ne_of_none e ndx) (S _ _ e)) hW⟩⟩
theorem ite_tC {c : Bool} {x y : V} {σ : L2.St} {H : Hp} {Q : V → Hp → Prop} (h : Q (if c = true then x else y) H) : if c = true then tC x σ H Q else tC y σ H Q := by
  cases c
  · exact h
  · exact h
theorem seven (l : Int) : ∃ k : Int, (if (!decide (V.int l = V.int 7)) = true then V.int 7 else V.int 8) = .int k ∧ k ≠ l ∧ 0 ≤ k ∧ k ≤ 8 := by
  by_cases e : l = 7
  · subst e
    exact ⟨8, rfl, by decide, by decide, by decide⟩
  · refine ⟨7, ?_, fun z => e z.symm, by decide, by decide⟩
    rw [decide_eq_false (fun z => e (by injection z)), Bool.not_false, if_pos rfl]
/-- what a world isn't equal to -/
def Oth (K : PySem.W.Frag) (C : Addr) (d : Addr × Addr) (W : Wd) (H : Hp) (y : V) : Prop := (∃ u U, y = .ref u ∧ WAt K C d H u U ∧ W ≠ U) ∨ (∃ a xs, y = .ref a ∧ SqT K H a xs) ∨ y = .non ∨ ∃ z, y = .str z
theorem Oth.same {K : PySem.W.Frag} {C : Addr} {d : Addr × Addr} {W : Wd} {H H' : Hp} {y : V} (h : Oth K C d W H y) (s : Same H H') : Oth K C d W H' y := by
  rcases h with ⟨u, U, e, h, n⟩ | ⟨a, xs, e, h⟩ | h | h
  · exact .inl ⟨u, U, e, h.same s, n⟩
  · exact .inr (.inl ⟨a, xs, e, same_sqt s h⟩)
  · exact .inr (.inr (.inl h))
  · exact .inr (.inr (.inr h))
theorem oth_eq (T : Tp K mg) {d : Addr × Addr} {W : Wd} {H : Hp} {w : Addr} {y : V} (h : Oth K T.C_World d W H y) (hW : WAt K T.C_World d H w W) : ∃ t, TyA K H y t ∧ PySem.W.notFirst K T.C_World t = true ∧ ∀ (Q : VK) (E : XK), (∀ H', Same H H' → Q (.bl false) H') → sp_World_eq K T.C_World [.ref w, y] H Q E := by
  rcases h with ⟨u, U, rfl, hU, hn⟩ | ⟨a, xs, rfl, ha⟩ | rfl | ⟨z, rfl⟩
  · obtain ⟨dx, l, a, hs, _⟩ := id hU
    refine ⟨.ref T.C_World, .sl hs T.cl_World T.is_World, T.nfW_World, fun Q E q => ⟨w, d, W, _, rfl, hW, .inl ⟨u, U, rfl, hU, fun H' S => ?_⟩⟩⟩
    rw [decide_eq_false hn]
    exact q H' S
  · have ty := tyx_sqt ha
    exact ⟨_, .ty ty, T.nfT_World, fun Q E q => ⟨w, d, W, _, rfl, hW, .inr ⟨_, ty, .inl rfl, q _ (Same.refl _)⟩⟩⟩
  · have ty : TyX K H .non (.type "NoneType") := .base .non
    exact ⟨_, .ty ty, T.nfN_World, fun Q E q => ⟨w, d, W, _, rfl, hW, .inr ⟨_, ty, .inr (.inl rfl), q _ (Same.refl _)⟩⟩⟩
  · have ty : TyX K H (.str z) (.type "str") := .base (.str z)
    exact ⟨_, .ty ty, T.nfS_World, fun Q E q => ⟨w, d, W, _, rfl, hW, .inr ⟨_, ty, .inr (.inr rfl), q _ (Same.refl _)⟩⟩⟩
/-- the promise of ==, behind a stop -/
def sp_eqS (K : PySem.W.Frag) (C : Addr) : Sp := fun vs H Q E => Stp (sp_World_eq K C (vs ++ []) H Q E)
theorem raw_eqS (T : Tp K mg) : FnR P w K mg base CX0 1 T.a_World_eq (sp_eqS K T.C_World) := fun A st s H us ws Q E hr e0 r h => ((ok_World_eq T).raw T.b_World_eq .nil) A st s H us ws Q E hr e0 r h.get
/-- a world whose list of ids isn't L, as L changes -/
theorem WAt.off {K : PySem.W.Frag} {C L : Addr} {d : Addr × Addr} {H : Hp} {w : Addr} {W : Wd} (h : WAt K C d H w W) (n : H L = none) : WAt K C (L, L) H w W := by
  obtain ⟨dx, l, a, h1, h2, h3, h4⟩ := h
  exact ⟨dx, l, a, h1, h2, ⟨ne_of_none h2 n, ne_of_none h2 n⟩, h4⟩
theorem sqtL {K : PySem.W.Frag} {L : Addr} {ys : List V} {H H' : Hp} (e : Ext L H H') (hd : H L = some (.lst ys)) {a : Addr} {xs : List V} (h : SqT K H a xs) : SqT K H' a xs := by
  rcases h with (h | ⟨o, h⟩) | h
  · exact .inl (.inl (e _ _ (ne_of h hd (by intro z; cases z)) h))
  · exact .inl (.inr ⟨o, e _ _ (ne_of h hd (by intro z; cases z)) h⟩)
  · exact .inr h
theorem WAt.extL {K : PySem.W.Frag} {C L : Addr} {ys : List V} {d : Addr × Addr} {H H' : Hp} {w : Addr} {W : Wd} (h : WAt K C d H w W) (e : Ext L H H') (hd : H L = some (.lst ys)) (hl : d.1 = L ∨ d.2 = L) : WAt K C d H' w W := by
  obtain ⟨dx, l, a, h1, h2, h3, h4⟩ := h
  have hn : l ≠ L := by
    rcases hl with z | z
    · rw [← z]; exact h3.1
    · rw [← z]; exact h3.2
  refine ⟨dx, l, a, ?_, e _ _ hn h2, h3, h4.mono fun z => sqtL e hd z⟩
  rcases h1 with ⟨h1, h2⟩ | ⟨h1, h2⟩
  · exact .inl ⟨e _ _ (ne_of h1 hd (by intro z; cases z)) h1, h2⟩
  · exact .inr ⟨e _ _ (ne_of h1 hd (by unfold SlX.SlO; intro z; cases z)) h1, e _ _ (ne_of h2 hd (by intro z; cases z)) h2⟩
theorem ok_l_is_alone (T : Tp K mg) : FnOk P w K mg base CX0 11 T.a_l_is_alone T.d_l_is_alone ["_law_world", "_law_plain"] (sp_l_is_alone K T.C_World) := by
  refine T.F_l_is_alone.ok sc_l_is_alone ?len (fun cdv A outer s H vs Q E hr h => ?_)
  case len => intro vs H Q E h; obtain ⟨w, p, d, W, b, rfl, _⟩ := h; rfl
  obtain ⟨w, p, d, W, b, rfl, hli, hW, hP, hf, hb, q_1⟩ := h
  have n12 := hf.n
  have hok := hf.ok (by omega)
  obtain ⟨a, hp, hth⟩ := id hP
  have ht1 := hf.tk
  have hx1 := hf.nx
  have ok1 : (⟨W.tick + 1, W.nx, W.luck, W.ths⟩ : Wd).ok := ⟨⟨by show 0 ≤ W.tick + 1; omega, by show W.tick + 1 < big; unfold big; omega⟩, hok.nx, hok.lu, hok.n, hok.ths, hok.as⟩
  have hxb : 0 ≤ W.nx + 1 ∧ W.nx + 1 < big := ⟨by omega, by unfold big; omega⟩
  have asU : ∀ t ∈ W.ths, t.id < W.nx + 1 := fun t ht => by have := hf.as.2 t ht; omega
  have ok2 : (⟨W.tick, W.nx + 1, W.luck, W.ths⟩ : Wd).ok := ⟨hok.tk, hxb, hok.lu, hok.n, hok.ths, hok.as.1, asU⟩
  have ok4 : (⟨W.tick, W.nx + 1, W.luck, W.ths.drop 1⟩ : Wd).ok := ⟨hok.tk, hxb, hok.lu, by show (W.ths.drop 1).length ≤ 12; rw [List.length_drop]; omega, fun t ht => hok.ths t (List.mem_of_mem_drop ht), by
    show ((W.ths.drop 1).map Th.id).Pairwise (· < ·)
    rw [List.map_drop]
    exact hok.as.1.sublist (List.drop_sublist ..), fun t ht => asU t (List.mem_of_mem_drop ht)⟩
  have ne1 : W ≠ ⟨W.tick + 1, W.nx, W.luck, W.ths⟩ := fun z => by have := congrArg Wd.tick z; simp at this; omega
  have ne2 : W ≠ ⟨W.tick, W.nx + 1, W.luck, W.ths⟩ := fun z => by have := congrArg Wd.nx z; simp at this; omega
  have ne4 : W ≠ ⟨W.tick, W.nx + 1, W.luck, W.ths.drop 1⟩ := fun z => by have := congrArg Wd.nx z; simp at this; omega
  refine ⟨_, (pss_cons (ps_set (i := 2) sc_l_is_alone.nd rfl (Or.inl rfl) (pe_make T.mk_World (ok_World_init T) (hr.mono (by decide)) (by rfl) T.g_World T.b_World_init .nil pass0 (pa_cons (pe_ix ix_tup (pv 1) pe_int (fun _ _ => rfl)) (pa_cons (pe_ix ix_tup (pv 1) pe_int (fun _ _ => rfl)) (pa_cons (pe_ix ix_tup (pv 1) pe_int (fun _ _ => rfl)) (pa_cons (pe_ix ix_tup (pv 1) pe_int (fun _ _ => rfl)) pa_nil))))))
    (pss_cons (ps_set (i := 3) sc_l_is_alone.nd rfl (Or.inl rfl) (pe_lst (pa_cons (pe_make T.mk_World (ok_World_init T) (hr.mono (by decide)) (by rfl) T.g_World T.b_World_init .nil pass0 (pa_cons (pe_op op_add (pe_ix ix_tup (pv 1) pe_int (fun _ _ => rfl)) pe_int) (pa_cons (pe_ix ix_tup (pv 1) pe_int (fun _ _ => rfl)) (pa_cons (pe_ix ix_tup (pv 1) pe_int (fun _ _ => rfl)) (pa_cons (pe_ix ix_tup (pv 1) pe_int (fun _ _ => rfl)) pa_nil))))) (pa_cons (pe_make T.mk_World (ok_World_init T) (hr.mono (by decide)) (by rfl) T.g_World T.b_World_init .nil pass0 (pa_cons (pe_ix ix_tup (pv 1) pe_int (fun _ _ => rfl)) (pa_cons (pe_op op_add (pe_ix ix_tup (pv 1) pe_int (fun _ _ => rfl)) pe_int) (pa_cons (pe_ix ix_tup (pv 1) pe_int (fun _ _ => rfl)) (pa_cons (pe_ix ix_tup (pv 1) pe_int (fun _ _ => rfl)) pa_nil))))) pa_nil))))
    (pss_cons (ps_expr (pe_bm PySem.F.plainAttrs_list PySem.F.slot_list_append PySem.F.type_list_append mt_append (pv 3) (pa_cons (pe_make T.mk_World (ok_World_init T) (hr.mono (by decide)) (by rfl) T.g_World T.b_World_init .nil pass0 (pa_cons (pe_ix ix_tup (pv 1) pe_int (fun _ _ => rfl)) (pa_cons (pe_ix ix_tup (pv 1) pe_int (fun _ _ => rfl)) (pa_cons (pe_ifExp (pt_cmpR op_ne (pe_ix ix_tup (pv 1) pe_int (fun _ _ => rfl)) pe_int (nomark _)) pe_int pe_int) (pa_cons (pe_ix ix_tup (pv 1) pe_int (fun _ _ => rfl)) pa_nil))))) pa_nil)))
    (pss_cons (ps_expr (pe_bm PySem.F.plainAttrs_list PySem.F.slot_list_append PySem.F.type_list_append mt_append (pv 3) (pa_cons (pe_make T.mk_World (ok_World_init T) (hr.mono (by decide)) (by rfl) T.g_World T.b_World_init .nil pass0 (pa_cons (pe_ix ix_tup (pv 1) pe_int (fun _ _ => rfl)) (pa_cons (pe_op op_add (pe_ix ix_tup (pv 1) pe_int (fun _ _ => rfl)) pe_int) (pa_cons (pe_ix ix_tup (pv 1) pe_int (fun _ _ => rfl)) (pa_cons (pe_slice sl_tupW (pe_ix ix_tup (pv 1) pe_int (fun _ _ => rfl)) (po_some pe_int) po_none) pa_nil))))) pa_nil)))
    (pss_cons (ps_set (i := 3) sc_l_is_alone.nd rfl (Or.inl rfl) (pe_op op_cat (pv 3) (pe_lst (pa_cons (pv 1) (pa_cons pe_non (pa_cons (pe_ix ix_tup (pv 1) pe_int (fun _ _ => rfl)) (pa_cons (pe_callTy (call_strA (C := T.C_World) T.m_World_str.at_ T.m_World_str.fn ((ok_World_str T).raw T.b_World_str .nil) (hr.mono (by decide)) pass0) (by rfl) T.m_str (by decide +kernel) (pa_cons (pv 0) pa_nil)) pa_nil)))))))
    (pss_one (ps_ret (pe_and (pe_cmpR (op_eqA (C := T.C_World) T.m_World_eq.at_ T.m_World_eq.fn ((ok_World_eq T).raw T.b_World_eq .nil) (hr.mono (by decide)) pass0) (pv 2) (pv 0) (nomark _)) (pe_and (pe_not (pe_cmpR (op_neA (C := T.C_World) T.m_World_eq.at_ T.m_World_eq.fn T.ne_World T.is_World.cm ((ok_World_eq T).raw T.b_World_eq .nil) (hr.mono (by decide)) pass0) (pv 2) (pv 0) (nomark _))) (pe_one (pe_cmpR (op_eqD hr.units) (pe_lc (own := [("_law_one", 4)]) (g := gName 4)  (by rfl) sc_l_is_alone.nd (pi_list (pv 3)) (blkOk_by (own := [("_law_one", 4)]) (N := N_l_is_alone) (sc := defScope s_l_is_alone) (by decide +kernel)) (fun _ _ _ _ _ => pg_name (i := 4) sc_l_is_alone.nd rfl (Or.inl rfl)) (fun _ _ _ _ _ => (pts_one (PW.pt (pw_or (pt_cmpR (show OpR _ (compareOp .Eq) (rEqA K T.C_World (sp_eqS K T.C_World) E0) from op_eqA (C := T.C_World) T.m_World_eq.at_ T.m_World_eq.fn (raw_eqS T) (hr.mono (by decide)) pass0) (pv 0) (pv 4) (nomark _)) (pw_or1 (pt_not (pt_cmpR (show OpR _ (compareOp .NotEq) (rNeA K T.C_World (sp_eqS K T.C_World) E0) from op_neA (C := T.C_World) T.m_World_eq.at_ T.m_World_eq.fn T.ne_World T.is_World.cm (raw_eqS T) (hr.mono (by decide)) pass0) (pv 0) (pv 4) (nomark _)))))))) (fun _ _ _ _ _ => (pv 4))) (pe_lst pa_nil) (nomark _)))))))))))), ?_⟩
  walk_at "go"
  refine mkW hth hok hli fun u0 H1 S1 hu0 => ?_
  replace hW := hW.same S1
  replace hp := same_sqt S1 hp
  replace hth := hth.same S1
  replace hli := hli.same S1
  walk_at "go"
  refine mkW (W := ⟨W.tick + 1, W.nx, W.luck, W.ths⟩) hth ok1 hli fun u1 H2 S2 hu1 => ?_
  replace hW := hW.same S2
  replace hp := same_sqt S2 hp
  replace hth := hth.same S2
  replace hli := hli.same S2
  walk_at "go"
  refine mkW (W := ⟨W.tick, W.nx + 1, W.luck, W.ths⟩) hth ok2 hli fun u2 H3 S3 hu2 => ?_
  replace hW := hW.same S3
  replace hp := same_sqt S3 hp
  replace hth := hth.same S3
  replace hli := hli.same S3
  walk_at "go"
  refine fun L nL => ?_
  replace hW := hW.off nL
  replace hu0 := ((hu0.same S2).same S3).off nL
  replace hu1 := (hu1.same S3).off nL
  replace hu2 := hu2.off nL
  have S13 := S1.trans (S2.trans S3)
  generalize hH : upd H3 L _ = H4
  have S4 : Same H3 H4 := by rw [← hH]; exact same_new nL
  have hL : H4 L = some (.lst [.ref u1, .ref u2]) := by rw [← hH]; exact upd_same
  clear hH hli S1 S2 S3
  replace hW := hW.same S4
  replace hu0 := hu0.same S4
  replace hu1 := hu1.same S4
  replace hu2 := hu2.same S4
  replace hp := same_sqt S4 hp
  replace hth := hth.same S4
  have X4 : Ext L H3 H4 := .of S4
  clear S4
  have hli : Li (L, L) H4 := ⟨⟨_, hL⟩, ⟨_, hL⟩⟩
  walk_at "go"
  refine ⟨.inl ⟨rfl, _, .inl (.inl hL)⟩, ?_⟩
  walk_at "go"
  obtain ⟨k, hk, kne, k0, k8⟩ := seven W.luck
  refine ite_tC ?_
  rw [hk]
  have ok3 : (⟨W.tick, W.nx, k, W.ths⟩ : Wd).ok := ⟨hok.tk, hok.nx, ⟨k0, by show k ≤ _; omega⟩, hok.n, hok.ths, hok.as⟩
  have ne3 : W ≠ ⟨W.tick, W.nx, k, W.ths⟩ := fun z => by have := congrArg Wd.luck z; simp at this; omega
  walk_at "go"
  refine mkW (W := ⟨W.tick, W.nx, k, W.ths⟩) hth ok3 hli fun u3 H5 S5 hu3 => ?_
  have E5 : Ext L H4 (upd H5 L (.lst ([.ref u1, .ref u2] ++ [.ref u3]))) := (Ext.of S5).trans .put
  replace hu3 := hu3.extL (.put (o := .lst ([.ref u1, .ref u2] ++ [.ref u3]))) (S5 _ _ hL) (.inl rfl)
  have hL5 := S5 _ _ hL
  walk_at "go"
  generalize hH : upd H5 L _ = H6 at *
  have hL6 : H6 L = some (.lst [.ref u1, .ref u2, .ref u3]) := by rw [← hH]; exact upd_same
  clear hH S5 hk
  replace hW := hW.extL E5 hL (.inl rfl)
  replace hu0 := hu0.extL E5 hL (.inl rfl)
  replace hu1 := hu1.extL E5 hL (.inl rfl)
  replace hu2 := hu2.extL E5 hL (.inl rfl)
  replace hp := sqtL E5 hL hp
  replace hth := hth.mono fun z => sqtL E5 hL z
  have X6 := X4.trans E5
  clear X4 E5 hL hli hL5 H5 H4
  have hli : Li (L, L) H6 := ⟨⟨_, hL6⟩, ⟨_, hL6⟩⟩
  refine ⟨.inl ⟨rfl, _, .inl (.inl hL6)⟩, ?_⟩
  obtain ⟨xs, ha, hxs⟩ := id hth
  walk_at "go"
  refine fun pc H7 S7 hpc => ?_
  have hpc : SqT K H7 pc (xs.drop 1) := by
    rw [show xs.drop 1 = cutV xs (some ((1 : Nat) : Int)) none from (cut_from ..).symm]
    exact hpc
  have hth4 : Ths K H7 pc (W.ths.drop 1) := ⟨_, hpc, paired_drop 1 (L2.Paired.mapP hxs fun _ _ h => ThV.same h S7)⟩
  walk_at "go"
  refine mkW (W := ⟨W.tick, W.nx + 1, W.luck, W.ths.drop 1⟩) hth4 ok4 (hli.same S7) fun u4 H8 S8 hu4 => ?_
  have S68 := S7.trans S8
  have E8 : Ext L H6 (upd H8 L (.lst ([.ref u1, .ref u2, .ref u3] ++ [.ref u4]))) := (Ext.of S68).trans .put
  have hL8 := S68 _ _ hL6
  replace hu4 := hu4.extL (.put (o := .lst ([.ref u1, .ref u2, .ref u3] ++ [.ref u4]))) hL8 (.inl rfl)
  replace hW := hW.extL E8 hL6 (.inl rfl)
  replace hu0 := hu0.extL E8 hL6 (.inl rfl)
  replace hu1 := hu1.extL E8 hL6 (.inl rfl)
  replace hu2 := hu2.extL E8 hL6 (.inl rfl)
  replace hu3 := hu3.extL E8 hL6 (.inl rfl)
  replace hp := sqtL E8 hL6 hp
  replace ha := sqtL E8 hL6 ha
  have X9 := X6.trans E8
  have S39 : Same H (upd H8 L (.lst ([.ref u1, .ref u2, .ref u3] ++ [.ref u4]))) := S13.trans (X9.same nL)
  have hL9 : upd H8 L (.lst ([.ref u1, .ref u2, .ref u3] ++ [.ref u4])) L = some (.lst [.ref u1, .ref u2, .ref u3, .ref u4]) := upd_same
  clear X6 E8 hL6 hli hxs hth X9 S13 S7 S8 S68 hpc hth4
  obtain ⟨dx, l, a2, hs, _⟩ := id hW
  have ht : 0 ≤ W.tick ∧ W.tick ≤ big := ⟨ht1.1, by unfold big; omega⟩
  walk_at "go"
  generalize hH : upd H8 L _ = H9 at *
  clear hH hL8 hs ok1 ok2 ok3 ok4 asU hxb
  refine fun M nM => ?_
  generalize hH : upd H9 M _ = H10
  have S10 : Same H9 H10 := by rw [← hH]; exact same_new nM
  have hM : H10 M = some (.lst [V.ref p, V.non, V.ref a, V.str (wtxt W)]) := by rw [← hH]; exact upd_same
  clear hH
  have hLa := S10 _ _ hL9
  walk_at "go"
  refine fun N nN => ?_
  generalize hH : upd H10 N _ = H11
  have S11 : Same H10 H11 := by rw [← hH]; exact same_new nN
  have hN : SqL K H11 N [.ref u1, .ref u2, .ref u3, .ref u4, V.ref p, V.non, V.ref a, V.str (wtxt W)] := by rw [← hH]; exact .of upd_same
  clear hH
  have S9b := S10.trans S11
  replace hW := hW.same S9b
  replace hu0 := hu0.same S9b
  have hoth : ∀ (i : Nat) (y : V), ([.ref u1, .ref u2, .ref u3, .ref u4, V.ref p, V.non, V.ref a, V.str (wtxt W)] : List V)[i]? = some y → Oth K T.C_World (L, L) W H11 y := by
    intro i y hy
    have hy := List.mem_of_getElem? hy
    simp only [List.mem_cons, List.not_mem_nil, or_false] at hy
    rcases hy with rfl | rfl | rfl | rfl | rfl | rfl | rfl | rfl
    · exact .inl ⟨_, _, rfl, hu1.same S9b, ne1⟩
    · exact .inl ⟨_, _, rfl, hu2.same S9b, ne2⟩
    · exact .inl ⟨_, _, rfl, hu3.same S9b, ne3⟩
    · exact .inl ⟨_, _, rfl, hu4.same S9b, ne4⟩
    · exact .inr (.inl ⟨_, _, rfl, same_sqt S9b hp⟩)
    · exact .inr (.inr (.inl rfl))
    · exact .inr (.inl ⟨_, _, rfl, same_sqt S9b ha⟩)
    · exact .inr (.inr (.inr ⟨_, rfl⟩))
  have S0b := S39.trans S9b
  clear hu1 hu2 hu3 hu4 hp ha hM hLa hL9 S39 S10 S11 S9b ne1 ne2 ne3 ne4 hpc
  obtain ⟨dx0, l0, a0, hs0, _⟩ := id hu0
  obtain ⟨dxw, lw, aw, hsw, _⟩ := id hW
  have tyw : TyA K H11 (.ref w) (.ref T.C_World) := .sl hsw T.cl_World T.is_World
  walk_at "go"
  refine ⟨T.nfW_World, u0, (L, L), W, _, rfl, hu0, .inl ⟨w, W, rfl, hW, fun H12 S12 => ?_⟩⟩
  rw [decide_eq_true rfl]
  replace hW := hW.same S12
  replace hu0 := hu0.same S12
  replace hN := S12.seq hN
  replace hoth := fun i y e => (hoth i y e).same S12
  replace S0b := S0b.trans S12
  clear hs0 hsw tyw
  obtain ⟨dx1, l1, a1, hs1, _⟩ := id hu0
  obtain ⟨dxw1, lw1, aw1, hsw1, _⟩ := id hW
  have tyw1 : TyA K H12 (.ref w) (.ref T.C_World) := .sl hsw1 T.cl_World T.is_World
  walk_at "go"
  refine ⟨T.nfW_World, u0, (L, L), W, _, rfl, hu0, .inl ⟨w, W, rfl, hW, fun H13 S13 => ?_⟩⟩
  rw [decide_eq_true rfl]
  replace hW := hW.same S13
  replace hN := S13.seq hN
  replace hoth := fun i y e => (hoth i y e).same S13
  replace S0b := S0b.trans S13
  clear hs1 hsw1 tyw1 hu0
  walk_at "go"
  refine iteY rfl ?_
  walk_at "go"
  generalize hxs : ([V.ref u1, V.ref u2, V.ref u3, V.ref u4, V.ref p, V.non, V.ref a, V.str (wtxt W)] : List V) = oths at *
  clear hxs
  refine fun E1 nE => lc_it (walk_list (xs := oths)) (fun j H' => H' E1 = some (.lst []) ∧ Ext E1 H13 H') ⟨upd_same, Ext.new nE⟩ (fun _ _ _ hW => (hW.2.same nE).seq hN) (fun j y H1 H2 hj hX hy => ?_) (fun H1 hX => ?_)
  · obtain ⟨rfl, hy⟩ := hy
    obtain ⟨hD, X⟩ := hX
    have ho := (hoth j y hy).same (X.same nE)
    have hW9 := hW.same (X.same nE)
    obtain ⟨dx, l, a2, hs, _⟩ := id hW9
    obtain ⟨t, ty, nf, hq⟩ := oth_eq T ho hW9
    walk_at "go"
    refine .of (hq _ _ fun H3 S3 => ?_)
    have ho3 := ho.same S3
    have hW3 := hW9.same S3
    obtain ⟨dx, l, a2, hs3, _⟩ := id hW3
    obtain ⟨t3, ty3, nf3, hq3⟩ := oth_eq T ho3 hW3
    walk_at "go"
    refine .of (hq3 _ _ fun H4 S4 => ?_)
    walk_at "go"
    refine iteN (fun z => Bool.noConfusion (show false = true from z)) ?_
    exact ⟨(S3.trans S4) _ _ hD, X.trans (.of (S3.trans S4))⟩
  · obtain ⟨hD, X⟩ := hX
    have hDl : SqL K H1 E1 [] := .of hD
    have S1 := X.same nE
    walk_at "go"
    refine fun pz npz => ?_
    generalize hH : upd H1 pz _ = H2
    have S2 : Same H1 H2 := by rw [← hH]; exact same_new npz
    have hpz : SqL K H2 pz [] := by rw [← hH]; exact .of upd_same
    clear hH
    have hDl2 := S2.seq hDl
    refine ⟨.list [], .list [], .lst hDl2 .nil, .lst hpz .nil, rfl, rfl, ?_⟩
    exact q_1 H2 (S0b.trans (S1.trans S2))

end
section
variable {P : Program} {w : World} {K : PySem.W.Frag} {mg : Str → Option Value} {base : Heap}
/-! ### short tactics -/
local macro_rules | `(tactic| walk_at "side") => `(tactic| first
  | with_reducible assumption | (exact ⟨by omega, by omega⟩) | exact True.intro | rfl | exact Nat.le_of_ble_eq_true rfl | with_reducible exact Int.natCast_nonneg _ | decide | omega
  | ((with_reducible show KDct _ _ _ _ _); assumption)
  | ((with_reducible show SlX.SCls _ _); assumption)
  | ((with_reducible show SlX.Slot1 _ _ _ _ _); assumption)
  | ((with_reducible show ClsV _ _); first | exact .own _ | exact .ty _)
  | ((with_reducible show TyA _ _ _ _); assumption)
  | ((with_reducible show Eq (PySem.W.kitOne _ _ _) _); assumption)
  | ((with_reducible show Jd _ _ _); first | assumption | exact .int _ | exact .str _ | exact .non | exact .bl _)
  | ((with_reducible show SqT _ _ _ _); walk_at "sq") | ((with_reducible show SqL _ _ _ _); walk_at "sq")
  | exact Or.inl rfl | exact Or.inr rfl
  | (intro z; exact absurd (show 1 = 0 from z.1) (by decide)) | (intro z; exact absurd (show 2 = 0 from z.1) (by decide))
  | (exact Or.inl ⟨by omega, by omega⟩) | (exact Or.inr ⟨by omega, by omega⟩)
  | (exact ⟨by omega, by omega, by omega⟩) | (exact ⟨by decide, by decide, by decide⟩)
  | (exact wide_div (b := 250) (by omega) (by omega) (by decide) (by decide))
  | (exact wide_mul (a := 250) (b := 250) (by omega) (by omega) (by decide) (by decide) (by decide))
  | decide +kernel | (dsimp only; decide +kernel)
  | (exact wide_mul (a := 250) (b := 250) (by decide +kernel) (by decide +kernel) (by decide) (by decide) (by decide)))
local macro_rules | `(tactic| walk_at "idx") => `(tactic| first
  | assumption | exact atI_nat (j := 0) rfl | exact atI_nat (j := 1) rfl | exact atI_nat (j := 2) rfl | exact atI_nat (j := 3) rfl | exact atI_nat (j := 4) rfl | exact atI_nat (j := 5) rfl)
local macro_rules | `(tactic| walk_at "sq") => `(tactic| first
  | assumption | exact SqL.of upd_same | exact SqT.of upd_same | exact SqL.of (by assumption) | exact SqT.of (by assumption)
  | exact SqT.of (same_new (by assumption) _ _ upd_same) | exact SqL.of (same_new (by assumption) _ _ upd_same)
  | exact SqT.of (same_new (by assumption) _ _ (by assumption)) | exact SqL.of (same_new (by assumption) _ _ (by assumption))
  | exact SqT.of (same_new (by assumption) _ _ (same_new (by assumption) _ _ upd_same)) | exact SqL.of (same_new (by assumption) _ _ (same_new (by assumption) _ _ upd_same)))
local macro_rules | `(tactic| walk_at "dp") => `(tactic| first
  | exact .non | exact .bl _ | exact .int _ | exact .str _
  | (refine .tup (by walk_at "sq") ?_; walk_at "dps") | (refine .lst (by walk_at "sq") ?_; walk_at "dps"))
local macro_rules | `(tactic| walk_at "dps") => `(tactic| first
  | exact .nil | (refine .cons (by walk_at "dp") ?_; walk_at "dps"))
local macro_rules | `(tactic| walk_at "go") => `(tactic| repeat first
  | (show @ite _ _ _ _ _; with_reducible (first | refine iteT ?_ | refine iteF ?_ | refine iteNT ?_ | refine iteNF ?_))
  | ((fail_if_success (show @ite _ _ _ _ _)); first
    | refine And.intro (by walk_at "side") ?_
    | refine ⟨_, rfl, ?_⟩
    | refine ⟨_, _, rfl, rfl, ?_⟩
    | refine ⟨_, _, rfl, .inl (by walk_at "sq"), ?_⟩
    | refine ⟨_, _, rfl, .inr (by walk_at "sq"), ?_⟩
    | refine ⟨_, _, rfl, ?_⟩
    | refine ⟨_, _, _, rfl, ?_⟩
    | refine ⟨_, _, _, _, rfl, ?_⟩
    | refine ⟨_, _, _, _, _, rfl, ?_⟩
    | refine ⟨_, _, _, _, rfl, rfl, (by walk_at "sq"), (by walk_at "idx"), ?_⟩
    | refine ⟨_, _, _, _, _, rfl, .ty _, (by assumption), kit_ty (by assumption), ?_⟩
    | refine And.intro ⟨_, by walk_at "sq"⟩ ?_
    | refine .inl ⟨_, rfl, ?_⟩
    | refine .inr ⟨_, rfl, ?_⟩
    | (apply Exists.intro; (repeat apply Exists.intro); refine And.intro rfl ?_)))
local macro_rules | `(tactic| walk_at "unp2") => `(tactic| refine ⟨_, _, rfl, (by walk_at "sq"), rfl, _, _, rfl, _, _, rfl, rfl, ?_⟩)
local macro_rules | `(tactic| walk_at "unp3") => `(tactic| refine ⟨_, _, rfl, (by walk_at "sq"), rfl, _, _, rfl, _, _, rfl, _, _, rfl, rfl, ?_⟩)
local macro_rules | `(tactic| walk_at "pick") => `(tactic| refine ⟨_, _, _, rfl, SqL.of upd_same, Dice.ne (by assumption) (by assumption), Nat.zero_lt_succ _, Nat.le_of_ble_eq_true rfl, Dice.new (by assumption) (by assumption), ?_⟩)
local macro_rules | `(tactic| walk_at "tt") => `(tactic| first
  | refine iteY rfl ?_ | refine iteN (fun z => Bool.noConfusion (show false = true from z)) ?_)

theorem WAt.pair {K : PySem.W.Frag} {C d g : Addr} {H : Hp} {w : Addr} {W : Wd} (h : WAt K C (d, d) H w W) (n : H g = none) : WAt K C (d, g) H w W := by
  obtain ⟨dx, l, a, h1, h2, h3, h4⟩ := h
  exact ⟨dx, l, a, h1, h2, ⟨h3.1, ne_of_none h2 n⟩, h4⟩
theorem ok_l_right (T : Tp K mg) : FnOk P w K mg base CX0 15 T.a_l_right T.d_l_right ["_law_dice_here"] (sp_l_right K) := by
  refine T.F_l_right.ok sc_l_right ?len (fun cdv A outer s H vs Q E hr h => ?_)
  case len => intro vs H Q E h; obtain ⟨d, rfl, _⟩ := h; rfl
  obtain ⟨d, rfl, D0, q_1⟩ := h
  refine ⟨_, (pss_cons (ps_set (i := 1) sc_l_right.nd rfl (Or.inl rfl) (pe_call (ok_l_world_drawn T) (hr.mono (by decide)) (by rfl) T.g_l_world_drawn T.F_l_world_drawn.kp T.b_l_world_drawn .nil pass0 (pa_cons (pv 0) pa_nil)))
    (pss_cons (ps_par (i := 2) (j := 3) (by rfl) sc_l_right.nd rfl rfl (by decide) rfl rfl (pa_cons (pe_make T.mk_World (ok_World_init T) (hr.mono (by decide)) (by rfl) T.g_World T.b_World_init .nil pass0 (pa_cons (pe_ix ix_tup (pv 1) pe_int (fun _ _ => rfl)) (pa_cons (pe_ix ix_tup (pv 1) pe_int (fun _ _ => rfl)) (pa_cons (pe_ix ix_tup (pv 1) pe_int (fun _ _ => rfl)) (pa_cons (pe_ix ix_tup (pv 1) pe_int (fun _ _ => rfl)) pa_nil))))) (pa_cons (pe_lc (own := [("_law_thing", 6)]) (g := gName 6) (tt := tYes) (by rfl) sc_l_right.nd (pi_tup (pe_ix ix_tup (pv 1) pe_int (fun _ _ => rfl))) (blkOk_by (own := [("_law_thing", 6)]) (N := N_l_right) (sc := defScope s_l_right) (by decide +kernel)) (fun _ _ _ _ _ => pg_name (i := 6) sc_l_right.nd rfl (Or.inl rfl)) (fun _ _ _ _ _ => pts_nil) (fun _ _ _ _ _ => (pe_ix (r := rIxT K) ix_tup (pv 6) pe_int (fun _ _ => rfl)))) pa_nil)) (by rfl))
    (pss_cons (ps_for PassesOwn.never rfl (pi_range1 rfl T.m_range (pa_cons (pe_op op_add pe_int (pe_call (ok_l_roll T) (hr.mono (by decide)) (by rfl) T.g_l_roll T.F_l_roll.kp T.b_l_roll .nil pass0 (pa_cons (pv 0) (pa_cons pe_int pa_nil)))) pa_nil)) (pg_name (i := 4) sc_l_right.nd rfl (Or.inl rfl)) (pss_cons (ps_set (i := 5) sc_l_right.nd rfl (Or.inl rfl) (pe_call (ok_l_done T) (hr.mono (by decide)) (by rfl) T.g_l_done T.F_l_done.kp T.b_l_done .nil pass0 (pa_cons (pv 0) (pa_cons (pv 2) (pa_cons (pv 1) pa_nil)))))
      (pss_cons (ps_if (PW.pt (pw_or (pt_cmp (pc_isN (pv 5)) rfl) (pw_or (pt_not (pt_val (pe_call (ok_l_is_told T) (hr.mono (by decide)) (by rfl) T.g_l_is_told T.F_l_is_told.kp T.b_l_is_told .nil pass0 (pa_cons (pv 2) (pa_cons (pv 1) pa_nil))))) (pw_or1 (pt_not (pt_val (pe_call (ok_l_is_told T) (hr.mono (by decide)) (by rfl) T.g_l_is_told T.F_l_is_told.kp T.b_l_is_told .nil pass0 (pa_cons (pe_ix ix_tup (pv 5) pe_int (fun _ _ => rfl)) (pa_cons (pe_ix ix_tup (pv 5) pe_int (fun _ _ => rfl)) pa_nil))))))))) (pss_one (ps_ret pe_bl)) pss_nil)
      (pss_cons (ps_if (pt_cmpR op_gt (pe_ix ix_tup (pe_ix ix_tup (pv 5) pe_int (fun _ _ => rfl)) pe_int (fun _ _ => rfl)) (pe_ix ix_tup (pv 1) pe_int (fun _ _ => rfl)) (nomark _)) (pss_one (ps_expr (pe_bm PySem.F.plainAttrs_list PySem.F.slot_list_append PySem.F.type_list_append mt_append (pv 3) (pa_cons (pe_ix ix_tup (pv 1) pe_int (fun _ _ => rfl)) pa_nil)))) pss_nil)
      (pss_one (ps_asg (pv 5) (pg_tup (by rfl) (pgs_cons (pg_name (i := 2) sc_l_right.nd rfl (Or.inl rfl)) (pgs_cons (pg_name (i := 1) sc_l_right.nd rfl (Or.inl rfl)) pgs_nil)))))))))
    (pss_one (ps_ret (pe_and (pe_cmpR op_eq (RZ.pe_lenSetI (by rfl) T.m_len (by rfl) T.m_set (pv 3)) (pe_callB call_len_seq (by rfl) T.m_len (by decide +kernel) (pa_cons (pv 3) pa_nil)) (nomark _)) (pe_one (pe_call (ok_l_is_alone T) (hr.mono (by decide)) (by rfl) T.g_l_is_alone T.F_l_is_alone.kp T.b_l_is_alone .nil pass0 (pa_cons (pv 2) (pa_cons (pv 1) pa_nil)))))))))), ?_⟩
  walk_at "go"
  refine fun p W H1 hf hP D1 X1 => ?_
  have hok := hf.ok (by omega)
  obtain ⟨a, hp, hth⟩ := id hP
  have hli : Li (d, d) H1 := D1.li ⟨_, D1.choose_spec.choose_spec.choose_spec⟩
  walk_at "go"
  refine mkW hth hok hli fun w0 H2 S2 hw => ?_
  replace hp := same_sqt S2 hp
  replace hth := hth.same S2
  replace hP := hP.same S2
  replace D1 := D1.same S2
  replace X1 := X1.trans (.of S2)
  obtain ⟨xs, ha, hxs⟩ := id hth
  have hl2 := Paired.length hxs
  have n12 := hf.n
  walk_at "go"
  refine fun g nG => lc_it walk_tup (fun i H' => H' g = some (.lst (ivs ((ids W).take i))) ∧ Ext g H2 H') ⟨upd_same, Ext.new nG⟩ (fun _ _ _ hW => same_sqt (hW.2.same nG) ha) (fun i y H3 H4 hi hW hy => ?_) (fun H3 hX => ?_)
  · obtain ⟨rfl, hy⟩ := hy
    obtain ⟨hD, X⟩ := hW
    obtain ⟨t, ht, hyt⟩ := paired_get hxs hy
    obtain ⟨p, n, rfl, hp, hn, hkd⟩ := hyt.same (X.same nG)
    walk_at "go"
    refine ⟨_, hD, ?_, ?_, X.trans Ext.put⟩
    · unfold ivs ids
      rw [List.length_map, List.length_take, List.length_map]
      exact small1000 (by omega)
    · unfold ids
      rw [upd_same, List.take_add_one, List.getElem?_map, ht]
      unfold ivs
      rw [List.map_append]
      rfl
  obtain ⟨hD, X⟩ := hX
  have S3 := X.same nG
  have nG0 : H g = none := by
    cases h : H g with
    | none => rfl
    | some o =>
      have := X1 g o (D1.ne nG) h
      rw [nG] at this
      cases this
  have ngd : g ≠ d := D1.ne nG
  have hG : H3 g = some (.lst (ivs (ids W))) := by
    rw [hD]
    unfold ids
    rw [hl2, ← List.length_map (f := Th.id), List.take_length]
  clear hD hli ha hxs hp hth X
  replace hw := (hw.pair nG).same S3
  replace hP := hP.same S3
  replace D1 := D1.same S3
  replace X1 := X1.trans (.of S3)
  have hg0 : (ids W).Pairwise (· < ·) := hf.as.1
  have hg1 : ∀ k ∈ ids W, k < W.nx := fun k hk => by
    obtain ⟨t, ht, rfl⟩ := List.mem_map.mp hk
    exact hf.as.2 t ht
  have hg2 : (ids W).length ≤ 12 := by unfold ids; rw [List.length_map]; exact n12
  walk_at "go"
  refine fun r H5 r0 r1 D5 X5 => ?_
  walk_at "go"
  refine for_it walk_range (fun i σ H' => Stp (∃ p w0 W y4 y5 y6 gs, σ = [some (.ref d), some (.ref p), some (.ref w0), some (.ref g), y4, y5, y6] ∧ H' g = some (.lst (ivs gs)) ∧ gs.Pairwise (· < ·) ∧ (∀ k ∈ gs, k < W.nx) ∧ gs.length ≤ 12 + i ∧ W.fine (i : Int) ∧ WAt K T.C_World (d, g) H' w0 W ∧ Pl K H' p W ∧ Dice d H' ∧ Ext d H H'))
    (.of ⟨p, w0, W, none, none, none, ids W, rfl, X5 _ _ ngd hG, hg0, hg1, hg2, hf, hw.ext X5 D1, hP.ext X5 D1, D5, X1.trans X5⟩) (fun _ _ _ _ _ => True.intro) (fun i x σ H6 H7 hi hW hy => ?_) (fun σ H6 hW => ?_)
  · obtain ⟨rfl, rfl⟩ := hy
    obtain ⟨p, w0, W, y4, y5, y6, gs, rfl, hG, hg0, hg1, hg2, hf, hw, hP, D6, X6⟩ := hW.get
    clear hW
    have hi18 : (i : Int) ≤ 18 := by omega
    have hi100 : (i : Int) ≤ 100 := by omega
    have hi1000 : (i : Int) ≤ 1000 := by omega
    have hi1001 : (i : Int) + 1 ≤ 1000 := by omega
    have lg : Li1 g H7 := ⟨_, hG⟩
    walk_at "go"
    refine fun q u r W' H8 hf' hnx hq hu hr D8 X8 => ?_
    replace hG := X8 _ _ ngd hG
    replace hw := hw.ext X8 D6
    replace hP := hP.ext X8 D6
    replace X6 := X6.trans X8
    clear D6 X8 lg
    walk_at "go"
    show @ite _ _ _ _ _
    refine iteN (fun z => nomatch (of_decide_eq_true z)) ?_
    walk_at "go"
    refine fun H9 S9 => ?_
    replace hG := S9 _ _ hG
    replace hw := hw.same S9
    replace hP := hP.same S9
    replace hu := hu.same S9
    replace hr := hr.same S9
    replace hq := same_sqt S9 hq
    replace D8 := D8.same S9
    replace X6 := X6.trans (.of S9)
    clear S9
    walk_at "go"
    refine fun Ha S9 => ?_
    replace hG := S9 _ _ hG
    replace hw := hw.same S9
    replace hP := hP.same S9
    replace hu := hu.same S9
    replace hr := hr.same S9
    replace hq := same_sqt S9 hq
    replace D8 := D8.same S9
    replace X6 := X6.trans (.of S9)
    clear S9
    obtain ⟨ra, hrt, hrth⟩ := id hr
    obtain ⟨pa, hpt, hpth⟩ := id hP
    walk_at "go"
    refine ite2 (fun e => ?_) (fun e => ?_)
    · have e := of_decide_eq_true e
      walk_at "go"
      refine ⟨.inl ⟨rfl, _, .inl (.inl hG)⟩, ?_⟩
      have hsz : (ivs gs).length < sizeLine := small1000 (by unfold ivs; rw [List.length_map]; omega)
      have hu2 := hu.extL (.put (o := .lst (ivs gs ++ [V.int W.nx]))) hG (.inr rfl)
      have hr2 : Pl K (upd Ha g (.lst (ivs gs ++ [V.int W.nx]))) r W' := hr.mono fun z => sqtL .put hG z
      have hq2 := sqtL (.put (o := .lst (ivs gs ++ [V.int W.nx]))) hG hq
      walk_at "go"
      refine .of ⟨r, u, W', _, _, _, gs ++ [W.nx], rfl, ?_, ?_, ?_, ?_, by rw [Int.natCast_add]; exact hf', hu2, hr2, D8.put ngd, X6.mut nG0⟩
      · rw [upd_same]
        unfold ivs
        rw [List.map_append]
        rfl
      · exact List.pairwise_append.mpr ⟨hg0, List.pairwise_singleton .., fun x hx y hy => by rw [List.mem_singleton.mp hy]; exact hg1 x hx⟩
      · intro k hk
        rcases List.mem_append.mp hk with h | h
        · exact Int.lt_of_lt_of_le (hg1 k h) hnx
        · rw [List.mem_singleton.mp h]; exact e
      · rw [List.length_append, List.length_singleton]
        omega
    · walk_at "go"
      refine .of ⟨r, u, W', _, _, _, gs, rfl, hG, hg0, fun k hk => Int.lt_of_lt_of_le (hg1 k hk) hnx, by omega, by rw [Int.natCast_add]; exact hf', hu, hr, D8, X6⟩
  · obtain ⟨p, w0, W, y4, y5, y6, gs, rfl, hG, hg0, hg1, hg2, hf, hw, hP, D6, X6⟩ := hW.get
    clear hW
    have hli : Li (d, g) H6 := D6.li ⟨_, hG⟩
    have hfb : ((10 + r).toNat : Int) ≤ 100 := by omega
    have hGl : SqL K H6 g (gs.map V.int) := .of hG
    have nd : gs.Nodup := hg0.imp fun h => by omega
    have l63 : gs.length ≤ 4000 := by omega
    have hGi : SqL K H6 g (ivs gs) := .of hG
    walk_at "go"
    refine iteY (decide_eq_true (by unfold ivs; rw [List.length_map])) ?_
    walk_at "go"
    refine fun H7 S7 => ?_
    exact q_1 H7 (D6.same S7) (X6.trans (.of S7))

end
section
variable {P : Program} {w : World} {K : PySem.W.Frag} {mg : Str → Option Value} {base : Heap}
/-! ### short tactics -/
local macro_rules | `(tactic| walk_at "side") => `(tactic| first
  | with_reducible assumption | (exact ⟨by omega, by omega⟩) | exact True.intro | rfl | exact Nat.le_of_ble_eq_true rfl | with_reducible exact Int.natCast_nonneg _ | decide | omega
  | ((with_reducible show KDct _ _ _ _ _); assumption)
  | ((with_reducible show SlX.SCls _ _); assumption)
  | ((with_reducible show SlX.Slot1 _ _ _ _ _); assumption)
  | ((with_reducible show ClsV _ _); first | exact .own _ | exact .ty _)
  | ((with_reducible show TyA _ _ _ _); assumption)
  | ((with_reducible show Eq (PySem.W.kitOne _ _ _) _); assumption)
  | ((with_reducible show Jd _ _ _); first | assumption | exact .int _ | exact .str _ | exact .non | exact .bl _)
  | ((with_reducible show SqT _ _ _ _); walk_at "sq") | ((with_reducible show SqL _ _ _ _); walk_at "sq")
  | exact Or.inl rfl | exact Or.inr rfl
  | (intro z; exact absurd (show 1 = 0 from z.1) (by decide)) | (intro z; exact absurd (show 2 = 0 from z.1) (by decide))
  | (exact Or.inl ⟨by omega, by omega⟩) | (exact Or.inr ⟨by omega, by omega⟩)
  | (exact ⟨by omega, by omega, by omega⟩) | (exact ⟨by decide, by decide, by decide⟩)
  | (exact wide_div (b := 250) (by omega) (by omega) (by decide) (by decide))
  | (exact wide_mul (a := 250) (b := 250) (by omega) (by omega) (by decide) (by decide) (by decide))
  | decide +kernel | (dsimp only; decide +kernel)
  | (exact wide_mul (a := 250) (b := 250) (by decide +kernel) (by decide +kernel) (by decide) (by decide) (by decide)))
local macro_rules | `(tactic| walk_at "idx") => `(tactic| first
  | assumption | exact atI_nat (j := 0) rfl | exact atI_nat (j := 1) rfl | exact atI_nat (j := 2) rfl | exact atI_nat (j := 3) rfl | exact atI_nat (j := 4) rfl | exact atI_nat (j := 5) rfl)
local macro_rules | `(tactic| walk_at "sq") => `(tactic| first
  | assumption | exact SqL.of upd_same | exact SqT.of upd_same | exact SqL.of (by assumption) | exact SqT.of (by assumption)
  | exact SqT.of (same_new (by assumption) _ _ upd_same) | exact SqL.of (same_new (by assumption) _ _ upd_same)
  | exact SqT.of (same_new (by assumption) _ _ (by assumption)) | exact SqL.of (same_new (by assumption) _ _ (by assumption))
  | exact SqT.of (same_new (by assumption) _ _ (same_new (by assumption) _ _ upd_same)) | exact SqL.of (same_new (by assumption) _ _ (same_new (by assumption) _ _ upd_same)))
local macro_rules | `(tactic| walk_at "dp") => `(tactic| first
  | exact .non | exact .bl _ | exact .int _ | exact .str _
  | (refine .tup (by walk_at "sq") ?_; walk_at "dps") | (refine .lst (by walk_at "sq") ?_; walk_at "dps"))
local macro_rules | `(tactic| walk_at "dps") => `(tactic| first
  | exact .nil | (refine .cons (by walk_at "dp") ?_; walk_at "dps"))
local macro_rules | `(tactic| walk_at "go") => `(tactic| repeat first
  | (show @ite _ _ _ _ _; with_reducible (first | refine iteT ?_ | refine iteF ?_ | refine iteNT ?_ | refine iteNF ?_))
  | ((fail_if_success (show @ite _ _ _ _ _)); first
    | refine And.intro (by walk_at "side") ?_
    | refine ⟨_, rfl, ?_⟩
    | refine ⟨_, _, rfl, rfl, ?_⟩
    | refine ⟨_, _, rfl, .inl (by walk_at "sq"), ?_⟩
    | refine ⟨_, _, rfl, .inr (by walk_at "sq"), ?_⟩
    | refine ⟨_, _, rfl, ?_⟩
    | refine ⟨_, _, _, rfl, ?_⟩
    | refine ⟨_, _, _, _, rfl, ?_⟩
    | refine ⟨_, _, _, _, _, rfl, ?_⟩
    | refine ⟨_, _, _, _, rfl, rfl, (by walk_at "sq"), (by walk_at "idx"), ?_⟩
    | refine ⟨_, _, _, _, _, rfl, .ty _, (by assumption), kit_ty (by assumption), ?_⟩
    | refine And.intro ⟨_, by walk_at "sq"⟩ ?_
    | refine .inl ⟨_, rfl, ?_⟩
    | refine .inr ⟨_, rfl, ?_⟩
    | (apply Exists.intro; (repeat apply Exists.intro); refine And.intro rfl ?_)))
local macro_rules | `(tactic| walk_at "unp2") => `(tactic| refine ⟨_, _, rfl, (by walk_at "sq"), rfl, _, _, rfl, _, _, rfl, rfl, ?_⟩)
local macro_rules | `(tactic| walk_at "unp3") => `(tactic| refine ⟨_, _, rfl, (by walk_at "sq"), rfl, _, _, rfl, _, _, rfl, _, _, rfl, rfl, ?_⟩)
local macro_rules | `(tactic| walk_at "pick") => `(tactic| refine ⟨_, _, _, rfl, SqL.of upd_same, Dice.ne (by assumption) (by assumption), Nat.zero_lt_succ _, Nat.le_of_ble_eq_true rfl, Dice.new (by assumption) (by assumption), ?_⟩)
local macro_rules | `(tactic| walk_at "tt") => `(tactic| first
  | refine iteY rfl ?_ | refine iteN (fun z => Bool.noConfusion (show false = true from z)) ?_)

theorem EqAt_two {A : Around} {s : Shared} {a : Addr} {us ws : List Value} (h1 : Vals [.ref a, .non] us) (h2 : Vals [.ref a, .non] ws) : us = [.ref a, .none] ∧ ws = us := by
  cases h1 with
  | cons r1 t1 =>
    cases t1 with
    | cons r2 t2 =>
      cases t2
      cases h2 with
      | cons q1 u1 =>
        cases u1 with
        | cons q2 u2 =>
          cases u2
          cases r1; cases r2; cases q1; cases q2
          exact ⟨rfl, rfl⟩
/-- != of two pairs of one thing and None -/
def rNeI (K : PySem.W.Frag) : R2 := fun x y H Q => ∃ p q a, x = .ref p ∧ y = .ref q ∧ SqT K H p [.ref a, .non] ∧ SqT K H q [.ref a, .non] ∧ Q (.bl false) H
theorem op_neI {X : Cx} (hu : X.A.units < cLine) : OpR X (compareOp .NotEq) (rNeI X.K) := by
  intro pins s σ H x y v u Q I rx ry h
  obtain ⟨p, q, a, rfl, rfl, hp, hq, k⟩ := h
  cases (show v = Value.ref p from rx)
  cases (show u = Value.ref q from ry)
  obtain ⟨us, ru, tu, _⟩ := I.tuple hp
  obtain ⟨ws, rw', tw, _⟩ := I.tuple hq
  obtain ⟨rfl, rfl⟩ := EqAt_two (A := X.A) (s := s) ru rw'
  have := SeqAt.RcNeAt.tuples (A := X.A) (s := s) (l := p) (b := q) (e := fun _ => true) tu tw hu (fun j h1 h2 => SeqAt.EqAt.same _)
  exact this _ _ _ _ ⟨.bl false, H, I, rfl, k⟩
def t1 : Th := ⟨2, "box", [1]⟩
def t2 : Th := ⟨7, "dot", [4, 5]⟩
def W1 : Wd := ⟨3, 8, 0, [t1, t2]⟩
theorem nm_ok {z : Str} (h : (decide (1 ≤ z.length) && decide (z.length ≤ 8) && z.cps.toList.all fun c => decide (c ∈ letters.cps.toList)) = true) : NmOk z := by
  rw [Bool.and_eq_true, Bool.and_eq_true] at h
  exact ⟨of_decide_eq_true h.1.1, of_decide_eq_true h.1.2, fun c hc => of_decide_eq_true (List.all_eq_true.mp h.2 c hc)⟩
theorem nm_box : NmOk "box" := nm_ok (by decide +kernel)
theorem nm_dot : NmOk "dot" := nm_ok (by decide +kernel)
theorem nm_a : NmOk "a" := nm_ok (by decide +kernel)
theorem num_of {i : Int} (h : (decide (-1000000000 ≤ i) && decide (i ≤ 1000000000)) = true) : Num i := by
  rw [Bool.and_eq_true] at h
  exact ⟨of_decide_eq_true h.1, of_decide_eq_true h.2⟩
theorem t1_ok : t1.ok := ⟨by decide, nm_box, by decide, by decide, fun i hi => by rw [List.mem_singleton.mp hi]; exact num_of rfl⟩
theorem t2_ok : t2.ok := ⟨by decide, nm_dot, by decide, by decide, fun i hi => by
  have : i = 4 ∨ i = 5 := by simpa [t2] using hi
  rcases this with rfl | rfl <;> exact num_of rfl⟩
theorem W1_ok : W1.ok := ⟨⟨by decide, by decide⟩, ⟨by decide, by decide⟩, ⟨by decide, by decide⟩, by decide, fun t ht => by
  have : t = t1 ∨ t = t2 := by simpa [W1] using ht
  rcases this with rfl | rfl
  · exact t1_ok
  · exact t2_ok, by decide, by decide⟩
def fT (k : Nat) : Th := ⟨0 + (k : Int), "a", [0 + (k : Int)]⟩
def WF : Wd := ⟨0, 12, 1, (List.range 12).map fT⟩
theorem fT_ok {k : Nat} (h : k < 12) : (fT k).ok := ⟨by show 0 ≤ 0 + (k : Int); omega, nm_a, Nat.le_refl 1, by show 1 ≤ 8; decide, fun i hi => by rw [List.mem_singleton.mp hi]; exact ⟨by omega, by omega⟩⟩
theorem WF_ok : WF.ok := ⟨⟨by decide, by decide⟩, ⟨by decide, by decide⟩, ⟨by decide, by decide⟩, by decide, fun t ht => by
  obtain ⟨k, hk, rfl⟩ := List.mem_map.mp ht
  exact fT_ok (List.mem_range.mp hk), by decide, by decide⟩
def W0 : Wd := ⟨0, 0, 0, []⟩
theorem W0_ok : W0.ok := ⟨⟨by decide, by decide⟩, ⟨by decide, by decide⟩, ⟨by decide, by decide⟩, by decide, fun t ht => absurd (show t ∈ ([] : List Th) from ht) List.not_mem_nil, by decide, by decide⟩
theorem ok_law (T : Tp K mg) : FnOk P w K mg base CX0 16 T.a_law T.d_law ["_law_script"] (sp_law K) := by
  refine T.F_law.ok sc_law ?len (fun cdv A outer s H vs Q E hr h => ?_)
  case len => intro vs H Q E h; obtain ⟨x, y, rfl, _⟩ := h; rfl
  obtain ⟨a, ns, rfl, hS, hl, q⟩ := h
  refine ⟨_, (pss_cons (ps_for PassesOwn.never rfl (pi_range1 rfl T.m_range (pa_cons (pe_callB (call_max2 rfl) (by rfl) T.m_max (by decide +kernel) (pa_cons pe_int (pa_cons (pe_callB (call_min2 rfl) (by rfl) T.m_min (by decide +kernel) (pa_cons pe_int (pa_cons (pe_callB call_len_seq (by rfl) T.m_len (by decide +kernel) (pa_cons (pv 0) pa_nil)) pa_nil))) pa_nil))) pa_nil)) (pg_name (i := 1) sc_law.nd rfl (Or.inl rfl)) (pss_one (ps_if (pt_not (pt_val (pe_call (ok_l_right T) (hr.mono (by decide)) (by rfl) T.g_l_right T.F_l_right.kp T.b_l_right .nil pass0 (pa_cons (pe_call (ok_l_dice T) (hr.mono (by decide)) (by rfl) T.g_l_dice T.F_l_dice.kp T.b_l_dice .nil pass0 (pa_cons (pv 0) (pa_cons (pv 1) pa_nil))) pa_nil)))) (pss_one (ps_ret pe_bl)) pss_nil)))
    (pss_cons (ps_set (i := 2) sc_law.nd rfl (Or.inl rfl) (pe_make T.mk_World (ok_World_init T) (hr.mono (by decide)) (by rfl) T.g_World T.b_World_init .nil pass0 (pa_cons pe_int (pa_cons pe_int (pa_cons pe_int (pa_cons (pe_tup (pa_cons (pe_tup (pa_cons pe_int (pa_cons pe_str (pa_cons (pe_tup (pa_cons pe_int pa_nil)) pa_nil)))) (pa_cons (pe_tup (pa_cons pe_int (pa_cons pe_str (pa_cons (pe_tup (pa_cons pe_int (pa_cons pe_int pa_nil))) pa_nil)))) pa_nil))) pa_nil))))))
    (pss_cons (ps_asg (pe_call (ok_made T) (hr.mono (by decide)) (by rfl) T.g_made T.F_made.kp T.b_made .nil pass0 (pa_cons (pe_call (ok_dropped T) (hr.mono (by decide)) (by rfl) T.g_dropped T.F_dropped.kp T.b_dropped .nil pass0 (pa_cons (pv 2) (pa_cons pe_int pa_nil))) (pa_cons pe_str (pa_cons (pe_tup (pa_cons pe_int (pa_cons pe_int pa_nil))) pa_nil)))) (pg_tup (by rfl) (pgs_cons (pg_name (i := 3) sc_law.nd rfl (Or.inl rfl)) (pgs_cons (pg_name (i := 4) sc_law.nd rfl (Or.inl rfl)) pgs_nil))))
    (pss_cons (ps_set (i := 5) sc_law.nd rfl (Or.inl rfl) (pe_make T.mk_World (ok_World_init T) (hr.mono (by decide)) (by rfl) T.g_World T.b_World_init .nil pass0 (pa_cons pe_int (pa_cons pe_int (pa_cons pe_int (pa_cons (pe_callTy call_tuple_of (by rfl) T.m_tuple (by decide +kernel) (pa_cons (pe_lc (own := [("_law_at", 6)]) (g := gName 6) (tt := tYes) (by rfl) sc_law.nd (pi_range1 rfl T.m_range (pa_cons pe_int pa_nil)) (blkOk_by (own := [("_law_at", 6)]) (N := N_law) (sc := defScope s_law) (by decide +kernel)) (fun _ _ _ _ _ => pg_name (i := 6) sc_law.nd rfl (Or.inl rfl)) (fun _ _ _ _ _ => pts_nil) (fun _ _ _ _ _ => (pe_tup (pa_cons (pv 6) (pa_cons pe_str (pa_cons (pe_tup (pa_cons (pv 6) pa_nil)) pa_nil)))))) pa_nil)) pa_nil))))))
    (pss_cons (ps_if (PW.pt (pw_or (pt_cmpR op_ne (pv 4) pe_int (nomark _)) (pw_or (pt_cmpR (show OpR _ (compareOp .Eq) (rEqA K T.C_World (sp_eqS K T.C_World) E0) from op_eqA (C := T.C_World) T.m_World_eq.at_ T.m_World_eq.fn (raw_eqS T) (hr.mono (by decide)) pass0) (pv 3) (pv 2) (nomark _)) (pw_or (pt_cmpR (op_neI hr.units0) (pe_call (ok_made T) (hr.mono (by decide)) (by rfl) T.g_made T.F_made.kp T.b_made .nil pass0 (pa_cons (pv 5) (pa_cons pe_str (pa_cons (pe_tup (pa_cons pe_int pa_nil)) pa_nil)))) (pe_tup (pa_cons (pv 5) (pa_cons pe_non pa_nil))) (nomark _)) (pw_or1 (pt_cmpR op_ne (pe_ix ix_tup (pe_call (ok_made T) (hr.mono (by decide)) (by rfl) T.g_made T.F_made.kp T.b_made .nil pass0 (pa_cons (pe_call (ok_dropped T) (hr.mono (by decide)) (by rfl) T.g_dropped T.F_dropped.kp T.b_dropped .nil pass0 (pa_cons (pv 5) (pa_cons pe_int pa_nil))) (pa_cons pe_str (pa_cons (pe_tup (pa_cons pe_int pa_nil)) pa_nil)))) pe_int (fun _ _ => rfl)) pe_int (nomark _))))))) (pss_one (ps_ret pe_bl)) pss_nil)
    (pss_one (ps_ret (pe_cmpR (op_eqD hr.units) (pe_lst (pa_cons (pe_callTy (call_strA (C := T.C_World) T.m_World_str.at_ T.m_World_str.fn ((ok_World_str T).raw T.b_World_str .nil) (hr.mono (by decide)) pass0) (by rfl) T.m_str (by decide +kernel) (pa_cons (pe_make T.mk_World (ok_World_init T) (hr.mono (by decide)) (by rfl) T.g_World T.b_World_init .nil pass0 (pa_cons pe_int (pa_cons pe_int (pa_cons pe_int (pa_cons (pe_tup pa_nil) pa_nil))))) pa_nil)) (pa_cons (pe_callTy (call_strA (C := T.C_World) T.m_World_str.at_ T.m_World_str.fn ((ok_World_str T).raw T.b_World_str .nil) (hr.mono (by decide)) pass0) (by rfl) T.m_str (by decide +kernel) (pa_cons (pv 2) pa_nil)) (pa_cons (pe_cmpR (op_inA (C := T.C_World) T.m_World_contains.at_ T.m_World_contains.fn ((ok_World_contains T).raw T.b_World_contains .nil) (hr.mono (by decide)) pass0) pe_int (pv 2) (by rfl)) (pa_cons (pe_cmpR (op_inA (C := T.C_World) T.m_World_contains.at_ T.m_World_contains.fn ((ok_World_contains T).raw T.b_World_contains .nil) (hr.mono (by decide)) pass0) pe_int (pv 2) (by rfl)) (pa_cons (pe_methSl (pe_call (ok_changed T) (hr.mono (by decide)) (by rfl) T.g_changed T.F_changed.kp T.b_changed .nil pass0 (pa_cons (pv 2) (pa_cons pe_int (pa_cons pe_int (pa_cons pe_int pa_nil))))) T.cl_World T.m_World_numbers ((ok_World_numbers T).raw T.b_World_numbers .nil) (hr.mono (by decide)) pass0 (pa_cons pe_int pa_nil)) pa_nil)))))) (pe_lst (pa_cons pe_str (pa_cons pe_str (pa_cons pe_bl (pa_cons pe_bl (pa_cons (pe_tup (pa_cons pe_int (pa_cons pe_int pa_nil))) pa_nil)))))) (nomark _))))))))), ?_⟩
  walk_at "go"
  refine for_range (lo := 0) (n := _) (fun i σ H' => Stp (∃ y1 y2 y3 y4 y5 y6, σ = [some (.ref a), y1, y2, y3, y4, y5, y6] ∧ SqL K H' a (ns.map V.int))) (.of ⟨none, none, none, none, none, none, rfl, hS⟩) (fun i σ H' hi hW => ?_) (fun σ H' hW => ?_)
  · obtain ⟨y1, y2, y3, y4, y5, y6, rfl, hS'⟩ := hW.get
    have hi3 : (i : Int) < 1000 := by
      revert hi
      rw [List.length_map]
      split <;> (try split) <;> intro hi <;> omega
    walk_at "go"
    refine fun d H1 nd D1 S1 => ?_
    walk_at "go"
    refine fun H2 D2 X2 => ?_
    walk_at "go"
    exact .of ⟨_, _, _, _, _, _, rfl, (((Ext.of S1).trans X2).same nd).seq hS'⟩
  · obtain ⟨y1, y2, y3, y4, y5, y6, rfl, hS'⟩ := hW.get
    clear hW hS' hS
    walk_at "go"
    refine fun p1 np1 => ?_
    generalize hH : upd H' p1 _ = G1
    have S1 : Same H' G1 := by rw [← hH]; exact same_new np1
    have h1 : SqT K G1 p1 [V.int 1] := by rw [← hH]; exact .of upd_same
    clear hH
    walk_at "go"
    refine fun p2 np2 => ?_
    generalize hH : upd G1 p2 _ = G2
    have S2 : Same G1 G2 := by rw [← hH]; exact same_new np2
    have h2 : SqT K G2 p2 [V.int 2, V.str "box", V.ref p1] := by rw [← hH]; exact .of upd_same
    clear hH
    walk_at "go"
    refine fun p3 np3 => ?_
    generalize hH : upd G2 p3 _ = G3
    have S3 : Same G2 G3 := by rw [← hH]; exact same_new np3
    have h3 : SqT K G3 p3 [V.int 4, V.int 5] := by rw [← hH]; exact .of upd_same
    clear hH
    walk_at "go"
    refine fun p4 np4 => ?_
    generalize hH : upd G3 p4 _ = G4
    have S4 : Same G3 G4 := by rw [← hH]; exact same_new np4
    have h4 : SqT K G4 p4 [V.int 7, V.str "dot", V.ref p3] := by rw [← hH]; exact .of upd_same
    clear hH
    walk_at "go"
    refine fun p5 n5 => ?_
    generalize hH : upd G4 p5 _ = G5
    have S5 : Same G4 G5 := by rw [← hH]; exact same_new n5
    have h5' : G5 p5 = some (.tup [V.ref p2, V.ref p4]) := by rw [← hH]; exact upd_same
    have h5 : SqT K G5 p5 [V.ref p2, V.ref p4] := .of h5'
    clear hH
    have h1 := same_sqt (S2.trans (S3.trans (S4.trans S5))) h1
    have h2 := same_sqt (S3.trans (S4.trans S5)) h2
    have h3 := same_sqt (S4.trans S5) h3
    have h4 := same_sqt S5 h4
    have hli : Li (p5, p5) G5 := ⟨⟨_, h5'⟩, ⟨_, h5'⟩⟩
    have hth : Ths K G5 p5 W1.ths := ⟨_, h5, .cons ⟨p2, p1, rfl, h2, h1, by decide +kernel⟩ (.cons ⟨p4, p3, rfl, h4, h3, by decide +kernel⟩ .nil)⟩
    clear h1 h2 h3 h4 h5 h5' S1 S2 S3 S4 S5
    walk_at "go"
    refine mkW (W := W1) hth W1_ok hli fun w1 G6 S6 hw1 => ?_
    replace hli := hli.same S6
    clear hth S6
    have i7 : ∃ t ∈ W1.ths, t.id = 7 := ⟨t2, by decide, rfl⟩
    have n12 : W1.ths.length ≤ 12 := by decide
    walk_at "go"
    refine fun u1 G7 S7 hu1 => ?_
    replace hli := hli.same S7
    replace hw1 := hw1.same S7
    have eU : dropW W1 7 = ⟨3, 8, 0, [t1]⟩ := by decide
    rw [eU] at hu1
    clear S7
    walk_at "go"
    refine fun p6 np6 => ?_
    generalize hH : upd G7 p6 _ = G8
    have S8 : Same G7 G8 := by rw [← hH]; exact same_new np6
    have h6 : SqT K G8 p6 [V.int 4, V.int 5] := by rw [← hH]; exact .of upd_same
    clear hH
    replace hli := hli.same S8
    replace hw1 := hw1.same S8
    replace hu1 := hu1.same S8
    clear S8
    refine ⟨u1, (p5, p5), p6, ⟨3, 8, 0, [t1]⟩, "dot", [4, 5], rfl, hu1, by decide, nm_dot, h6, by decide, by decide, t2_ok.ns, hli, fun p7 G9 S9 h7 => ?_⟩
    replace h7 : ∃ u, SqT K G9 p7 [.ref u, .int 8] ∧ WAt K T.C_World (p5, p5) G9 u ⟨3, 9, 0, [t1, ⟨8, "dot", [4, 5]⟩]⟩ := by
      rcases h7 with h | h
      · exact absurd h.1 (by decide)
      · exact h.2
    obtain ⟨u2, h7, hu2⟩ := h7
    replace hli := hli.same S9
    replace hw1 := hw1.same S9
    clear hu1 S9 h6 i7 n12 eU
    walk_at "go"
    refine fun D nD => lc_it walk_range (fun i H' => (∃ acc us, H' D = some (.lst acc) ∧ Paired (ThV K H') acc us ∧ us = (List.range i).map fT) ∧ Ext D G9 H') ⟨⟨[], [], upd_same, .nil, rfl⟩, Ext.new nD⟩ (fun _ _ _ _ => True.intro) (fun j y H1 H2 hi hX hy => ?_) (fun Ga hX => ?_)
    · obtain ⟨rfl, rfl⟩ := hy
      obtain ⟨⟨acc, us, hD, hP, hu⟩, X⟩ := hX
      have hlen := Paired.length hP
      rw [hu, List.length_map, List.length_range] at hlen
      have hi : j < 12 := hi
      walk_at "go"
      refine fun q1 nq1 => ?_
      generalize hH : upd H2 q1 _ = H3
      have S3 : Same H2 H3 := by rw [← hH]; exact same_new nq1
      have e1 : SqT K H3 q1 [V.int (0 + (j : Int))] := by rw [← hH]; exact .of upd_same
      clear hH
      walk_at "go"
      refine fun q2 nq2 => ?_
      generalize hH : upd H3 q2 _ = H4
      have S4 : Same H3 H4 := by rw [← hH]; exact same_new nq2
      have e2 : SqT K H4 q2 [V.int (0 + (j : Int)), V.str "a", V.ref q1] := by rw [← hH]; exact .of upd_same
      clear hH
      have e1 := same_sqt S4 e1
      have S34 := S3.trans S4
      have hD4 := S34 _ _ hD
      have hP4 := L2.Paired.mapP hP fun _ _ h => ThV.same h S34
      have hT : ThV K H4 (.ref q2) (fT j) := ⟨q2, q1, rfl, e2, e1, show PyData.strOk "a" = true by decide +kernel⟩
      have put : ∀ z, ∀ v u, ThV K H4 v u → ThV K (upd H4 D (.lst z)) v u := fun z v u h => h.mono fun q => sqt_put hD4 q
      walk_at "go"
      refine ⟨_, hD4, small1000 (by omega), ⟨⟨_, us ++ [fT j], upd_same, paired_app (L2.Paired.mapP hP4 (put _)) (.cons (put _ _ _ hT) .nil), ?_⟩, X.trans ((Ext.of S34).trans Ext.put)⟩⟩
      rw [hu, List.range_succ, List.map_append]
      rfl
    · obtain ⟨⟨acc, us, hD, hP, hu⟩, X⟩ := hX
      have S := X.same nD
      replace hli := hli.same S
      replace hw1 := hw1.same S
      replace hu2 := hu2.same S
      have hDl : SqL K Ga D acc := .of hD
      clear S X nD h7
      walk_at "go"
      refine .inl ⟨hDl, ?_⟩
      refine fun p8 np8 => ?_
      generalize hH : upd Ga p8 _ = Gb
      have Sb : Same Ga Gb := by rw [← hH]; exact same_new np8
      have h8 : SqT K Gb p8 acc := by rw [← hH]; exact .of upd_same
      clear hH
      replace hli := hli.same Sb
      replace hw1 := hw1.same Sb
      replace hu2 := hu2.same Sb
      have hth : Ths K Gb p8 WF.ths := ⟨acc, h8, by
        have := L2.Paired.mapP hP fun _ _ h => ThV.same h Sb
        rw [hu] at this
        exact this⟩
      clear hP h8 hD hDl Sb hu
      walk_at "go"
      refine mkW (W := WF) hth WF_ok hli fun wf Gc Sc hwf => ?_
      replace hli := hli.same Sc
      replace hw1 := hw1.same Sc
      replace hu2 := hu2.same Sc
      clear hth Sc
      walk_at "go"
      refine iteN (nd_f rfl) ?_
      obtain ⟨du, lu, au, hsu, _⟩ := id hu2
      obtain ⟨dx1, l1, a1, hs1, _⟩ := id hw1
      have ty1 : TyA K Gc (.ref w1) (.ref T.C_World) := .sl hs1 T.cl_World T.is_World
      have nf := T.nfW_World
      walk_at "go"
      refine .of ⟨u2, (p5, p5), _, _, rfl, hu2, .inl ⟨w1, W1, rfl, hw1, fun Gd Sd => ?_⟩⟩
      rw [decide_eq_false (by decide)]
      replace hli := hli.same Sd
      replace hw1 := hw1.same Sd
      replace hwf := hwf.same Sd
      clear hsu hs1 ty1 nf Sd hu2
      walk_at "go"
      refine fun pa npa => ?_
      generalize hH : upd Gd pa _ = Ge
      have Se : Same Gd Ge := by rw [← hH]; exact same_new npa
      have ha : SqT K Ge pa [V.int 0] := by rw [← hH]; exact .of upd_same
      clear hH
      replace hli := hli.same Se
      replace hw1 := hw1.same Se
      replace hwf := hwf.same Se
      clear Se
      refine ⟨wf, (p5, p5), pa, WF, "a", [0], rfl, hwf, by decide, nm_a, ha, by decide, by decide, fun i hi => by rw [List.mem_singleton.mp hi]; exact num_of rfl, hli, fun pb Gf Sf hb => ?_⟩
      replace hb : SqT K Gf pb [.ref wf, .non] := by
        rcases hb with h | h
        · exact h.2
        · exact absurd h.1 (by decide)
      replace hli := hli.same Sf
      replace hw1 := hw1.same Sf
      replace hwf := hwf.same Sf
      clear Sf ha
      walk_at "go"
      refine fun pc npc => ?_
      generalize hH : upd Gf pc _ = Gg
      have Sg : Same Gf Gg := by rw [← hH]; exact same_new npc
      have hc : SqT K Gg pc [V.ref wf, V.non] := by rw [← hH]; exact .of upd_same
      clear hH
      replace hb := same_sqt Sg hb
      replace hli := hli.same Sg
      replace hw1 := hw1.same Sg
      replace hwf := hwf.same Sg
      clear Sg
      walk_at "go"
      refine fun u3 Gh Sh hu3 => ?_
      replace hli := hli.same Sh
      replace hw1 := hw1.same Sh
      have eF : dropW WF 11 = ⟨0, 12, 1, (List.range 11).map fT⟩ := by decide +kernel
      rw [eF] at hu3
      clear Sh hb hc hwf eF
      walk_at "go"
      refine fun pd npd => ?_
      generalize hH : upd Gh pd _ = Gi
      have Si : Same Gh Gi := by rw [← hH]; exact same_new npd
      have hd : SqT K Gi pd [V.int 0] := by rw [← hH]; exact .of upd_same
      clear hH
      replace hli := hli.same Si
      replace hw1 := hw1.same Si
      replace hu3 := hu3.same Si
      clear Si
      refine ⟨u3, (p5, p5), pd, ⟨0, 12, 1, (List.range 11).map fT⟩, "a", [0], rfl, hu3, by decide, nm_a, hd, by decide, by decide, fun i hi => by rw [List.mem_singleton.mp hi]; exact num_of rfl, hli, fun pe Gj Sj he => ?_⟩
      replace he : ∃ u, SqT K Gj pe [.ref u, .int 12] := by
        rcases he with h | h
        · exact absurd h.1 (by decide)
        · obtain ⟨u, h, _⟩ := h.2
          exact ⟨u, h⟩
      obtain ⟨u4, he⟩ := he
      replace hli := hli.same Sj
      replace hw1 := hw1.same Sj
      clear Sj hd hu3
      walk_at "go"
      refine iteN (nd_f rfl) ?_
      walk_at "go"
      refine fun pf npf => ?_
      generalize hH : upd Gj pf _ = Gk
      have Sk : Same Gj Gk := by rw [← hH]; exact same_new npf
      have hf : SqT K Gk pf [] := by rw [← hH]; exact .of upd_same
      clear hH
      replace hli := hli.same Sk
      replace hw1 := hw1.same Sk
      have hth : Ths K Gk pf W0.ths := ⟨[], hf, .nil⟩
      clear Sk he
      walk_at "go"
      refine mkW (W := W0) hth W0_ok hli fun w0 Gl Sl hw0 => ?_
      replace hli := hli.same Sl
      replace hw1 := hw1.same Sl
      clear Sl hth hf
      obtain ⟨dx0, l0, a0, hs0, _⟩ := id hw0
      have tk0 : 0 ≤ W0.tick ∧ W0.tick ≤ big := by decide
      have n0 : W0.ths.length ≤ 12 := by decide
      obtain ⟨dx1, l1, a1, hs1, _⟩ := id hw1
      have tk1 : 0 ≤ W1.tick ∧ W1.tick ≤ big := by decide
      have n1 : W1.ths.length ≤ 12 := by decide
      have i7 : ∃ t ∈ W1.ths, t.id = 7 := ⟨t2, by decide, rfl⟩
      have i71 : ∀ t ∈ W1.ths, t.id = 7 → 1 < t.ns.length := by decide
      have i78 : ∀ t ∈ W1.ths, t.ns.length ≤ 8 := by decide
      have n9 : Num 9 := num_of rfl
      have j2 : Jd K Gl (.int 2) := .int _
      have j3 : Jd K Gl (.int 3) := .int _
      walk_at "go"
      refine fun u5 Gm Sm hu5 => ?_
      have eC : chgW W1 7 1 9 = ⟨3, 8, 0, [t1, ⟨7, "dot", [4, 9]⟩]⟩ := by decide +kernel
      rw [eC] at hu5
      obtain ⟨dx5, l5, a5, hs5, _⟩ := id hu5
      have k7 : ∃ t ∈ (⟨3, 8, 0, [t1, ⟨7, "dot", [4, 9]⟩]⟩ : Wd).ths, t.id = 7 := ⟨⟨7, "dot", [4, 9]⟩, by decide, rfl⟩
      have k12 : (⟨3, 8, 0, [t1, ⟨7, "dot", [4, 9]⟩]⟩ : Wd).ths.length ≤ 12 := by decide
      clear Sm hw1 hli hw0 hs0 hs1 j2 j3 n9 i7 i71 i78
      walk_at "go"
      refine fun t n Gn Sn ht he hn => ?_
      have et : t = ⟨7, "dot", [4, 9]⟩ := by
        have : t = t1 ∨ t = ⟨7, "dot", [4, 9]⟩ := by simpa using ht
        rcases this with rfl | rfl
        · exact absurd he (by decide)
        · rfl
      subst et
      have z1 : (V.str (wtxt W0) :: V.str (wtxt W1) :: V.bl (inW (V.int 2) W1) :: V.bl (inW (V.int 3) W1) :: V.ref n :: []).length ≤ sizeLine := by show 5 ≤ sizeLine; decide
      walk_at "go"
      refine fun pg npg => ?_
      generalize hH : upd Gn pg _ = Go
      have So : Same Gn Go := by rw [← hH]; exact same_new npg
      have hg : SqL K Go pg (V.str (wtxt W0) :: V.str (wtxt W1) :: V.bl (inW (V.int 2) W1) :: V.bl (inW (V.int 3) W1) :: V.ref n :: []) := by rw [← hH]; exact .of upd_same
      clear hH
      replace hn := same_sqt So hn
      walk_at "go"
      refine fun ph nph => ?_
      generalize hH : upd Go ph _ = Gp
      have Sp : Same Go Gp := by rw [← hH]; exact same_new nph
      have hh : SqT K Gp ph [V.int 4, V.int 9] := by rw [← hH]; exact .of upd_same
      clear hH
      replace hn := same_sqt Sp hn
      replace hg := Sp.seq hg
      walk_at "go"
      refine fun pi npi => ?_
      generalize hH : upd Gp pi _ = Gq
      have Sq : Same Gp Gq := by rw [← hH]; exact same_new npi
      have hi : SqL K Gq pi [V.str "world at 0 of 0 things", V.str "world at 3 of 2 things", V.bl true, V.bl false, V.ref ph] := by rw [← hH]; exact .of upd_same
      clear hH
      replace hn := same_sqt Sq hn
      replace hg := Sq.seq hg
      replace hh := same_sqt Sq hh
      walk_at "go"
      have e0 : wtxt W0 = "world at 0 of 0 things" := by decide +kernel
      have e1 : wtxt W1 = "world at 3 of 2 things" := by decide +kernel
      have e2 : inW (V.int 2) W1 = true := by decide +kernel
      have e3 : inW (V.int 3) W1 = false := by decide +kernel
      rw [e0, e1, e2, e3] at hg
      have dn : Dp K Gq (.ref n) (nsD [4, 9]) := dp_ns hn
      have dh : Dp K Gq (.ref ph) (nsD [4, 9]) := dp_ns hh
      have D1 : Dp K Gq (.ref pg) (.list [.str "world at 0 of 0 things", .str "world at 3 of 2 things", .bool true, .bool false, nsD [4, 9]]) := .lst hg (.cons (.str _) (.cons (.str _) (.cons (.bl _) (.cons (.bl _) (.cons dn .nil)))))
      have D2 : Dp K Gq (.ref pi) (.list [.str "world at 0 of 0 things", .str "world at 3 of 2 things", .bool true, .bool false, nsD [4, 9]]) := .lst hi (.cons (.str _) (.cons (.str _) (.cons (.bl _) (.cons (.bl _) (.cons dh .nil)))))
      refine ⟨_, _, D1, D2, by decide +kernel, by decide +kernel, ?_⟩
      rw [SeqAt.eqv_refl]
      · exact q _
      · decide +kernel

end
theorem all_mk {l : PySem.W.OpenLaw} {w : World} {K : PySem.W.Frag} {h : Heap} {mg : Str → Option Value} {fa : Addr} (X : K.In h) (G : h.Ns mainGlobals mg) (hfa : mg "law" = some (.ref fa))
  {C_KnownParts : Addr}
  {q_KnownParts_own_luck : Addr}
  {q_KnownParts_own_next_id : Addr}
  {q_KnownParts_own_things : Addr}
  {q_KnownParts_own_tick : Addr}
  {C_World : Addr}
  {q_World_own_ids : Addr}
  {q_World_own_luck : Addr}
  {q_World_own_next_id : Addr}
  {q_World_own_things : Addr}
  {q_World_own_tick : Addr}
  {f0 : Addr} {od0 an0 : Option Addr} {sl0 : Array (Option Value)} {oc0 kV0 dc0 pm0 cd0 ct0 : Value}
  {f1 : Addr} {od1 an1 : Option Addr} {sl1 : Array (Option Value)} {oc1 kV1 dc1 pm1 cd1 ct1 : Value}
  {f2 : Addr} {od2 an2 : Option Addr} {sl2 : Array (Option Value)} {oc2 kV2 dc2 pm2 cd2 ct2 : Value}
  {f3 : Addr} {od3 an3 : Option Addr} {sl3 : Array (Option Value)} {oc3 kV3 dc3 pm3 cd3 ct3 : Value}
  {f4 : Addr} {od4 an4 : Option Addr} {sl4 : Array (Option Value)} {oc4 kV4 dc4 pm4 cd4 ct4 : Value}
  {f5 : Addr} {od5 an5 : Option Addr} {sl5 : Array (Option Value)} {oc5 kV5 dc5 pm5 cd5 ct5 : Value}
  {f6 : Addr} {od6 an6 : Option Addr} {sl6 : Array (Option Value)} {oc6 kV6 dc6 pm6 cd6 ct6 : Value}
  {f7 : Addr} {od7 an7 : Option Addr} {sl7 : Array (Option Value)} {oc7 kV7 dc7 pm7 cd7 ct7 : Value}
  {f8 : Addr} {od8 an8 : Option Addr} {sl8 : Array (Option Value)} {oc8 kV8 dc8 pm8 cd8 ct8 : Value}
  {f9 : Addr} {od9 an9 : Option Addr} {sl9 : Array (Option Value)} {oc9 kV9 dc9 pm9 cd9 ct9 : Value}
  {f10 : Addr} {od10 an10 : Option Addr} {sl10 : Array (Option Value)} {oc10 kV10 dc10 pm10 cd10 ct10 : Value}
  {f11 : Addr} {od11 an11 : Option Addr} {sl11 : Array (Option Value)} {oc11 kV11 dc11 pm11 cd11 ct11 : Value}
  {f12 : Addr} {od12 an12 : Option Addr} {sl12 : Array (Option Value)} {oc12 kV12 dc12 pm12 cd12 ct12 : Value}
  {f13 : Addr} {od13 an13 : Option Addr} {sl13 : Array (Option Value)} {oc13 kV13 dc13 pm13 cd13 ct13 : Value}
  {f14 : Addr} {od14 an14 : Option Addr} {sl14 : Array (Option Value)} {oc14 kV14 dc14 pm14 cd14 ct14 : Value} {pp14 : Addr} {rs14 : List Value}
  {f15 : Addr} {od15 an15 : Option Addr} {sl15 : Array (Option Value)} {oc15 kV15 dc15 pm15 cd15 ct15 : Value} {pp15 : Addr} {rs15 : List Value}
  {f16 : Addr} {od16 an16 : Option Addr} {sl16 : Array (Option Value)} {oc16 kV16 dc16 pm16 cd16 ct16 : Value} {pp16 : Addr} {rs16 : List Value}
  {f17 : Addr} {od17 an17 : Option Addr} {sl17 : Array (Option Value)} {oc17 kV17 dc17 pm17 cd17 ct17 : Value} {pp17 : Addr} {rs17 : List Value}
  {f18 : Addr} {od18 an18 : Option Addr} {sl18 : Array (Option Value)} {oc18 kV18 dc18 pm18 cd18 ct18 : Value}
  {f19 : Addr} {od19 an19 : Option Addr} {sl19 : Array (Option Value)} {oc19 kV19 dc19 pm19 cd19 ct19 : Value}
  {f20 : Addr} {od20 an20 : Option Addr} {sl20 : Array (Option Value)} {oc20 kV20 dc20 pm20 cd20 ct20 : Value}
  {f21 : Addr} {od21 an21 : Option Addr} {sl21 : Array (Option Value)} {oc21 kV21 dc21 pm21 cd21 ct21 : Value}
  {f22 : Addr} {od22 an22 : Option Addr} {sl22 : Array (Option Value)} {oc22 kV22 dc22 pm22 cd22 ct22 : Value}
  {f23 : Addr} {od23 an23 : Option Addr} {sl23 : Array (Option Value)} {oc23 kV23 dc23 pm23 cd23 ct23 : Value}
  {f24 : Addr} {od24 an24 : Option Addr} {sl24 : Array (Option Value)} {oc24 kV24 dc24 pm24 cd24 ct24 : Value}
  {f25 : Addr} {od25 an25 : Option Addr} {sl25 : Array (Option Value)} {oc25 kV25 dc25 pm25 cd25 ct25 : Value}
  {f26 : Addr} {od26 an26 : Option Addr} {sl26 : Array (Option Value)} {oc26 kV26 dc26 pm26 cd26 ct26 : Value}
  {f27 : Addr} {od27 an27 : Option Addr} {sl27 : Array (Option Value)} {oc27 kV27 dc27 pm27 cd27 ct27 : Value}
  {f28 : Addr} {od28 an28 : Option Addr} {sl28 : Array (Option Value)} {oc28 kV28 dc28 pm28 cd28 ct28 : Value}
  {f29 : Addr} {od29 an29 : Option Addr} {sl29 : Array (Option Value)} {oc29 kV29 dc29 pm29 cd29 ct29 : Value}
  {f30 : Addr} {od30 an30 : Option Addr} {sl30 : Array (Option Value)} {oc30 kV30 dc30 pm30 cd30 ct30 : Value}
  {f31 : Addr} {od31 an31 : Option Addr} {sl31 : Array (Option Value)} {oc31 kV31 dc31 pm31 cd31 ct31 : Value}
  {f32 : Addr} {od32 an32 : Option Addr} {sl32 : Array (Option Value)} {oc32 kV32 dc32 pm32 cd32 ct32 : Value}
  {f33 : Addr} {od33 an33 : Option Addr} {sl33 : Array (Option Value)} {oc33 kV33 dc33 pm33 cd33 ct33 : Value}
  {f34 : Addr} {od34 an34 : Option Addr} {sl34 : Array (Option Value)} {oc34 kV34 dc34 pm34 cd34 ct34 : Value}
  {f35 : Addr} {od35 an35 : Option Addr} {sl35 : Array (Option Value)} {oc35 kV35 dc35 pm35 cd35 ct35 : Value}
  {f36 : Addr} {od36 an36 : Option Addr} {sl36 : Array (Option Value)} {oc36 kV36 dc36 pm36 cd36 ct36 : Value}
  {f37 : Addr} {od37 an37 : Option Addr} {sl37 : Array (Option Value)} {oc37 kV37 dc37 pm37 cd37 ct37 : Value}
  {f38 : Addr} {od38 an38 : Option Addr} {sl38 : Array (Option Value)} {oc38 kV38 dc38 pm38 cd38 ct38 : Value}
  {f39 : Addr} {od39 an39 : Option Addr} {sl39 : Array (Option Value)} {oc39 kV39 dc39 pm39 cd39 ct39 : Value}
  {f40 : Addr} {od40 an40 : Option Addr} {sl40 : Array (Option Value)} {oc40 kV40 dc40 pm40 cd40 ct40 : Value}
  {f41 : Addr} {od41 an41 : Option Addr} {sl41 : Array (Option Value)} {oc41 kV41 dc41 pm41 cd41 ct41 : Value}
  {f42 : Addr} {od42 an42 : Option Addr} {sl42 : Array (Option Value)} {oc42 kV42 dc42 pm42 cd42 ct42 : Value}
  {f43 : Addr} {od43 an43 : Option Addr} {sl43 : Array (Option Value)} {oc43 kV43 dc43 pm43 cd43 ct43 : Value}
  {f44 : Addr} {od44 an44 : Option Addr} {sl44 : Array (Option Value)} {oc44 kV44 dc44 pm44 cd44 ct44 : Value}
  {f45 : Addr} {od45 an45 : Option Addr} {sl45 : Array (Option Value)} {oc45 kV45 dc45 pm45 cd45 ct45 : Value}
  {f46 : Addr} {od46 an46 : Option Addr} {sl46 : Array (Option Value)} {oc46 kV46 dc46 pm46 cd46 ct46 : Value}
  {f47 : Addr} {od47 an47 : Option Addr} {sl47 : Array (Option Value)} {oc47 kV47 dc47 pm47 cd47 ct47 : Value}
  {f48 : Addr} {od48 an48 : Option Addr} {sl48 : Array (Option Value)} {oc48 kV48 dc48 pm48 cd48 ct48 : Value}
  {f49 : Addr} {od49 an49 : Option Addr} {sl49 : Array (Option Value)} {oc49 kV49 dc49 pm49 cd49 ct49 : Value}
  {f50 : Addr} {od50 an50 : Option Addr} {sl50 : Array (Option Value)} {oc50 kV50 dc50 pm50 cd50 ct50 : Value}
  {f51 : Addr} {od51 an51 : Option Addr} {sl51 : Array (Option Value)} {oc51 kV51 dc51 pm51 cd51 ct51 : Value}
  {f52 : Addr} {od52 an52 : Option Addr} {sl52 : Array (Option Value)} {oc52 kV52 dc52 pm52 cd52 ct52 : Value}
  {t_GREATEST : Tok}
  {t_MODULUS : Tok}
  {t_MOST : Tok}
  {t_MAX_THINGS : Tok}
  {t_MOST_NUMBERS : Tok}
  {t_MOST_NAME : Tok}
  {t_THING_PARTS : Tok}
  {t_LETTERS : Tok}
  (nsC_KnownParts : PySem.W.nsIn K mainGlobals "KnownParts" = some (some (.ref C_KnownParts)))
  (nsC_World : PySem.W.nsIn K mainGlobals "World" = some (some (.ref C_World)))
  (a0 : PySem.W.nsIn K mainGlobals "is_whole" = some (some (.ref f0))) (l0 : K.lookup f0 = some ⟨oc0, od0, .func (PySem.W.fnOf "is_whole" "is_whole" (defArgs s_is_whole) (defBody s_is_whole) (defScope s_is_whole) .none kV0 dc0 pm0 an0 cd0 ct0), sl0⟩) (c0 : PySem.W.codeIn K cd0 "is_whole" = true) (k0 : PySem.W.keepIn K (.ref f0) = true)
  (a1 : PySem.W.nsIn K mainGlobals "is_short" = some (some (.ref f1))) (l1 : K.lookup f1 = some ⟨oc1, od1, .func (PySem.W.fnOf "is_short" "is_short" (defArgs s_is_short) (defBody s_is_short) (defScope s_is_short) .none kV1 dc1 pm1 an1 cd1 ct1), sl1⟩) (c1 : PySem.W.codeIn K cd1 "is_short" = true) (k1 : PySem.W.keepIn K (.ref f1) = true)
  (a2 : PySem.W.nsIn K mainGlobals "is_from" = some (some (.ref f2))) (l2 : K.lookup f2 = some ⟨oc2, od2, .func (PySem.W.fnOf "is_from" "is_from" (defArgs s_is_from) (defBody s_is_from) (defScope s_is_from) .none kV2 dc2 pm2 an2 cd2 ct2), sl2⟩) (c2 : PySem.W.codeIn K cd2 "is_from" = true) (k2 : PySem.W.keepIn K (.ref f2) = true)
  (a3 : PySem.W.nsIn K mainGlobals "is_tick" = some (some (.ref f3))) (l3 : K.lookup f3 = some ⟨oc3, od3, .func (PySem.W.fnOf "is_tick" "is_tick" (defArgs s_is_tick) (defBody s_is_tick) (defScope s_is_tick) .none kV3 dc3 pm3 an3 cd3 ct3), sl3⟩) (c3 : PySem.W.codeIn K cd3 "is_tick" = true) (k3 : PySem.W.keepIn K (.ref f3) = true)
  (a4 : PySem.W.nsIn K mainGlobals "is_luck_in" = some (some (.ref f4))) (l4 : K.lookup f4 = some ⟨oc4, od4, .func (PySem.W.fnOf "is_luck_in" "is_luck_in" (defArgs s_is_luck_in) (defBody s_is_luck_in) (defScope s_is_luck_in) .none kV4 dc4 pm4 an4 cd4 ct4), sl4⟩) (c4 : PySem.W.codeIn K cd4 "is_luck_in" = true) (k4 : PySem.W.keepIn K (.ref f4) = true)
  (a5 : PySem.W.nsIn K mainGlobals "is_luck" = some (some (.ref f5))) (l5 : K.lookup f5 = some ⟨oc5, od5, .func (PySem.W.fnOf "is_luck" "is_luck" (defArgs s_is_luck) (defBody s_is_luck) (defScope s_is_luck) .none kV5 dc5 pm5 an5 cd5 ct5), sl5⟩) (c5 : PySem.W.codeIn K cd5 "is_luck" = true) (k5 : PySem.W.keepIn K (.ref f5) = true)
  (a6 : PySem.W.nsIn K mainGlobals "is_number" = some (some (.ref f6))) (l6 : K.lookup f6 = some ⟨oc6, od6, .func (PySem.W.fnOf "is_number" "is_number" (defArgs s_is_number) (defBody s_is_number) (defScope s_is_number) .none kV6 dc6 pm6 an6 cd6 ct6), sl6⟩) (c6 : PySem.W.codeIn K cd6 "is_number" = true) (k6 : PySem.W.keepIn K (.ref f6) = true)
  (a7 : PySem.W.nsIn K mainGlobals "is_name_in" = some (some (.ref f7))) (l7 : K.lookup f7 = some ⟨oc7, od7, .func (PySem.W.fnOf "is_name_in" "is_name_in" (defArgs s_is_name_in) (defBody s_is_name_in) (defScope s_is_name_in) .none kV7 dc7 pm7 an7 cd7 ct7), sl7⟩) (c7 : PySem.W.codeIn K cd7 "is_name_in" = true) (k7 : PySem.W.keepIn K (.ref f7) = true)
  (a8 : PySem.W.nsIn K mainGlobals "are_numbers_in" = some (some (.ref f8))) (l8 : K.lookup f8 = some ⟨oc8, od8, .func (PySem.W.fnOf "are_numbers_in" "are_numbers_in" (defArgs s_are_numbers_in) (defBody s_are_numbers_in) (defScope s_are_numbers_in) .none kV8 dc8 pm8 an8 cd8 ct8), sl8⟩) (c8 : PySem.W.codeIn K cd8 "are_numbers_in" = true) (k8 : PySem.W.keepIn K (.ref f8) = true)
  (a9 : PySem.W.nsIn K mainGlobals "is_thing_in" = some (some (.ref f9))) (l9 : K.lookup f9 = some ⟨oc9, od9, .func (PySem.W.fnOf "is_thing_in" "is_thing_in" (defArgs s_is_thing_in) (defBody s_is_thing_in) (defScope s_is_thing_in) .none kV9 dc9 pm9 an9 cd9 ct9), sl9⟩) (c9 : PySem.W.codeIn K cd9 "is_thing_in" = true) (k9 : PySem.W.keepIn K (.ref f9) = true)
  (a10 : PySem.W.nsIn K mainGlobals "are_things_in" = some (some (.ref f10))) (l10 : K.lookup f10 = some ⟨oc10, od10, .func (PySem.W.fnOf "are_things_in" "are_things_in" (defArgs s_are_things_in) (defBody s_are_things_in) (defScope s_are_things_in) .none kV10 dc10 pm10 an10 cd10 ct10), sl10⟩) (c10 : PySem.W.codeIn K cd10 "are_things_in" = true) (k10 : PySem.W.keepIn K (.ref f10) = true)
  (a11 : PySem.W.findIn K (.ref C_KnownParts) "__init__" = some (some (.ref f11))) (i11 : PySem.W.isFn K (.ref f11) = true) (l11 : K.lookup f11 = some ⟨oc11, od11, .func (PySem.W.fnOf "__init__" "KnownParts.__init__" (defArgs s_KnownParts_init) (defBody s_KnownParts_init) (defScope s_KnownParts_init) .none kV11 dc11 pm11 an11 cd11 ct11), sl11⟩) (c11 : PySem.W.codeIn K cd11 "KnownParts.__init__" = true) (k11 : PySem.W.keepIn K (.ref f11) = true)
  (a12 : PySem.W.nsIn K mainGlobals "parts_told" = some (some (.ref f12))) (l12 : K.lookup f12 = some ⟨oc12, od12, .func (PySem.W.fnOf "parts_told" "parts_told" (defArgs s_parts_told) (defBody s_parts_told) (defScope s_parts_told) .none kV12 dc12 pm12 an12 cd12 ct12), sl12⟩) (c12 : PySem.W.codeIn K cd12 "parts_told" = true) (k12 : PySem.W.keepIn K (.ref f12) = true)
  (a13 : PySem.W.findIn K (.ref C_World) "__init__" = some (some (.ref f13))) (i13 : PySem.W.isFn K (.ref f13) = true) (l13 : K.lookup f13 = some ⟨oc13, od13, .func (PySem.W.fnOf "__init__" "World.__init__" (defArgs s_World_init) (defBody s_World_init) (defScope s_World_init) .none kV13 dc13 pm13 an13 cd13 ct13), sl13⟩) (c13 : PySem.W.codeIn K cd13 "World.__init__" = true) (k13 : PySem.W.keepIn K (.ref f13) = true)
  (a14 : PySem.W.findIn K (.ref C_World) "tick" = some (some (.ref pp14))) (g14 : PySem.W.specialIn K (.ref pp14) "__get__" = some (some (.builtin "property.__get__"))) (t14 : PySem.W.takesIn K (.ref pp14) = some true) (r14 : PySem.W.recIn K pp14 "property" = some (.ref f14 :: rs14)) (l14 : K.lookup f14 = some ⟨oc14, od14, .func (PySem.W.fnOf "tick" "World.tick" (defArgs s_World_tick) (defBody s_World_tick) (defScope s_World_tick) .none kV14 dc14 pm14 an14 cd14 ct14), sl14⟩) (c14 : PySem.W.codeIn K cd14 "World.tick" = true) (k14 : PySem.W.keepIn K (.ref f14) = true)
  (a15 : PySem.W.findIn K (.ref C_World) "next_id" = some (some (.ref pp15))) (g15 : PySem.W.specialIn K (.ref pp15) "__get__" = some (some (.builtin "property.__get__"))) (t15 : PySem.W.takesIn K (.ref pp15) = some true) (r15 : PySem.W.recIn K pp15 "property" = some (.ref f15 :: rs15)) (l15 : K.lookup f15 = some ⟨oc15, od15, .func (PySem.W.fnOf "next_id" "World.next_id" (defArgs s_World_next_id) (defBody s_World_next_id) (defScope s_World_next_id) .none kV15 dc15 pm15 an15 cd15 ct15), sl15⟩) (c15 : PySem.W.codeIn K cd15 "World.next_id" = true) (k15 : PySem.W.keepIn K (.ref f15) = true)
  (a16 : PySem.W.findIn K (.ref C_World) "luck" = some (some (.ref pp16))) (g16 : PySem.W.specialIn K (.ref pp16) "__get__" = some (some (.builtin "property.__get__"))) (t16 : PySem.W.takesIn K (.ref pp16) = some true) (r16 : PySem.W.recIn K pp16 "property" = some (.ref f16 :: rs16)) (l16 : K.lookup f16 = some ⟨oc16, od16, .func (PySem.W.fnOf "luck" "World.luck" (defArgs s_World_luck) (defBody s_World_luck) (defScope s_World_luck) .none kV16 dc16 pm16 an16 cd16 ct16), sl16⟩) (c16 : PySem.W.codeIn K cd16 "World.luck" = true) (k16 : PySem.W.keepIn K (.ref f16) = true)
  (a17 : PySem.W.findIn K (.ref C_World) "things" = some (some (.ref pp17))) (g17 : PySem.W.specialIn K (.ref pp17) "__get__" = some (some (.builtin "property.__get__"))) (t17 : PySem.W.takesIn K (.ref pp17) = some true) (r17 : PySem.W.recIn K pp17 "property" = some (.ref f17 :: rs17)) (l17 : K.lookup f17 = some ⟨oc17, od17, .func (PySem.W.fnOf "things" "World.things" (defArgs s_World_things) (defBody s_World_things) (defScope s_World_things) .none kV17 dc17 pm17 an17 cd17 ct17), sl17⟩) (c17 : PySem.W.codeIn K cd17 "World.things" = true) (k17 : PySem.W.keepIn K (.ref f17) = true)
  (a18 : PySem.W.findIn K (.ref C_World) "ids" = some (some (.ref f18))) (i18 : PySem.W.isFn K (.ref f18) = true) (l18 : K.lookup f18 = some ⟨oc18, od18, .func (PySem.W.fnOf "ids" "World.ids" (defArgs s_World_ids) (defBody s_World_ids) (defScope s_World_ids) .none kV18 dc18 pm18 an18 cd18 ct18), sl18⟩) (c18 : PySem.W.codeIn K cd18 "World.ids" = true) (k18 : PySem.W.keepIn K (.ref f18) = true)
  (a19 : PySem.W.findIn K (.ref C_World) "kind_of" = some (some (.ref f19))) (i19 : PySem.W.isFn K (.ref f19) = true) (l19 : K.lookup f19 = some ⟨oc19, od19, .func (PySem.W.fnOf "kind_of" "World.kind_of" (defArgs s_World_kind_of) (defBody s_World_kind_of) (defScope s_World_kind_of) .none kV19 dc19 pm19 an19 cd19 ct19), sl19⟩) (c19 : PySem.W.codeIn K cd19 "World.kind_of" = true) (k19 : PySem.W.keepIn K (.ref f19) = true)
  (a20 : PySem.W.findIn K (.ref C_World) "numbers" = some (some (.ref f20))) (i20 : PySem.W.isFn K (.ref f20) = true) (l20 : K.lookup f20 = some ⟨oc20, od20, .func (PySem.W.fnOf "numbers" "World.numbers" (defArgs s_World_numbers) (defBody s_World_numbers) (defScope s_World_numbers) .none kV20 dc20 pm20 an20 cd20 ct20), sl20⟩) (c20 : PySem.W.codeIn K cd20 "World.numbers" = true) (k20 : PySem.W.keepIn K (.ref f20) = true)
  (a21 : PySem.W.findIn K (.ref C_World) "__contains__" = some (some (.ref f21))) (i21 : PySem.W.isFn K (.ref f21) = true) (l21 : K.lookup f21 = some ⟨oc21, od21, .func (PySem.W.fnOf "__contains__" "World.__contains__" (defArgs s_World_contains) (defBody s_World_contains) (defScope s_World_contains) .none kV21 dc21 pm21 an21 cd21 ct21), sl21⟩) (c21 : PySem.W.codeIn K cd21 "World.__contains__" = true) (k21 : PySem.W.keepIn K (.ref f21) = true)
  (a22 : PySem.W.findIn K (.ref C_World) "__len__" = some (some (.ref f22))) (i22 : PySem.W.isFn K (.ref f22) = true) (l22 : K.lookup f22 = some ⟨oc22, od22, .func (PySem.W.fnOf "__len__" "World.__len__" (defArgs s_World_len) (defBody s_World_len) (defScope s_World_len) .none kV22 dc22 pm22 an22 cd22 ct22), sl22⟩) (c22 : PySem.W.codeIn K cd22 "World.__len__" = true) (k22 : PySem.W.keepIn K (.ref f22) = true)
  (a23 : PySem.W.findIn K (.ref C_World) "__iter__" = some (some (.ref f23))) (i23 : PySem.W.isFn K (.ref f23) = true) (l23 : K.lookup f23 = some ⟨oc23, od23, .func (PySem.W.fnOf "__iter__" "World.__iter__" (defArgs s_World_iter) (defBody s_World_iter) (defScope s_World_iter) .none kV23 dc23 pm23 an23 cd23 ct23), sl23⟩) (c23 : PySem.W.codeIn K cd23 "World.__iter__" = true) (k23 : PySem.W.keepIn K (.ref f23) = true)
  (a24 : PySem.W.findIn K (.ref C_World) "__eq__" = some (some (.ref f24))) (i24 : PySem.W.isFn K (.ref f24) = true) (l24 : K.lookup f24 = some ⟨oc24, od24, .func (PySem.W.fnOf "__eq__" "World.__eq__" (defArgs s_World_eq) (defBody s_World_eq) (defScope s_World_eq) .none kV24 dc24 pm24 an24 cd24 ct24), sl24⟩) (c24 : PySem.W.codeIn K cd24 "World.__eq__" = true) (k24 : PySem.W.keepIn K (.ref f24) = true)
  (a25 : PySem.W.findIn K (.ref C_World) "__str__" = some (some (.ref f25))) (i25 : PySem.W.isFn K (.ref f25) = true) (l25 : K.lookup f25 = some ⟨oc25, od25, .func (PySem.W.fnOf "__str__" "World.__str__" (defArgs s_World_str) (defBody s_World_str) (defScope s_World_str) .none kV25 dc25 pm25 an25 cd25 ct25), sl25⟩) (c25 : PySem.W.codeIn K cd25 "World.__str__" = true) (k25 : PySem.W.keepIn K (.ref f25) = true)
  (a26 : PySem.W.nsIn K mainGlobals "made_world" = some (some (.ref f26))) (l26 : K.lookup f26 = some ⟨oc26, od26, .func (PySem.W.fnOf "made_world" "made_world" (defArgs s_made_world) (defBody s_made_world) (defScope s_made_world) .none kV26 dc26 pm26 an26 cd26 ct26), sl26⟩) (c26 : PySem.W.codeIn K cd26 "made_world" = true) (k26 : PySem.W.keepIn K (.ref f26) = true)
  (a27 : PySem.W.nsIn K mainGlobals "with_things" = some (some (.ref f27))) (l27 : K.lookup f27 = some ⟨oc27, od27, .func (PySem.W.fnOf "with_things" "with_things" (defArgs s_with_things) (defBody s_with_things) (defScope s_with_things) .none kV27 dc27 pm27 an27 cd27 ct27), sl27⟩) (c27 : PySem.W.codeIn K cd27 "with_things" = true) (k27 : PySem.W.keepIn K (.ref f27) = true)
  (a28 : PySem.W.nsIn K mainGlobals "thing_at" = some (some (.ref f28))) (l28 : K.lookup f28 = some ⟨oc28, od28, .func (PySem.W.fnOf "thing_at" "thing_at" (defArgs s_thing_at) (defBody s_thing_at) (defScope s_thing_at) .none kV28 dc28 pm28 an28 cd28 ct28), sl28⟩) (c28 : PySem.W.codeIn K cd28 "thing_at" = true) (k28 : PySem.W.keepIn K (.ref f28) = true)
  (a29 : PySem.W.nsIn K mainGlobals "made_in" = some (some (.ref f29))) (l29 : K.lookup f29 = some ⟨oc29, od29, .func (PySem.W.fnOf "made_in" "made_in" (defArgs s_made_in) (defBody s_made_in) (defScope s_made_in) .none kV29 dc29 pm29 an29 cd29 ct29), sl29⟩) (c29 : PySem.W.codeIn K cd29 "made_in" = true) (k29 : PySem.W.keepIn K (.ref f29) = true)
  (a30 : PySem.W.nsIn K mainGlobals "dropped_in" = some (some (.ref f30))) (l30 : K.lookup f30 = some ⟨oc30, od30, .func (PySem.W.fnOf "dropped_in" "dropped_in" (defArgs s_dropped_in) (defBody s_dropped_in) (defScope s_dropped_in) .none kV30 dc30 pm30 an30 cd30 ct30), sl30⟩) (c30 : PySem.W.codeIn K cd30 "dropped_in" = true) (k30 : PySem.W.keepIn K (.ref f30) = true)
  (a31 : PySem.W.nsIn K mainGlobals "put_in" = some (some (.ref f31))) (l31 : K.lookup f31 = some ⟨oc31, od31, .func (PySem.W.fnOf "put_in" "put_in" (defArgs s_put_in) (defBody s_put_in) (defScope s_put_in) .none kV31 dc31 pm31 an31 cd31 ct31), sl31⟩) (c31 : PySem.W.codeIn K cd31 "put_in" = true) (k31 : PySem.W.keepIn K (.ref f31) = true)
  (a32 : PySem.W.nsIn K mainGlobals "changed_in" = some (some (.ref f32))) (l32 : K.lookup f32 = some ⟨oc32, od32, .func (PySem.W.fnOf "changed_in" "changed_in" (defArgs s_changed_in) (defBody s_changed_in) (defScope s_changed_in) .none kV32 dc32 pm32 an32 cd32 ct32), sl32⟩) (c32 : PySem.W.codeIn K cd32 "changed_in" = true) (k32 : PySem.W.keepIn K (.ref f32) = true)
  (a33 : PySem.W.nsIn K mainGlobals "require_any_world" = some (some (.ref f33))) (l33 : K.lookup f33 = some ⟨oc33, od33, .func (PySem.W.fnOf "require_any_world" "require_any_world" (defArgs s_require_any_world) (defBody s_require_any_world) (defScope s_require_any_world) .none kV33 dc33 pm33 an33 cd33 ct33), sl33⟩) (c33 : PySem.W.codeIn K cd33 "require_any_world" = true) (k33 : PySem.W.keepIn K (.ref f33) = true)
  (a34 : PySem.W.nsIn K mainGlobals "known_thing" = some (some (.ref f34))) (l34 : K.lookup f34 = some ⟨oc34, od34, .func (PySem.W.fnOf "known_thing" "known_thing" (defArgs s_known_thing) (defBody s_known_thing) (defScope s_known_thing) .none kV34 dc34 pm34 an34 cd34 ct34), sl34⟩) (c34 : PySem.W.codeIn K cd34 "known_thing" = true) (k34 : PySem.W.keepIn K (.ref f34) = true)
  (a35 : PySem.W.nsIn K mainGlobals "made" = some (some (.ref f35))) (l35 : K.lookup f35 = some ⟨oc35, od35, .func (PySem.W.fnOf "made" "made" (defArgs s_made) (defBody s_made) (defScope s_made) .none kV35 dc35 pm35 an35 cd35 ct35), sl35⟩) (c35 : PySem.W.codeIn K cd35 "made" = true) (k35 : PySem.W.keepIn K (.ref f35) = true)
  (a36 : PySem.W.nsIn K mainGlobals "dropped" = some (some (.ref f36))) (l36 : K.lookup f36 = some ⟨oc36, od36, .func (PySem.W.fnOf "dropped" "dropped" (defArgs s_dropped) (defBody s_dropped) (defScope s_dropped) .none kV36 dc36 pm36 an36 cd36 ct36), sl36⟩) (c36 : PySem.W.codeIn K cd36 "dropped" = true) (k36 : PySem.W.keepIn K (.ref f36) = true)
  (a37 : PySem.W.nsIn K mainGlobals "changed" = some (some (.ref f37))) (l37 : K.lookup f37 = some ⟨oc37, od37, .func (PySem.W.fnOf "changed" "changed" (defArgs s_changed) (defBody s_changed) (defScope s_changed) .none kV37 dc37 pm37 an37 cd37 ct37), sl37⟩) (c37 : PySem.W.codeIn K cd37 "changed" = true) (k37 : PySem.W.keepIn K (.ref f37) = true)
  (a38 : PySem.W.nsIn K mainGlobals "_law_dice" = some (some (.ref f38))) (l38 : K.lookup f38 = some ⟨oc38, od38, .func (PySem.W.fnOf "_law_dice" "_law_dice" (defArgs s_l_dice) (defBody s_l_dice) (defScope s_l_dice) .none kV38 dc38 pm38 an38 cd38 ct38), sl38⟩) (c38 : PySem.W.codeIn K cd38 "_law_dice" = true) (k38 : PySem.W.keepIn K (.ref f38) = true)
  (a39 : PySem.W.nsIn K mainGlobals "_law_roll" = some (some (.ref f39))) (l39 : K.lookup f39 = some ⟨oc39, od39, .func (PySem.W.fnOf "_law_roll" "_law_roll" (defArgs s_l_roll) (defBody s_l_roll) (defScope s_l_roll) .none kV39 dc39 pm39 an39 cd39 ct39), sl39⟩) (c39 : PySem.W.codeIn K cd39 "_law_roll" = true) (k39 : PySem.W.keepIn K (.ref f39) = true)
  (a40 : PySem.W.nsIn K mainGlobals "_law_pick" = some (some (.ref f40))) (l40 : K.lookup f40 = some ⟨oc40, od40, .func (PySem.W.fnOf "_law_pick" "_law_pick" (defArgs s_l_pick) (defBody s_l_pick) (defScope s_l_pick) .none kV40 dc40 pm40 an40 cd40 ct40), sl40⟩) (c40 : PySem.W.codeIn K cd40 "_law_pick" = true) (k40 : PySem.W.keepIn K (.ref f40) = true)
  (a41 : PySem.W.nsIn K mainGlobals "_law_near" = some (some (.ref f41))) (l41 : K.lookup f41 = some ⟨oc41, od41, .func (PySem.W.fnOf "_law_near" "_law_near" (defArgs s_l_near) (defBody s_l_near) (defScope s_l_near) .none kV41 dc41 pm41 an41 cd41 ct41), sl41⟩) (c41 : PySem.W.codeIn K cd41 "_law_near" = true) (k41 : PySem.W.keepIn K (.ref f41) = true)
  (a42 : PySem.W.nsIn K mainGlobals "_law_wd_plain" = some (some (.ref f42))) (l42 : K.lookup f42 = some ⟨oc42, od42, .func (PySem.W.fnOf "_law_wd_plain" "_law_wd_plain" (defArgs s_l_wd_plain) (defBody s_l_wd_plain) (defScope s_l_wd_plain) .none kV42 dc42 pm42 an42 cd42 ct42), sl42⟩) (c42 : PySem.W.codeIn K cd42 "_law_wd_plain" = true) (k42 : PySem.W.keepIn K (.ref f42) = true)
  (a43 : PySem.W.nsIn K mainGlobals "_law_number" = some (some (.ref f43))) (l43 : K.lookup f43 = some ⟨oc43, od43, .func (PySem.W.fnOf "_law_number" "_law_number" (defArgs s_l_number) (defBody s_l_number) (defScope s_l_number) .none kV43 dc43 pm43 an43 cd43 ct43), sl43⟩) (c43 : PySem.W.codeIn K cd43 "_law_number" = true) (k43 : PySem.W.keepIn K (.ref f43) = true)
  (a44 : PySem.W.nsIn K mainGlobals "_law_numbers" = some (some (.ref f44))) (l44 : K.lookup f44 = some ⟨oc44, od44, .func (PySem.W.fnOf "_law_numbers" "_law_numbers" (defArgs s_l_numbers) (defBody s_l_numbers) (defScope s_l_numbers) .none kV44 dc44 pm44 an44 cd44 ct44), sl44⟩) (c44 : PySem.W.codeIn K cd44 "_law_numbers" = true) (k44 : PySem.W.keepIn K (.ref f44) = true)
  (a45 : PySem.W.nsIn K mainGlobals "_law_kind_drawn" = some (some (.ref f45))) (l45 : K.lookup f45 = some ⟨oc45, od45, .func (PySem.W.fnOf "_law_kind_drawn" "_law_kind_drawn" (defArgs s_l_kind_drawn) (defBody s_l_kind_drawn) (defScope s_l_kind_drawn) .none kV45 dc45 pm45 an45 cd45 ct45), sl45⟩) (c45 : PySem.W.codeIn K cd45 "_law_kind_drawn" = true) (k45 : PySem.W.keepIn K (.ref f45) = true)
  (a46 : PySem.W.nsIn K mainGlobals "_law_world_drawn" = some (some (.ref f46))) (l46 : K.lookup f46 = some ⟨oc46, od46, .func (PySem.W.fnOf "_law_world_drawn" "_law_world_drawn" (defArgs s_l_world_drawn) (defBody s_l_world_drawn) (defScope s_l_world_drawn) .none kV46 dc46 pm46 an46 cd46 ct46), sl46⟩) (c46 : PySem.W.codeIn K cd46 "_law_world_drawn" = true) (k46 : PySem.W.keepIn K (.ref f46) = true)
  (a47 : PySem.W.nsIn K mainGlobals "_law_is_told" = some (some (.ref f47))) (l47 : K.lookup f47 = some ⟨oc47, od47, .func (PySem.W.fnOf "_law_is_told" "_law_is_told" (defArgs s_l_is_told) (defBody s_l_is_told) (defScope s_l_is_told) .none kV47 dc47 pm47 an47 cd47 ct47), sl47⟩) (c47 : PySem.W.codeIn K cd47 "_law_is_told" = true) (k47 : PySem.W.keepIn K (.ref f47) = true)
  (a48 : PySem.W.nsIn K mainGlobals "_law_made" = some (some (.ref f48))) (l48 : K.lookup f48 = some ⟨oc48, od48, .func (PySem.W.fnOf "_law_made" "_law_made" (defArgs s_l_made) (defBody s_l_made) (defScope s_l_made) .none kV48 dc48 pm48 an48 cd48 ct48), sl48⟩) (c48 : PySem.W.codeIn K cd48 "_law_made" = true) (k48 : PySem.W.keepIn K (.ref f48) = true)
  (a49 : PySem.W.nsIn K mainGlobals "_law_done" = some (some (.ref f49))) (l49 : K.lookup f49 = some ⟨oc49, od49, .func (PySem.W.fnOf "_law_done" "_law_done" (defArgs s_l_done) (defBody s_l_done) (defScope s_l_done) .none kV49 dc49 pm49 an49 cd49 ct49), sl49⟩) (c49 : PySem.W.codeIn K cd49 "_law_done" = true) (k49 : PySem.W.keepIn K (.ref f49) = true)
  (a50 : PySem.W.nsIn K mainGlobals "_law_is_alone" = some (some (.ref f50))) (l50 : K.lookup f50 = some ⟨oc50, od50, .func (PySem.W.fnOf "_law_is_alone" "_law_is_alone" (defArgs s_l_is_alone) (defBody s_l_is_alone) (defScope s_l_is_alone) .none kV50 dc50 pm50 an50 cd50 ct50), sl50⟩) (c50 : PySem.W.codeIn K cd50 "_law_is_alone" = true) (k50 : PySem.W.keepIn K (.ref f50) = true)
  (a51 : PySem.W.nsIn K mainGlobals "_law_right" = some (some (.ref f51))) (l51 : K.lookup f51 = some ⟨oc51, od51, .func (PySem.W.fnOf "_law_right" "_law_right" (defArgs s_l_right) (defBody s_l_right) (defScope s_l_right) .none kV51 dc51 pm51 an51 cd51 ct51), sl51⟩) (c51 : PySem.W.codeIn K cd51 "_law_right" = true) (k51 : PySem.W.keepIn K (.ref f51) = true)
  (a52 : PySem.W.nsIn K mainGlobals "law" = some (some (.ref f52))) (l52 : K.lookup f52 = some ⟨oc52, od52, .func (PySem.W.fnOf "law" "law" (defArgs s_law) (defBody s_law) (defScope s_law) .none kV52 dc52 pm52 an52 cd52 ct52), sl52⟩) (c52 : PySem.W.codeIn K cd52 "law" = true) (k52 : PySem.W.keepIn K (.ref f52) = true)
  (z_abs : PySem.W.nsIn K mainGlobals "abs" = some none)
  (z_all : PySem.W.nsIn K mainGlobals "all" = some none)
  (z_bool : PySem.W.nsIn K mainGlobals "bool" = some none)
  (z_int : PySem.W.nsIn K mainGlobals "int" = some none)
  (z_isinstance : PySem.W.nsIn K mainGlobals "isinstance" = some none)
  (z_iter : PySem.W.nsIn K mainGlobals "iter" = some none)
  (z_len : PySem.W.nsIn K mainGlobals "len" = some none)
  (z_list : PySem.W.nsIn K mainGlobals "list" = some none)
  (z_max : PySem.W.nsIn K mainGlobals "max" = some none)
  (z_min : PySem.W.nsIn K mainGlobals "min" = some none)
  (z_range : PySem.W.nsIn K mainGlobals "range" = some none)
  (z_set : PySem.W.nsIn K mainGlobals "set" = some none)
  (z_str : PySem.W.nsIn K mainGlobals "str" = some none)
  (z_tuple : PySem.W.nsIn K mainGlobals "tuple" = some none)
  (z_zip : PySem.W.nsIn K mainGlobals "zip" = some none)
  (z_GREATEST : PySem.W.nsIn K mainGlobals "GREATEST" = some (some (.int (10 ^ 60) t_GREATEST)))
  (z_MODULUS : PySem.W.nsIn K mainGlobals "MODULUS" = some (some (.int 999999937 t_MODULUS)))
  (z_MOST : PySem.W.nsIn K mainGlobals "MOST" = some (some (.int 1000000000 t_MOST)))
  (z_MAX_THINGS : PySem.W.nsIn K mainGlobals "MAX_THINGS" = some (some (.int 12 t_MAX_THINGS)))
  (z_MOST_NUMBERS : PySem.W.nsIn K mainGlobals "MOST_NUMBERS" = some (some (.int 8 t_MOST_NUMBERS)))
  (z_MOST_NAME : PySem.W.nsIn K mainGlobals "MOST_NAME" = some (some (.int 8 t_MOST_NAME)))
  (z_THING_PARTS : PySem.W.nsIn K mainGlobals "THING_PARTS" = some (some (.int 3 t_THING_PARTS)))
  (z_LETTERS : PySem.W.nsIn K mainGlobals "LETTERS" = some (some (.str "abcdefghijklmnopqrstuvwxyz" t_LETTERS)))
  (pg_KnownParts : PySem.W.plainGet K C_KnownParts Str.empty = true)
  (ic_KnownParts : PySem.W.isClsIn K C_KnownParts = true)
  (po_KnownParts : PySem.W.plainOver K C_KnownParts = true)
  (sa_KnownParts : PySem.W.findIn K (.ref C_KnownParts) "__setattr__" = some (some (.builtin "object.__setattr__")))
  (mk_KnownParts : PySem.W.makesIn K C_KnownParts = true)
  (kc_KnownParts : PySem.W.keepIn K (.ref C_KnownParts) = true)
  (ca_KnownParts : PySem.W.findIn K (.ref C_KnownParts) "__class__" = some (some (.builtin "object.__class__")))
  (cn_KnownParts : PySem.W.specialIn K (.builtin "object.__class__") "__get__" = some (some (.builtin "getset_descriptor.__get__")))
  (ct_KnownParts : PySem.W.takesIn K (.builtin "object.__class__") = some true)
  (cm_KnownParts : PySem.W.mroIn K C_KnownParts (.type "object") = some true)
  (ty_KnownParts : PySem.W.typeIn K (.ref C_KnownParts) = some (.type "type"))
  (sat_own_luck_KnownParts : PySem.W.findIn K (.ref C_KnownParts) "own_luck" = some (some (.ref q_KnownParts_own_luck)))
  (sge_own_luck_KnownParts : PySem.W.specialIn K (.ref q_KnownParts_own_luck) "__get__" = some (some (.builtin "member_descriptor.__get__")))
  (stk_own_luck_KnownParts : PySem.W.takesIn K (.ref q_KnownParts_own_luck) = some true)
  (sty_own_luck_KnownParts : PySem.W.typeIn K (.ref q_KnownParts_own_luck) = some (.type "member_descriptor"))
  (six_own_luck_KnownParts : PySem.W.slotIn K q_KnownParts_own_luck C_KnownParts = some 0)
  (sat_own_next_id_KnownParts : PySem.W.findIn K (.ref C_KnownParts) "own_next_id" = some (some (.ref q_KnownParts_own_next_id)))
  (sge_own_next_id_KnownParts : PySem.W.specialIn K (.ref q_KnownParts_own_next_id) "__get__" = some (some (.builtin "member_descriptor.__get__")))
  (stk_own_next_id_KnownParts : PySem.W.takesIn K (.ref q_KnownParts_own_next_id) = some true)
  (sty_own_next_id_KnownParts : PySem.W.typeIn K (.ref q_KnownParts_own_next_id) = some (.type "member_descriptor"))
  (six_own_next_id_KnownParts : PySem.W.slotIn K q_KnownParts_own_next_id C_KnownParts = some 1)
  (sat_own_things_KnownParts : PySem.W.findIn K (.ref C_KnownParts) "own_things" = some (some (.ref q_KnownParts_own_things)))
  (sge_own_things_KnownParts : PySem.W.specialIn K (.ref q_KnownParts_own_things) "__get__" = some (some (.builtin "member_descriptor.__get__")))
  (stk_own_things_KnownParts : PySem.W.takesIn K (.ref q_KnownParts_own_things) = some true)
  (sty_own_things_KnownParts : PySem.W.typeIn K (.ref q_KnownParts_own_things) = some (.type "member_descriptor"))
  (six_own_things_KnownParts : PySem.W.slotIn K q_KnownParts_own_things C_KnownParts = some 2)
  (sat_own_tick_KnownParts : PySem.W.findIn K (.ref C_KnownParts) "own_tick" = some (some (.ref q_KnownParts_own_tick)))
  (sge_own_tick_KnownParts : PySem.W.specialIn K (.ref q_KnownParts_own_tick) "__get__" = some (some (.builtin "member_descriptor.__get__")))
  (stk_own_tick_KnownParts : PySem.W.takesIn K (.ref q_KnownParts_own_tick) = some true)
  (sty_own_tick_KnownParts : PySem.W.typeIn K (.ref q_KnownParts_own_tick) = some (.type "member_descriptor"))
  (six_own_tick_KnownParts : PySem.W.slotIn K q_KnownParts_own_tick C_KnownParts = some 3)
  (kit_int_KnownParts : PySem.W.subIn K (.type "int") (.ref C_KnownParts) = some false)
  (pg_World : PySem.W.plainGet K C_World Str.empty = true)
  (ic_World : PySem.W.isClsIn K C_World = true)
  (po_World : PySem.W.plainOver K C_World = true)
  (sa_World : PySem.W.findIn K (.ref C_World) "__setattr__" = some (some (.builtin "object.__setattr__")))
  (mk_World : PySem.W.makesIn K C_World = true)
  (kc_World : PySem.W.keepIn K (.ref C_World) = true)
  (ca_World : PySem.W.findIn K (.ref C_World) "__class__" = some (some (.builtin "object.__class__")))
  (cn_World : PySem.W.specialIn K (.builtin "object.__class__") "__get__" = some (some (.builtin "getset_descriptor.__get__")))
  (ct_World : PySem.W.takesIn K (.builtin "object.__class__") = some true)
  (cm_World : PySem.W.mroIn K C_World (.type "object") = some true)
  (ty_World : PySem.W.typeIn K (.ref C_World) = some (.type "type"))
  (sat_own_ids_World : PySem.W.findIn K (.ref C_World) "own_ids" = some (some (.ref q_World_own_ids)))
  (sge_own_ids_World : PySem.W.specialIn K (.ref q_World_own_ids) "__get__" = some (some (.builtin "member_descriptor.__get__")))
  (stk_own_ids_World : PySem.W.takesIn K (.ref q_World_own_ids) = some true)
  (sty_own_ids_World : PySem.W.typeIn K (.ref q_World_own_ids) = some (.type "member_descriptor"))
  (six_own_ids_World : PySem.W.slotIn K q_World_own_ids C_World = some 0)
  (sat_own_luck_World : PySem.W.findIn K (.ref C_World) "own_luck" = some (some (.ref q_World_own_luck)))
  (sge_own_luck_World : PySem.W.specialIn K (.ref q_World_own_luck) "__get__" = some (some (.builtin "member_descriptor.__get__")))
  (stk_own_luck_World : PySem.W.takesIn K (.ref q_World_own_luck) = some true)
  (sty_own_luck_World : PySem.W.typeIn K (.ref q_World_own_luck) = some (.type "member_descriptor"))
  (six_own_luck_World : PySem.W.slotIn K q_World_own_luck C_World = some 1)
  (sat_own_next_id_World : PySem.W.findIn K (.ref C_World) "own_next_id" = some (some (.ref q_World_own_next_id)))
  (sge_own_next_id_World : PySem.W.specialIn K (.ref q_World_own_next_id) "__get__" = some (some (.builtin "member_descriptor.__get__")))
  (stk_own_next_id_World : PySem.W.takesIn K (.ref q_World_own_next_id) = some true)
  (sty_own_next_id_World : PySem.W.typeIn K (.ref q_World_own_next_id) = some (.type "member_descriptor"))
  (six_own_next_id_World : PySem.W.slotIn K q_World_own_next_id C_World = some 2)
  (sat_own_things_World : PySem.W.findIn K (.ref C_World) "own_things" = some (some (.ref q_World_own_things)))
  (sge_own_things_World : PySem.W.specialIn K (.ref q_World_own_things) "__get__" = some (some (.builtin "member_descriptor.__get__")))
  (stk_own_things_World : PySem.W.takesIn K (.ref q_World_own_things) = some true)
  (sty_own_things_World : PySem.W.typeIn K (.ref q_World_own_things) = some (.type "member_descriptor"))
  (six_own_things_World : PySem.W.slotIn K q_World_own_things C_World = some 3)
  (sat_own_tick_World : PySem.W.findIn K (.ref C_World) "own_tick" = some (some (.ref q_World_own_tick)))
  (sge_own_tick_World : PySem.W.specialIn K (.ref q_World_own_tick) "__get__" = some (some (.builtin "member_descriptor.__get__")))
  (stk_own_tick_World : PySem.W.takesIn K (.ref q_World_own_tick) = some true)
  (sty_own_tick_World : PySem.W.typeIn K (.ref q_World_own_tick) = some (.type "member_descriptor"))
  (six_own_tick_World : PySem.W.slotIn K q_World_own_tick C_World = some 4)
  (kit_tuple_World : PySem.W.subIn K (.type "tuple") (.ref C_World) = some false)
  (kit_NoneType_World : PySem.W.subIn K (.type "NoneType") (.ref C_World) = some false)
  (kit_str_World : PySem.W.subIn K (.type "str") (.ref C_World) = some false)
  (ne_World : PySem.W.findIn K (.ref C_World) "__ne__" = some (some (.builtin "object.__ne__")))
  (nfT_World : PySem.W.notFirst K C_World (.type "tuple") = true)
  (nfN_World : PySem.W.notFirst K C_World (.type "NoneType") = true)
  (nfS_World : PySem.W.notFirst K C_World (.type "str") = true)
  (nfW_World : PySem.W.notFirst K C_World (.ref C_World) = true) :
  ∃ fd : FuncData, (∀ (s : Shared) (v : Value), BindsTo s fd ⟨[v], []⟩ [("_law_script", v)]) ∧ ∀ base : Heap, K.In base → base.Ns mainGlobals mg → FnOk l.prog w K mg base CX0 16 fa fd ["_law_script"] (sp_law K) := by
  have e := hfa.symm.trans (PySem.W.mg_of X G a52)
  have e2 : f52 = fa := by cases e; rfl
  subst e2
  let T : Tp K mg := {
    C_KnownParts := C_KnownParts, g_KnownParts := PySem.W.mg_of X G nsC_KnownParts, cl_KnownParts := ⟨pg_KnownParts, ic_KnownParts, po_KnownParts, sa_KnownParts⟩, is_KnownParts := ⟨ca_KnownParts, cn_KnownParts, ct_KnownParts, cm_KnownParts⟩, ty_KnownParts := ty_KnownParts, q_KnownParts_own_luck := q_KnownParts_own_luck, t_KnownParts_own_luck := ⟨sat_own_luck_KnownParts, sge_own_luck_KnownParts, stk_own_luck_KnownParts, sty_own_luck_KnownParts, six_own_luck_KnownParts, by decide⟩, q_KnownParts_own_next_id := q_KnownParts_own_next_id, t_KnownParts_own_next_id := ⟨sat_own_next_id_KnownParts, sge_own_next_id_KnownParts, stk_own_next_id_KnownParts, sty_own_next_id_KnownParts, six_own_next_id_KnownParts, by decide⟩, q_KnownParts_own_things := q_KnownParts_own_things, t_KnownParts_own_things := ⟨sat_own_things_KnownParts, sge_own_things_KnownParts, stk_own_things_KnownParts, sty_own_things_KnownParts, six_own_things_KnownParts, by decide⟩, q_KnownParts_own_tick := q_KnownParts_own_tick, t_KnownParts_own_tick := ⟨sat_own_tick_KnownParts, sge_own_tick_KnownParts, stk_own_tick_KnownParts, sty_own_tick_KnownParts, six_own_tick_KnownParts, by decide⟩, k_KnownParts_int := kit_int_KnownParts,
    C_World := C_World, g_World := PySem.W.mg_of X G nsC_World, cl_World := ⟨pg_World, ic_World, po_World, sa_World⟩, is_World := ⟨ca_World, cn_World, ct_World, cm_World⟩, ty_World := ty_World, q_World_own_ids := q_World_own_ids, t_World_own_ids := ⟨sat_own_ids_World, sge_own_ids_World, stk_own_ids_World, sty_own_ids_World, six_own_ids_World, by decide⟩, q_World_own_luck := q_World_own_luck, t_World_own_luck := ⟨sat_own_luck_World, sge_own_luck_World, stk_own_luck_World, sty_own_luck_World, six_own_luck_World, by decide⟩, q_World_own_next_id := q_World_own_next_id, t_World_own_next_id := ⟨sat_own_next_id_World, sge_own_next_id_World, stk_own_next_id_World, sty_own_next_id_World, six_own_next_id_World, by decide⟩, q_World_own_things := q_World_own_things, t_World_own_things := ⟨sat_own_things_World, sge_own_things_World, stk_own_things_World, sty_own_things_World, six_own_things_World, by decide⟩, q_World_own_tick := q_World_own_tick, t_World_own_tick := ⟨sat_own_tick_World, sge_own_tick_World, stk_own_tick_World, sty_own_tick_World, six_own_tick_World, by decide⟩, k_World_tuple := kit_tuple_World, k_World_NoneType := kit_NoneType_World, k_World_str := kit_str_World, ne_World := ne_World, nfT_World := nfT_World, nfN_World := nfN_World, nfS_World := nfS_World, nfW_World := nfW_World,
    a_is_whole := f0, d_is_whole := _, F_is_whole := fun_mk (st := s_is_whole) l0 c0 k0, g_is_whole := PySem.W.mg_of X G a0, b_is_whole := (fun_mk (st := s_is_whole) l0 c0 k0).binds fun _ _ _ _ _ _ us hl => match us, hl with | [_], _ => rfl,
    a_is_short := f1, d_is_short := _, F_is_short := fun_mk (st := s_is_short) l1 c1 k1, g_is_short := PySem.W.mg_of X G a1, b_is_short := (fun_mk (st := s_is_short) l1 c1 k1).binds fun _ _ _ _ _ _ us hl => match us, hl with | [_], _ => rfl,
    a_is_from := f2, d_is_from := _, F_is_from := fun_mk (st := s_is_from) l2 c2 k2, g_is_from := PySem.W.mg_of X G a2, b_is_from := (fun_mk (st := s_is_from) l2 c2 k2).binds fun _ _ _ _ _ _ us hl => match us, hl with | [_, _, _], _ => rfl,
    a_is_tick := f3, d_is_tick := _, F_is_tick := fun_mk (st := s_is_tick) l3 c3 k3, g_is_tick := PySem.W.mg_of X G a3, b_is_tick := (fun_mk (st := s_is_tick) l3 c3 k3).binds fun _ _ _ _ _ _ us hl => match us, hl with | [_], _ => rfl,
    a_is_luck_in := f4, d_is_luck_in := _, F_is_luck_in := fun_mk (st := s_is_luck_in) l4 c4 k4, g_is_luck_in := PySem.W.mg_of X G a4, b_is_luck_in := (fun_mk (st := s_is_luck_in) l4 c4 k4).binds fun _ _ _ _ _ _ us hl => match us, hl with | [_], _ => rfl,
    a_is_luck := f5, d_is_luck := _, F_is_luck := fun_mk (st := s_is_luck) l5 c5 k5, g_is_luck := PySem.W.mg_of X G a5, b_is_luck := (fun_mk (st := s_is_luck) l5 c5 k5).binds fun _ _ _ _ _ _ us hl => match us, hl with | [_], _ => rfl,
    a_is_number := f6, d_is_number := _, F_is_number := fun_mk (st := s_is_number) l6 c6 k6, g_is_number := PySem.W.mg_of X G a6, b_is_number := (fun_mk (st := s_is_number) l6 c6 k6).binds fun _ _ _ _ _ _ us hl => match us, hl with | [_], _ => rfl,
    a_is_name_in := f7, d_is_name_in := _, F_is_name_in := fun_mk (st := s_is_name_in) l7 c7 k7, g_is_name_in := PySem.W.mg_of X G a7, b_is_name_in := (fun_mk (st := s_is_name_in) l7 c7 k7).binds fun _ _ _ _ _ _ us hl => match us, hl with | [_], _ => rfl,
    a_are_numbers_in := f8, d_are_numbers_in := _, F_are_numbers_in := fun_mk (st := s_are_numbers_in) l8 c8 k8, g_are_numbers_in := PySem.W.mg_of X G a8, b_are_numbers_in := (fun_mk (st := s_are_numbers_in) l8 c8 k8).binds fun _ _ _ _ _ _ us hl => match us, hl with | [_], _ => rfl,
    a_is_thing_in := f9, d_is_thing_in := _, F_is_thing_in := fun_mk (st := s_is_thing_in) l9 c9 k9, g_is_thing_in := PySem.W.mg_of X G a9, b_is_thing_in := (fun_mk (st := s_is_thing_in) l9 c9 k9).binds fun _ _ _ _ _ _ us hl => match us, hl with | [_], _ => rfl,
    a_are_things_in := f10, d_are_things_in := _, F_are_things_in := fun_mk (st := s_are_things_in) l10 c10 k10, g_are_things_in := PySem.W.mg_of X G a10, b_are_things_in := (fun_mk (st := s_are_things_in) l10 c10 k10).binds fun _ _ _ _ _ _ us hl => match us, hl with | [_, _], _ => rfl,
    a_KnownParts_init := f11, d_KnownParts_init := _, F_KnownParts_init := fun_mk (st := s_KnownParts_init) l11 c11 k11, m_KnownParts_init := ⟨a11, i11, k11⟩, b_KnownParts_init := (fun_mk (st := s_KnownParts_init) l11 c11 k11).binds fun _ _ _ _ _ _ us hl => match us, hl with | [_, _, _, _, _], _ => rfl,
    mk_KnownParts := ⟨mk_KnownParts, a11, i11, kc_KnownParts⟩,
    a_parts_told := f12, d_parts_told := _, F_parts_told := fun_mk (st := s_parts_told) l12 c12 k12, g_parts_told := PySem.W.mg_of X G a12, b_parts_told := (fun_mk (st := s_parts_told) l12 c12 k12).binds fun _ _ _ _ _ _ us hl => match us, hl with | [_, _, _, _], _ => rfl,
    a_World_init := f13, d_World_init := _, F_World_init := fun_mk (st := s_World_init) l13 c13 k13, m_World_init := ⟨a13, i13, k13⟩, b_World_init := (fun_mk (st := s_World_init) l13 c13 k13).binds fun _ _ _ _ _ _ us hl => match us, hl with | [_, _, _, _, _], _ => rfl,
    mk_World := ⟨mk_World, a13, i13, kc_World⟩,
    a_World_tick := f14, d_World_tick := _, F_World_tick := fun_mk (st := s_World_tick) l14 c14 k14, pa_World_tick := pp14, p_World_tick := ⟨a14, g14, t14, rs14, r14⟩, b_World_tick := (fun_mk (st := s_World_tick) l14 c14 k14).binds fun _ _ _ _ _ _ us hl => match us, hl with | [_], _ => rfl,
    a_World_next_id := f15, d_World_next_id := _, F_World_next_id := fun_mk (st := s_World_next_id) l15 c15 k15, pa_World_next_id := pp15, p_World_next_id := ⟨a15, g15, t15, rs15, r15⟩, b_World_next_id := (fun_mk (st := s_World_next_id) l15 c15 k15).binds fun _ _ _ _ _ _ us hl => match us, hl with | [_], _ => rfl,
    a_World_luck := f16, d_World_luck := _, F_World_luck := fun_mk (st := s_World_luck) l16 c16 k16, pa_World_luck := pp16, p_World_luck := ⟨a16, g16, t16, rs16, r16⟩, b_World_luck := (fun_mk (st := s_World_luck) l16 c16 k16).binds fun _ _ _ _ _ _ us hl => match us, hl with | [_], _ => rfl,
    a_World_things := f17, d_World_things := _, F_World_things := fun_mk (st := s_World_things) l17 c17 k17, pa_World_things := pp17, p_World_things := ⟨a17, g17, t17, rs17, r17⟩, b_World_things := (fun_mk (st := s_World_things) l17 c17 k17).binds fun _ _ _ _ _ _ us hl => match us, hl with | [_], _ => rfl,
    a_World_ids := f18, d_World_ids := _, F_World_ids := fun_mk (st := s_World_ids) l18 c18 k18, m_World_ids := ⟨a18, i18, k18⟩, b_World_ids := (fun_mk (st := s_World_ids) l18 c18 k18).binds fun _ _ _ _ _ _ us hl => match us, hl with | [_, _], _ => rfl,
    a_World_kind_of := f19, d_World_kind_of := _, F_World_kind_of := fun_mk (st := s_World_kind_of) l19 c19 k19, m_World_kind_of := ⟨a19, i19, k19⟩, b_World_kind_of := (fun_mk (st := s_World_kind_of) l19 c19 k19).binds fun _ _ _ _ _ _ us hl => match us, hl with | [_, _], _ => rfl,
    a_World_numbers := f20, d_World_numbers := _, F_World_numbers := fun_mk (st := s_World_numbers) l20 c20 k20, m_World_numbers := ⟨a20, i20, k20⟩, b_World_numbers := (fun_mk (st := s_World_numbers) l20 c20 k20).binds fun _ _ _ _ _ _ us hl => match us, hl with | [_, _], _ => rfl,
    a_World_contains := f21, d_World_contains := _, F_World_contains := fun_mk (st := s_World_contains) l21 c21 k21, m_World_contains := ⟨a21, i21, k21⟩, b_World_contains := (fun_mk (st := s_World_contains) l21 c21 k21).binds fun _ _ _ _ _ _ us hl => match us, hl with | [_, _], _ => rfl,
    a_World_len := f22, d_World_len := _, F_World_len := fun_mk (st := s_World_len) l22 c22 k22, m_World_len := ⟨a22, i22, k22⟩, b_World_len := (fun_mk (st := s_World_len) l22 c22 k22).binds fun _ _ _ _ _ _ us hl => match us, hl with | [_], _ => rfl,
    a_World_iter := f23, d_World_iter := _, F_World_iter := fun_mk (st := s_World_iter) l23 c23 k23, m_World_iter := ⟨a23, i23, k23⟩, b_World_iter := (fun_mk (st := s_World_iter) l23 c23 k23).binds fun _ _ _ _ _ _ us hl => match us, hl with | [_], _ => rfl,
    a_World_eq := f24, d_World_eq := _, F_World_eq := fun_mk (st := s_World_eq) l24 c24 k24, m_World_eq := ⟨a24, i24, k24⟩, b_World_eq := (fun_mk (st := s_World_eq) l24 c24 k24).binds fun _ _ _ _ _ _ us hl => match us, hl with | [_, _], _ => rfl,
    a_World_str := f25, d_World_str := _, F_World_str := fun_mk (st := s_World_str) l25 c25 k25, m_World_str := ⟨a25, i25, k25⟩, b_World_str := (fun_mk (st := s_World_str) l25 c25 k25).binds fun _ _ _ _ _ _ us hl => match us, hl with | [_], _ => rfl,
    a_made_world := f26, d_made_world := _, F_made_world := fun_mk (st := s_made_world) l26 c26 k26, g_made_world := PySem.W.mg_of X G a26, b_made_world := (fun_mk (st := s_made_world) l26 c26 k26).binds fun _ _ _ _ _ _ us hl => match us, hl with | [_, _, _, _], _ => rfl,
    a_with_things := f27, d_with_things := _, F_with_things := fun_mk (st := s_with_things) l27 c27 k27, g_with_things := PySem.W.mg_of X G a27, b_with_things := (fun_mk (st := s_with_things) l27 c27 k27).binds fun _ _ _ _ _ _ us hl => match us, hl with | [_, _], _ => rfl,
    a_thing_at := f28, d_thing_at := _, F_thing_at := fun_mk (st := s_thing_at) l28 c28 k28, g_thing_at := PySem.W.mg_of X G a28, b_thing_at := (fun_mk (st := s_thing_at) l28 c28 k28).binds fun _ _ _ _ _ _ us hl => match us, hl with | [_, _], _ => rfl,
    a_made_in := f29, d_made_in := _, F_made_in := fun_mk (st := s_made_in) l29 c29 k29, g_made_in := PySem.W.mg_of X G a29, b_made_in := (fun_mk (st := s_made_in) l29 c29 k29).binds fun _ _ _ _ _ _ us hl => match us, hl with | [_, _, _], _ => rfl,
    a_dropped_in := f30, d_dropped_in := _, F_dropped_in := fun_mk (st := s_dropped_in) l30 c30 k30, g_dropped_in := PySem.W.mg_of X G a30, b_dropped_in := (fun_mk (st := s_dropped_in) l30 c30 k30).binds fun _ _ _ _ _ _ us hl => match us, hl with | [_, _], _ => rfl,
    a_put_in := f31, d_put_in := _, F_put_in := fun_mk (st := s_put_in) l31 c31 k31, g_put_in := PySem.W.mg_of X G a31, b_put_in := (fun_mk (st := s_put_in) l31 c31 k31).binds fun _ _ _ _ _ _ us hl => match us, hl with | [_, _, _], _ => rfl,
    a_changed_in := f32, d_changed_in := _, F_changed_in := fun_mk (st := s_changed_in) l32 c32 k32, g_changed_in := PySem.W.mg_of X G a32, b_changed_in := (fun_mk (st := s_changed_in) l32 c32 k32).binds fun _ _ _ _ _ _ us hl => match us, hl with | [_, _, _, _], _ => rfl,
    a_require_any_world := f33, d_require_any_world := _, F_require_any_world := fun_mk (st := s_require_any_world) l33 c33 k33, g_require_any_world := PySem.W.mg_of X G a33, b_require_any_world := (fun_mk (st := s_require_any_world) l33 c33 k33).binds fun _ _ _ _ _ _ us hl => match us, hl with | [_], _ => rfl,
    a_known_thing := f34, d_known_thing := _, F_known_thing := fun_mk (st := s_known_thing) l34 c34 k34, g_known_thing := PySem.W.mg_of X G a34, b_known_thing := (fun_mk (st := s_known_thing) l34 c34 k34).binds fun _ _ _ _ _ _ us hl => match us, hl with | [_, _], _ => rfl,
    a_made := f35, d_made := _, F_made := fun_mk (st := s_made) l35 c35 k35, g_made := PySem.W.mg_of X G a35, b_made := (fun_mk (st := s_made) l35 c35 k35).binds fun _ _ _ _ _ _ us hl => match us, hl with | [_, _, _], _ => rfl,
    a_dropped := f36, d_dropped := _, F_dropped := fun_mk (st := s_dropped) l36 c36 k36, g_dropped := PySem.W.mg_of X G a36, b_dropped := (fun_mk (st := s_dropped) l36 c36 k36).binds fun _ _ _ _ _ _ us hl => match us, hl with | [_, _], _ => rfl,
    a_changed := f37, d_changed := _, F_changed := fun_mk (st := s_changed) l37 c37 k37, g_changed := PySem.W.mg_of X G a37, b_changed := (fun_mk (st := s_changed) l37 c37 k37).binds fun _ _ _ _ _ _ us hl => match us, hl with | [_, _, _, _], _ => rfl,
    a_l_dice := f38, d_l_dice := _, F_l_dice := fun_mk (st := s_l_dice) l38 c38 k38, g_l_dice := PySem.W.mg_of X G a38, b_l_dice := (fun_mk (st := s_l_dice) l38 c38 k38).binds fun _ _ _ _ _ _ us hl => match us, hl with | [_, _], _ => rfl,
    a_l_roll := f39, d_l_roll := _, F_l_roll := fun_mk (st := s_l_roll) l39 c39 k39, g_l_roll := PySem.W.mg_of X G a39, b_l_roll := (fun_mk (st := s_l_roll) l39 c39 k39).binds fun _ _ _ _ _ _ us hl => match us, hl with | [_, _], _ => rfl,
    a_l_pick := f40, d_l_pick := _, F_l_pick := fun_mk (st := s_l_pick) l40 c40 k40, g_l_pick := PySem.W.mg_of X G a40, b_l_pick := (fun_mk (st := s_l_pick) l40 c40 k40).binds fun _ _ _ _ _ _ us hl => match us, hl with | [_, _], _ => rfl,
    a_l_near := f41, d_l_near := _, F_l_near := fun_mk (st := s_l_near) l41 c41 k41, g_l_near := PySem.W.mg_of X G a41, b_l_near := (fun_mk (st := s_l_near) l41 c41 k41).binds fun _ _ _ _ _ _ us hl => match us, hl with | [_, _], _ => rfl,
    a_l_wd_plain := f42, d_l_wd_plain := _, F_l_wd_plain := fun_mk (st := s_l_wd_plain) l42 c42 k42, g_l_wd_plain := PySem.W.mg_of X G a42, b_l_wd_plain := (fun_mk (st := s_l_wd_plain) l42 c42 k42).binds fun _ _ _ _ _ _ us hl => match us, hl with | [_], _ => rfl,
    a_l_number := f43, d_l_number := _, F_l_number := fun_mk (st := s_l_number) l43 c43 k43, g_l_number := PySem.W.mg_of X G a43, b_l_number := (fun_mk (st := s_l_number) l43 c43 k43).binds fun _ _ _ _ _ _ us hl => match us, hl with | [_], _ => rfl,
    a_l_numbers := f44, d_l_numbers := _, F_l_numbers := fun_mk (st := s_l_numbers) l44 c44 k44, g_l_numbers := PySem.W.mg_of X G a44, b_l_numbers := (fun_mk (st := s_l_numbers) l44 c44 k44).binds fun _ _ _ _ _ _ us hl => match us, hl with | [_], _ => rfl,
    a_l_kind_drawn := f45, d_l_kind_drawn := _, F_l_kind_drawn := fun_mk (st := s_l_kind_drawn) l45 c45 k45, g_l_kind_drawn := PySem.W.mg_of X G a45, b_l_kind_drawn := (fun_mk (st := s_l_kind_drawn) l45 c45 k45).binds fun _ _ _ _ _ _ us hl => match us, hl with | [_], _ => rfl,
    a_l_world_drawn := f46, d_l_world_drawn := _, F_l_world_drawn := fun_mk (st := s_l_world_drawn) l46 c46 k46, g_l_world_drawn := PySem.W.mg_of X G a46, b_l_world_drawn := (fun_mk (st := s_l_world_drawn) l46 c46 k46).binds fun _ _ _ _ _ _ us hl => match us, hl with | [_], _ => rfl,
    a_l_is_told := f47, d_l_is_told := _, F_l_is_told := fun_mk (st := s_l_is_told) l47 c47 k47, g_l_is_told := PySem.W.mg_of X G a47, b_l_is_told := (fun_mk (st := s_l_is_told) l47 c47 k47).binds fun _ _ _ _ _ _ us hl => match us, hl with | [_, _], _ => rfl,
    a_l_made := f48, d_l_made := _, F_l_made := fun_mk (st := s_l_made) l48 c48 k48, g_l_made := PySem.W.mg_of X G a48, b_l_made := (fun_mk (st := s_l_made) l48 c48 k48).binds fun _ _ _ _ _ _ us hl => match us, hl with | [_, _, _], _ => rfl,
    a_l_done := f49, d_l_done := _, F_l_done := fun_mk (st := s_l_done) l49 c49 k49, g_l_done := PySem.W.mg_of X G a49, b_l_done := (fun_mk (st := s_l_done) l49 c49 k49).binds fun _ _ _ _ _ _ us hl => match us, hl with | [_, _, _], _ => rfl,
    a_l_is_alone := f50, d_l_is_alone := _, F_l_is_alone := fun_mk (st := s_l_is_alone) l50 c50 k50, g_l_is_alone := PySem.W.mg_of X G a50, b_l_is_alone := (fun_mk (st := s_l_is_alone) l50 c50 k50).binds fun _ _ _ _ _ _ us hl => match us, hl with | [_, _], _ => rfl,
    a_l_right := f51, d_l_right := _, F_l_right := fun_mk (st := s_l_right) l51 c51 k51, g_l_right := PySem.W.mg_of X G a51, b_l_right := (fun_mk (st := s_l_right) l51 c51 k51).binds fun _ _ _ _ _ _ us hl => match us, hl with | [_], _ => rfl,
    a_law := f52, d_law := _, F_law := fun_mk (st := s_law) l52 c52 k52, g_law := PySem.W.mg_of X G a52, b_law := (fun_mk (st := s_law) l52 c52 k52).binds fun _ _ _ _ _ _ us hl => match us, hl with | [_], _ => rfl,
    m_abs := PySem.W.mg_none_of X G z_abs,
    m_all := PySem.W.mg_none_of X G z_all,
    m_bool := PySem.W.mg_none_of X G z_bool,
    m_int := PySem.W.mg_none_of X G z_int,
    m_isinstance := PySem.W.mg_none_of X G z_isinstance,
    m_iter := PySem.W.mg_none_of X G z_iter,
    m_len := PySem.W.mg_none_of X G z_len,
    m_list := PySem.W.mg_none_of X G z_list,
    m_max := PySem.W.mg_none_of X G z_max,
    m_min := PySem.W.mg_none_of X G z_min,
    m_range := PySem.W.mg_none_of X G z_range,
    m_set := PySem.W.mg_none_of X G z_set,
    m_str := PySem.W.mg_none_of X G z_str,
    m_tuple := PySem.W.mg_none_of X G z_tuple,
    m_zip := PySem.W.mg_none_of X G z_zip,
    t_GREATEST := t_GREATEST, c_GREATEST := PySem.W.mg_of X G z_GREATEST,
    t_MODULUS := t_MODULUS, c_MODULUS := PySem.W.mg_of X G z_MODULUS,
    t_MOST := t_MOST, c_MOST := PySem.W.mg_of X G z_MOST,
    t_MAX_THINGS := t_MAX_THINGS, c_MAX_THINGS := PySem.W.mg_of X G z_MAX_THINGS,
    t_MOST_NUMBERS := t_MOST_NUMBERS, c_MOST_NUMBERS := PySem.W.mg_of X G z_MOST_NUMBERS,
    t_MOST_NAME := t_MOST_NAME, c_MOST_NAME := PySem.W.mg_of X G z_MOST_NAME,
    t_THING_PARTS := t_THING_PARTS, c_THING_PARTS := PySem.W.mg_of X G z_THING_PARTS,
    t_LETTERS := t_LETTERS, c_LETTERS := PySem.W.mg_of X G z_LETTERS }
  exact ⟨_, fun s v => .of_eq rfl, fun base _ _ => ok_law T⟩
end K06
open PySem PySem.W PyProof.Rows
set_option maxHeartbeats 0 in
theorem PySem.Challenge.cw_settledplay_k06_whole_rows_of_things_holds : PySem.Challenge.rw_settledplay_k06_whole_rows_of_things.Holds := by
  w_on; o_law; k_head; (case hw => w_witness2)
  k_fill
  refine L2.walk_of (l := PySem.Challenge.rw_settledplay_k06_whole_rows_of_things) (n := 63) (k := 16) (x := "_law_script") (CX := fun _ => L2.CX0) (sp := fun w => K06.sp_law _) rfl (by decide) rfl ⟨rfl, by decide, by decide⟩ (fun w h Y => PySem.W.kIn_of Y) ?F (fun _ _ a ns hl _ hS => ⟨a, ns, rfl, hS, hl, fun _ => rfl⟩) (fun _ _ _ _ _ h => h)
  case F =>
    intro w mg fa h KX G hmg
    refine' K06.all_mk KX G hmg ?nsC_KnownParts ?nsC_World ?a0 ?l0 ?c0 ?k0 ?a1 ?l1 ?c1 ?k1 ?a2 ?l2 ?c2 ?k2 ?a3 ?l3 ?c3 ?k3 ?a4 ?l4 ?c4 ?k4 ?a5 ?l5 ?c5 ?k5 ?a6 ?l6 ?c6 ?k6 ?a7 ?l7 ?c7 ?k7 ?a8 ?l8 ?c8 ?k8 ?a9 ?l9 ?c9 ?k9 ?a10 ?l10 ?c10 ?k10 ?a11 ?i11 ?l11 ?c11 ?k11 ?a12 ?l12 ?c12 ?k12 ?a13 ?i13 ?l13 ?c13 ?k13 ?a14 ?g14 ?t14 ?r14 ?l14 ?c14 ?k14 ?a15 ?g15 ?t15 ?r15 ?l15 ?c15 ?k15 ?a16 ?g16 ?t16 ?r16 ?l16 ?c16 ?k16 ?a17 ?g17 ?t17 ?r17 ?l17 ?c17 ?k17 ?a18 ?i18 ?l18 ?c18 ?k18 ?a19 ?i19 ?l19 ?c19 ?k19 ?a20 ?i20 ?l20 ?c20 ?k20 ?a21 ?i21 ?l21 ?c21 ?k21 ?a22 ?i22 ?l22 ?c22 ?k22 ?a23 ?i23 ?l23 ?c23 ?k23 ?a24 ?i24 ?l24 ?c24 ?k24 ?a25 ?i25 ?l25 ?c25 ?k25 ?a26 ?l26 ?c26 ?k26 ?a27 ?l27 ?c27 ?k27 ?a28 ?l28 ?c28 ?k28 ?a29 ?l29 ?c29 ?k29 ?a30 ?l30 ?c30 ?k30 ?a31 ?l31 ?c31 ?k31 ?a32 ?l32 ?c32 ?k32 ?a33 ?l33 ?c33 ?k33 ?a34 ?l34 ?c34 ?k34 ?a35 ?l35 ?c35 ?k35 ?a36 ?l36 ?c36 ?k36 ?a37 ?l37 ?c37 ?k37 ?a38 ?l38 ?c38 ?k38 ?a39 ?l39 ?c39 ?k39 ?a40 ?l40 ?c40 ?k40 ?a41 ?l41 ?c41 ?k41 ?a42 ?l42 ?c42 ?k42 ?a43 ?l43 ?c43 ?k43 ?a44 ?l44 ?c44 ?k44 ?a45 ?l45 ?c45 ?k45 ?a46 ?l46 ?c46 ?k46 ?a47 ?l47 ?c47 ?k47 ?a48 ?l48 ?c48 ?k48 ?a49 ?l49 ?c49 ?k49 ?a50 ?l50 ?c50 ?k50 ?a51 ?l51 ?c51 ?k51 ?a52 ?l52 ?c52 ?k52 ?z_abs ?z_all ?z_bool ?z_int ?z_isinstance ?z_iter ?z_len ?z_list ?z_max ?z_min ?z_range ?z_set ?z_str ?z_tuple ?z_zip ?z_GREATEST ?z_MODULUS ?z_MOST ?z_MAX_THINGS ?z_MOST_NUMBERS ?z_MOST_NAME ?z_THING_PARTS ?z_LETTERS ?pg_KnownParts ?ic_KnownParts ?po_KnownParts ?sa_KnownParts ?mk_KnownParts ?kc_KnownParts ?ca_KnownParts ?cn_KnownParts ?ct_KnownParts ?cm_KnownParts ?ty_KnownParts ?sat_own_luck_KnownParts ?sge_own_luck_KnownParts ?stk_own_luck_KnownParts ?sty_own_luck_KnownParts ?six_own_luck_KnownParts ?sat_own_next_id_KnownParts ?sge_own_next_id_KnownParts ?stk_own_next_id_KnownParts ?sty_own_next_id_KnownParts ?six_own_next_id_KnownParts ?sat_own_things_KnownParts ?sge_own_things_KnownParts ?stk_own_things_KnownParts ?sty_own_things_KnownParts ?six_own_things_KnownParts ?sat_own_tick_KnownParts ?sge_own_tick_KnownParts ?stk_own_tick_KnownParts ?sty_own_tick_KnownParts ?six_own_tick_KnownParts ?kit_int_KnownParts ?pg_World ?ic_World ?po_World ?sa_World ?mk_World ?kc_World ?ca_World ?cn_World ?ct_World ?cm_World ?ty_World ?sat_own_ids_World ?sge_own_ids_World ?stk_own_ids_World ?sty_own_ids_World ?six_own_ids_World ?sat_own_luck_World ?sge_own_luck_World ?stk_own_luck_World ?sty_own_luck_World ?six_own_luck_World ?sat_own_next_id_World ?sge_own_next_id_World ?stk_own_next_id_World ?sty_own_next_id_World ?six_own_next_id_World ?sat_own_things_World ?sge_own_things_World ?stk_own_things_World ?sty_own_things_World ?six_own_things_World ?sat_own_tick_World ?sge_own_tick_World ?stk_own_tick_World ?sty_own_tick_World ?six_own_tick_World ?kit_tuple_World ?kit_NoneType_World ?kit_str_World ?ne_World ?nfT_World ?nfN_World ?nfS_World ?nfW_World
    (case nsC_KnownParts => k_is)
    (case nsC_World => k_is)
    (case a0 => k_is)
    (case l0 => k_is)
    (case c0 => k_is)
    (case k0 => k_is)
    (case a1 => k_is)
    (case l1 => k_is)
    (case c1 => k_is)
    (case k1 => k_is)
    (case a2 => k_is)
    (case l2 => k_is)
    (case c2 => k_is)
    (case k2 => k_is)
    (case a3 => k_is)
    (case l3 => k_is)
    (case c3 => k_is)
    (case k3 => k_is)
    (case a4 => k_is)
    (case l4 => k_is)
    (case c4 => k_is)
    (case k4 => k_is)
    (case a5 => k_is)
    (case l5 => k_is)
    (case c5 => k_is)
    (case k5 => k_is)
    (case a6 => k_is)
    (case l6 => k_is)
    (case c6 => k_is)
    (case k6 => k_is)
    (case a7 => k_is)
    (case l7 => k_is)
    (case c7 => k_is)
    (case k7 => k_is)
    (case a8 => k_is)
    (case l8 => k_is)
    (case c8 => k_is)
    (case k8 => k_is)
    (case a9 => k_is)
    (case l9 => k_is)
    (case c9 => k_is)
    (case k9 => k_is)
    (case a10 => k_is)
    (case l10 => k_is)
    (case c10 => k_is)
    (case k10 => k_is)
    (case a11 => k_is)
    (case i11 => k_is)
    (case l11 => k_is)
    (case c11 => k_is)
    (case k11 => k_is)
    (case a12 => k_is)
    (case l12 => k_is)
    (case c12 => k_is)
    (case k12 => k_is)
    (case a13 => k_is)
    (case i13 => k_is)
    (case l13 => k_is)
    (case c13 => k_is)
    (case k13 => k_is)
    (case a14 => k_is)
    (case g14 => k_is)
    (case t14 => k_is)
    (case r14 => k_is)
    (case l14 => k_is)
    (case c14 => k_is)
    (case k14 => k_is)
    (case a15 => k_is)
    (case g15 => k_is)
    (case t15 => k_is)
    (case r15 => k_is)
    (case l15 => k_is)
    (case c15 => k_is)
    (case k15 => k_is)
    (case a16 => k_is)
    (case g16 => k_is)
    (case t16 => k_is)
    (case r16 => k_is)
    (case l16 => k_is)
    (case c16 => k_is)
    (case k16 => k_is)
    (case a17 => k_is)
    (case g17 => k_is)
    (case t17 => k_is)
    (case r17 => k_is)
    (case l17 => k_is)
    (case c17 => k_is)
    (case k17 => k_is)
    (case a18 => k_is)
    (case i18 => k_is)
    (case l18 => k_is)
    (case c18 => k_is)
    (case k18 => k_is)
    (case a19 => k_is)
    (case i19 => k_is)
    (case l19 => k_is)
    (case c19 => k_is)
    (case k19 => k_is)
    (case a20 => k_is)
    (case i20 => k_is)
    (case l20 => k_is)
    (case c20 => k_is)
    (case k20 => k_is)
    (case a21 => k_is)
    (case i21 => k_is)
    (case l21 => k_is)
    (case c21 => k_is)
    (case k21 => k_is)
    (case a22 => k_is)
    (case i22 => k_is)
    (case l22 => k_is)
    (case c22 => k_is)
    (case k22 => k_is)
    (case a23 => k_is)
    (case i23 => k_is)
    (case l23 => k_is)
    (case c23 => k_is)
    (case k23 => k_is)
    (case a24 => k_is)
    (case i24 => k_is)
    (case l24 => k_is)
    (case c24 => k_is)
    (case k24 => k_is)
    (case a25 => k_is)
    (case i25 => k_is)
    (case l25 => k_is)
    (case c25 => k_is)
    (case k25 => k_is)
    (case a26 => k_is)
    (case l26 => k_is)
    (case c26 => k_is)
    (case k26 => k_is)
    (case a27 => k_is)
    (case l27 => k_is)
    (case c27 => k_is)
    (case k27 => k_is)
    (case a28 => k_is)
    (case l28 => k_is)
    (case c28 => k_is)
    (case k28 => k_is)
    (case a29 => k_is)
    (case l29 => k_is)
    (case c29 => k_is)
    (case k29 => k_is)
    (case a30 => k_is)
    (case l30 => k_is)
    (case c30 => k_is)
    (case k30 => k_is)
    (case a31 => k_is)
    (case l31 => k_is)
    (case c31 => k_is)
    (case k31 => k_is)
    (case a32 => k_is)
    (case l32 => k_is)
    (case c32 => k_is)
    (case k32 => k_is)
    (case a33 => k_is)
    (case l33 => k_is)
    (case c33 => k_is)
    (case k33 => k_is)
    (case a34 => k_is)
    (case l34 => k_is)
    (case c34 => k_is)
    (case k34 => k_is)
    (case a35 => k_is)
    (case l35 => k_is)
    (case c35 => k_is)
    (case k35 => k_is)
    (case a36 => k_is)
    (case l36 => k_is)
    (case c36 => k_is)
    (case k36 => k_is)
    (case a37 => k_is)
    (case l37 => k_is)
    (case c37 => k_is)
    (case k37 => k_is)
    (case a38 => k_is)
    (case l38 => k_is)
    (case c38 => k_is)
    (case k38 => k_is)
    (case a39 => k_is)
    (case l39 => k_is)
    (case c39 => k_is)
    (case k39 => k_is)
    (case a40 => k_is)
    (case l40 => k_is)
    (case c40 => k_is)
    (case k40 => k_is)
    (case a41 => k_is)
    (case l41 => k_is)
    (case c41 => k_is)
    (case k41 => k_is)
    (case a42 => k_is)
    (case l42 => k_is)
    (case c42 => k_is)
    (case k42 => k_is)
    (case a43 => k_is)
    (case l43 => k_is)
    (case c43 => k_is)
    (case k43 => k_is)
    (case a44 => k_is)
    (case l44 => k_is)
    (case c44 => k_is)
    (case k44 => k_is)
    (case a45 => k_is)
    (case l45 => k_is)
    (case c45 => k_is)
    (case k45 => k_is)
    (case a46 => k_is)
    (case l46 => k_is)
    (case c46 => k_is)
    (case k46 => k_is)
    (case a47 => k_is)
    (case l47 => k_is)
    (case c47 => k_is)
    (case k47 => k_is)
    (case a48 => k_is)
    (case l48 => k_is)
    (case c48 => k_is)
    (case k48 => k_is)
    (case a49 => k_is)
    (case l49 => k_is)
    (case c49 => k_is)
    (case k49 => k_is)
    (case a50 => k_is)
    (case l50 => k_is)
    (case c50 => k_is)
    (case k50 => k_is)
    (case a51 => k_is)
    (case l51 => k_is)
    (case c51 => k_is)
    (case k51 => k_is)
    (case a52 => k_is)
    (case l52 => k_is)
    (case c52 => k_is)
    (case k52 => k_is)
    (case z_abs => k_is)
    (case z_all => k_is)
    (case z_bool => k_is)
    (case z_int => k_is)
    (case z_isinstance => k_is)
    (case z_iter => k_is)
    (case z_len => k_is)
    (case z_list => k_is)
    (case z_max => k_is)
    (case z_min => k_is)
    (case z_range => k_is)
    (case z_set => k_is)
    (case z_str => k_is)
    (case z_tuple => k_is)
    (case z_zip => k_is)
    (case z_GREATEST => k_is)
    (case z_MODULUS => k_is)
    (case z_MOST => k_is)
    (case z_MAX_THINGS => k_is)
    (case z_MOST_NUMBERS => k_is)
    (case z_MOST_NAME => k_is)
    (case z_THING_PARTS => k_is)
    (case z_LETTERS => k_is)
    (case pg_KnownParts => k_is)
    (case ic_KnownParts => k_is)
    (case po_KnownParts => k_is)
    (case sa_KnownParts => k_is)
    (case mk_KnownParts => k_is)
    (case kc_KnownParts => k_is)
    (case ca_KnownParts => k_is)
    (case cn_KnownParts => k_is)
    (case ct_KnownParts => k_is)
    (case cm_KnownParts => k_is)
    (case ty_KnownParts => k_is)
    (case sat_own_luck_KnownParts => k_is)
    (case sge_own_luck_KnownParts => k_is)
    (case stk_own_luck_KnownParts => k_is)
    (case sty_own_luck_KnownParts => k_is)
    (case six_own_luck_KnownParts => k_is)
    (case sat_own_next_id_KnownParts => k_is)
    (case sge_own_next_id_KnownParts => k_is)
    (case stk_own_next_id_KnownParts => k_is)
    (case sty_own_next_id_KnownParts => k_is)
    (case six_own_next_id_KnownParts => k_is)
    (case sat_own_things_KnownParts => k_is)
    (case sge_own_things_KnownParts => k_is)
    (case stk_own_things_KnownParts => k_is)
    (case sty_own_things_KnownParts => k_is)
    (case six_own_things_KnownParts => k_is)
    (case sat_own_tick_KnownParts => k_is)
    (case sge_own_tick_KnownParts => k_is)
    (case stk_own_tick_KnownParts => k_is)
    (case sty_own_tick_KnownParts => k_is)
    (case six_own_tick_KnownParts => k_is)
    (case kit_int_KnownParts => k_is)
    (case pg_World => k_is)
    (case ic_World => k_is)
    (case po_World => k_is)
    (case sa_World => k_is)
    (case mk_World => k_is)
    (case kc_World => k_is)
    (case ca_World => k_is)
    (case cn_World => k_is)
    (case ct_World => k_is)
    (case cm_World => k_is)
    (case ty_World => k_is)
    (case sat_own_ids_World => k_is)
    (case sge_own_ids_World => k_is)
    (case stk_own_ids_World => k_is)
    (case sty_own_ids_World => k_is)
    (case six_own_ids_World => k_is)
    (case sat_own_luck_World => k_is)
    (case sge_own_luck_World => k_is)
    (case stk_own_luck_World => k_is)
    (case sty_own_luck_World => k_is)
    (case six_own_luck_World => k_is)
    (case sat_own_next_id_World => k_is)
    (case sge_own_next_id_World => k_is)
    (case stk_own_next_id_World => k_is)
    (case sty_own_next_id_World => k_is)
    (case six_own_next_id_World => k_is)
    (case sat_own_things_World => k_is)
    (case sge_own_things_World => k_is)
    (case stk_own_things_World => k_is)
    (case sty_own_things_World => k_is)
    (case six_own_things_World => k_is)
    (case sat_own_tick_World => k_is)
    (case sge_own_tick_World => k_is)
    (case stk_own_tick_World => k_is)
    (case sty_own_tick_World => k_is)
    (case six_own_tick_World => k_is)
    (case kit_tuple_World => k_is)
    (case kit_NoneType_World => k_is)
    (case kit_str_World => k_is)
    (case ne_World => k_is)
    (case nfT_World => k_is)
    (case nfN_World => k_is)
    (case nfS_World => k_is)
    (case nfW_World => k_is)
