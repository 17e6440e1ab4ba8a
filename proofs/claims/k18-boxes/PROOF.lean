import PyProof.Rows.All
import Wide.All
import OpenK.AllK
import Wide.FinOn
import KE.GoesMore
import KE.DataMinMax
import HandS.ForMost
import HandS.Wide
import HandS.Walk
import HandS.IsInst
import HandS.Style
import HandS.RaiseMore
import HandS.TupAny
import HandS.Strs
import HandS.Star
import HandS.Defaults
import HandS.MakeKwOnly
import PySem.Challenge.RW_settledplay_k18_whole_boxes_that_go
set_option Elab.async false
set_option linter.all false
set_option maxRecDepth 100000
set_option maxHeartbeats 4000000
/-! ### enumerate(tuple) walked -/
namespace L2
open PySem PySem.Spec PyProof.Rows
section
open AutoSeq1 (wpAny_loadPart')
theorem meets_enumerate_newT (l : Addr) (items : Array Value) (n : Nat) (dct : Option Addr) (sl : Array (Option Value)) :
    Meets (Builtin.«enumerate.__new__» ⟨[.type "enumerate", .ref l], []⟩) (fun _ R s => s.heap.get? l = some { cls := .type "tuple", dict := dct, data := .seq items n, slots := sl } ∧
      R (.ok (.ret (.ref (s.heap.push { cls := .type "tuple_iterator", data := .fields #[.ref l, .int 0 0] }).objs.size)))
        { s with heap := (s.heap.push { cls := .type "tuple_iterator", data := .fields #[.ref l, .int 0 0] }).push { cls := .type "enumerate", data := .fields #[.none, .bool false, .ref s.heap.objs.size, rawInt 0, .none, .none] } }) :=
  .of_wp fun prog w A R s h => by
    obtain ⟨hp, g, d, tk, os⟩ := s; obtain ⟨hl, h⟩ := h
    have hsub := sub_enumerate
    have hL : Heap.IsTuple (Shared.heap ⟨hp, g, d, tk, os⟩) l items := ⟨_, hl, rfl, n, rfl⟩
    wp_walk using wpAny_loadPart' hl
    refine wpAny_stack_any fun st => wpAny_pure ?_
    split
    · rename_i c _ _ _ _ _
      cases (c == Value.type "enumerate")
      · wp_walk using wpAny_loadPart' hl, wpAny_pyIter_tuple hL
        exact ⟨_, rfl, h⟩
      · wp_walk using wpAny_loadPart' hl, wpAny_pyIter_tuple hL
        exact ⟨_, rfl, h⟩
    · wp_walk using wpAny_loadPart' hl, wpAny_pyIter_tuple hL
      exact ⟨_, rfl, h⟩
end
theorem call_enumerate_tuple {prog : Program} {w : World} {A : Around} {E : Value → Shared → Prop} {s : Shared} {l : Addr} {items : Array Value} {Q : Value → Shared → Prop} (hL : s.heap.IsTuple l items)
    (h : ∀ h', IsEnum h' (s.heap.objs.size + 1) s.heap.objs.size 0 .none → h'.IsTupleIter s.heap.objs.size l 0 → h'.objs.size = s.heap.objs.size + 2 →
      (∀ b o, s.heap.get? b = some o → h'.get? b = some o) → Q (.ref (s.heap.objs.size + 1)) { s with heap := h' }) :
    wpAny (model prog w) A (call (.type "enumerate") [.ref l]) Q E s := by
  obtain ⟨⟨c, dct, dt, sl⟩, hl, hc, n, hd⟩ := hL
  replace hc : c = .type "tuple" := hc
  replace hd : dt = .seq items n := hd
  subst hc hd
  refine callType_new F.called_enumerate (by decide) (F.typeCall_enumerate_1 _) (F.newCall_enumerate_1 _) (fun obj => F.args_object_init_2 obj _) F.entry_enumerate_new
    (meets_enumerate_newT l items n dct sl) ⟨hl, ?_⟩
  have hz : (s.heap.push { cls := .type "tuple_iterator", data := .fields #[.ref l, .int 0 0] }).objs.size = s.heap.objs.size + 1 := Heap.size_push ..
  show _ ∧ _
  rw [hz]
  have he : IsEnum ((s.heap.push { cls := .type "tuple_iterator", data := .fields #[.ref l, .int 0 0] }).push
      { cls := .type "enumerate", data := .fields #[.none, .bool false, .ref s.heap.objs.size, rawInt 0, .none, .none] }) (s.heap.objs.size + 1) s.heap.objs.size 0 .none := by
    have := Heap.get?_push_size (s.heap.push { cls := .type "tuple_iterator", data := .fields #[.ref l, .int 0 0] })
      (o := { cls := .type "enumerate", data := .fields #[.none, .bool false, .ref s.heap.objs.size, rawInt 0, .none, .none] }) rfl
    rw [hz] at this; exact this
  refine ⟨⟨_, he, rfl⟩, h _ he ⟨_, Heap.get?_push_of_some _ (Heap.get?_push_size _ rfl), rfl, rfl⟩ (by rw [Heap.size_push, hz]) fun b o x => Heap.get?_push_of_some _ (Heap.get?_push_of_some _ x)⟩
/-- the tuple at a, each item in a new pair -/
def ItE (K : PySem.W.Frag) (a : Addr) : It :=
  ⟨fun i H => ∃ (xs : List V) (x : V), SqT K H a xs ∧ xs[i]? = some x, fun i H v H' => ∃ T x, v = .ref T ∧ H T = none ∧ H' = upd H T (.tup [.int (i : Nat), x]) ∧ ∀ xs, SqT K H a xs → xs[i]? = some x, fun i H => ∃ xs : List V, SqT K H a xs ∧ xs.length ≤ i⟩
theorem turn_enumT {P : Program} {w : World} {K : PySem.W.Frag} {elts : List Expr} {kk : Nat} {tpos : Pos} (a e it : Addr) :
    Turn P w K (.Tuple elts kk tpos) (ItE K a) [e, it] e (fun i h => (∃ old, IsEnum h e it ((i : Nat) : Int) old) ∧ h.IsTupleIter it a i ∧ e ≠ it) where
  mem := by simp
  obj := fun i h st b hb => by
    obtain ⟨⟨old, he⟩, ⟨o, ho, hc, hd⟩, _⟩ := st
    have e' : b = e ∨ b = it := by simpa using hb
    rcases e' with z | z
    · rw [z]; exact ⟨_, he, fun v q => nomatch q⟩
    · rw [z]; exact ⟨o, ho, fun v q => by rw [hd] at q; cases q⟩
  keep := fun i h h' st k => let ⟨⟨old, he⟩, hi, hne⟩ := st; ⟨⟨old, k e (by simp) _ he⟩, hi.at fun o q => k it (by simp) o q, hne⟩
  item := by
    intro X hP hw hK hc i pins s σ H E I hf st hg
    subst hP hw hK
    obtain ⟨⟨old, he⟩, hit, hne⟩ := st
    obtain ⟨xs, x, hq, hx⟩ := hg
    obtain ⟨its, rv, p, hz⟩ := I.tuple hq
    obtain ⟨u, hu, ru⟩ := rv.get hx
    have p' : s.heap.IsTuple a its.toArray := p
    have hel : e < s.heap.objs.size := Heap.lt_size he
    have hil : it < s.heap.objs.size := by obtain ⟨_, q, _⟩ := hit; exact Heap.lt_size q
    have hal : a < s.heap.objs.size := by obtain ⟨_, q, _⟩ := p'; exact Heap.lt_size q
    have hait : a ≠ it := fun z => by
      obtain ⟨o, h1, h2, _⟩ := hit
      obtain ⟨o', h1', h2', _⟩ := p'
      rw [z, h1] at h1'
      cases h1'
      rw [h2] at h2'
      exact absurd h2' (by decide)
    have hae : e ≠ a := fun z => by
      obtain ⟨o', h1', h2', _⟩ := p'
      have he' := he
      unfold IsEnum at he'
      rw [z, h1'] at he'
      cases he'
      exact absurd (show Value.type "enumerate" = Value.type "tuple" from h2') (by decide)
    have D : Draws X.prog X.w X.A.in1 it [it, a] its.toArray.size (fun i v => its.toArray[i]? = some v) (fun i h => h.IsTupleIter it a i ∧ h.IsTuple a its.toArray) := .tuple (A := X.A.in1) (I.ok.hd hc) it a hait its.toArray
    have hlt : i < its.toArray.size := by
      have := (List.getElem?_eq_some_iff.mp hu).1
      simpa using this
    refine wpAny_pyNext_enum_itemD D he ⟨hit, p'⟩ hlt hne (by simp only [List.mem_cons, List.not_mem_nil, or_false, not_or]; exact ⟨hne, hae⟩) fun u' h' tk hu' ho hst hT hsz hk => ?_
    have eu : u' = u := by
      have h1 : its.toArray[i]? = some u := by simpa using hu
      have h2 : its.toArray[i]? = some u' := hu'
      rw [h1] at h2
      cases h2
      rfl
    subst eu
    refine ⟨_, rfl, wpAny_letOwnedTupleGo_enum (s := { s with heap := h', toks := tk + 1 }) ho fun h'' he' sb => ?_⟩
    have hT2 : h''.get? s.heap.objs.size = some { cls := .type "tuple", data := .seq #[.int i tk, u'] } := (sb.2 _ (Nat.ne_of_gt hel)).trans hT
    have new : ObjOk X.prog X.w (upd H s.heap.objs.size (.tup [.int (i : Nat), x])) h'' s.heap.objs.size (.tup [.int (i : Nat), x]) :=
      ⟨by show 2 ≤ sizeLine; decide, [.int i tk, u'], .cons ⟨_, rfl⟩ (.cons ru .nil), ⟨_, hT2, rfl, _, rfl⟩⟩
    have I1 : Inv X pins σ (upd H s.heap.objs.size (.tup [.int (i : Nat), x])) { s with heap := h'', toks := tk + 1 } :=
      I.turnedNew (ch := [e, it]) (fun b ob hb q => (sb.2 b (fun z => hb (by simp [z]))).trans (hk b ob (fun z => hb (by simp [z])) (fun z => hb (by simp [z])) q)) hf (Nat.le_refl _) new
    refine ⟨.ref s.heap.objs.size, _, I1, rfl, ⟨_, x, rfl, I.hok.fresh (Nat.le_refl _), rfl, fun ys hy => by rw [I.tuple_inj hy hq]; exact hx⟩, ⟨⟨u', ?_⟩, hst.1.at fun o q => (sb.2 it (Ne.symm hne)).trans q, hne⟩, fun b hb => ?_⟩
    · have e1 : ((i + 1 : Nat) : Int) = (i : Int) + 1 := by omega
      rw [e1]; exact he'
    · have hb' : b < s.heap.objs.size := by
        have e' : b = e ∨ b = it := by simpa using hb
        rcases e' with z | z
        · rw [z]; exact hel
        · rw [z]; exact hil
      rw [upd_ne (Nat.ne_of_lt hb')]
      exact (hf b hb).1
  done := by
    intro X hP hw hK hc i pins s σ H E I hf st hg
    subst hP hw hK
    obtain ⟨⟨old, he⟩, hit, hne⟩ := st
    obtain ⟨xs, hq, hx⟩ := hg
    obtain ⟨its, rv, p, hz⟩ := I.tuple hq
    have p' : s.heap.IsTuple a its.toArray := p
    obtain ⟨f0, f1, f2, f3, f4, f5⟩ := hf it (by simp)
    have hl := rv.length
    have hT : s.TypeIs (.ref e) "enumerate" := ⟨_, he, rfl⟩
    unfold pyNext
    refine wpAny_bind (wpAny_attempt (wpAny_callSpecial?_slot (name := Str.ofString "__next__") hT F.slot_enumerate_next
      (wpAny_call_entry F.slot_enumerate_next hT F.entry_enumerate_next ?_ (F.args_enumerate_next_1 _))))
    show wpAny _ _ (field (.ref e) 2 >>= _) _ _ _
    refine wpAny_bind (wpAny_field he rfl (x := .ref it) rfl ?_)
    refine wpAny_bind (wpAny_nextOf_tuple_end (I.ok.hd hc) hit p' (by simp; omega) fun h' x he' hx' => ?_)
    obtain ⟨o, ho, hc'⟩ := hx'
    refine wpAny_bind (wpAny_isInstance (T := "StopIteration") (b := true) ⟨o, ho, hc'⟩ isSubtype_stop ?_)
    exact wpAny_pure ⟨rfl, I.turned (t' := s.toks) (fun b o hb q => he' b o hb q) f0 f1 f3 f4 f5⟩
  self := fun A i s Q E st h => let ⟨⟨_, he⟩, _⟩ := st; wpAny_pyIter_enum he h
def iEnumT (K : PySem.W.Frag) (ta : TA) : TI := fun σ H R => ta σ H fun vs H1 => ∃ a xs, vs = [.ref a] ∧ SqT K H1 a xs ∧ R (ItE K a) H1
theorem pi_enumT {X : Cx} {e : Expr} {ta : TA} {p pos tpos : Pos} {elts : List Expr} {kk : Nat} (hg : Gl X "enumerate") (hm : X.mg "enumerate" = none) (ha : PA X [e] ta) (hs : starEach [e] X.env = [(false, eval e X.env)] := by rfl) :
    PI X (.Tuple elts kk tpos) (.Call (.Name "enumerate" p) [e] [] pos) (iEnumT X.K ta) := by
  refine ⟨fun pins s σ H R I h => ?_⟩
  refine Call_ (ld_blt I hg hm boot_enumerate (PyProof.Rows.callWith_type1 (thn (ha.run pos pins s σ H _ I h) fun us s1 ⟨vs, H1, I1, r1, q1⟩ => ?_) hs rfl))
  obtain ⟨a, xs, ex, hq, q⟩ := q1
  subst ex
  cases r1 with
  | cons r rr =>
    cases rr
    cases r
    obtain ⟨its, rv, p', hz⟩ := I1.tuple hq
    refine call_enumerate_tuple (show s1.heap.IsTuple a its.toArray from p') fun h' he hit hsz hk => wpAny_pyIter_enum he ?_
    have I2 : Inv X pins σ H1 { s1 with heap := h' } := I1.kept (t' := s1.toks) hk
    refine ⟨s1.heap.objs.size + 1, [s1.heap.objs.size + 1, s1.heap.objs.size], _, _, H1, rfl, I2, turn_enumT a (s1.heap.objs.size + 1) s1.heap.objs.size, ⟨⟨.none, he⟩, hit, Nat.succ_ne_self _⟩, fun b hb => ?_, q⟩
    have e' : b = s1.heap.objs.size + 1 ∨ b = s1.heap.objs.size := by simpa using hb
    have hle : s1.heap.objs.size ≤ b := by
      rcases e' with z | z
      · rw [z]; exact Nat.le_add_right _ _
      · rw [z]; exact Nat.le_refl _
    exact I1.fpOk hle (I1.hok.fresh hle)
theorem walk_enumT {K : PySem.W.Frag} {a : Addr} {xs : List V} : Walk (ItE K a) xs.length (fun H => SqT K H a xs) (YPair (fun i => some (.int (i : Nat))) (fun i => xs[i]?)) := by
  refine ⟨fun i _ hi q => ⟨xs, xs[i], q, by simp [hi]⟩, fun _ q => ⟨xs, q, Nat.le_refl _⟩, fun i H v H' _ q y => ?_⟩
  obtain ⟨T, x, h1, h2, h3, h4⟩ := y
  exact ⟨T, .int (i : Nat), x, h1, h2, h3, rfl, h4 xs q⟩
end L2

/-! ### repr of None, a bool, an int -/
namespace L2
open PySem PySem.Spec PyProof.Rows
/-- what repr tells of them -/
inductive Rp : V → Str → Prop where
  | non : Rp .non "None"
  | bl (b : Bool) : Rp (.bl b) (if b then "True" else "False")
  | int (i : Int) (h : i.natAbs.log2 < 1920) : Rp (.int i) (toString i)
theorem call_reprS {X : Cx} : CallR X (.builtin "repr") (fun xs H Q => ∃ v z, xs = [v] ∧ Rp v z ∧ Q (.str z) H) := by
  intro pins s σ H xs us Q I r h
  obtain ⟨v, z, rfl, hz, q⟩ := h
  obtain ⟨u, rfl, r1⟩ := vals1 r
  cases hz with
  | non =>
    obtain rfl : u = .none := r1
    exact PySem.P.repr_of_none ⟨.str _, H, I.tok _, ⟨_, rfl⟩, q⟩
  | bl b =>
    obtain rfl : u = .bool b := r1
    exact PySem.P.repr_of_bool ⟨.str _, H, I.tok _, ⟨_, rfl⟩, q⟩
  | int i hi =>
    obtain ⟨t, rfl⟩ := r1
    exact PySem.P.repr_of_int hi ⟨.str _, H, I.tok _, ⟨_, rfl⟩, q⟩
end L2

/-! ### min(tuple of two ints) -/
namespace L2
open PySem PySem.Spec PyProof.Rows
theorem alike_ints {xs : List Int} : PySem.W.AlikeAll (xs.map PyData.int) := by
  refine ⟨fun x hx y hy => ?_, fun x hx => ?_⟩
  · obtain ⟨i, _, rfl⟩ := List.mem_map.mp hx
    obtain ⟨j, _, rfl⟩ := List.mem_map.mp hy
    rfl
  · obtain ⟨i, _, rfl⟩ := List.mem_map.mp hx
    intro z
    cases z
theorem cr_minT2 {X : Cx} (hc : X.calm = true) (hu : X.A.units + 64 < cLine) : CallR X (.builtin "min") (fun vs H Q => ∃ (a : Addr) (i j : Int), vs = [.ref a] ∧ SqT X.K H a [.int i, .int j] ∧ Q (.int (min i j)) H) := by
  intro pins s σ H vs us Q I r h
  obtain ⟨a, i, j, rfl, hs, q⟩ := h
  obtain ⟨its, rv, hl, _⟩ := I.tuple hs
  rw [Vals.ref1 r]
  obtain ⟨as, ra⟩ := Dp.readsAll I [.int i, .int j] [.int i, .int j] its (.cons (.int i) (.cons (.int j) .nil)) rv
  refine PySem.W.min_tuple_data (I.ok.hd hc) (show s.heap.IsTuple a its.toArray from hl) (by simpa using ra) (alike_ints (xs := [i, j])) (by have e : PyData.depthAll (PyData.int i :: List.map PyData.int [j]) ≤ 63 := (by simp [PyData.depthAll, PyData.depth]); omega) fun k v h' tk bs _ hr hk => ?_
  have e : PySem.W.minD (.int i) (List.map PyData.int [j]) = .int (min i j) := PySem.W.minD_ints i [j]
  rw [e] at hr
  cases hr with
  | int _ t => exact ⟨.int _, H, I.kept hk, ⟨t, rfl⟩, q⟩
end L2


namespace K18
open PySem PySem.Spec PyProof.Rows L2 SkE
def topS (i : Nat) : Stmt := PySem.Challenge.pw_settledplay_k18_whole_boxes_that_go.main.body.getD i (.Pass ⟨0, 0, 0, 0⟩)
abbrev s_is_whole : Stmt := topS 7
abbrev N_is_whole : List Str := ["value"] -- 0:value
theorem sc_is_whole : FnScope N_is_whole ["value"] (defScope s_is_whole) := ⟨rfl, rfl, rfl, by decide +kernel, rfl, by decide +kernel, by decide +kernel⟩
abbrev s_is_from : Stmt := topS 8
abbrev N_is_from : List Str := ["value", "least", "most"] -- 0:value 1:least 2:most
theorem sc_is_from : FnScope N_is_from ["value", "least", "most"] (defScope s_is_from) := ⟨rfl, rfl, rfl, by decide +kernel, rfl, by decide +kernel, by decide +kernel⟩
abbrev s_require_from : Stmt := topS 9
abbrev N_require_from : List Str := ["value", "least", "most"] -- 0:value 1:least 2:most
theorem sc_require_from : FnScope N_require_from ["value", "least", "most"] (defScope s_require_from) := ⟨rfl, rfl, rfl, by decide +kernel, rfl, by decide +kernel, by decide +kernel⟩
abbrev s_is_number : Stmt := topS 12
abbrev N_is_number : List Str := ["value"] -- 0:value
theorem sc_is_number : FnScope N_is_number ["value"] (defScope s_is_number) := ⟨rfl, rfl, rfl, by decide +kernel, rfl, by decide +kernel, by decide +kernel⟩
abbrev s_do_share : Stmt := topS 24
abbrev N_do_share : List Str := ["one", "other", "axis"] -- 0:one 1:other 2:axis
theorem sc_do_share : FnScope N_do_share ["one", "other", "axis"] (defScope s_do_share) := ⟨rfl, rfl, rfl, by decide +kernel, rfl, by decide +kernel, by decide +kernel⟩
abbrev s_are_meeting_in : Stmt := topS 25
abbrev N_are_meeting_in : List Str := ["one", "other", "grown", "first"] -- 0:one 1:other 2:grown 3:first
theorem sc_are_meeting_in : FnScope N_are_meeting_in ["one", "other", "grown"] (defScope s_are_meeting_in) := ⟨rfl, rfl, rfl, by decide +kernel, rfl, by decide +kernel, by decide +kernel⟩
abbrev s_shifted : Stmt := topS 26
abbrev N_shifted : List Str := ["box", "axis", "units"] -- 0:box 1:axis 2:units
theorem sc_shifted : FnScope N_shifted ["box", "axis", "units"] (defScope s_shifted) := ⟨rfl, rfl, rfl, by decide +kernel, rfl, by decide +kernel, by decide +kernel⟩
abbrev s_gap_between : Stmt := topS 27
abbrev N_gap_between : List Str := ["box", "other", "way", "axis", "sign"] -- 0:box 1:other 2:way 3:axis 4:sign
theorem sc_gap_between : FnScope N_gap_between ["box", "other", "way"] (defScope s_gap_between) := ⟨rfl, rfl, rfl, by decide +kernel, rfl, by decide +kernel, by decide +kernel⟩
abbrev s_border_gap : Stmt := topS 28
abbrev N_border_gap : List Str := ["arena", "box", "way", "axis", "sign"] -- 0:arena 1:box 2:way 3:axis 4:sign
theorem sc_border_gap : FnScope N_border_gap ["arena", "box", "way"] (defScope s_border_gap) := ⟨rfl, rfl, rfl, by decide +kernel, rfl, by decide +kernel, by decide +kernel⟩
abbrev s_reach_in : Stmt := topS 29
abbrev N_reach_in : List Str := ["arena", "box", "others", "way", "many", "beside", "gaps", "other", "gap"] -- 0:arena 1:box 2:others 3:way 4:many 5:beside 6:gaps 7:other 8:gap cells box way
theorem sc_reach_in : FnScope N_reach_in ["arena", "box", "others", "way", "many"] (defScope s_reach_in) := ⟨rfl, rfl, rfl, by decide +kernel, rfl, by decide +kernel, by decide +kernel⟩
abbrev s_is_beyond : Stmt := topS 30
abbrev N_is_beyond : List Str := ["arena", "box", "way", "axis", "sign"] -- 0:arena 1:box 2:way 3:axis 4:sign
theorem sc_is_beyond : FnScope N_is_beyond ["arena", "box", "way"] (defScope s_is_beyond) := ⟨rfl, rfl, rfl, by decide +kernel, rfl, by decide +kernel, by decide +kernel⟩
abbrev s_bar_in : Stmt := topS 31
abbrev N_bar_in : List Str := ["arena", "box", "others", "way", "there", "index", "other"] -- 0:arena 1:box 2:others 3:way 4:there 5:index 6:other
theorem sc_bar_in : FnScope N_bar_in ["arena", "box", "others", "way"] (defScope s_bar_in) := ⟨rfl, rfl, rfl, by decide +kernel, rfl, by decide +kernel, by decide +kernel⟩
abbrev s_way_of : Stmt := topS 32
abbrev N_way_of : List Str := ["axis", "units"] -- 0:axis 1:units
theorem sc_way_of : FnScope N_way_of ["axis", "units"] (defScope s_way_of) := ⟨rfl, rfl, rfl, by decide +kernel, rfl, by decide +kernel, by decide +kernel⟩
abbrev s_moved_along : Stmt := topS 33
abbrev N_moved_along : List Str := ["arena", "box", "others", "axis", "units", "way"] -- 0:arena 1:box 2:others 3:axis 4:units 5:way
theorem sc_moved_along : FnScope N_moved_along ["arena", "box", "others", "axis", "units"] (defScope s_moved_along) := ⟨rfl, rfl, rfl, by decide +kernel, rfl, by decide +kernel, by decide +kernel⟩
abbrev s_moved_box_in : Stmt := topS 34
abbrev N_moved_box_in : List Str := ["arena", "box", "others", "dx", "dy"] -- 0:arena 1:box 2:others 3:dx 4:dy
theorem sc_moved_box_in : FnScope N_moved_box_in ["arena", "box", "others", "dx", "dy"] (defScope s_moved_box_in) := ⟨rfl, rfl, rfl, by decide +kernel, rfl, by decide +kernel, by decide +kernel⟩
abbrev s_is_box : Stmt := topS 35
abbrev N_is_box : List Str := ["value", "one"] -- 0:value 1:one
theorem sc_is_box : FnScope N_is_box ["value"] (defScope s_is_box) := ⟨rfl, rfl, rfl, by decide +kernel, rfl, by decide +kernel, by decide +kernel⟩
abbrev s_require_arena : Stmt := topS 36
abbrev N_require_arena : List Str := ["value", "is_pair", "one"] -- 0:value 1:is_pair 2:one
theorem sc_require_arena : FnScope N_require_arena ["value"] (defScope s_require_arena) := ⟨rfl, rfl, rfl, by decide +kernel, rfl, by decide +kernel, by decide +kernel⟩
abbrev s_require_box : Stmt := topS 37
abbrev N_require_box : List Str := ["value"] -- 0:value
theorem sc_require_box : FnScope N_require_box ["value"] (defScope s_require_box) := ⟨rfl, rfl, rfl, by decide +kernel, rfl, by decide +kernel, by decide +kernel⟩
abbrev s_require_others : Stmt := topS 38
abbrev N_require_others : List Str := ["value", "one"] -- 0:value 1:one
theorem sc_require_others : FnScope N_require_others ["value"] (defScope s_require_others) := ⟨rfl, rfl, rfl, by decide +kernel, rfl, by decide +kernel, by decide +kernel⟩
abbrev s_require_any_number : Stmt := topS 39
abbrev N_require_any_number : List Str := ["value"] -- 0:value
theorem sc_require_any_number : FnScope N_require_any_number ["value"] (defScope s_require_any_number) := ⟨rfl, rfl, rfl, by decide +kernel, rfl, by decide +kernel, by decide +kernel⟩
abbrev s_require_way : Stmt := topS 40
abbrev N_require_way : List Str := ["arena", "box", "others", "side", "many"] -- 0:arena 1:box 2:others 3:side 4:many
theorem sc_require_way : FnScope N_require_way ["arena", "box", "others", "side", "many"] (defScope s_require_way) := ⟨rfl, rfl, rfl, by decide +kernel, rfl, by decide +kernel, by decide +kernel⟩
abbrev s_are_meeting : Stmt := topS 41
abbrev N_are_meeting : List Str := ["one", "other", "grown"] -- 0:one 1:other 2:grown
theorem sc_are_meeting : FnScope N_are_meeting ["one", "other", "grown"] (defScope s_are_meeting) := ⟨rfl, rfl, rfl, by decide +kernel, rfl, by decide +kernel, by decide +kernel⟩
abbrev s_reach : Stmt := topS 42
abbrev N_reach : List Str := ["arena", "box", "others", "side", "many"] -- 0:arena 1:box 2:others 3:side 4:many
theorem sc_reach : FnScope N_reach ["arena", "box", "others", "side", "many"] (defScope s_reach) := ⟨rfl, rfl, rfl, by decide +kernel, rfl, by decide +kernel, by decide +kernel⟩
abbrev s_reach_by_units : Stmt := topS 43
abbrev N_reach_by_units : List Str := ["arena", "box", "others", "side", "many", "way", "here", "units"] -- 0:arena 1:box 2:others 3:side 4:many 5:way 6:here 7:units
theorem sc_reach_by_units : FnScope N_reach_by_units ["arena", "box", "others", "side", "many"] (defScope s_reach_by_units) := ⟨rfl, rfl, rfl, by decide +kernel, rfl, by decide +kernel, by decide +kernel⟩
abbrev s_barrier : Stmt := topS 44
abbrev N_barrier : List Str := ["arena", "box", "others", "side", "many", "way", "units"] -- 0:arena 1:box 2:others 3:side 4:many 5:way 6:units
theorem sc_barrier : FnScope N_barrier ["arena", "box", "others", "side", "many"] (defScope s_barrier) := ⟨rfl, rfl, rfl, by decide +kernel, rfl, by decide +kernel, by decide +kernel⟩
abbrev s_moved_box : Stmt := topS 45
abbrev N_moved_box : List Str := ["arena", "box", "others", "dx", "dy"] -- 0:arena 1:box 2:others 3:dx 4:dy
theorem sc_moved_box : FnScope N_moved_box ["arena", "box", "others", "dx", "dy"] (defScope s_moved_box) := ⟨rfl, rfl, rfl, by decide +kernel, rfl, by decide +kernel, by decide +kernel⟩
abbrev s_l_dice : Stmt := topS 47
abbrev N_l_dice : List Str := ["_law_script", "_law_spot", "_law_cell", "_law_left"] -- 0:_law_script 1:_law_spot 2:_law_cell 3:_law_left
theorem sc_l_dice : FnScope N_l_dice ["_law_script", "_law_spot"] (defScope s_l_dice) := ⟨rfl, rfl, rfl, by decide +kernel, rfl, by decide +kernel, by decide +kernel⟩
abbrev s_l_roll : Stmt := topS 48
abbrev N_l_roll : List Str := ["_law_dice_here", "_law_total", "_law_one", "_law_two", "_law_found"] -- 0:_law_dice_here 1:_law_total 2:_law_one 3:_law_two 4:_law_found
theorem sc_l_roll : FnScope N_l_roll ["_law_dice_here", "_law_total"] (defScope s_l_roll) := ⟨rfl, rfl, rfl, by decide +kernel, rfl, by decide +kernel, by decide +kernel⟩
abbrev s_l_pick : Stmt := topS 49
abbrev N_l_pick : List Str := ["_law_dice_here", "_law_items"] -- 0:_law_dice_here 1:_law_items
theorem sc_l_pick : FnScope N_l_pick ["_law_dice_here", "_law_items"] (defScope s_l_pick) := ⟨rfl, rfl, rfl, by decide +kernel, rfl, by decide +kernel, by decide +kernel⟩
abbrev s_l_bo_meet : Stmt := topS 50
abbrev N_l_bo_meet : List Str := ["_law_one", "_law_other", "_law_across"] -- 0:_law_one 1:_law_other 2:_law_across
theorem sc_l_bo_meet : FnScope N_l_bo_meet ["_law_one", "_law_other"] (defScope s_l_bo_meet) := ⟨rfl, rfl, rfl, by decide +kernel, rfl, by decide +kernel, by decide +kernel⟩
abbrev s_l_bo_swept : Stmt := topS 51
abbrev N_l_bo_swept : List Str := ["_law_box", "_law_side", "_law_many", "_law_x", "_law_y", "_law_width", "_law_height"] -- 0:_law_box 1:_law_side 2:_law_many 3:_law_x 4:_law_y 5:_law_width 6:_law_height
theorem sc_l_bo_swept : FnScope N_l_bo_swept ["_law_box", "_law_side", "_law_many"] (defScope s_l_bo_swept) := ⟨rfl, rfl, rfl, by decide +kernel, rfl, by decide +kernel, by decide +kernel⟩
abbrev s_l_bo_put : Stmt := topS 52
abbrev N_l_bo_put : List Str := ["_law_box", "_law_side", "_law_many", "_law_x", "_law_y", "_law_width", "_law_height"] -- 0:_law_box 1:_law_side 2:_law_many 3:_law_x 4:_law_y 5:_law_width 6:_law_height
theorem sc_l_bo_put : FnScope N_l_bo_put ["_law_box", "_law_side", "_law_many"] (defScope s_l_bo_put) := ⟨rfl, rfl, rfl, by decide +kernel, rfl, by decide +kernel, by decide +kernel⟩
abbrev s_l_bo_is_beyond : Stmt := topS 53
abbrev N_l_bo_is_beyond : List Str := ["_law_arena", "_law_box", "_law_side"] -- 0:_law_arena 1:_law_box 2:_law_side
theorem sc_l_bo_is_beyond : FnScope N_l_bo_is_beyond ["_law_arena", "_law_box", "_law_side"] (defScope s_l_bo_is_beyond) := ⟨rfl, rfl, rfl, by decide +kernel, rfl, by decide +kernel, by decide +kernel⟩
abbrev s_l_bo_is_free : Stmt := topS 54
abbrev N_l_bo_is_free : List Str := ["_law_arena", "_law_box", "_law_others", "_law_side", "_law_many", "_law_swept", "_law_other"] -- 0:_law_arena 1:_law_box 2:_law_others 3:_law_side 4:_law_many 5:_law_swept 6:_law_other cells _law_box _law_swept
theorem sc_l_bo_is_free : FnScope N_l_bo_is_free ["_law_arena", "_law_box", "_law_others", "_law_side", "_law_many"] (defScope s_l_bo_is_free) := ⟨rfl, rfl, rfl, by decide +kernel, rfl, by decide +kernel, by decide +kernel⟩
abbrev s_l_bo_reach : Stmt := topS 55
abbrev N_l_bo_reach : List Str := ["_law_arena", "_law_box", "_law_others", "_law_side", "_law_many", "_law_least", "_law_most", "_law_half"] -- 0:_law_arena 1:_law_box 2:_law_others 3:_law_side 4:_law_many 5:_law_least 6:_law_most 7:_law_half
theorem sc_l_bo_reach : FnScope N_l_bo_reach ["_law_arena", "_law_box", "_law_others", "_law_side", "_law_many"] (defScope s_l_bo_reach) := ⟨rfl, rfl, rfl, by decide +kernel, rfl, by decide +kernel, by decide +kernel⟩
abbrev s_l_bo_barrier : Stmt := topS 56
abbrev N_l_bo_barrier : List Str := ["_law_arena", "_law_box", "_law_others", "_law_side", "_law_many", "_law_gone", "_law_here", "_law_later", "_law_at", "_law_other"] -- 0:_law_arena 1:_law_box 2:_law_others 3:_law_side 4:_law_many 5:_law_gone 6:_law_here 7:_law_later 8:_law_at 9:_law_other cells _law_here _law_later
theorem sc_l_bo_barrier : FnScope N_l_bo_barrier ["_law_arena", "_law_box", "_law_others", "_law_side", "_law_many"] (defScope s_l_bo_barrier) := ⟨rfl, rfl, rfl, by decide +kernel, rfl, by decide +kernel, by decide +kernel⟩
abbrev s_l_bo_moved : Stmt := topS 57
abbrev N_l_bo_moved : List Str := ["_law_arena", "_law_box", "_law_others", "_law_dx", "_law_dy", "_law_side"] -- 0:_law_arena 1:_law_box 2:_law_others 3:_law_dx 4:_law_dy 5:_law_side
theorem sc_l_bo_moved : FnScope N_l_bo_moved ["_law_arena", "_law_box", "_law_others", "_law_dx", "_law_dy"] (defScope s_l_bo_moved) := ⟨rfl, rfl, rfl, by decide +kernel, rfl, by decide +kernel, by decide +kernel⟩
abbrev s_l_bo_grown : Stmt := topS 58
abbrev N_l_bo_grown : List Str := ["_law_box", "_law_grown_here"] -- 0:_law_box 1:_law_grown_here
theorem sc_l_bo_grown : FnScope N_l_bo_grown ["_law_box", "_law_grown_here"] (defScope s_l_bo_grown) := ⟨rfl, rfl, rfl, by decide +kernel, rfl, by decide +kernel, by decide +kernel⟩
abbrev s_l_bo_number : Stmt := topS 59
abbrev N_l_bo_number : List Str := ["_law_dice_here", "_law_most", "_law_way"] -- 0:_law_dice_here 1:_law_most 2:_law_way
theorem sc_l_bo_number : FnScope N_l_bo_number ["_law_dice_here", "_law_most"] (defScope s_l_bo_number) := ⟨rfl, rfl, rfl, by decide +kernel, rfl, by decide +kernel, by decide +kernel⟩
abbrev s_l_bo_drawn : Stmt := topS 60
abbrev N_l_bo_drawn : List Str := ["_law_dice_here", "_law_arena", "_law_sizes", "_law_turn"] -- 0:_law_dice_here 1:_law_arena 2:_law_sizes 3:_law_turn cells _law_dice_here
theorem sc_l_bo_drawn : FnScope N_l_bo_drawn ["_law_dice_here", "_law_arena"] (defScope s_l_bo_drawn) := ⟨rfl, rfl, rfl, by decide +kernel, rfl, by decide +kernel, by decide +kernel⟩
abbrev s_l_bo_arena : Stmt := topS 61
abbrev N_l_bo_arena : List Str := ["_law_dice_here"] -- 0:_law_dice_here
theorem sc_l_bo_arena : FnScope N_l_bo_arena ["_law_dice_here"] (defScope s_l_bo_arena) := ⟨rfl, rfl, rfl, by decide +kernel, rfl, by decide +kernel, by decide +kernel⟩
abbrev s_l_bo_pace : Stmt := topS 62
abbrev N_l_bo_pace : List Str := ["_law_dice_here", "_law_way"] -- 0:_law_dice_here 1:_law_way
theorem sc_l_bo_pace : FnScope N_l_bo_pace ["_law_dice_here"] (defScope s_l_bo_pace) := ⟨rfl, rfl, rfl, by decide +kernel, rfl, by decide +kernel, by decide +kernel⟩
abbrev s_l_ways_right : Stmt := topS 63
abbrev N_l_ways_right : List Str := ["_law_dice_here", "_law_arena", "_law_box", "_law_others", "_law_side", "_law_many", "_law_due"] -- 0:_law_dice_here 1:_law_arena 2:_law_box 3:_law_others 4:_law_side 5:_law_many 6:_law_due
theorem sc_l_ways_right : FnScope N_l_ways_right ["_law_dice_here", "_law_arena", "_law_box", "_law_others"] (defScope s_l_ways_right) := ⟨rfl, rfl, rfl, by decide +kernel, rfl, by decide +kernel, by decide +kernel⟩
abbrev s_l_meetings_right : Stmt := topS 64
abbrev N_l_meetings_right : List Str := ["_law_dice_here", "_law_box", "_law_others", "_law_other", "_law_grown_here"] -- 0:_law_dice_here 1:_law_box 2:_law_others 3:_law_other 4:_law_grown_here
theorem sc_l_meetings_right : FnScope N_l_meetings_right ["_law_dice_here", "_law_box", "_law_others"] (defScope s_l_meetings_right) := ⟨rfl, rfl, rfl, by decide +kernel, rfl, by decide +kernel, by decide +kernel⟩
abbrev s_l_right : Stmt := topS 65
abbrev N_l_right : List Str := ["_law_dice_here", "_law_arena", "_law_box", "_law_others", "_law_turn", "_law_dx", "_law_dy"] -- 0:_law_dice_here 1:_law_arena 2:_law_box 3:_law_others 4:_law_turn 5:_law_dx 6:_law_dy cells _law_arena _law_dice_here
theorem sc_l_right : FnScope N_l_right ["_law_dice_here"] (defScope s_l_right) := ⟨rfl, rfl, rfl, by decide +kernel, rfl, by decide +kernel, by decide +kernel⟩
abbrev s_law : Stmt := topS 66
abbrev N_law : List Str := ["_law_script", "_law_spot", "_law_shut", "_law_ball", "_law_room", "_law_told", "_law_grown_here"] -- 0:_law_script 1:_law_spot 2:_law_shut 3:_law_ball 4:_law_room 5:_law_told 6:_law_grown_here cells _law_shut
theorem sc_law : FnScope N_law ["_law_script"] (defScope s_law) := ⟨rfl, rfl, rfl, by decide +kernel, rfl, by decide +kernel, by decide +kernel⟩
structure Tp (w : World) (K : PySem.W.Frag) (mg : Str → Option Value) where
  a_is_whole : Addr
  d_is_whole : FuncData
  F_is_whole : Fun K "is_whole" "is_whole" s_is_whole a_is_whole d_is_whole
  g_is_whole : mg "is_whole" = some (.ref a_is_whole)
  b_is_whole : Binds K d_is_whole ["value"] []
  a_is_from : Addr
  d_is_from : FuncData
  F_is_from : Fun K "is_from" "is_from" s_is_from a_is_from d_is_from
  g_is_from : mg "is_from" = some (.ref a_is_from)
  b_is_from : Binds K d_is_from ["value", "least", "most"] []
  a_require_from : Addr
  d_require_from : FuncData
  F_require_from : Fun K "require_from" "require_from" s_require_from a_require_from d_require_from
  g_require_from : mg "require_from" = some (.ref a_require_from)
  b_require_from : Binds K d_require_from ["value", "least", "most"] []
  a_is_number : Addr
  d_is_number : FuncData
  F_is_number : Fun K "is_number" "is_number" s_is_number a_is_number d_is_number
  g_is_number : mg "is_number" = some (.ref a_is_number)
  b_is_number : Binds K d_is_number ["value"] []
  a_do_share : Addr
  d_do_share : FuncData
  F_do_share : Fun K "do_share" "do_share" s_do_share a_do_share d_do_share
  g_do_share : mg "do_share" = some (.ref a_do_share)
  b_do_share : Binds K d_do_share ["one", "other", "axis"] []
  a_are_meeting_in : Addr
  d_are_meeting_in : FuncData
  F_are_meeting_in : Fun K "are_meeting_in" "are_meeting_in" s_are_meeting_in a_are_meeting_in d_are_meeting_in
  g_are_meeting_in : mg "are_meeting_in" = some (.ref a_are_meeting_in)
  b_are_meeting_in : Binds K d_are_meeting_in ["one", "other", "grown"] []
  a_shifted : Addr
  d_shifted : FuncData
  F_shifted : Fun K "shifted" "shifted" s_shifted a_shifted d_shifted
  g_shifted : mg "shifted" = some (.ref a_shifted)
  b_shifted : Binds K d_shifted ["box", "axis", "units"] []
  a_gap_between : Addr
  d_gap_between : FuncData
  F_gap_between : Fun K "gap_between" "gap_between" s_gap_between a_gap_between d_gap_between
  g_gap_between : mg "gap_between" = some (.ref a_gap_between)
  b_gap_between : Binds K d_gap_between ["box", "other", "way"] []
  a_border_gap : Addr
  d_border_gap : FuncData
  F_border_gap : Fun K "border_gap" "border_gap" s_border_gap a_border_gap d_border_gap
  g_border_gap : mg "border_gap" = some (.ref a_border_gap)
  b_border_gap : Binds K d_border_gap ["arena", "box", "way"] []
  a_reach_in : Addr
  d_reach_in : FuncData
  F_reach_in : Fun K "reach_in" "reach_in" s_reach_in a_reach_in d_reach_in
  g_reach_in : mg "reach_in" = some (.ref a_reach_in)
  b_reach_in : Binds K d_reach_in ["arena", "box", "others", "way", "many"] []
  a_is_beyond : Addr
  d_is_beyond : FuncData
  F_is_beyond : Fun K "is_beyond" "is_beyond" s_is_beyond a_is_beyond d_is_beyond
  g_is_beyond : mg "is_beyond" = some (.ref a_is_beyond)
  b_is_beyond : Binds K d_is_beyond ["arena", "box", "way"] []
  a_bar_in : Addr
  d_bar_in : FuncData
  F_bar_in : Fun K "bar_in" "bar_in" s_bar_in a_bar_in d_bar_in
  g_bar_in : mg "bar_in" = some (.ref a_bar_in)
  b_bar_in : Binds K d_bar_in ["arena", "box", "others", "way"] []
  a_way_of : Addr
  d_way_of : FuncData
  F_way_of : Fun K "way_of" "way_of" s_way_of a_way_of d_way_of
  g_way_of : mg "way_of" = some (.ref a_way_of)
  b_way_of : Binds K d_way_of ["axis", "units"] []
  a_moved_along : Addr
  d_moved_along : FuncData
  F_moved_along : Fun K "moved_along" "moved_along" s_moved_along a_moved_along d_moved_along
  g_moved_along : mg "moved_along" = some (.ref a_moved_along)
  b_moved_along : Binds K d_moved_along ["arena", "box", "others", "axis", "units"] []
  a_moved_box_in : Addr
  d_moved_box_in : FuncData
  F_moved_box_in : Fun K "moved_box_in" "moved_box_in" s_moved_box_in a_moved_box_in d_moved_box_in
  g_moved_box_in : mg "moved_box_in" = some (.ref a_moved_box_in)
  b_moved_box_in : Binds K d_moved_box_in ["arena", "box", "others", "dx", "dy"] []
  a_is_box : Addr
  d_is_box : FuncData
  F_is_box : Fun K "is_box" "is_box" s_is_box a_is_box d_is_box
  g_is_box : mg "is_box" = some (.ref a_is_box)
  b_is_box : Binds K d_is_box ["value"] []
  a_require_arena : Addr
  d_require_arena : FuncData
  F_require_arena : Fun K "require_arena" "require_arena" s_require_arena a_require_arena d_require_arena
  g_require_arena : mg "require_arena" = some (.ref a_require_arena)
  b_require_arena : Binds K d_require_arena ["value"] []
  a_require_box : Addr
  d_require_box : FuncData
  F_require_box : Fun K "require_box" "require_box" s_require_box a_require_box d_require_box
  g_require_box : mg "require_box" = some (.ref a_require_box)
  b_require_box : Binds K d_require_box ["value"] []
  a_require_others : Addr
  d_require_others : FuncData
  F_require_others : Fun K "require_others" "require_others" s_require_others a_require_others d_require_others
  g_require_others : mg "require_others" = some (.ref a_require_others)
  b_require_others : Binds K d_require_others ["value"] []
  a_require_any_number : Addr
  d_require_any_number : FuncData
  F_require_any_number : Fun K "require_any_number" "require_any_number" s_require_any_number a_require_any_number d_require_any_number
  g_require_any_number : mg "require_any_number" = some (.ref a_require_any_number)
  b_require_any_number : Binds K d_require_any_number ["value"] []
  a_require_way : Addr
  d_require_way : FuncData
  F_require_way : Fun K "require_way" "require_way" s_require_way a_require_way d_require_way
  g_require_way : mg "require_way" = some (.ref a_require_way)
  b_require_way : Binds K d_require_way ["arena", "box", "others", "side", "many"] []
  a_are_meeting : Addr
  d_are_meeting : FuncData
  F_are_meeting : FunD K "are_meeting" "are_meeting" (defArgs s_are_meeting) (defBody s_are_meeting) (defScope s_are_meeting) [] [("grown", .int 0)] a_are_meeting d_are_meeting
  g_are_meeting : mg "are_meeting" = some (.ref a_are_meeting)
  a_reach : Addr
  d_reach : FuncData
  F_reach : Fun K "reach" "reach" s_reach a_reach d_reach
  g_reach : mg "reach" = some (.ref a_reach)
  b_reach : Binds K d_reach ["arena", "box", "others", "side", "many"] []
  a_reach_by_units : Addr
  d_reach_by_units : FuncData
  F_reach_by_units : Fun K "reach_by_units" "reach_by_units" s_reach_by_units a_reach_by_units d_reach_by_units
  g_reach_by_units : mg "reach_by_units" = some (.ref a_reach_by_units)
  b_reach_by_units : Binds K d_reach_by_units ["arena", "box", "others", "side", "many"] []
  a_barrier : Addr
  d_barrier : FuncData
  F_barrier : Fun K "barrier" "barrier" s_barrier a_barrier d_barrier
  g_barrier : mg "barrier" = some (.ref a_barrier)
  b_barrier : Binds K d_barrier ["arena", "box", "others", "side", "many"] []
  a_moved_box : Addr
  d_moved_box : FuncData
  F_moved_box : Fun K "moved_box" "moved_box" s_moved_box a_moved_box d_moved_box
  g_moved_box : mg "moved_box" = some (.ref a_moved_box)
  b_moved_box : Binds K d_moved_box ["arena", "box", "others", "dx", "dy"] []
  a_l_dice : Addr
  d_l_dice : FuncData
  F_l_dice : Fun K "_law_dice" "_law_dice" s_l_dice a_l_dice d_l_dice
  g_l_dice : mg "_law_dice" = some (.ref a_l_dice)
  b_l_dice : Binds K d_l_dice ["_law_script", "_law_spot"] []
  a_l_roll : Addr
  d_l_roll : FuncData
  F_l_roll : Fun K "_law_roll" "_law_roll" s_l_roll a_l_roll d_l_roll
  g_l_roll : mg "_law_roll" = some (.ref a_l_roll)
  b_l_roll : Binds K d_l_roll ["_law_dice_here", "_law_total"] []
  a_l_pick : Addr
  d_l_pick : FuncData
  F_l_pick : Fun K "_law_pick" "_law_pick" s_l_pick a_l_pick d_l_pick
  g_l_pick : mg "_law_pick" = some (.ref a_l_pick)
  b_l_pick : Binds K d_l_pick ["_law_dice_here", "_law_items"] []
  a_l_bo_meet : Addr
  d_l_bo_meet : FuncData
  F_l_bo_meet : Fun K "_law_bo_meet" "_law_bo_meet" s_l_bo_meet a_l_bo_meet d_l_bo_meet
  g_l_bo_meet : mg "_law_bo_meet" = some (.ref a_l_bo_meet)
  b_l_bo_meet : Binds K d_l_bo_meet ["_law_one", "_law_other"] []
  a_l_bo_swept : Addr
  d_l_bo_swept : FuncData
  F_l_bo_swept : Fun K "_law_bo_swept" "_law_bo_swept" s_l_bo_swept a_l_bo_swept d_l_bo_swept
  g_l_bo_swept : mg "_law_bo_swept" = some (.ref a_l_bo_swept)
  b_l_bo_swept : Binds K d_l_bo_swept ["_law_box", "_law_side", "_law_many"] []
  a_l_bo_put : Addr
  d_l_bo_put : FuncData
  F_l_bo_put : Fun K "_law_bo_put" "_law_bo_put" s_l_bo_put a_l_bo_put d_l_bo_put
  g_l_bo_put : mg "_law_bo_put" = some (.ref a_l_bo_put)
  b_l_bo_put : Binds K d_l_bo_put ["_law_box", "_law_side", "_law_many"] []
  a_l_bo_is_beyond : Addr
  d_l_bo_is_beyond : FuncData
  F_l_bo_is_beyond : Fun K "_law_bo_is_beyond" "_law_bo_is_beyond" s_l_bo_is_beyond a_l_bo_is_beyond d_l_bo_is_beyond
  g_l_bo_is_beyond : mg "_law_bo_is_beyond" = some (.ref a_l_bo_is_beyond)
  b_l_bo_is_beyond : Binds K d_l_bo_is_beyond ["_law_arena", "_law_box", "_law_side"] []
  a_l_bo_is_free : Addr
  d_l_bo_is_free : FuncData
  F_l_bo_is_free : Fun K "_law_bo_is_free" "_law_bo_is_free" s_l_bo_is_free a_l_bo_is_free d_l_bo_is_free
  g_l_bo_is_free : mg "_law_bo_is_free" = some (.ref a_l_bo_is_free)
  b_l_bo_is_free : Binds K d_l_bo_is_free ["_law_arena", "_law_box", "_law_others", "_law_side", "_law_many"] []
  a_l_bo_reach : Addr
  d_l_bo_reach : FuncData
  F_l_bo_reach : Fun K "_law_bo_reach" "_law_bo_reach" s_l_bo_reach a_l_bo_reach d_l_bo_reach
  g_l_bo_reach : mg "_law_bo_reach" = some (.ref a_l_bo_reach)
  b_l_bo_reach : Binds K d_l_bo_reach ["_law_arena", "_law_box", "_law_others", "_law_side", "_law_many"] []
  a_l_bo_barrier : Addr
  d_l_bo_barrier : FuncData
  F_l_bo_barrier : Fun K "_law_bo_barrier" "_law_bo_barrier" s_l_bo_barrier a_l_bo_barrier d_l_bo_barrier
  g_l_bo_barrier : mg "_law_bo_barrier" = some (.ref a_l_bo_barrier)
  b_l_bo_barrier : Binds K d_l_bo_barrier ["_law_arena", "_law_box", "_law_others", "_law_side", "_law_many"] []
  a_l_bo_moved : Addr
  d_l_bo_moved : FuncData
  F_l_bo_moved : Fun K "_law_bo_moved" "_law_bo_moved" s_l_bo_moved a_l_bo_moved d_l_bo_moved
  g_l_bo_moved : mg "_law_bo_moved" = some (.ref a_l_bo_moved)
  b_l_bo_moved : Binds K d_l_bo_moved ["_law_arena", "_law_box", "_law_others", "_law_dx", "_law_dy"] []
  a_l_bo_grown : Addr
  d_l_bo_grown : FuncData
  F_l_bo_grown : Fun K "_law_bo_grown" "_law_bo_grown" s_l_bo_grown a_l_bo_grown d_l_bo_grown
  g_l_bo_grown : mg "_law_bo_grown" = some (.ref a_l_bo_grown)
  b_l_bo_grown : Binds K d_l_bo_grown ["_law_box", "_law_grown_here"] []
  a_l_bo_number : Addr
  d_l_bo_number : FuncData
  F_l_bo_number : Fun K "_law_bo_number" "_law_bo_number" s_l_bo_number a_l_bo_number d_l_bo_number
  g_l_bo_number : mg "_law_bo_number" = some (.ref a_l_bo_number)
  b_l_bo_number : Binds K d_l_bo_number ["_law_dice_here", "_law_most"] []
  a_l_bo_drawn : Addr
  d_l_bo_drawn : FuncData
  F_l_bo_drawn : Fun K "_law_bo_drawn" "_law_bo_drawn" s_l_bo_drawn a_l_bo_drawn d_l_bo_drawn
  g_l_bo_drawn : mg "_law_bo_drawn" = some (.ref a_l_bo_drawn)
  b_l_bo_drawn : Binds K d_l_bo_drawn ["_law_dice_here", "_law_arena"] []
  a_l_bo_arena : Addr
  d_l_bo_arena : FuncData
  F_l_bo_arena : Fun K "_law_bo_arena" "_law_bo_arena" s_l_bo_arena a_l_bo_arena d_l_bo_arena
  g_l_bo_arena : mg "_law_bo_arena" = some (.ref a_l_bo_arena)
  b_l_bo_arena : Binds K d_l_bo_arena ["_law_dice_here"] []
  a_l_bo_pace : Addr
  d_l_bo_pace : FuncData
  F_l_bo_pace : Fun K "_law_bo_pace" "_law_bo_pace" s_l_bo_pace a_l_bo_pace d_l_bo_pace
  g_l_bo_pace : mg "_law_bo_pace" = some (.ref a_l_bo_pace)
  b_l_bo_pace : Binds K d_l_bo_pace ["_law_dice_here"] []
  a_l_ways_right : Addr
  d_l_ways_right : FuncData
  F_l_ways_right : Fun K "_law_ways_right" "_law_ways_right" s_l_ways_right a_l_ways_right d_l_ways_right
  g_l_ways_right : mg "_law_ways_right" = some (.ref a_l_ways_right)
  b_l_ways_right : Binds K d_l_ways_right ["_law_dice_here", "_law_arena", "_law_box", "_law_others"] []
  a_l_meetings_right : Addr
  d_l_meetings_right : FuncData
  F_l_meetings_right : Fun K "_law_meetings_right" "_law_meetings_right" s_l_meetings_right a_l_meetings_right d_l_meetings_right
  g_l_meetings_right : mg "_law_meetings_right" = some (.ref a_l_meetings_right)
  b_l_meetings_right : Binds K d_l_meetings_right ["_law_dice_here", "_law_box", "_law_others"] []
  a_l_right : Addr
  d_l_right : FuncData
  F_l_right : Fun K "_law_right" "_law_right" s_l_right a_l_right d_l_right
  g_l_right : mg "_law_right" = some (.ref a_l_right)
  b_l_right : Binds K d_l_right ["_law_dice_here"] []
  a_law : Addr
  d_law : FuncData
  F_law : Fun K "law" "law" s_law a_law d_law
  g_law : mg "law" = some (.ref a_law)
  b_law : Binds K d_law ["_law_script"] []
  m_abs : mg "abs" = none
  m_all : mg "all" = none
  m_bool : mg "bool" = none
  m_enumerate : mg "enumerate" = none
  m_int : mg "int" = none
  m_isinstance : mg "isinstance" = none
  m_len : mg "len" = none
  m_max : mg "max" = none
  m_min : mg "min" = none
  m_range : mg "range" = none
  m_repr : mg "repr" = none
  m_str : mg "str" = none
  m_tuple : mg "tuple" = none
  t_MOST : Tok
  c_MOST : mg "MOST" = some (.int 1000000000 t_MOST)
  p_SIDES : Addr
  c_SIDES : mg "SIDES" = some (.ref p_SIDES)
  s_SIDES : ∀ H, SqT K H p_SIDES [.str "left", .str "right", .str "low", .str "high"]
  t_MOST_UNITS : Tok
  c_MOST_UNITS : mg "MOST_UNITS" = some (.int 1000 t_MOST_UNITS)
  t_MOST_WAY : Tok
  c_MOST_WAY : mg "MOST_WAY" = some (.int 1000000000 t_MOST_WAY)
  t_MOST_OTHERS : Tok
  c_MOST_OTHERS : mg "MOST_OTHERS" = some (.int 24 t_MOST_OTHERS)
  t_MOST_SIDE : Tok
  c_MOST_SIDE : mg "MOST_SIDE" = some (.int 40 t_MOST_SIDE)
  t_MOST_ARENA : Tok
  c_MOST_ARENA : mg "MOST_ARENA" = some (.int 400 t_MOST_ARENA)
  t_BOX_PARTS : Tok
  c_BOX_PARTS : mg "BOX_PARTS" = some (.int 4 t_BOX_PARTS)
  t_ARENA_PARTS : Tok
  c_ARENA_PARTS : mg "ARENA_PARTS" = some (.int 2 t_ARENA_PARTS)
  t_BORDER : Tok
  c_BORDER : mg "BORDER" = some (.int (-1) t_BORDER)
  p_WAYS : Addr
  c_WAYS : mg "WAYS" = some (.ref p_WAYS)
  p0_WAYS : Addr
  s0_WAYS : ∀ H, SqT K H p0_WAYS [.int 0, .int (-1)]
  k0_WAYS : KDct K w p_WAYS "left" (.ref p0_WAYS)
  p1_WAYS : Addr
  s1_WAYS : ∀ H, SqT K H p1_WAYS [.int 0, .int 1]
  k1_WAYS : KDct K w p_WAYS "right" (.ref p1_WAYS)
  p2_WAYS : Addr
  s2_WAYS : ∀ H, SqT K H p2_WAYS [.int 1, .int (-1)]
  k2_WAYS : KDct K w p_WAYS "low" (.ref p2_WAYS)
  p3_WAYS : Addr
  s3_WAYS : ∀ H, SqT K H p3_WAYS [.int 1, .int 1]
  k3_WAYS : KDct K w p_WAYS "high" (.ref p3_WAYS)
namespace Tp
variable {w : World} {K : PySem.W.Frag} {mg : Str → Option Value} (T : Tp w K mg)
theorem r_MOST : RelV (.int 1000000000) (.int 1000000000 T.t_MOST) := ⟨_, rfl⟩
theorem r_SIDES : RelV (.ref T.p_SIDES) (.ref T.p_SIDES) := rfl
theorem r_MOST_UNITS : RelV (.int 1000) (.int 1000 T.t_MOST_UNITS) := ⟨_, rfl⟩
theorem r_MOST_WAY : RelV (.int 1000000000) (.int 1000000000 T.t_MOST_WAY) := ⟨_, rfl⟩
theorem r_MOST_OTHERS : RelV (.int 24) (.int 24 T.t_MOST_OTHERS) := ⟨_, rfl⟩
theorem r_MOST_SIDE : RelV (.int 40) (.int 40 T.t_MOST_SIDE) := ⟨_, rfl⟩
theorem r_MOST_ARENA : RelV (.int 400) (.int 400 T.t_MOST_ARENA) := ⟨_, rfl⟩
theorem r_BOX_PARTS : RelV (.int 4) (.int 4 T.t_BOX_PARTS) := ⟨_, rfl⟩
theorem r_ARENA_PARTS : RelV (.int 2) (.int 2 T.t_ARENA_PARTS) := ⟨_, rfl⟩
theorem r_BORDER : RelV (.int (-1)) (.int (-1) T.t_BORDER) := ⟨_, rfl⟩
theorem r_WAYS : RelV (.ref T.p_WAYS) (.ref T.p_WAYS) := rfl
end Tp
/-! ### general: frames of the heap, the dice -/
/-- all that was tracked is as it was, but d -/
def Ext (d : Addr) (H H' : Hp) : Prop := ∀ b o, b ≠ d → H b = some o → H' b = some o
theorem Ext.refl (d : Addr) (H : Hp) : Ext d H H := fun _ _ _ h => h
theorem Ext.trans {d : Addr} {H H1 H2 : Hp} (a : Ext d H H1) (b : Ext d H1 H2) : Ext d H H2 := fun c o n h => b c o n (a c o n h)
theorem Ext.of {d : Addr} {H H' : Hp} (s : Same H H') : Ext d H H' := fun b o _ h => s b o h
theorem Ext.new {d p : Addr} {o : HO} {H : Hp} (h : H p = none) : Ext d H (upd H p o) := fun b u _ e => by
  rw [upd_ne (ne_of_none e h)]; exact e
theorem Ext.put {d : Addr} {o : HO} {H : Hp} : Ext d H (upd H d o) := fun b u n e => by
  rw [upd_ne n]; exact e
/-- d was not tracked ahead -/
theorem Ext.same {d : Addr} {H H' : Hp} (e : Ext d H H') (h : H d = none) : Same H H' := fun b o q => e b o (ne_of_none q h) q
theorem same_new {H : Hp} {p : Addr} {o : HO} (h : H p = none) : Same H (upd H p o) := fun b x e => by
  rw [upd_ne (ne_of_none e h)]; exact e
theorem Ext.at' {d a : Addr} {H H' : Hp} {o : HO} (e : Ext d H H') (n : a ≠ d) (h : H a = some o) : H' a = some o := e a o n h
theorem Ext.rd {d a : Addr} {H H' : Hp} {o : HO} (e : Ext d H H') (n : a ≠ d) (h : Rd H a o) : Rd H' a o := by
  rcases h with h | ⟨u, h⟩
  · exact .inl (e _ _ n h)
  · exact .inr ⟨u, e _ _ n h⟩
theorem Ext.sql {K : PySem.W.Frag} {d a : Addr} {H H' : Hp} {xs : List V} (e : Ext d H H') (n : a ≠ d) (h : SqL K H a xs) : SqL K H' a xs := by
  rcases h with h | h
  · exact .inl (e.rd n h)
  · exact .inr h
theorem same_sqt {K : PySem.W.Frag} {H H' : Hp} {a : Addr} {xs : List V} (e : Same H H') (h : SqT K H a xs) : SqT K H' a xs := by
  rcases h with (h | ⟨o, h⟩) | h
  · exact .inl (.inl (e _ _ h))
  · exact .inl (.inr ⟨o, e _ _ h⟩)
  · exact .inr h
theorem sql_ne {K : PySem.W.Frag} {d a : Addr} {H : Hp} {xs : List V} (h : Rd H a (.lst xs)) (n : H d = none) : a ≠ d := by
  rcases h with h | ⟨u, h⟩ <;> exact ne_of_none h n
theorem iteY {c A B : Prop} [Decidable c] (hc : c) (h : A) : if c then A else B := by rw [if_pos hc]; exact h
theorem iteN {c A B : Prop} [Decidable c] (hc : ¬ c) (h : B) : if c then A else B := by rw [if_neg hc]; exact h
theorem iteNT {A B : Prop} (h : B) : if (!true) = true then A else B := h
theorem iteNF {A B : Prop} (h : A) : if (!false) = true then A else B := h
theorem Ext.sqt {K : PySem.W.Frag} {d a : Addr} {H H' : Hp} {xs : List V} (e : Ext d H H') (n : a ≠ d) (h : SqT K H a xs) : SqT K H' a xs := by
  rcases h with h | h
  · exact .inl (e.rd n h)
  · exact .inr h
theorem Ext.mut {d a : Addr} {H H' : Hp} {o : HO} (e : Ext d H H') (n : H a = none) : Ext d H (upd H' a o) := fun b u nb hb => by
  rw [upd_ne (ne_of_none hb n)]
  exact e b u nb hb
/-- a wish that the short tactics leave alone -/
inductive Stp (p : Prop) : Prop where
  | of (h : p)
  | no (h : False)
theorem Stp.get {p : Prop} (h : Stp p) : p := by
  cases h with
  | of h => exact h
  | no h => exact h.elim
/-- the dice: three ints -/
def Dice (d : Addr) (H : Hp) : Prop := ∃ x y z : Int, H d = some (.lst [.int x, .int y, .int z])
theorem Dice.same {d : Addr} {H H' : Hp} (h : Dice d H) (s : Same H H') : Dice d H' := by
  obtain ⟨x, y, z, e⟩ := h
  exact ⟨x, y, z, s _ _ e⟩
theorem Dice.ne {d p : Addr} {H : Hp} (h : Dice d H) (n : H p = none) : p ≠ d := by
  obtain ⟨x, y, z, e⟩ := h
  exact (ne_of_none e n).symm
theorem Dice.new {d p : Addr} {o : HO} {H : Hp} (h : Dice d H) (n : H p = none) : Dice d (upd H p o) := h.same (same_new n)
theorem Dice.eq {d : Addr} {H : Hp} (x y z : Int) (h : H d = some (.lst [.int x, .int y, .int z])) : Dice d H := ⟨x, y, z, h⟩
theorem nn {x y : Int} (h : 0 ≤ x) (k : x < y) : -y < x ∧ x < y := ⟨by omega, k⟩
theorem Dice.ne_tup {d p : Addr} {H : Hp} {xs : List V} (h : Dice d H) (n : H p = some (.tup xs)) : p ≠ d := by
  obtain ⟨x, y, z, e⟩ := h
  exact ne_of n e (by intro z; cases z)
theorem Dice.put {d p : Addr} {o : HO} {H : Hp} (h : Dice d H) (n : p ≠ d) : Dice d (upd H p o) := by
  obtain ⟨x, y, z, e⟩ := h
  exact ⟨x, y, z, by rw [upd_ne (fun q => n q.symm)]; exact e⟩
/-- an int within bounds -/
def inB (lo hi : Int) : V → Bool
  | .int i => decide (lo ≤ i) && decide (i < hi)
  | _ => false
theorem inB_of {lo hi : Int} {v : V} (h : inB lo hi v = true) : ∃ i, v = .int i ∧ lo ≤ i ∧ i < hi := by
  cases v with
  | int i =>
    have h : (decide (lo ≤ i) && decide (i < hi)) = true := h
    rw [Bool.and_eq_true] at h
    exact ⟨i, rfl, of_decide_eq_true h.1, of_decide_eq_true h.2⟩
  | _ => exact absurd h (by intro z; cases z)
theorem inB_mem {lo hi : Int} {v : V} {xs : List V} (hv : v ∈ xs) (h : xs.all (inB lo hi) = true) : ∃ i, v = .int i ∧ lo ≤ i ∧ i < hi := inB_of (List.all_eq_true.mp h v hv)
/-! ### the dice's defs -/
def sp_l_dice (K : PySem.W.Frag) : Sp := fun vs H Q _ => ∃ (a : Addr) (ns : List Int) (k : Int), vs = [.ref a, .int k] ∧ SqL K H a (ns.map V.int) ∧ 0 ≤ k ∧ k < 1000 ∧
  ∀ d H', H d = none → Dice d H' → Same H H' → Q (.ref d) H'
def sp_l_roll (_ : PySem.W.Frag) : Sp := fun vs H Q _ => ∃ (d : Addr) (n : Int), vs = [.ref d, .int n] ∧ 0 < n ∧ n < 2 ^ 250 ∧ Dice d H ∧
  ∀ r H', 0 ≤ r → r < n → Dice d H' → Ext d H H' → Q (.int r) H'
def sp_l_pick (K : PySem.W.Frag) : Sp := fun vs H Q _ => ∃ (d a : Addr) (xs : List V), vs = [.ref d, .ref a] ∧ SqL K H a xs ∧ a ≠ d ∧ 0 < xs.length ∧ xs.length < 1000 ∧ Dice d H ∧
  ∀ v H', v ∈ xs → Dice d H' → Ext d H H' → Q v H'
def sp_l_near (_ : PySem.W.Frag) : Sp := fun vs H Q _ => ∃ (d : Addr) (m : Int), vs = [.ref d, .int m] ∧ 0 ≤ m ∧ m < 2 ^ 240 ∧ Dice d H ∧
  ∀ r H', -m ≤ r → r ≤ m → Dice d H' → Ext d H H' → Q (.int r) H'

/-! ### judged values -/
inductive Jd (K : PySem.W.Frag) (H : Hp) : V → Prop where
  | non : Jd K H .non
  | bl (b : Bool) : Jd K H (.bl b)
  | int (i : Int) : Jd K H (.int i)
  | str (x : Str) : Jd K H (.str x)
  | lst {a : Addr} {xs : List V} (e : H a = some (.lst xs)) : Jd K H (.ref a)
  | tup {a : Addr} {xs : List V} (e : H a = some (.tup xs)) : Jd K H (.ref a)
  | dK {a : Addr} {kvs : List (Key × V)} (e : H a = some (.dK kvs)) : Jd K H (.ref a)
@[reducible] def isI : V → Bool
  | .int _ => true
  | _ => false
@[reducible] def isB : V → Bool
  | .bl _ => true
  | _ => false
@[reducible] def isS : V → Bool
  | .str _ => true
  | _ => false
theorem Jd.ty {K : PySem.W.Frag} {H : Hp} {x : V} (j : Jd K H x) : ∃ n, TyX K H x (.type n) ∧ kitB n "int" = some (isI x || isB x) ∧ kitB n "bool" = some (isB x) ∧ kitB n "str" = some (isS x) := by
  cases j with
  | non => exact ⟨_, .base .non, by decide +kernel, by decide +kernel, by decide +kernel⟩
  | bl b => exact ⟨_, .base (.bl b), by show kitB "bool" "int" = some true; decide +kernel, by show kitB "bool" "bool" = some true; decide +kernel, by show kitB "bool" "str" = some false; decide +kernel⟩
  | int i => exact ⟨_, .base (.int i), by show kitB "int" "int" = some true; decide +kernel, by show kitB "int" "bool" = some false; decide +kernel, by show kitB "int" "str" = some false; decide +kernel⟩
  | str x => exact ⟨_, .base (.str x), by show kitB "str" "int" = some false; decide +kernel, by show kitB "str" "bool" = some false; decide +kernel, by show kitB "str" "str" = some true; decide +kernel⟩
  | lst e => exact ⟨_, .base (.lst e), by show kitB "list" "int" = some false; decide +kernel, by show kitB "list" "bool" = some false; decide +kernel, by show kitB "list" "str" = some false; decide +kernel⟩
  | tup e => exact ⟨_, .base (.tup e), by show kitB "tuple" "int" = some false; decide +kernel, by show kitB "tuple" "bool" = some false; decide +kernel, by show kitB "tuple" "str" = some false; decide +kernel⟩
  | dK e => exact ⟨_, .base (.dK e), by show kitB "dict" "int" = some false; decide +kernel, by show kitB "dict" "bool" = some false; decide +kernel, by show kitB "dict" "str" = some false; decide +kernel⟩
theorem Jd.same {K : PySem.W.Frag} {H H' : Hp} {x : V} (j : Jd K H x) (s : Same H H') : Jd K H' x := by
  cases j with
  | non => exact .non
  | bl b => exact .bl b
  | int i => exact .int i
  | str x => exact .str x
  | lst e => exact .lst (s _ _ e)
  | tup e => exact .tup (s _ _ e)
  | dK e => exact .dK (s _ _ e)
def shortB : V → Bool
  | .int i => decide (-(10 ^ 60) < i) && decide (i < 10 ^ 60)
  | _ => false
def fromB : V → Int → Int → Bool
  | .int i, a, b => decide (a ≤ i) && decide (i ≤ b)
  | _, _, _ => false
def sp_is_whole (K : PySem.W.Frag) : Sp := fun vs H Q _ => ∃ x, vs = [x] ∧ Jd K H x ∧ Q (.bl (isI x)) H
def sp_is_short (K : PySem.W.Frag) : Sp := fun vs H Q _ => ∃ x, vs = [x] ∧ Jd K H x ∧ Q (.bl (shortB x)) H
def sp_is_from (K : PySem.W.Frag) : Sp := fun vs H Q _ => ∃ x a b, vs = [x, .int a, .int b] ∧ Jd K H x ∧ Q (.bl (fromB x a b)) H
theorem and_t {a b : Bool} {F : Bool → Prop} (q : F (a && b)) (e : a = true) : F b := by
  subst e
  exact q
theorem and_f {a b : Bool} {F : Bool → Prop} (q : F (a && b)) (e : ¬ a = true) : F false := by
  have e := eq_false_of_ne_true e
  subst e
  exact q

/-! ### further rules -/
section
variable {X : Cx} {pos : Pos}
def tIfT (t ta tb : TT) : TT := fun σ H Q => t σ H fun c H1 => if c = true then ta σ H1 Q else tb σ H1 Q
theorem pt_ifE {c a b : Expr} {tc ta tb : TT} (hc : PT X c tc) (ha : PT X a ta) (hb : PT X b tb) : PT X (.IfExp c a b pos) (tIfT tc ta tb) := by
  refine ⟨fun pins s σ H Q I h => ?_⟩
  refine isTrue_IfExp (thn (hc.run pins s σ H _ I h) fun d s1 ⟨H1, I1, q1⟩ => ?_)
  cases d with
  | true => exact ha.run pins s1 σ H1 Q I1 q1
  | false => exact hb.run pins s1 σ H1 Q I1 q1
end

/-! ### boxes -/
structure Bx where
  x : Int
  y : Int
  w : Int
  h : Int
namespace Bx
def vs (b : Bx) : List V := [.int b.x, .int b.y, .int b.w, .int b.h]
def p (b : Bx) (k : Int) : Int := if k = 0 then b.x else b.y
def s (b : Bx) (k : Int) : Int := if k = 0 then b.w else b.h
/-- the bounds of the program -/
def fit (b : Bx) : Prop := (-1000000000 ≤ b.x ∧ b.x ≤ 1000000000) ∧ (-1000000000 ≤ b.y ∧ b.y ≤ 1000000000) ∧ (1 ≤ b.w ∧ b.w ≤ 40) ∧ (1 ≤ b.h ∧ b.h ≤ 40)
def pos (b : Bx) : Prop := 1 ≤ b.w ∧ 1 ≤ b.h
theorem fit.pos {b : Bx} (f : b.fit) : b.pos := ⟨f.2.2.1.1, f.2.2.2.1⟩
end Bx
def shB (o q : Bx) (k : Int) : Bool := decide (o.p k < q.p k + q.s k) && decide (q.p k < o.p k + o.s k)
def grow (o : Bx) (g : Int) : Bx := ⟨o.x - g, o.y - g, o.w + 2 * g, o.h + 2 * g⟩
def meB (o q : Bx) : Bool := decide (min o.w o.h > 0) && (shB o q 0 && shB o q 1)
def shift (o : Bx) (k u : Int) : Bx := if k = 0 then ⟨o.x + u, o.y, o.w, o.h⟩ else ⟨o.x, o.y + u, o.w, o.h⟩
def sweep (o : Bx) (k s m : Int) : Bx := if k = 0 then ⟨if s < 0 then o.x - m else o.x, o.y, o.w + m, o.h⟩ else ⟨o.x, if s < 0 then o.y - m else o.y, o.w, o.h + m⟩
def gapI (o q : Bx) (k s : Int) : Int := if s < 0 then o.p k - q.p k - q.s k else q.p k - o.p k - o.s k
def arI (A0 A1 k : Int) : Int := if k = 0 then A0 else A1
def borX (A0 A1 : Int) (o : Bx) (k s : Int) : Int := if s < 0 then o.p k else arI A0 A1 k - o.p k - o.s k
def borI (A0 A1 : Int) (o : Bx) (k s : Int) : Int := if borX A0 A1 o k s > 0 then borX A0 A1 o k s else 0
def beyB (A0 A1 : Int) (o : Bx) (k s : Int) : Bool := if s < 0 then decide (o.p k < 0) else decide (o.p k + o.s k > arI A0 A1 k)
def newB (t o q : Bx) : Bool := meB t q && !meB o q
/-- a way: an axis and a sign -/
def Wy (k s : Int) : Prop := (k = 0 ∨ k = 1) ∧ (s = -1 ∨ s = 1)
/-- m units are free -/
def Fr (A0 A1 : Int) (o : Bx) (os : List Bx) (k s m : Int) : Prop := (∀ q ∈ os, shB o q (1 - k) = true → 0 ≤ gapI o q k s → m ≤ gapI o q k s) ∧ m ≤ borI A0 A1 o k s
/-- r is the furthest free way of at most m -/
def IsF (A0 A1 : Int) (o : Bx) (os : List Bx) (k s m r : Int) : Prop := 0 ≤ r ∧ r ≤ m ∧ Fr A0 A1 o os k s r ∧ (r = m ∨ ¬ Fr A0 A1 o os k s (r + 1))
theorem Fr.down {A0 A1 : Int} {o : Bx} {os : List Bx} {k s m n : Int} (f : Fr A0 A1 o os k s m) (h : n ≤ m) : Fr A0 A1 o os k s n :=
  ⟨fun q hq h1 h2 => Int.le_trans h (f.1 q hq h1 h2), Int.le_trans h f.2⟩
theorem borI_nn (A0 A1 : Int) (o : Bx) (k s : Int) : 0 ≤ borI A0 A1 o k s := by
  unfold borI
  split <;> omega
theorem Fr.zero (A0 A1 : Int) (o : Bx) (os : List Bx) (k s : Int) : Fr A0 A1 o os k s 0 := ⟨fun _ _ _ h => h, borI_nn _ _ _ _ _⟩
theorem IsF.uniq {A0 A1 : Int} {o : Bx} {os : List Bx} {k s m r t : Int} (a : IsF A0 A1 o os k s m r) (b : IsF A0 A1 o os k s m t) : r = t := by
  obtain ⟨a1, a2, a3, a4⟩ := a
  obtain ⟨b1, b2, b3, b4⟩ := b
  rcases Int.lt_trichotomy r t with h | h | h
  · rcases a4 with a4 | a4
    · omega
    · exact absurd (b3.down (by omega)) a4
  · exact h
  · rcases b4 with b4 | b4
    · omega
    · exact absurd (a3.down (by omega)) b4
/-- of a least one -/
theorem IsF.of_min {A0 A1 : Int} {o : Bx} {os : List Bx} {k s m r : Int} (m0 : 0 ≤ m) (h1 : r ≤ m) (h2 : r ≤ borI A0 A1 o k s) (h3 : ∀ q ∈ os, shB o q (1 - k) = true → 0 ≤ gapI o q k s → r ≤ gapI o q k s)
    (h : r = m ∨ r = borI A0 A1 o k s ∨ ∃ q ∈ os, shB o q (1 - k) = true ∧ 0 ≤ gapI o q k s ∧ r = gapI o q k s) : IsF A0 A1 o os k s m r := by
  have b0 := borI_nn A0 A1 o k s
  refine ⟨?_, h1, ⟨h3, h2⟩, ?_⟩
  · rcases h with h | h | ⟨q, _, _, h4, h⟩ <;> omega
  · rcases h with h | h | ⟨q, hq, h4, h5, h⟩
    · exact .inl h
    · exact .inr fun z => by have := z.2; omega
    · exact .inr fun z => by have := z.1 q hq h4 h5; omega
theorem bool_iff {a b : Bool} (h : a = true ↔ b = true) : a = b := by
  cases a <;> cases b <;> simp_all
theorem new_step {o q : Bx} {k s u : Int} (ho : o.pos) (hq : q.pos) (w : Wy k s) (hu : 0 ≤ u) : newB (shift o k (s * (u + 1))) (shift o k (s * u)) q = true ↔ shB o q (1 - k) = true ∧ gapI o q k s = u := by
  obtain ⟨o1, o2⟩ := ho
  obtain ⟨q1, q2⟩ := hq
  obtain ⟨rfl | rfl, rfl | rfl⟩ := w <;> simp only [newB, meB, shB, shift, gapI, Bx.p, Bx.s, Bool.and_eq_true, Bool.not_eq_true', Bool.and_eq_false_iff, decide_eq_true_eq, decide_eq_false_iff_not, if_true, reduceIte, Int.reduceSub, Int.reduceEq, Int.reduceLT, Int.reduceNeg, Int.one_mul, Int.neg_mul] <;> omega
theorem new_sweep {o q : Bx} {k s m : Int} (ho : o.pos) (hq : q.pos) (w : Wy k s) (hu : 0 ≤ m) : newB (sweep o k s m) o q = true ↔ shB o q (1 - k) = true ∧ 0 ≤ gapI o q k s ∧ gapI o q k s < m := by
  obtain ⟨o1, o2⟩ := ho
  obtain ⟨q1, q2⟩ := hq
  obtain ⟨rfl | rfl, rfl | rfl⟩ := w <;> simp only [newB, meB, shB, sweep, gapI, Bx.p, Bx.s, Bool.and_eq_true, Bool.not_eq_true', Bool.and_eq_false_iff, decide_eq_true_eq, decide_eq_false_iff_not, if_true, reduceIte, Int.reduceSub, Int.reduceEq, Int.reduceLT, Int.reduceNeg, Int.one_mul, Int.neg_mul] <;> omega
theorem bey_step {A0 A1 : Int} {o : Bx} {k s u : Int} (w : Wy k s) (hu : 0 ≤ u) : beyB A0 A1 (shift o k (s * (u + 1))) k s = true ↔ ¬ u + 1 ≤ borI A0 A1 o k s := by
  obtain ⟨rfl | rfl, rfl | rfl⟩ := w <;> simp only [beyB, borI, borX, arI, shift, Bx.p, Bx.s, Int.reduceEq, Int.reduceLT, Int.reduceNeg, if_true, if_false, reduceIte, decide_eq_true_eq, Int.one_mul, Int.neg_mul, gt_iff_lt] <;> split <;> omega
/-- what stands at u: none free one further -/
theorem step_iff {A0 A1 : Int} {o : Bx} {os : List Bx} {k s u : Int} (ho : o.pos) (hos : ∀ q ∈ os, q.pos) (w : Wy k s) (hu : 0 ≤ u) (f : Fr A0 A1 o os k s u) :
    ¬ Fr A0 A1 o os k s (u + 1) ↔ (∃ q ∈ os, newB (shift o k (s * (u + 1))) (shift o k (s * u)) q = true) ∨ beyB A0 A1 (shift o k (s * (u + 1))) k s = true := by
  rw [bey_step w hu]
  constructor
  · intro h
    by_cases c : u + 1 ≤ borI A0 A1 o k s
    · refine .inl ?_
      refine Classical.byContradiction fun z => h ⟨fun q hq h1 h2 => ?_, c⟩
      have h3 := f.1 q hq h1 h2
      rcases Int.lt_or_eq_of_le h3 with h4 | h4
      · omega
      · exact absurd ⟨q, hq, (new_step ho (hos q hq) w hu).mpr ⟨h1, h4.symm⟩⟩ z
    · exact .inr c
  · rintro (⟨q, hq, h⟩ | h) g
    · obtain ⟨h1, h2⟩ := (new_step ho (hos q hq) w hu).mp h
      have := g.1 q hq h1 (by omega)
      omega
    · exact h g.2
/-- the law's own test -/
theorem free_iff {A0 A1 : Int} {o : Bx} {os : List Bx} {k s m : Int} (ho : o.pos) (hos : ∀ q ∈ os, q.pos) (w : Wy k s) (hm : 0 ≤ m) :
    Fr A0 A1 o os k s m ↔ (∀ q ∈ os, newB (sweep o k s m) o q = false) ∧ (m = 0 ∨ beyB A0 A1 (shift o k (s * m)) k s = false) := by
  have e : (m = 0 ∨ beyB A0 A1 (shift o k (s * m)) k s = false) ↔ m ≤ borI A0 A1 o k s := by
    rcases Int.lt_or_eq_of_le hm with h | h
    · have e := bey_step (A0 := A0) (A1 := A1) (o := o) w (show 0 ≤ m - 1 by omega)
      rw [show m - 1 + 1 = m by omega] at e
      cases c : beyB A0 A1 (shift o k (s * m)) k s with
      | true => 
        have := e.mp c
        refine ⟨fun z => ?_, fun z => absurd z this⟩
        rcases z with z | z
        · omega
        · cases z
      | false =>
        refine ⟨fun _ => Classical.byContradiction fun z => ?_, fun _ => .inr rfl⟩
        have := e.mpr z
        rw [c] at this
        cases this
    · subst h
      exact ⟨fun _ => borI_nn _ _ _ _ _, fun _ => .inl rfl⟩
  rw [e]
  refine and_congr ⟨fun h q hq => ?_, fun h q hq h1 h2 => ?_⟩ Iff.rfl
  · refine eq_false_of_ne_true fun z => ?_
    obtain ⟨h1, h2, h3⟩ := (new_sweep ho (hos q hq) w hm).mp z
    have := h q hq h1 h2
    omega
  · refine Classical.byContradiction fun z => ?_
    have h3 := (new_sweep ho (hos q hq) w hm).mpr ⟨h1, h2, by omega⟩
    rw [h q hq] at h3
    cases h3
/-- what bars: the first other that is newly met, the border, nothing -/
def IsBar (A0 A1 : Int) (o : Bx) (os : List Bx) (k s : Int) (v : V) : Prop :=
  (∃ (i : Nat) (q : Bx), os[i]? = some q ∧ newB (shift o k s) o q = true ∧ (∀ (j : Nat) (r : Bx), j < i → os[j]? = some r → newB (shift o k s) o r = false) ∧ v = .int i) ∨
  ((∀ q ∈ os, newB (shift o k s) o q = false) ∧ beyB A0 A1 (shift o k s) k s = true ∧ v = .int (-1)) ∨
  ((∀ q ∈ os, newB (shift o k s) o q = false) ∧ beyB A0 A1 (shift o k s) k s = false ∧ v = .non)
theorem mem_of_at {α : Type} {l : List α} {i : Nat} {x : α} (h : l[i]? = some x) : x ∈ l := List.mem_of_getElem? h
theorem IsBar.uniq {A0 A1 : Int} {o : Bx} {os : List Bx} {k s : Int} {v u : V} (a : IsBar A0 A1 o os k s v) (b : IsBar A0 A1 o os k s u) : v = u := by
  rcases a with ⟨i, q, a1, a2, a3, a4⟩ | ⟨a1, a2, a3⟩ | ⟨a1, a2, a3⟩ <;> rcases b with ⟨j, r, b1, b2, b3, b4⟩ | ⟨b1, b2, b3⟩ | ⟨b1, b2, b3⟩
  · rcases Nat.lt_trichotomy i j with h | h | h
    · rw [b3 i q h a1] at a2; cases a2
    · rw [a4, b4, h]
    · rw [a3 j r h b1] at b2; cases b2
  · rw [b1 q (mem_of_at a1)] at a2; cases a2
  · rw [b1 q (mem_of_at a1)] at a2; cases a2
  · rw [a1 r (mem_of_at b1)] at b2; cases b2
  · rw [a3, b3]
  · rw [a2] at b2; cases b2
  · rw [a1 r (mem_of_at b1)] at b2; cases b2
  · rw [a2] at b2; cases b2
  · rw [a3, b3]
/-- what bars behind the furthest free way -/
def IsBr (A0 A1 : Int) (o : Bx) (os : List Bx) (k s m : Int) (v : V) : Prop := ∃ r, IsF A0 A1 o os k s m r ∧ ((r = m ∧ v = .non) ∨ (r ≠ m ∧ IsBar A0 A1 (shift o k (s * r)) os k s v))
theorem IsBr.uniq {A0 A1 : Int} {o : Bx} {os : List Bx} {k s m : Int} {v u : V} (a : IsBr A0 A1 o os k s m v) (b : IsBr A0 A1 o os k s m u) : v = u := by
  obtain ⟨r, a1, a2⟩ := a
  obtain ⟨t, b1, b2⟩ := b
  obtain rfl := a1.uniq b1
  rcases a2 with ⟨a2, a3⟩ | ⟨a2, a3⟩ <;> rcases b2 with ⟨b2, b3⟩ | ⟨b2, b3⟩
  · rw [a3, b3]
  · exact absurd a2 b2
  · exact absurd b2 a2
  · exact a3.uniq b3
theorem shift_shift {o : Bx} {k s r : Int} : shift (shift o k (s * r)) k s = shift o k (s * (r + 1)) := by
  unfold shift
  by_cases h : k = 0
  · simp only [h, if_true, Bx.mk.injEq, Int.mul_add, Int.mul_one, and_true]; omega
  · simp only [h, if_false, Bx.mk.injEq, Int.mul_add, Int.mul_one, and_true, true_and]; omega
def sg (u : Int) : Int := if u < 0 then -1 else 1
def ab (u : Int) : Int := if u < 0 then -u else u
theorem ab_nn (u : Int) : 0 ≤ ab u := by unfold ab; split <;> omega
theorem sg_wy {k : Int} (u : Int) (h : k = 0 ∨ k = 1) : Wy k (sg u) := ⟨h, by unfold sg; split <;> omega⟩
/-- a box moved both ways -/
def IsMv (A0 A1 : Int) (o : Bx) (os : List Bx) (dx dy : Int) (q : Bx) : Prop := ∃ r t, IsF A0 A1 o os 0 (sg dx) (ab dx) r ∧ IsF A0 A1 (shift o 0 (sg dx * r)) os 1 (sg dy) (ab dy) t ∧ q = shift (shift o 0 (sg dx * r)) 1 (sg dy * t)
theorem IsMv.uniq {A0 A1 : Int} {o : Bx} {os : List Bx} {dx dy : Int} {q q' : Bx} (a : IsMv A0 A1 o os dx dy q) (b : IsMv A0 A1 o os dx dy q') : q = q' := by
  obtain ⟨r, t, a1, a2, rfl⟩ := a
  obtain ⟨r', t', b1, b2, rfl⟩ := b
  obtain rfl := a1.uniq b1
  obtain rfl := a2.uniq b2
  rfl
theorem shift_pos {o : Bx} {k u : Int} (h : o.pos) : (shift o k u).pos := by
  unfold shift
  split <;> exact h
/-- the law's names of the ways -/
inductive Sd : Str → Int → Int → Prop where
  | left : Sd "left" 0 (-1)
  | right : Sd "right" 0 1
  | low : Sd "low" 1 (-1)
  | high : Sd "high" 1 1
theorem Sd.wy {z : Str} {k s : Int} (h : Sd z k s) : Wy k s := by
  cases h
  · exact ⟨.inl rfl, .inl rfl⟩
  · exact ⟨.inl rfl, .inr rfl⟩
  · exact ⟨.inr rfl, .inl rfl⟩
  · exact ⟨.inr rfl, .inr rfl⟩

/-! ### the defs' promises -/
/-- a tuple of boxes -/
def Bxs (K : PySem.W.Frag) (H : Hp) (a : Addr) (os : List Bx) : Prop := ∃ rs : List Addr, SqT K H a (rs.map V.ref) ∧ rs.length = os.length ∧ ∀ (i : Nat) (r : Addr), rs[i]? = some r → ∃ o, os[i]? = some o ∧ SqT K H r o.vs
theorem Bxs.same {K : PySem.W.Frag} {H H' : Hp} {a : Addr} {os : List Bx} (b : Bxs K H a os) (s : Same H H') : Bxs K H' a os := by
  obtain ⟨rs, h1, h2, h3⟩ := b
  refine ⟨rs, same_sqt s h1, h2, fun i r hr => ?_⟩
  obtain ⟨o, h4, h5⟩ := h3 i r hr
  exact ⟨o, h4, same_sqt s h5⟩
theorem Ext.sqtD {K : PySem.W.Frag} {d a : Addr} {H H' : Hp} {xs : List V} (e : Ext d H H') (D : Dice d H) (h : SqT K H a xs) : SqT K H' a xs := by
  obtain ⟨x, y, z, hd⟩ := D
  rcases h with (h | ⟨o, h⟩) | h
  · exact .inl (.inl (e _ _ (ne_of h hd (by intro z; cases z)) h))
  · exact .inl (.inr ⟨o, e _ _ (ne_of h hd (by intro z; cases z)) h⟩)
  · exact .inr h
theorem Bxs.ext {K : PySem.W.Frag} {d : Addr} {H H' : Hp} {a : Addr} {os : List Bx} (b : Bxs K H a os) (e : Ext d H H') (D : Dice d H) : Bxs K H' a os := by
  obtain ⟨rs, h1, h2, h3⟩ := b
  refine ⟨rs, e.sqtD D h1, h2, fun i r hr => ?_⟩
  obtain ⟨o, h4, h5⟩ := h3 i r hr
  exact ⟨o, h4, e.sqtD D h5⟩
def sp_require_from (_ : PySem.W.Frag) : Sp := fun vs H Q _ => ∃ i a b, vs = [.int i, .int a, .int b] ∧ a ≤ i ∧ i ≤ b ∧ Q .non H
def sp_is_number (K : PySem.W.Frag) : Sp := fun vs H Q _ => ∃ x, vs = [x] ∧ Jd K H x ∧ Q (.bl (fromB x (-1000000000) 1000000000)) H
def sp_do_share (K : PySem.W.Frag) : Sp := fun vs H Q _ => ∃ (a b : Addr) (k : Int) (o q : Bx), vs = [.ref a, .ref b, .int k] ∧ SqT K H a o.vs ∧ SqT K H b q.vs ∧ (k = 0 ∨ k = 1) ∧ Q (.bl (shB o q k)) H
def sp_are_meeting_in (K : PySem.W.Frag) : Sp := fun vs H Q _ => ∃ (a b : Addr) (g : Int) (o q : Bx), vs = [.ref a, .ref b, .int g] ∧ SqT K H a o.vs ∧ SqT K H b q.vs ∧ (-1000000000 ≤ g ∧ g ≤ 1000000000) ∧ ∀ H', Same H H' → Q (.bl (meB (grow o g) q)) H'
def sp_shifted (K : PySem.W.Frag) : Sp := fun vs H Q _ => ∃ (a : Addr) (k u : Int) (o : Bx), vs = [.ref a, .int k, .int u] ∧ SqT K H a o.vs ∧ (k = 0 ∨ k = 1) ∧ ∀ p H', Same H H' → SqT K H' p (shift o k u).vs → Q (.ref p) H'
def sp_gap_between (K : PySem.W.Frag) : Sp := fun vs H Q _ => ∃ (a b c : Addr) (k s : Int) (o q : Bx), vs = [.ref a, .ref b, .ref c] ∧ SqT K H a o.vs ∧ SqT K H b q.vs ∧ SqT K H c [.int k, .int s] ∧ (k = 0 ∨ k = 1) ∧ Q (.int (gapI o q k s)) H
def sp_border_gap (K : PySem.W.Frag) : Sp := fun vs H Q _ => ∃ (r a c : Addr) (A0 A1 k s : Int) (o : Bx), vs = [.ref r, .ref a, .ref c] ∧ SqT K H r [.int A0, .int A1] ∧ SqT K H a o.vs ∧ SqT K H c [.int k, .int s] ∧ (k = 0 ∨ k = 1) ∧ Q (.int (borI A0 A1 o k s)) H
def sp_reach_in (K : PySem.W.Frag) : Sp := fun vs H Q _ => ∃ (r a b c : Addr) (m A0 A1 k s : Int) (o : Bx) (os : List Bx), vs = [.ref r, .ref a, .ref b, .ref c, .int m] ∧ SqT K H r [.int A0, .int A1] ∧ SqT K H a o.vs ∧ Bxs K H b os ∧ os.length ≤ 24 ∧ SqT K H c [.int k, .int s] ∧ (k = 0 ∨ k = 1) ∧ 0 ≤ m ∧
  ∀ x H', IsF A0 A1 o os k s m x → Same H H' → Q (.int x) H'
def sp_is_beyond (K : PySem.W.Frag) : Sp := fun vs H Q _ => ∃ (r a c : Addr) (A0 A1 k s : Int) (o : Bx), vs = [.ref r, .ref a, .ref c] ∧ SqT K H r [.int A0, .int A1] ∧ SqT K H a o.vs ∧ SqT K H c [.int k, .int s] ∧ (k = 0 ∨ k = 1) ∧ Q (.bl (beyB A0 A1 o k s)) H
def sp_bar_in (K : PySem.W.Frag) : Sp := fun vs H Q _ => ∃ (r a b c : Addr) (A0 A1 k s : Int) (o : Bx) (os : List Bx), vs = [.ref r, .ref a, .ref b, .ref c] ∧ SqT K H r [.int A0, .int A1] ∧ SqT K H a o.vs ∧ Bxs K H b os ∧ os.length ≤ 24 ∧ SqT K H c [.int k, .int s] ∧ (k = 0 ∨ k = 1) ∧
  ∀ v H', IsBar A0 A1 o os k s v → Same H H' → Q v H'
def sp_way_of (K : PySem.W.Frag) : Sp := fun vs H Q _ => ∃ (k u : Int), vs = [.int k, .int u] ∧ ∀ p H', Same H H' → SqT K H' p [.int k, .int (sg u)] → Q (.ref p) H'
def sp_moved_along (K : PySem.W.Frag) : Sp := fun vs H Q _ => ∃ (r a b : Addr) (k u A0 A1 : Int) (o : Bx) (os : List Bx), vs = [.ref r, .ref a, .ref b, .int k, .int u] ∧ SqT K H r [.int A0, .int A1] ∧ SqT K H a o.vs ∧ Bxs K H b os ∧ os.length ≤ 24 ∧ (k = 0 ∨ k = 1) ∧ (-1000000000 ≤ u ∧ u ≤ 1000000000) ∧
  ∀ x p H', IsF A0 A1 o os k (sg u) (ab u) x → Same H H' → SqT K H' p (shift o k (sg u * x)).vs → Q (.ref p) H'
/-- an arena, a box, others as the program wants them -/
structure Wld (K : PySem.W.Frag) (H : Hp) (r a b : Addr) (A0 A1 : Int) (o : Bx) (os : List Bx) : Prop where
  r : SqT K H r [.int A0, .int A1]
  a : SqT K H a o.vs
  b : Bxs K H b os
  n : os.length ≤ 24
  ar : (1 ≤ A0 ∧ A0 ≤ 400) ∧ (1 ≤ A1 ∧ A1 ≤ 400)
  o : o.fit
  os : ∀ q ∈ os, q.fit
theorem Wld.same {K : PySem.W.Frag} {H H' : Hp} {r a b : Addr} {A0 A1 : Int} {o : Bx} {os : List Bx} (W : Wld K H r a b A0 A1 o os) (s : Same H H') : Wld K H' r a b A0 A1 o os :=
  ⟨same_sqt s W.r, same_sqt s W.a, W.b.same s, W.n, W.ar, W.o, W.os⟩
theorem Wld.ext {K : PySem.W.Frag} {H H' : Hp} {d r a b : Addr} {A0 A1 : Int} {o : Bx} {os : List Bx} (W : Wld K H r a b A0 A1 o os) (e : Ext d H H') (D : Dice d H) : Wld K H' r a b A0 A1 o os :=
  ⟨e.sqtD D W.r, e.sqtD D W.a, W.b.ext e D, W.n, W.ar, W.o, W.os⟩
theorem Wld.pos {K : PySem.W.Frag} {H : Hp} {r a b : Addr} {A0 A1 : Int} {o : Bx} {os : List Bx} (W : Wld K H r a b A0 A1 o os) : ∀ q ∈ os, q.pos := fun q hq => (W.os q hq).pos
def sp_moved_box_in (K : PySem.W.Frag) : Sp := fun vs H Q _ => ∃ (r a b : Addr) (dx dy A0 A1 : Int) (o : Bx) (os : List Bx), vs = [.ref r, .ref a, .ref b, .int dx, .int dy] ∧ Wld K H r a b A0 A1 o os ∧ (-1000000000 ≤ dx ∧ dx ≤ 1000000000) ∧ (-1000000000 ≤ dy ∧ dy ≤ 1000000000) ∧
  ∀ q p H', IsMv A0 A1 o os dx dy q → Same H H' → SqT K H' p q.vs → Q (.ref p) H'
def sp_is_box (K : PySem.W.Frag) : Sp := fun vs H Q _ => ∃ (a : Addr) (o : Bx), vs = [.ref a] ∧ SqT K H a o.vs ∧ o.fit ∧ ∀ H', Same H H' → Q (.bl true) H'
def sp_require_arena (K : PySem.W.Frag) : Sp := fun vs H Q _ => ∃ (r : Addr) (A0 A1 : Int), vs = [.ref r] ∧ SqT K H r [.int A0, .int A1] ∧ (1 ≤ A0 ∧ A0 ≤ 400) ∧ (1 ≤ A1 ∧ A1 ≤ 400) ∧ ∀ H', Same H H' → Q .non H'
def sp_require_box (K : PySem.W.Frag) : Sp := fun vs H Q _ => ∃ (a : Addr) (o : Bx), vs = [.ref a] ∧ SqT K H a o.vs ∧ o.fit ∧ ∀ H', Same H H' → Q .non H'
def sp_require_others (K : PySem.W.Frag) : Sp := fun vs H Q _ => ∃ (b : Addr) (os : List Bx), vs = [.ref b] ∧ Bxs K H b os ∧ os.length ≤ 24 ∧ (∀ q ∈ os, q.fit) ∧ ∀ H', Same H H' → Q .non H'
def sp_require_any_number (_ : PySem.W.Frag) : Sp := fun vs H Q _ => ∃ (g : Int), vs = [.int g] ∧ (-1000000000 ≤ g ∧ g ≤ 1000000000) ∧ Q .non H
def sp_require_way (K : PySem.W.Frag) : Sp := fun vs H Q _ => ∃ (r a b : Addr) (z : Str) (m A0 A1 k s : Int) (o : Bx) (os : List Bx), vs = [.ref r, .ref a, .ref b, .str z, .int m] ∧ Wld K H r a b A0 A1 o os ∧ Sd z k s ∧ (0 ≤ m ∧ m ≤ 1000000000) ∧ ∀ H', Same H H' → Q .non H'
def sp_are_meeting (K : PySem.W.Frag) : Sp := fun vs H Q _ => ∃ (a b : Addr) (g : Int) (o q : Bx), vs = [.ref a, .ref b, .int g] ∧ SqT K H a o.vs ∧ SqT K H b q.vs ∧ o.fit ∧ q.fit ∧ (-1000000000 ≤ g ∧ g ≤ 1000000000) ∧ ∀ H', Same H H' → Q (.bl (meB (grow o g) q)) H'
def sp_reach (K : PySem.W.Frag) : Sp := fun vs H Q _ => ∃ (r a b : Addr) (z : Str) (m A0 A1 k s : Int) (o : Bx) (os : List Bx), vs = [.ref r, .ref a, .ref b, .str z, .int m] ∧ Wld K H r a b A0 A1 o os ∧ Sd z k s ∧ (0 ≤ m ∧ m ≤ 1000000000) ∧ ∀ x H', IsF A0 A1 o os k s m x → Same H H' → Q (.int x) H'
def sp_reach_by_units (K : PySem.W.Frag) : Sp := fun vs H Q _ => ∃ (r a b : Addr) (z : Str) (m A0 A1 k s : Int) (o : Bx) (os : List Bx), vs = [.ref r, .ref a, .ref b, .str z, .int m] ∧ Wld K H r a b A0 A1 o os ∧ Sd z k s ∧ (0 ≤ m ∧ m ≤ 1000) ∧ ∀ x H', IsF A0 A1 o os k s m x → Same H H' → Q (.int x) H'
def sp_barrier (K : PySem.W.Frag) : Sp := fun vs H Q _ => ∃ (r a b : Addr) (z : Str) (m A0 A1 k s : Int) (o : Bx) (os : List Bx), vs = [.ref r, .ref a, .ref b, .str z, .int m] ∧ Wld K H r a b A0 A1 o os ∧ Sd z k s ∧ (0 ≤ m ∧ m ≤ 1000000000) ∧ ∀ v H', IsBr A0 A1 o os k s m v → Same H H' → Q v H'
def sp_moved_box (K : PySem.W.Frag) : Sp := sp_moved_box_in K
def sp_l_bo_meet (K : PySem.W.Frag) : Sp := fun vs H Q _ => ∃ (a b : Addr) (o q : Bx), vs = [.ref a, .ref b] ∧ SqT K H a o.vs ∧ SqT K H b q.vs ∧ Q (.bl (meB o q)) H
def sp_l_bo_swept (K : PySem.W.Frag) : Sp := fun vs H Q _ => ∃ (a : Addr) (z : Str) (m k s : Int) (o : Bx), vs = [.ref a, .str z, .int m] ∧ SqT K H a o.vs ∧ Sd z k s ∧ ∀ p H', Same H H' → SqT K H' p (sweep o k s m).vs → Q (.ref p) H'
def sp_l_bo_put (K : PySem.W.Frag) : Sp := fun vs H Q _ => ∃ (a : Addr) (z : Str) (m k s : Int) (o : Bx), vs = [.ref a, .str z, .int m] ∧ SqT K H a o.vs ∧ Sd z k s ∧ ∀ p H', Same H H' → SqT K H' p (shift o k (s * m)).vs → Q (.ref p) H'
def sp_l_bo_is_beyond (K : PySem.W.Frag) : Sp := fun vs H Q _ => ∃ (r a : Addr) (z : Str) (A0 A1 k s : Int) (o : Bx), vs = [.ref r, .ref a, .str z] ∧ SqT K H r [.int A0, .int A1] ∧ SqT K H a o.vs ∧ Sd z k s ∧ Q (.bl (beyB A0 A1 o k s)) H
/-- what the law's own defs need -/
structure Wlp (K : PySem.W.Frag) (H : Hp) (r a b : Addr) (A0 A1 : Int) (o : Bx) (os : List Bx) : Prop where
  r : SqT K H r [.int A0, .int A1]
  a : SqT K H a o.vs
  b : Bxs K H b os
  n : os.length ≤ 24
  o : o.pos
  os : ∀ q ∈ os, q.pos
theorem Wld.wlp {K : PySem.W.Frag} {H : Hp} {r a b : Addr} {A0 A1 : Int} {o : Bx} {os : List Bx} (W : Wld K H r a b A0 A1 o os) : Wlp K H r a b A0 A1 o os := ⟨W.r, W.a, W.b, W.n, W.o.pos, W.pos⟩
theorem Wlp.same {K : PySem.W.Frag} {H H' : Hp} {r a b : Addr} {A0 A1 : Int} {o : Bx} {os : List Bx} (W : Wlp K H r a b A0 A1 o os) (s : Same H H') : Wlp K H' r a b A0 A1 o os :=
  ⟨same_sqt s W.r, same_sqt s W.a, W.b.same s, W.n, W.o, W.os⟩
def sp_l_bo_is_free (K : PySem.W.Frag) : Sp := fun vs H Q _ => ∃ (r a b : Addr) (z : Str) (m A0 A1 k s : Int) (o : Bx) (os : List Bx), vs = [.ref r, .ref a, .ref b, .str z, .int m] ∧ Wlp K H r a b A0 A1 o os ∧ Sd z k s ∧ 0 ≤ m ∧ ∀ c H', (c = true ↔ Fr A0 A1 o os k s m) → Same H H' → Q (.bl c) H'
def sp_l_bo_reach (K : PySem.W.Frag) : Sp := fun vs H Q _ => ∃ (r a b : Addr) (z : Str) (m A0 A1 k s : Int) (o : Bx) (os : List Bx), vs = [.ref r, .ref a, .ref b, .str z, .int m] ∧ Wlp K H r a b A0 A1 o os ∧ Sd z k s ∧ (0 ≤ m ∧ m ≤ 1000000000) ∧ ∀ x H', IsF A0 A1 o os k s m x → Same H H' → Q (.int x) H'
def sp_l_bo_barrier (K : PySem.W.Frag) : Sp := fun vs H Q _ => ∃ (r a b : Addr) (z : Str) (m A0 A1 k s : Int) (o : Bx) (os : List Bx), vs = [.ref r, .ref a, .ref b, .str z, .int m] ∧ Wlp K H r a b A0 A1 o os ∧ Sd z k s ∧ (0 ≤ m ∧ m ≤ 1000000000) ∧ ∀ v H', IsBr A0 A1 o os k s m v → Same H H' → Q v H'
def sp_l_bo_moved (K : PySem.W.Frag) : Sp := fun vs H Q _ => ∃ (r a b : Addr) (dx dy A0 A1 : Int) (o : Bx) (os : List Bx), vs = [.ref r, .ref a, .ref b, .int dx, .int dy] ∧ Wlp K H r a b A0 A1 o os ∧ (-1000000000 ≤ dx ∧ dx ≤ 1000000000) ∧ (-1000000000 ≤ dy ∧ dy ≤ 1000000000) ∧
  ∀ q p H', IsMv A0 A1 o os dx dy q → Same H H' → SqT K H' p q.vs → Q (.ref p) H'
def sp_l_bo_grown (K : PySem.W.Frag) : Sp := fun vs H Q _ => ∃ (a : Addr) (g : Int) (o : Bx), vs = [.ref a, .int g] ∧ SqT K H a o.vs ∧ (-1000000000 ≤ g ∧ g ≤ 1000000000) ∧ ∀ p H', Same H H' → SqT K H' p (grow o g).vs → Q (.ref p) H'
def sp_l_bo_number (_ : PySem.W.Frag) : Sp := fun vs H Q _ => ∃ (d : Addr) (m : Int), vs = [.ref d, .int m] ∧ (1 ≤ m ∧ m ≤ 400) ∧ Dice d H ∧ ∀ r H', -1000000000 ≤ r → r ≤ 1000000000 → Dice d H' → Ext d H H' → Q (.int r) H'
def sp_l_bo_drawn (K : PySem.W.Frag) : Sp := fun vs H Q _ => ∃ (d r : Addr) (A0 A1 : Int), vs = [.ref d, .ref r] ∧ SqT K H r [.int A0, .int A1] ∧ (1 ≤ A0 ∧ A0 ≤ 400) ∧ (1 ≤ A1 ∧ A1 ≤ 400) ∧ Dice d H ∧ ∀ p o H', Bx.fit o → SqT K H' p o.vs → Dice d H' → Ext d H H' → Q (.ref p) H'
def sp_l_bo_arena (K : PySem.W.Frag) : Sp := fun vs H Q _ => ∃ (d : Addr), vs = [.ref d] ∧ Dice d H ∧ ∀ p A0 A1 H', (1 ≤ A0 ∧ A0 ≤ 400) → (1 ≤ A1 ∧ A1 ≤ 400) → SqT K H' p [.int A0, .int A1] → Dice d H' → Ext d H H' → Q (.ref p) H'
def sp_l_bo_pace (_ : PySem.W.Frag) : Sp := fun vs H Q _ => ∃ (d : Addr), vs = [.ref d] ∧ Dice d H ∧ ∀ r H', -1000000000 ≤ r → r ≤ 1000000000 → Dice d H' → Ext d H H' → Q (.int r) H'
def sp_l_ways_right (K : PySem.W.Frag) : Sp := fun vs H Q _ => ∃ (d r a b : Addr) (A0 A1 : Int) (o : Bx) (os : List Bx), vs = [.ref d, .ref r, .ref a, .ref b] ∧ Wld K H r a b A0 A1 o os ∧ Dice d H ∧ ∀ H', Dice d H' → Ext d H H' → Q (.bl true) H'
def sp_l_meetings_right (K : PySem.W.Frag) : Sp := fun vs H Q _ => ∃ (d r a b : Addr) (A0 A1 : Int) (o : Bx) (os : List Bx), vs = [.ref d, .ref a, .ref b] ∧ Wld K H r a b A0 A1 o os ∧ Dice d H ∧ ∀ H', Dice d H' → Ext d H H' → Q (.bl true) H'
def sp_l_right (_ : PySem.W.Frag) : Sp := fun vs H Q _ => ∃ d, vs = [.ref d] ∧ Dice d H ∧ ∀ H', Dice d H' → Ext d H H' → Q (.bl true) H'
def sp_law (K : PySem.W.Frag) : Sp := fun vs H Q _ => ∃ (a : Addr) (ns : List Int), vs = [.ref a] ∧ SqL K H a (ns.map V.int) ∧ ns.length ≤ 63 ∧ ∀ H', Q (.bl true) H'

section
variable {P : Program} {w : World} {K : PySem.W.Frag} {mg : Str → Option Value} {base : Heap}
/-! ### short tactics -/
local macro_rules | `(tactic| walk_at "side") => `(tactic| first
  | with_reducible assumption | (exact ⟨by omega, by omega⟩) | exact True.intro | rfl | exact Nat.le_of_ble_eq_true rfl | with_reducible exact Int.natCast_nonneg _ | decide | omega
  | (exact Or.inl ⟨by omega, by omega⟩) | (exact Or.inr ⟨by omega, by omega⟩)
  | (exact ⟨by omega, by omega, by omega⟩) | (exact ⟨by decide, by decide, by decide⟩)
  | (exact wide_div (b := 250) (by omega) (by omega) (by decide) (by decide))
  | (exact wide_mul (a := 250) (b := 250) (by omega) (by omega) (by decide) (by decide) (by decide))
  | decide +kernel | (dsimp only; decide +kernel)
  | (exact wide_mul (a := 250) (b := 250) (by decide +kernel) (by decide +kernel) (by decide) (by decide) (by decide)))
local macro_rules | `(tactic| walk_at "idx") => `(tactic| first
  | assumption | exact atI_nat (j := 0) rfl | exact atI_nat (j := 1) rfl | exact atI_nat (j := 2) rfl | exact atI_nat (j := 3) rfl | exact atI_nat (j := 4) rfl | exact atI_nat (j := 5) rfl)
local macro_rules | `(tactic| walk_at "sq") => `(tactic| first
  | assumption | exact SqL.of upd_same | exact SqT.of upd_same | exact SqL.of (by assumption) | exact SqT.of (by assumption)
  | exact SqT.of (same_new (by assumption) _ _ upd_same) | exact SqL.of (same_new (by assumption) _ _ upd_same)
  | exact SqT.of (same_new (by assumption) _ _ (by assumption)) | exact SqL.of (same_new (by assumption) _ _ (by assumption))
  | exact SqT.of (same_new (by assumption) _ _ (same_new (by assumption) _ _ upd_same)) | exact SqL.of (same_new (by assumption) _ _ (same_new (by assumption) _ _ upd_same)))
local macro_rules | `(tactic| walk_at "dp") => `(tactic| first
  | exact .non | exact .bl _ | exact .int _ | exact .str _
  | (refine .tup (by walk_at "sq") ?_; walk_at "dps") | (refine .lst (by walk_at "sq") ?_; walk_at "dps"))
local macro_rules | `(tactic| walk_at "dps") => `(tactic| first
  | exact .nil | (refine .cons (by walk_at "dp") ?_; walk_at "dps"))
local macro_rules | `(tactic| walk_at "go") => `(tactic| repeat first
  | (show @ite _ _ _ _ _; with_reducible (first | refine iteT ?_ | refine iteF ?_ | refine iteNT ?_ | refine iteNF ?_))
  | ((fail_if_success (show @ite _ _ _ _ _)); first
    | refine And.intro (by walk_at "side") ?_
    | refine ⟨_, rfl, ?_⟩
    | refine ⟨_, _, rfl, rfl, ?_⟩
    | refine ⟨_, _, rfl, .inl (by walk_at "sq"), ?_⟩
    | refine ⟨_, _, rfl, .inr (by walk_at "sq"), ?_⟩
    | refine ⟨_, _, rfl, ?_⟩
    | refine ⟨_, _, _, rfl, ?_⟩
    | refine ⟨_, _, _, _, rfl, ?_⟩
    | refine ⟨_, _, _, _, _, rfl, ?_⟩
    | refine ⟨_, _, _, _, rfl, rfl, (by walk_at "sq"), (by walk_at "idx"), ?_⟩
    | refine ⟨_, _, _, _, _, rfl, .ty _, (by assumption), kit_ty (by assumption), ?_⟩
    | refine .inl ⟨_, rfl, ?_⟩
    | refine .inr ⟨_, rfl, ?_⟩))
local macro_rules | `(tactic| walk_at "unp2") => `(tactic| refine ⟨_, _, rfl, (by walk_at "sq"), rfl, _, _, rfl, _, _, rfl, rfl, ?_⟩)
local macro_rules | `(tactic| walk_at "unp3") => `(tactic| refine ⟨_, _, rfl, (by walk_at "sq"), rfl, _, _, rfl, _, _, rfl, _, _, rfl, rfl, ?_⟩)
local macro_rules | `(tactic| walk_at "pick") => `(tactic| refine ⟨_, _, _, rfl, SqL.of upd_same, Dice.ne (by assumption) (by assumption), Nat.zero_lt_succ _, Nat.le_of_ble_eq_true rfl, Dice.new (by assumption) (by assumption), ?_⟩)

theorem ok_l_roll (T : Tp w K mg) : FnOk P w K mg base CX0 1 T.a_l_roll T.d_l_roll ["_law_dice_here", "_law_total"] (sp_l_roll K) := by
  refine T.F_l_roll.ok sc_l_roll ?len (fun cdv A outer s H vs Q E hr h => ?_)
  case len =>
    intro vs H Q E h
    obtain ⟨d, n, rfl, _⟩ := h
    rfl
  obtain ⟨d, n, rfl, h0, hn, ⟨x, y, z, hd⟩, q⟩ := h
  have hw : CDivW x n := wide_div (b := 250) h0 (by omega) (by decide) (by decide)
  refine ⟨_, (pss_cons (ps_if (pt_cmpR op_gt (pe_ix ix_list (pv 0) pe_int (fun _ _ => rfl)) pe_int (nomark _)) (pss_cons (ps_set (i := 4) sc_l_roll.nd rfl (Or.inl rfl) (pe_op op_mod (pe_callTy call_int1 (by rfl) T.m_int (by decide +kernel) (pa_cons (pe_ix ix_list (pv 0) pe_int (fun _ _ => rfl)) pa_nil)) (pv 1)))
      (pss_cons (ps_asg (pe_op op_fdivW (pe_ix ix_list (pv 0) pe_int (fun _ _ => rfl)) (pv 1)) (pg_sub (pv 0) pe_int set_list))
      (pss_one (ps_ret (pv 4))))) pss_nil)
    (pss_cons (ps_asg (pe_op op_add (pe_ix ix_list (pv 0) pe_int (fun _ _ => rfl)) pe_int) (pg_sub (pv 0) pe_int set_list))
    (pss_cons (ps_set (i := 2) sc_l_roll.nd rfl (Or.inl rfl) (pe_op op_mod (pe_callTy call_int1 (by rfl) T.m_int (by decide +kernel) (pa_cons (pe_op op_add (pe_ix ix_list (pv 0) pe_int (fun _ _ => rfl)) (pe_op op_mul pe_int (pe_ix ix_list (pv 0) pe_int (fun _ _ => rfl)))) pa_nil)) pe_int))
    (pss_cons (ps_set (i := 3) sc_l_roll.nd rfl (Or.inl rfl) (pe_op op_add (pe_op op_mul (pe_op op_mod (pe_callTy call_int1 (by rfl) T.m_int (by decide +kernel) (pa_cons (pe_op op_add (pe_op op_mul (pv 2) (pv 2)) (pe_op op_mul pe_int (pe_ix ix_list (pv 0) pe_int (fun _ _ => rfl)))) pa_nil)) pe_int) pe_int) (pv 2)))
    (pss_one (ps_ret (pe_op op_mod (pe_callTy call_int1 (by rfl) T.m_int (by decide +kernel) (pa_cons (pe_op op_fdivW (pv 3) pe_int) pa_nil)) (pv 1)))))))), ?_⟩
  walk_at "go"
  refine ite2 (fun e => ?_) (fun e => ?_)
  · walk_at "go"
    refine ⟨_, _, _, 0, rfl, rfl, hd, rfl, ?_⟩
    walk_at "go"
    exact q _ _ (Int.emod_nonneg _ (by omega)) (Int.emod_lt_of_pos _ h0) ⟨_, _, _, upd_same⟩ Ext.put
  · walk_at "go"
    refine ⟨_, _, _, 2, rfl, rfl, hd, rfl, ?_⟩
    have hd2 : upd H d (.lst [V.int x, V.int y, V.int (z + 1)]) d = some (.lst [V.int x, V.int y, V.int (z + 1)]) := upd_same
    walk_at "go"
    exact q _ _ (Int.emod_nonneg _ (by omega)) (Int.emod_lt_of_pos _ h0) ⟨_, _, _, upd_same⟩ Ext.put
theorem ok_l_pick (T : Tp w K mg) : FnOk P w K mg base CX0 2 T.a_l_pick T.d_l_pick ["_law_dice_here", "_law_items"] (sp_l_pick K) := by
  refine T.F_l_pick.ok sc_l_pick ?len (fun cdv A outer s H vs Q E hr h => ?_)
  case len =>
    intro vs H Q E h
    obtain ⟨d, a, xs, rfl, _⟩ := h
    rfl
  obtain ⟨d, a, xs, rfl, hx, hne, h0, h1, D0, q⟩ := h
  refine ⟨_, (pss_one (ps_ret (pe_ix ix_list (pv 1) (pe_call (ok_l_roll T) (hr.mono (by decide)) (by rfl) T.g_l_roll T.F_l_roll.kp T.b_l_roll .nil pass0 (pa_cons (pv 0) (pa_cons (pe_callB call_len_seq (by rfl) T.m_len (by decide +kernel) (pa_cons (pv 1) pa_nil)) pa_nil))) (fun _ _ => rfl)))), ?_⟩
  walk_at "go"
  refine fun r H1 r0 r1 D1 X1 => ?_
  have hx1 : SqL K H1 a xs := X1.sql hne hx
  have hr : r.toNat < xs.length := by omega
  have hi : atI xs r = some xs[r.toNat] := at_of (j := r.toNat) (by omega) (List.getElem?_eq_getElem hr)
  walk_at "go"
  exact q _ _ (List.getElem_mem hr) D1 X1
theorem ok_l_dice (T : Tp w K mg) : FnOk P w K mg base CX0 1 T.a_l_dice T.d_l_dice ["_law_script", "_law_spot"] (sp_l_dice K) := by
  refine T.F_l_dice.ok sc_l_dice ?len (fun cdv A outer s H vs Q E hr h => ?_)
  case len =>
    intro vs H Q E h
    obtain ⟨a, ns, k, rfl, _⟩ := h
    rfl
  obtain ⟨a, ns, k, rfl, hS, k0, k1, q⟩ := h
  refine ⟨_, (pss_cons (ps_set (i := 2) sc_l_dice.nd rfl (Or.inl rfl) (pe_ifExp (pt_cmpR op_lt (pv 1) (pe_callB call_len_seq (by rfl) T.m_len (by decide +kernel) (pa_cons (pv 0) pa_nil)) (nomark _)) (pe_callTy call_int1 (by rfl) T.m_int (by decide +kernel) (pa_cons (pe_ix ix_list (pv 0) (pv 1) (fun _ _ => rfl)) pa_nil)) (pe_op op_add (pe_op op_mul pe_int (pv 1)) pe_int)))
    (pss_cons (ps_set (i := 3) sc_l_dice.nd rfl (Or.inl rfl) (pe_op op_mod (pe_callB (call_max2 rfl) (by rfl) T.m_max (by decide +kernel) (pa_cons pe_int (pa_cons (pe_op op_sub (pe_callB call_abs (by rfl) T.m_abs (by decide +kernel) (pa_cons (pv 2) pa_nil)) (pe_op op_pow pe_int pe_int)) pa_nil))) (pe_op op_mulW (pe_op op_pow pe_int pe_int) (pe_op op_pow pe_int pe_int))))
    (pss_one (ps_ret (pe_lst (pa_cons (pv 3) (pa_cons (pe_op op_add (pe_op op_add (pe_op op_add (pe_op op_mul (pe_op op_mod (pe_callB call_abs (by rfl) T.m_abs (by decide +kernel) (pa_cons (pv 2) pa_nil)) pe_int) pe_int) (pe_op op_mul pe_int (pv 1))) (pe_op op_mul pe_int (pe_callTy call_int1 (by rfl) T.m_int (by decide +kernel) (pa_cons (pe_cmpR op_lt (pv 2) pe_int (nomark _)) pa_nil)))) pe_int) (pa_cons pe_int pa_nil)))))))), ?_⟩
  walk_at "go"
  refine ite2 (fun e => ?_) (fun e => ?_)
  · have hk : k.toNat < ns.length := by
      have := of_decide_eq_true e
      rw [List.length_map] at this
      omega
    have hi : atI (ns.map V.int) k = some (.int ns[k.toNat]) := at_of (j := k.toNat) (by omega) (by rw [List.getElem?_map, List.getElem?_eq_getElem hk]; rfl)
    walk_at "go"
    refine fun p np => ?_
    exact q p _ np ⟨_, _, _, upd_same⟩ (same_new np)
  · walk_at "go"
    refine fun p np => ?_
    exact q p _ np ⟨_, _, _, upd_same⟩ (same_new np)

end
section
variable {P : Program} {w : World} {K : PySem.W.Frag} {mg : Str → Option Value} {base : Heap}
/-! ### short tactics -/
local macro_rules | `(tactic| walk_at "side") => `(tactic| first
  | with_reducible assumption | (exact ⟨by omega, by omega⟩) | exact True.intro | rfl | exact Nat.le_of_ble_eq_true rfl | with_reducible exact Int.natCast_nonneg _ | decide | omega
  | ((with_reducible show KDct _ _ _ _ _); assumption)
  | ((with_reducible show Jd _ _ _); first | assumption | exact .int _ | exact .str _ | exact .non | exact .bl _)
  | ((with_reducible show SqT _ _ _ _); walk_at "sq") | ((with_reducible show SqL _ _ _ _); walk_at "sq")
  | exact Or.inl rfl | exact Or.inr rfl
  | (intro z; exact absurd (show 1 = 0 from z.1) (by decide)) | (intro z; exact absurd (show 2 = 0 from z.1) (by decide))
  | (exact Or.inl ⟨by omega, by omega⟩) | (exact Or.inr ⟨by omega, by omega⟩)
  | (exact ⟨by omega, by omega, by omega⟩) | (exact ⟨by decide, by decide, by decide⟩)
  | (exact wide_div (b := 250) (by omega) (by omega) (by decide) (by decide))
  | (exact wide_mul (a := 250) (b := 250) (by omega) (by omega) (by decide) (by decide) (by decide))
  | decide +kernel | (dsimp only; decide +kernel)
  | (exact wide_mul (a := 250) (b := 250) (by decide +kernel) (by decide +kernel) (by decide) (by decide) (by decide)))
local macro_rules | `(tactic| walk_at "idx") => `(tactic| first
  | assumption | exact atI_nat (j := 0) rfl | exact atI_nat (j := 1) rfl | exact atI_nat (j := 2) rfl | exact atI_nat (j := 3) rfl | exact atI_nat (j := 4) rfl | exact atI_nat (j := 5) rfl)
local macro_rules | `(tactic| walk_at "sq") => `(tactic| first
  | assumption | exact SqL.of upd_same | exact SqT.of upd_same | exact SqL.of (by assumption) | exact SqT.of (by assumption)
  | exact SqT.of (same_new (by assumption) _ _ upd_same) | exact SqL.of (same_new (by assumption) _ _ upd_same)
  | exact SqT.of (same_new (by assumption) _ _ (by assumption)) | exact SqL.of (same_new (by assumption) _ _ (by assumption))
  | exact SqT.of (same_new (by assumption) _ _ (same_new (by assumption) _ _ upd_same)) | exact SqL.of (same_new (by assumption) _ _ (same_new (by assumption) _ _ upd_same)))
local macro_rules | `(tactic| walk_at "dp") => `(tactic| first
  | exact .non | exact .bl _ | exact .int _ | exact .str _
  | (refine .tup (by walk_at "sq") ?_; walk_at "dps") | (refine .lst (by walk_at "sq") ?_; walk_at "dps"))
local macro_rules | `(tactic| walk_at "dps") => `(tactic| first
  | exact .nil | (refine .cons (by walk_at "dp") ?_; walk_at "dps"))
local macro_rules | `(tactic| walk_at "go") => `(tactic| repeat first
  | (show @ite _ _ _ _ _; with_reducible (first | refine iteT ?_ | refine iteF ?_ | refine iteNT ?_ | refine iteNF ?_))
  | ((fail_if_success (show @ite _ _ _ _ _)); first
    | refine And.intro (by walk_at "side") ?_
    | refine ⟨_, rfl, ?_⟩
    | refine ⟨_, _, rfl, rfl, ?_⟩
    | refine ⟨_, _, rfl, .inl (by walk_at "sq"), ?_⟩
    | refine ⟨_, _, rfl, .inr (by walk_at "sq"), ?_⟩
    | refine ⟨_, _, rfl, ?_⟩
    | refine ⟨_, _, _, rfl, ?_⟩
    | refine ⟨_, _, _, _, rfl, ?_⟩
    | refine ⟨_, _, _, _, _, rfl, ?_⟩
    | refine ⟨_, _, _, _, rfl, rfl, (by walk_at "sq"), (by walk_at "idx"), ?_⟩
    | refine ⟨_, _, _, _, _, rfl, .ty _, (by assumption), kit_ty (by assumption), ?_⟩
    | refine And.intro ⟨_, by walk_at "sq"⟩ ?_
    | refine .inl ⟨_, rfl, ?_⟩
    | refine .inr ⟨_, rfl, ?_⟩
    | (apply Exists.intro; (repeat apply Exists.intro); refine And.intro rfl ?_)))
local macro_rules | `(tactic| walk_at "unp2") => `(tactic| refine ⟨_, _, rfl, (by walk_at "sq"), rfl, _, _, rfl, _, _, rfl, rfl, ?_⟩)
local macro_rules | `(tactic| walk_at "unp3") => `(tactic| refine ⟨_, _, rfl, (by walk_at "sq"), rfl, _, _, rfl, _, _, rfl, _, _, rfl, rfl, ?_⟩)
local macro_rules | `(tactic| walk_at "pick") => `(tactic| refine ⟨_, _, _, rfl, SqL.of upd_same, Dice.ne (by assumption) (by assumption), Nat.zero_lt_succ _, Nat.le_of_ble_eq_true rfl, Dice.new (by assumption) (by assumption), ?_⟩)
local macro_rules | `(tactic| walk_at "tt") => `(tactic| first
  | refine iteY rfl ?_ | refine iteN (fun z => Bool.noConfusion (show false = true from z)) ?_)

theorem ok_do_share (T : Tp w K mg) : FnOk P w K mg base CX0 1 T.a_do_share T.d_do_share ["one", "other", "axis"] (sp_do_share K) := by
  refine T.F_do_share.ok sc_do_share ?len (fun cdv A outer s H vs Q E hr h => ?_)
  case len => intro vs H Q E h; obtain ⟨a, b, k, o, q, rfl, _⟩ := h; rfl
  obtain ⟨a, b, k, o, q, rfl, ha, hb, hk, hq⟩ := h
  refine ⟨_, (pss_one (ps_ret (pe_and (pe_cmpR op_lt (pe_ix ix_tup (pv 0) (pv 2) (fun _ _ => rfl)) (pe_op op_add (pe_ix ix_tup (pv 1) (pv 2) (fun _ _ => rfl)) (pe_ix ix_tup (pv 1) (pe_op op_add (pv 2) pe_int) (fun _ _ => rfl))) (nomark _)) (pe_one (pe_cmpR op_lt (pe_ix ix_tup (pv 1) (pv 2) (fun _ _ => rfl)) (pe_op op_add (pe_ix ix_tup (pv 0) (pv 2) (fun _ _ => rfl)) (pe_ix ix_tup (pv 0) (pe_op op_add (pv 2) pe_int) (fun _ _ => rfl))) (nomark _)))))), ?_⟩
  obtain rfl | rfl := hk
  · walk_at "go"
    refine ite2 (fun e => ?_) (fun e => ?_)
    · walk_at "go"
      exact and_t (F := fun c => Q (.bl c) H) hq e
    · exact and_f (F := fun c => Q (.bl c) H) hq e
  · walk_at "go"
    refine ite2 (fun e => ?_) (fun e => ?_)
    · walk_at "go"
      exact and_t (F := fun c => Q (.bl c) H) hq e
    · exact and_f (F := fun c => Q (.bl c) H) hq e
theorem ok_are_meeting_in (T : Tp w K mg) : FnOk P w K mg base CX0 2 T.a_are_meeting_in T.d_are_meeting_in ["one", "other", "grown"] (sp_are_meeting_in K) := by
  refine T.F_are_meeting_in.ok sc_are_meeting_in ?len (fun cdv A outer s H vs Q E hr h => ?_)
  case len => intro vs H Q E h; obtain ⟨a, b, k, o, q, rfl, _⟩ := h; rfl
  obtain ⟨a, b, g, o, q, rfl, ha, hb, hg, hq⟩ := h
  refine ⟨_, (pss_cons (ps_set (i := 3) sc_are_meeting_in.nd rfl (Or.inl rfl) (pe_tup (pa_cons (pe_op op_sub (pe_ix ix_tup (pv 0) pe_int (fun _ _ => rfl)) (pv 2)) (pa_cons (pe_op op_sub (pe_ix ix_tup (pv 0) pe_int (fun _ _ => rfl)) (pv 2)) (pa_cons (pe_op op_add (pe_ix ix_tup (pv 0) pe_int (fun _ _ => rfl)) (pe_op op_mul pe_int (pv 2))) (pa_cons (pe_op op_add (pe_ix ix_tup (pv 0) pe_int (fun _ _ => rfl)) (pe_op op_mul pe_int (pv 2))) pa_nil))))))
    (pss_one (ps_ret (pe_and (pe_cmpR op_gt (pe_callB (cr_minT2 rfl hr.units) (by rfl) T.m_min (by decide +kernel) (pa_cons (pe_slice sl_tup (pv 3) (po_some pe_int) po_none) pa_nil)) pe_int (nomark _)) (pe_and (pe_call (ok_do_share T) (hr.mono (by decide)) (by rfl) T.g_do_share T.F_do_share.kp T.b_do_share .nil pass0 (pa_cons (pv 3) (pa_cons (pv 1) (pa_cons pe_int pa_nil)))) (pe_one (pe_call (ok_do_share T) (hr.mono (by decide)) (by rfl) T.g_do_share T.F_do_share.kp T.b_do_share .nil pass0 (pa_cons (pv 3) (pa_cons (pv 1) (pa_cons pe_int pa_nil)))))))))), ?_⟩
  walk_at "go"
  refine fun p np => ?_
  generalize hH : upd H p _ = H1
  have S1 : Same H H1 := by rw [← hH]; exact same_new np
  have hp : SqT K H1 p (grow o g).vs := by rw [← hH]; exact .of upd_same
  clear hH
  have hb1 := same_sqt S1 hb
  walk_at "go"
  refine fun p2 np2 => ?_
  generalize hH : upd H1 p2 _ = H2
  have S2 : Same H1 H2 := by rw [← hH]; exact same_new np2
  have hp2 : SqT K H2 p2 [.int (o.w + 2 * g), .int (o.h + 2 * g)] := by rw [← hH]; exact .of upd_same
  clear hH
  have hb2 := same_sqt S2 hb1
  have hp3 := same_sqt S2 hp
  have hq2 := hq H2 (S1.trans S2)
  walk_at "go"
  refine ite2 (fun e => ?_) (fun e => ?_)
  · have hq3 := and_t (F := fun c => Q (.bl c) H2) hq2 e
    walk_at "go"
    refine ite2 (fun e => ?_) (fun e => ?_)
    · walk_at "go"
      exact and_t (F := fun c => Q (.bl c) H2) hq3 e
    · exact and_f (F := fun c => Q (.bl c) H2) hq3 e
  · exact and_f (F := fun c => Q (.bl c) H2) hq2 e
theorem ok_shifted (T : Tp w K mg) : FnOk P w K mg base CX0 1 T.a_shifted T.d_shifted ["box", "axis", "units"] (sp_shifted K) := by
  refine T.F_shifted.ok sc_shifted ?len (fun cdv A outer s H vs Q E hr h => ?_)
  case len => intro vs H Q E h; obtain ⟨a, k, u, o, rfl, _⟩ := h; rfl
  obtain ⟨a, k, u, o, rfl, ha, hk, hq⟩ := h
  refine ⟨_, (pss_one (ps_ret (pe_ifExp (pt_cmpR op_eq (pv 1) pe_int (nomark _)) (pe_tup (pa_cons (pe_op op_add (pe_ix ix_tup (pv 0) pe_int (fun _ _ => rfl)) (pv 2)) (StX.pa_star (pe_slice sl_tup (pv 0) (po_some pe_int) po_none) pa_nil))) (pe_tup (pa_cons (pe_ix ix_tup (pv 0) pe_int (fun _ _ => rfl)) (pa_cons (pe_op op_add (pe_ix ix_tup (pv 0) pe_int (fun _ _ => rfl)) (pv 2)) (StX.pa_star (pe_slice sl_tup (pv 0) (po_some pe_int) po_none) pa_nil))))))), ?_⟩
  obtain rfl | rfl := hk
  · walk_at "go"
    refine iteY rfl ?_
    walk_at "go"
    refine fun p np => ?_
    walk_at "go"
    refine fun p2 np2 => ?_
    exact hq p2 _ ((same_new np).trans (same_new np2)) (.of upd_same)
  · walk_at "go"
    refine iteN (by intro z; cases z) ?_
    walk_at "go"
    refine fun p np => ?_
    walk_at "go"
    refine fun p2 np2 => ?_
    exact hq p2 _ ((same_new np).trans (same_new np2)) (.of upd_same)
theorem ok_gap_between (T : Tp w K mg) : FnOk P w K mg base CX0 1 T.a_gap_between T.d_gap_between ["box", "other", "way"] (sp_gap_between K) := by
  refine T.F_gap_between.ok sc_gap_between ?len (fun cdv A outer s H vs Q E hr h => ?_)
  case len => intro vs H Q E h; obtain ⟨a, b, c, k, s, o, q, rfl, _⟩ := h; rfl
  obtain ⟨a, b, c, k, s, o, q, rfl, ha, hb, hc, hk, hq⟩ := h
  refine ⟨_, (pss_cons (ps_asg (pv 2) (pg_tup (by rfl) (pgs_cons (pg_name (i := 3) sc_gap_between.nd rfl (Or.inl rfl)) (pgs_cons (pg_name (i := 4) sc_gap_between.nd rfl (Or.inl rfl)) pgs_nil))))
    (pss_cons (ps_if (pt_cmpR op_lt (pv 4) pe_int (nomark _)) (pss_one (ps_ret (pe_op op_sub (pe_op op_sub (pe_ix ix_tup (pv 0) (pv 3) (fun _ _ => rfl)) (pe_ix ix_tup (pv 1) (pv 3) (fun _ _ => rfl))) (pe_ix ix_tup (pv 1) (pe_op op_add (pv 3) pe_int) (fun _ _ => rfl))))) pss_nil)
    (pss_one (ps_ret (pe_op op_sub (pe_op op_sub (pe_ix ix_tup (pv 1) (pv 3) (fun _ _ => rfl)) (pe_ix ix_tup (pv 0) (pv 3) (fun _ _ => rfl))) (pe_ix ix_tup (pv 0) (pe_op op_add (pv 3) pe_int) (fun _ _ => rfl))))))), ?_⟩
  obtain rfl | rfl := hk
  · walk_at "go"
    refine ite2 (fun e => ?_) (fun e => ?_)
    · walk_at "go"
      simp only [gapI, if_pos (of_decide_eq_true e)] at hq
      exact hq
    · walk_at "go"
      simp only [gapI, if_neg (fun z => e (decide_eq_true z))] at hq
      exact hq
  · walk_at "go"
    refine ite2 (fun e => ?_) (fun e => ?_)
    · walk_at "go"
      simp only [gapI, if_pos (of_decide_eq_true e)] at hq
      exact hq
    · walk_at "go"
      simp only [gapI, if_neg (fun z => e (decide_eq_true z))] at hq
      exact hq
theorem ok_border_gap (T : Tp w K mg) : FnOk P w K mg base CX0 1 T.a_border_gap T.d_border_gap ["arena", "box", "way"] (sp_border_gap K) := by
  refine T.F_border_gap.ok sc_border_gap ?len (fun cdv A outer s H vs Q E hr h => ?_)
  case len => intro vs H Q E h; obtain ⟨r, a, c, A0, A1, k, s, o, rfl, _⟩ := h; rfl
  obtain ⟨r, a, c, A0, A1, k, s, o, rfl, hr', ha, hc, hk, hq⟩ := h
  refine ⟨_, (pss_cons (ps_asg (pv 2) (pg_tup (by rfl) (pgs_cons (pg_name (i := 3) sc_border_gap.nd rfl (Or.inl rfl)) (pgs_cons (pg_name (i := 4) sc_border_gap.nd rfl (Or.inl rfl)) pgs_nil))))
    (pss_one (ps_ret (pe_callB (call_max2 rfl) (by rfl) T.m_max (by decide +kernel) (pa_cons pe_int (pa_cons (pe_ifExp (pt_cmpR op_lt (pv 4) pe_int (nomark _)) (pe_ix ix_tup (pv 1) (pv 3) (fun _ _ => rfl)) (pe_op op_sub (pe_op op_sub (pe_ix ix_tup (pv 0) (pv 3) (fun _ _ => rfl)) (pe_ix ix_tup (pv 1) (pv 3) (fun _ _ => rfl))) (pe_ix ix_tup (pv 1) (pe_op op_add (pv 3) pe_int) (fun _ _ => rfl)))) pa_nil)))))), ?_⟩
  obtain rfl | rfl := hk
  · walk_at "go"
    refine ite2 (fun e => ?_) (fun e => ?_)
    · walk_at "go"
      simp only [borI, borX, if_pos (of_decide_eq_true e)] at hq
      exact hq
    · walk_at "go"
      simp only [borI, borX, if_neg (fun z => e (decide_eq_true z))] at hq
      exact hq
  · walk_at "go"
    refine ite2 (fun e => ?_) (fun e => ?_)
    · walk_at "go"
      simp only [borI, borX, if_pos (of_decide_eq_true e)] at hq
      exact hq
    · walk_at "go"
      simp only [borI, borX, if_neg (fun z => e (decide_eq_true z))] at hq
      exact hq
theorem ok_is_beyond (T : Tp w K mg) : FnOk P w K mg base CX0 1 T.a_is_beyond T.d_is_beyond ["arena", "box", "way"] (sp_is_beyond K) := by
  refine T.F_is_beyond.ok sc_is_beyond ?len (fun cdv A outer s H vs Q E hr h => ?_)
  case len => intro vs H Q E h; obtain ⟨r, a, c, A0, A1, k, s, o, rfl, _⟩ := h; rfl
  obtain ⟨r, a, c, A0, A1, k, s, o, rfl, hr', ha, hc, hk, hq⟩ := h
  refine ⟨_, (pss_cons (ps_asg (pv 2) (pg_tup (by rfl) (pgs_cons (pg_name (i := 3) sc_is_beyond.nd rfl (Or.inl rfl)) (pgs_cons (pg_name (i := 4) sc_is_beyond.nd rfl (Or.inl rfl)) pgs_nil))))
    (pss_one (ps_ret (pe_ifExp (pt_cmpR op_lt (pv 4) pe_int (nomark _)) (pe_cmpR op_lt (pe_ix ix_tup (pv 1) (pv 3) (fun _ _ => rfl)) pe_int (nomark _)) (pe_cmpR op_gt (pe_op op_add (pe_ix ix_tup (pv 1) (pv 3) (fun _ _ => rfl)) (pe_ix ix_tup (pv 1) (pe_op op_add (pv 3) pe_int) (fun _ _ => rfl))) (pe_ix ix_tup (pv 0) (pv 3) (fun _ _ => rfl)) (nomark _)))))), ?_⟩
  obtain rfl | rfl := hk
  · walk_at "go"
    refine ite2 (fun e => ?_) (fun e => ?_)
    · walk_at "go"
      simp only [beyB, if_pos (of_decide_eq_true e)] at hq
      exact hq
    · walk_at "go"
      simp only [beyB, if_neg (fun z => e (decide_eq_true z))] at hq
      exact hq
  · walk_at "go"
    refine ite2 (fun e => ?_) (fun e => ?_)
    · walk_at "go"
      simp only [beyB, if_pos (of_decide_eq_true e)] at hq
      exact hq
    · walk_at "go"
      simp only [beyB, if_neg (fun z => e (decide_eq_true z))] at hq
      exact hq
theorem ok_way_of (T : Tp w K mg) : FnOk P w K mg base CX0 1 T.a_way_of T.d_way_of ["axis", "units"] (sp_way_of K) := by
  refine T.F_way_of.ok sc_way_of ?len (fun cdv A outer s H vs Q E hr h => ?_)
  case len => intro vs H Q E h; obtain ⟨k, u, rfl, _⟩ := h; rfl
  obtain ⟨k, u, rfl, hq⟩ := h
  refine ⟨_, (pss_one (ps_ret (pe_tup (pa_cons (pv 0) (pa_cons (pe_ifExp (pt_cmpR op_lt (pv 1) pe_int (nomark _)) (pe_un un_neg pe_int) pe_int) pa_nil))))), ?_⟩
  walk_at "go"
  refine ite2 (fun e => ?_) (fun e => ?_)
  · walk_at "go"
    refine fun p np => ?_
    refine hq p _ (same_new np) (.of ?_)
    rw [sg, if_pos (of_decide_eq_true e)]
    exact upd_same
  · walk_at "go"
    refine fun p np => ?_
    refine hq p _ (same_new np) (.of ?_)
    rw [sg, if_neg (fun z => e (decide_eq_true z))]
    exact upd_same

theorem ref_at {rs : List Addr} {i : Nat} {x : V} (h : (rs.map V.ref)[i]? = some x) : ∃ r, x = .ref r ∧ rs[i]? = some r := by
  rw [List.getElem?_map] at h
  cases e : rs[i]? with
  | none => rw [e] at h; cases h
  | some r => rw [e] at h; cases h; exact ⟨r, rfl, rfl⟩
theorem take_at {α : Type} {l : List α} {i : Nat} {x : α} (h : l[i]? = some x) : l.take (i + 1) = l.take i ++ [x] := by
  rw [List.take_succ, h]; rfl
theorem grow_zero (o : Bx) : grow o 0 = o := by
  cases o
  simp [grow]
theorem ok_reach_in (T : Tp w K mg) : FnOk P w K mg base CX0 2 T.a_reach_in T.d_reach_in ["arena", "box", "others", "way", "many"] (sp_reach_in K) := by
  refine T.F_reach_in.ok sc_reach_in ?len (fun cdv A outer s H vs Q E hr h => ?_)
  case len => intro vs H Q E h; obtain ⟨r, a, b, c, m, A0, A1, k, s, o, os, rfl, _⟩ := h; rfl
  obtain ⟨r, a, b, c, m, A0, A1, k, s, o, os, rfl, hr', ha, hb, hn, hc, hk, hm, hq⟩ := h
  obtain ⟨rs, h1, h2, h3⟩ := hb
  refine ⟨_, (pss_cons (ps_setLc (i := 5) (own := [("other", 7)]) (g := gName 7)  (by rfl) sc_reach_in.nd rfl rfl (sw_true rfl rfl rfl (by decide +kernel)) (pi_tup (pv 2)) (blkOk_by (own := [("other", 7)]) (N := N_reach_in) (sc := defScope s_reach_in) (by decide +kernel)) (fun _ _ _ _ _ => pg_name (i := 7) sc_reach_in.nd rfl (Or.inl rfl)) (fun _ _ _ _ _ => (pts_one (pt_val (pe_call (ok_do_share T) (hr.mono (by decide)) (by rfl) T.g_do_share T.F_do_share.kp T.b_do_share .nil pass0 (pa_cons (pv 1) (pa_cons (pv 7) (pa_cons (pe_op op_sub pe_int (pe_ix (r := rIxT K) ix_tup (pv 3) pe_int (fun _ _ => rfl))) pa_nil))))))) (fun _ _ _ _ _ => (pv 7)))
    (pss_cons (ps_setLc (i := 6) (own := [("other", 7)]) (g := gName 7) (tt := tYes) (by rfl) sc_reach_in.nd rfl rfl (sw_true rfl rfl rfl (by decide +kernel)) (pi_list (pv 5)) (blkOk_by (own := [("other", 7)]) (N := N_reach_in) (sc := defScope s_reach_in) (by decide +kernel)) (fun _ _ _ _ _ => pg_name (i := 7) sc_reach_in.nd rfl (Or.inl rfl)) (fun _ _ _ _ _ => pts_nil) (fun _ _ _ _ _ => (pe_call (ok_gap_between T) (hr.mono (by decide)) (by rfl) T.g_gap_between T.F_gap_between.kp T.b_gap_between .nil pass0 (pa_cons (pv 1) (pa_cons (pv 7) (pa_cons (pv 3) pa_nil))))))
    (pss_one (ps_ret (pe_callB (cr_min rfl) (by rfl) T.m_min (by decide +kernel) (pa_cons (pe_lst (pa_cons (pv 4) (pa_cons (pe_call (ok_border_gap T) (hr.mono (by decide)) (by rfl) T.g_border_gap T.F_border_gap.kp T.b_border_gap .nil pass0 (pa_cons (pv 0) (pa_cons (pv 1) (pa_cons (pv 3) pa_nil)))) (StX.pa_star (pe_lc (own := [("gap", 8)]) (g := gName 8)  (by rfl) sc_reach_in.nd (pi_list (pv 6)) (blkOk_by (own := [("gap", 8)]) (N := N_reach_in) (sc := defScope s_reach_in) (by decide +kernel)) (fun _ _ _ _ _ => pg_name (i := 8) sc_reach_in.nd rfl (Or.inl rfl)) (fun _ _ _ _ _ => (pts_one (pt_cmpR op_ge (pv 8) pe_int (nomark _)))) (fun _ _ _ _ _ => (pv 8))) pa_nil)))) pa_nil)))))), ?_⟩
  walk_at "go"
  refine fun D1 n1 => lc_tup (K := K) (xs := rs.map V.ref) (fun i H' => Stp (∃ l : List (Addr × Bx), H' D1 = some (.lst (l.map fun e => .ref e.1)) ∧ (∀ e ∈ l, SqT K H e.1 e.2.vs) ∧ l.map (·.2) = (os.take i).filter (fun q => shB o q (1 - k)) ∧ l.length ≤ i ∧ Ext D1 H H'))
    (.of ⟨[], upd_same, (fun e he => nomatch he), rfl, Nat.le_refl _, Ext.new n1⟩) (fun i H' hi hW => ?_) (fun i x H' hx hW => ?_) (fun H' hW => ?_)
  · obtain ⟨l, _, _, _, _, X⟩ := hW.get
    exact same_sqt (X.same n1) h1
  · obtain ⟨l, hl, hp, he, hll, X⟩ := hW.get
    obtain ⟨y, rfl, hy⟩ := ref_at hx
    obtain ⟨q, hq', hy2⟩ := h3 i y hy
    have S := X.same n1
    have hy3 := same_sqt S hy2
    have ha3 := same_sqt S ha
    have hc3 := same_sqt S hc
    have hlen : i < rs.length := (List.getElem?_eq_some_iff.mp hy).1
    have hk2 : 1 - k = 0 ∨ 1 - k = 1 := by omega
    walk_at "go"
    refine ite2 (fun e => ?_) (fun e => ?_)
    · walk_at "go"
      refine ⟨_, hl, by rw [List.length_map]; exact small1000 (by omega), .of ⟨l ++ [(y, q)], by rw [upd_same, List.map_append]; rfl, ?_, ?_, by rw [List.length_append]; exact Nat.succ_le_succ hll, X.mut n1⟩⟩
      · intro e he
        rcases List.mem_append.mp he with z | z
        · exact hp e z
        · rw [List.mem_singleton.mp z]; exact hy2
      · rw [List.map_append, he, take_at hq', List.filter_append, List.filter_cons, if_pos e]
        rfl
    · exact .of ⟨l, hl, hp, by rw [he, take_at hq', List.filter_append, List.filter_cons, if_neg e, List.filter_nil, List.append_nil], Nat.le_succ_of_le hll, X⟩
  · obtain ⟨l, hl, hp, he, hll, X⟩ := hW.get
    have S1 := X.same n1
    rw [List.length_map] at he hll
    rw [List.take_of_length_le (by omega)] at he
    have hll : l.length ≤ 24 := by omega
    have hp1 : ∀ e ∈ l, SqT K H' e.1 e.2.vs := fun e he => same_sqt S1 (hp e he)
    have ha1 := same_sqt S1 ha
    have hr1 := same_sqt S1 hr'
    have hc1 := same_sqt S1 hc
    clear hW X h1 h3 hp
    walk_at "go"
    refine fun D2 n2 => lc_list (K := K) (xs := l.map fun e => V.ref e.1) (fun i H2 => Stp (H2 D2 = some (.lst ((l.take i).map fun e => V.int (gapI o e.2 k s))) ∧ Ext D2 H' H2)) (.of ⟨upd_same, Ext.new n2⟩) (fun i H2 hi hW => ?_) (fun i x H2 hx hW => ?_) (fun H2 hW => ?_)
    · exact .of ((hW.get.2.same n2) _ _ hl)
    · obtain ⟨hD, X⟩ := hW.get
      have S2 := X.same n2
      rw [List.getElem?_map] at hx
      cases ex : l[i]? with
      | none => rw [ex] at hx; cases hx
      | some e =>
      rw [ex] at hx
      cases hx
      have hlen : i < l.length := (List.getElem?_eq_some_iff.mp ex).1
      have he2 := same_sqt S2 (hp1 e (List.mem_of_getElem? ex))
      have ha2 := same_sqt S2 ha1
      have hc2 := same_sqt S2 hc1
      walk_at "go"
      refine ⟨_, hD, by rw [List.length_map, List.length_take]; exact small1000 (by omega), .of ⟨?_, X.mut n2⟩⟩
      rw [upd_same, take_at ex, List.map_append]
      rfl
    · obtain ⟨hD, X⟩ := hW.get
      have S2 := X.same n2
      rw [List.length_map, List.take_of_length_le (Nat.le_refl _)] at hD
      have ha2 := same_sqt S2 ha1
      have hr2 := same_sqt S2 hr1
      have hc2 := same_sqt S2 hc1
      walk_at "go"
      refine fun D3 n3 => lc_list (K := K) (xs := l.map fun e => V.int (gapI o e.2 k s)) (fun i H3 => Stp (∃ ns : List Int, H3 D3 = some (.lst (ns.map V.int)) ∧ ns = ((l.take i).map fun e => gapI o e.2 k s).filter (fun g => decide (g ≥ 0)) ∧ ns.length ≤ i ∧ Ext D3 H2 H3)) (.of ⟨[], upd_same, rfl, Nat.le_refl _, Ext.new n3⟩) (fun i H3 hi hW => ?_) (fun i x H3 hx hW => ?_) (fun H3 hW => ?_)
      · obtain ⟨_, _, _, _, X3⟩ := hW.get
        exact .of ((X3.same n3) _ _ hD)
      · obtain ⟨ns, hD3, hns, hnl, X3⟩ := hW.get
        rw [List.getElem?_map] at hx
        cases ex : l[i]? with
        | none => rw [ex] at hx; cases hx
        | some e =>
        rw [ex] at hx
        cases hx
        have hlen : i < l.length := (List.getElem?_eq_some_iff.mp ex).1
        walk_at "go"
        refine ite2 (fun ee => ?_) (fun ee => ?_)
        · walk_at "go"
          refine ⟨_, hD3, by rw [List.length_map]; exact small1000 (by omega), .of ⟨ns ++ [gapI o e.2 k s], by rw [upd_same, List.map_append]; rfl, ?_, by rw [List.length_append]; exact Nat.succ_le_succ hnl, X3.mut n3⟩⟩
          rw [take_at ex, List.map_append, List.filter_append, ← hns]
          show _ = ns ++ List.filter _ [gapI o e.2 k s]
          rw [List.filter_cons, if_pos ee]
          rfl
        · refine .of ⟨ns, hD3, ?_, Nat.le_succ_of_le hnl, X3⟩
          rw [take_at ex, List.map_append, List.filter_append, ← hns]
          show _ = ns ++ List.filter _ [gapI o e.2 k s]
          rw [List.filter_cons, if_neg ee, List.filter_nil, List.append_nil]
      · obtain ⟨ns, hD3, hns, hnl, X3⟩ := hW.get
        rw [List.length_map] at hns hnl
        rw [List.take_of_length_le (Nat.le_refl _)] at hns
        have hd3 : SqL K H3 D3 (ns.map V.int) := .of hD3
        walk_at "go"
        refine ⟨Nat.le_of_lt (small1000 (by simp only [List.length_cons, List.length_append, List.length_map, List.length_nil]; omega)), fun p np => ?_⟩
        refine ⟨_, m :: borI A0 A1 o k s :: ns, rfl, .of (by rw [List.append_nil]; exact upd_same), Nat.zero_lt_succ _, fun x hx hle => ?_⟩
        have S3 : Same H (upd H3 p (.lst (V.int m :: V.int (borI A0 A1 o k s) :: (ns.map V.int ++ [])))) := (S1.trans S2).trans ((X3.same n3).trans (same_new np))
        have hgs : ∀ g, g ∈ ns ↔ (∃ q ∈ os, shB o q (1 - k) = true ∧ gapI o q k s = g) ∧ g ≥ 0 := by
          intro g
          rw [hns, List.mem_filter, decide_eq_true_iff]
          refine and_congr_left fun _ => ?_
          rw [show (l.map fun e => gapI o e.2 k s) = (l.map (·.2)).map fun q => gapI o q k s by rw [List.map_map]; rfl, he, List.mem_map]
          constructor
          · rintro ⟨q, hq, e⟩
            exact ⟨q, (List.mem_filter.mp hq).1, (List.mem_filter.mp hq).2, e⟩
          · rintro ⟨q, hq, h, e⟩
            exact ⟨q, List.mem_filter.mpr ⟨hq, h⟩, e⟩
        refine hq x _ (.of_min hm (hle m (.head _)) (hle _ (.tail _ (.head _))) (fun q hqo h h0 => hle _ (.tail _ (.tail _ ((hgs _).mpr ⟨⟨q, hqo, h, rfl⟩, h0⟩)))) ?_) S3
        rcases List.mem_cons.mp hx with h | h
        · exact .inl h
        · rcases List.mem_cons.mp h with h | h
          · exact .inr (.inl h)
          · obtain ⟨⟨q, hqo, h, e⟩, h0⟩ := (hgs x).mp h
            exact .inr (.inr ⟨q, hqo, h, by omega, e.symm⟩)
theorem ok_bar_in (T : Tp w K mg) : FnOk P w K mg base CX0 3 T.a_bar_in T.d_bar_in ["arena", "box", "others", "way"] (sp_bar_in K) := by
  refine T.F_bar_in.ok sc_bar_in ?len (fun cdv A outer s H vs Q E hr h => ?_)
  case len => intro vs H Q E h; obtain ⟨r, a, b, c, A0, A1, k, s, o, os, rfl, _⟩ := h; rfl
  obtain ⟨r, a, b, c, A0, A1, k, s, o, os, rfl, hr', ha, hb, hn, hc, hk, hq⟩ := h
  refine ⟨_, (pss_cons (ps_set (i := 4) sc_bar_in.nd rfl (Or.inl rfl) (pe_call (ok_shifted T) (hr.mono (by decide)) (by rfl) T.g_shifted T.F_shifted.kp T.b_shifted .nil pass0 (pa_cons (pv 1) (pa_cons (pe_ix ix_tup (pv 3) pe_int (fun _ _ => rfl)) (pa_cons (pe_ix ix_tup (pv 3) pe_int (fun _ _ => rfl)) pa_nil)))))
    (pss_cons (ps_for PassesOwn.never rfl (pi_enumT (by rfl) T.m_enumerate (pa_cons (pv 2) pa_nil)) (pg_tup (by rfl) (pgs_cons (pg_name (i := 5) sc_bar_in.nd rfl (Or.inl rfl)) (pgs_cons (pg_name (i := 6) sc_bar_in.nd rfl (Or.inl rfl)) pgs_nil))) (pss_one (ps_if (PW.pt (pw_and (pt_val (pe_call (ok_are_meeting_in T) (hr.mono (by decide)) (by rfl) T.g_are_meeting_in T.F_are_meeting_in.kp T.b_are_meeting_in .nil pass0 (pa_cons (pv 4) (pa_cons (pv 6) (pa_cons pe_int pa_nil))))) (pw_and1 (pt_not (pt_val (pe_call (ok_are_meeting_in T) (hr.mono (by decide)) (by rfl) T.g_are_meeting_in T.F_are_meeting_in.kp T.b_are_meeting_in .nil pass0 (pa_cons (pv 1) (pa_cons (pv 6) (pa_cons pe_int pa_nil))))))))) (pss_one (ps_ret (pv 5))) pss_nil)))
    (pss_one (ps_ret (pe_ifExp (pt_val (pe_call (ok_is_beyond T) (hr.mono (by decide)) (by rfl) T.g_is_beyond T.F_is_beyond.kp T.b_is_beyond .nil pass0 (pa_cons (pv 0) (pa_cons (pv 4) (pa_cons (pv 3) pa_nil))))) (pe_glob (by rfl) T.c_BORDER T.r_BORDER) pe_non))))), ?_⟩
  walk_at "go"
  refine fun pt H1 S1 ht => ?_
  obtain ⟨rs, h1, h2, h3⟩ := hb.same S1
  have ha1 := same_sqt S1 ha
  have hr1 := same_sqt S1 hr'
  have hc1 := same_sqt S1 hc
  walk_at "go"
  refine for_it (walk_enumT (K := K) (xs := rs.map V.ref)) (fun i σ H' => Stp (∃ y5 y6, σ = [some (.ref r), some (.ref a), some (.ref b), some (.ref c), some (.ref pt), y5, y6] ∧ (∀ (j : Nat) (q : Bx), j < i → os[j]? = some q → newB (shift o k s) o q = false) ∧ Same H1 H'))
    (.of ⟨none, none, rfl, (fun j q hj => absurd hj (Nat.not_lt_zero _)), Same.refl _⟩) (fun i σ H' hi hW => ?_) (fun i x σ H' H'' hi hW hy => ?_) (fun σ H' hW => ?_)
  · obtain ⟨_, _, _, _, S⟩ := hW.get
    exact same_sqt S h1
  · obtain ⟨y5, y6, rfl, hj, S⟩ := hW.get
    obtain ⟨t, x1, x2, rfl, nt, rfl, e1, e2⟩ := hy
    cases e1
    obtain ⟨y, rfl, hy⟩ := ref_at e2
    obtain ⟨q, hq', hy2⟩ := h3 i y hy
    have hjs : newB (shift o k s) o q = false → ∀ (j : Nat) (p : Bx), j < i + 1 → os[j]? = some p → newB (shift o k s) o p = false := fun h j p hj2 ep => by
      rcases Nat.lt_or_ge j i with z | z
      · exact hj j p z ep
      · obtain rfl : j = i := by omega
        rw [hq'] at ep
        cases ep
        exact h
    have S2 : Same H1 (upd H' t (.tup [.int (i : Nat), .ref y])) := S.trans (same_new nt)
    have hT : SqT K (upd H' t (.tup [.int (i : Nat), .ref y])) t [.int (i : Nat), .ref y] := .of upd_same
    generalize upd H' t (.tup [.int (i : Nat), .ref y]) = H2 at *
    have hy3 := same_sqt S2 hy2
    have ha2 := same_sqt S2 ha1
    have ht2 := same_sqt S2 ht
    walk_at "go"
    refine fun H3 S3 => ?_
    have hy4 := same_sqt S3 hy3
    have ha3 := same_sqt S3 ha2
    rw [grow_zero]
    walk_at "go"
    refine ite2 (fun e => ?_) (fun e => ?_)
    · walk_at "go"
      refine fun H4 S4 => ?_
      rw [grow_zero]
      walk_at "go"
      refine ite2 (fun e2 => ?_) (fun e2 => ?_)
      · walk_at "go"
        exact hq _ H4 (.inl ⟨i, q, hq', by unfold newB; rw [e, e2]; rfl, hj, rfl⟩) (S1.trans (S2.trans (S3.trans S4)))
      · walk_at "go"
        exact .of ⟨_, _, rfl, hjs (by unfold newB; rw [eq_false_of_ne_true e2, Bool.and_false]), S2.trans (S3.trans S4)⟩
    · walk_at "go"
      exact .of ⟨_, _, rfl, hjs (by unfold newB; rw [eq_false_of_ne_true e, Bool.false_and]), S2.trans S3⟩
  · obtain ⟨y5, y6, rfl, hj, S⟩ := hW.get
    rw [List.length_map] at hj
    have ht2 := same_sqt S ht
    have hr2 := same_sqt S hr1
    have hc2 := same_sqt S hc1
    have hno : ∀ q ∈ os, newB (shift o k s) o q = false := fun q hm => by
      obtain ⟨j, hj2, e⟩ := List.getElem_of_mem hm
      exact hj j q (by omega) (by rw [List.getElem?_eq_getElem hj2, e])
    walk_at "go"
    refine ite2 (fun e => ?_) (fun e => ?_)
    · walk_at "go"
      exact hq _ H' (.inr (.inl ⟨hno, e, rfl⟩)) (S1.trans S)
    · walk_at "go"
      exact hq _ H' (.inr (.inr ⟨hno, eq_false_of_ne_true e, rfl⟩)) (S1.trans S)
theorem small_mul {s x : Int} (hs : -1 ≤ s ∧ s ≤ 1) (hx : 0 ≤ x ∧ x ≤ 1000000000) : CMul s x := .inl ⟨by omega, by omega⟩
theorem ok_moved_along (T : Tp w K mg) : FnOk P w K mg base CX0 3 T.a_moved_along T.d_moved_along ["arena", "box", "others", "axis", "units"] (sp_moved_along K) := by
  refine T.F_moved_along.ok sc_moved_along ?len (fun cdv A outer s H vs Q E hr h => ?_)
  case len => intro vs H Q E h; obtain ⟨r, a, b, k, u, A0, A1, o, os, rfl, _⟩ := h; rfl
  obtain ⟨r, a, b, k, u, A0, A1, o, os, rfl, hr', ha, hb, hn, hk, hu, hq⟩ := h
  refine ⟨_, (pss_cons (ps_set (i := 5) sc_moved_along.nd rfl (Or.inl rfl) (pe_call (ok_way_of T) (hr.mono (by decide)) (by rfl) T.g_way_of T.F_way_of.kp T.b_way_of .nil pass0 (pa_cons (pv 3) (pa_cons (pv 4) pa_nil))))
    (pss_one (ps_ret (pe_call (ok_shifted T) (hr.mono (by decide)) (by rfl) T.g_shifted T.F_shifted.kp T.b_shifted .nil pass0 (pa_cons (pv 1) (pa_cons (pv 3) (pa_cons (pe_op op_mul (pe_ix ix_tup (pv 5) pe_int (fun _ _ => rfl)) (pe_call (ok_reach_in T) (hr.mono (by decide)) (by rfl) T.g_reach_in T.F_reach_in.kp T.b_reach_in .nil pass0 (pa_cons (pv 0) (pa_cons (pv 1) (pa_cons (pv 2) (pa_cons (pv 5) (pa_cons (pe_callB call_abs (by rfl) T.m_abs (by decide +kernel) (pa_cons (pv 4) pa_nil)) pa_nil))))))) pa_nil))))))), ?_⟩
  walk_at "go"
  refine fun pt H1 S1 ht => ?_
  have ha1 := same_sqt S1 ha
  have hr1 := same_sqt S1 hr'
  have hb1 := hb.same S1
  have hab : 0 ≤ ab u ∧ ab u ≤ 1000000000 := by unfold ab; split <;> omega
  walk_at "go"
  refine fun x H2 hF S2 => ?_
  have hx : 0 ≤ x ∧ x ≤ 1000000000 := ⟨hF.1, Int.le_trans hF.2.1 hab.2⟩
  have hs : -1 ≤ sg u ∧ sg u ≤ 1 := by unfold sg; split <;> omega
  have ha2 := same_sqt S2 ha1
  have ht2 := same_sqt S2 ht
  refine ⟨_, _, rfl, rfl, small_mul hs hx, ?_⟩
  walk_at "go"
  refine fun p H3 S3 h => ?_
  exact hq x p H3 hF (S1.trans (S2.trans S3)) h
theorem ok_moved_box_in (T : Tp w K mg) : FnOk P w K mg base CX0 4 T.a_moved_box_in T.d_moved_box_in ["arena", "box", "others", "dx", "dy"] (sp_moved_box_in K) := by
  refine T.F_moved_box_in.ok sc_moved_box_in ?len (fun cdv A outer s H vs Q E hr h => ?_)
  case len => intro vs H Q E h; obtain ⟨r, a, b, dx, dy, A0, A1, o, os, rfl, _⟩ := h; rfl
  obtain ⟨r, a, b, dx, dy, A0, A1, o, os, rfl, W, hx, hy, hq⟩ := h
  refine ⟨_, (pss_one (ps_ret (pe_call (ok_moved_along T) (hr.mono (by decide)) (by rfl) T.g_moved_along T.F_moved_along.kp T.b_moved_along .nil pass0 (pa_cons (pv 0) (pa_cons (pe_call (ok_moved_along T) (hr.mono (by decide)) (by rfl) T.g_moved_along T.F_moved_along.kp T.b_moved_along .nil pass0 (pa_cons (pv 0) (pa_cons (pv 1) (pa_cons (pv 2) (pa_cons pe_int (pa_cons (pv 3) pa_nil)))))) (pa_cons (pv 2) (pa_cons pe_int (pa_cons (pv 4) pa_nil)))))))), ?_⟩
  have ha := W.a
  have hr1 := W.r
  have hb := W.b
  have hn := W.n
  walk_at "go"
  refine fun x p H1 hF S1 h1 => ?_
  have hr2 := same_sqt S1 hr1
  have hb2 := hb.same S1
  walk_at "go"
  refine fun y p2 H2 hF2 S2 h2 => ?_
  exact hq _ p2 H2 ⟨x, y, hF, hF2, rfl⟩ (S1.trans S2) h2

theorem ok_is_whole (T : Tp w K mg) : FnOk P w K mg base CX0 1 T.a_is_whole T.d_is_whole ["value"] (sp_is_whole K) := by
  refine T.F_is_whole.ok sc_is_whole ?len (fun cdv A outer s H vs Q E hr h => ?_)
  case len =>
    intro vs H Q E h
    obtain ⟨x, rfl, _⟩ := h
    rfl
  obtain ⟨x, rfl, j, q⟩ := h
  obtain ⟨n, t, hi, hb, hs⟩ := j.ty
  refine ⟨_, (pss_one (ps_ret (pe_and (pe_callB call_isi (by rfl) T.m_isinstance (by decide +kernel) (pa_cons (pv 0) (pa_cons (pe_bltn (v := .ty "int") (by rfl) T.m_int (by decide +kernel) rfl) pa_nil))) (pe_one (pe_not (pe_callB call_isi (by rfl) T.m_isinstance (by decide +kernel) (pa_cons (pv 0) (pa_cons (pe_bltn (v := .ty "bool") (by rfl) T.m_bool (by decide +kernel) rfl) pa_nil)))))))), ?_⟩
  walk_at "go"
  cases x <;> first
    | (refine iteF ?_; exact q)
    | (refine iteT ?_; walk_at "go"; exact q)
theorem ok_is_from (T : Tp w K mg) : FnOk P w K mg base CX0 2 T.a_is_from T.d_is_from ["value", "least", "most"] (sp_is_from K) := by
  refine T.F_is_from.ok sc_is_from ?len (fun cdv A outer s H vs Q E hr h => ?_)
  case len =>
    intro vs H Q E h
    obtain ⟨x, a, b, rfl, _⟩ := h
    rfl
  obtain ⟨x, a, b, rfl, j, q⟩ := h
  refine ⟨_, (pss_one (ps_ret (pe_and (pe_call (ok_is_whole T) (hr.mono (by decide)) (by rfl) T.g_is_whole T.F_is_whole.kp T.b_is_whole .nil pass0 (pa_cons (pv 0) pa_nil)) (pe_one (pe_chain op_le op_le (pv 1) (pv 0) (pv 2)))))), ?_⟩
  walk_at "go"
  cases x with
  | int i =>
    walk_at "go"
    refine ite2 (fun e => ?_) (fun e => ?_)
    · walk_at "go"
      exact and_t (F := fun c => Q (.bl c) H) q e
    · exact and_f (F := fun c => Q (.bl c) H) q e
  | _ => refine iteF ?_; exact q

theorem fromB_int {i a b : Int} (h1 : a ≤ i) (h2 : i ≤ b) : fromB (.int i) a b = true := by
  show (decide (a ≤ i) && decide (i ≤ b)) = true
  rw [decide_eq_true h1, decide_eq_true h2]
  rfl
theorem kit_tt : kitB "tuple" "tuple" = some true := by decide +kernel
theorem kit_ss : kitB "str" "str" = some true := by decide +kernel
theorem ty_tup {K : PySem.W.Frag} {H : Hp} {a : Addr} {xs : List V} (h : SqT K H a xs) : TyX K H (.ref a) (.type "tuple") := by
  rcases h with (h | ⟨o, h⟩) | ⟨o, its, n, hk, hc, _⟩
  · exact .base (.tup h)
  · exact .fTuple h
  · exact .kTuple hk hc
theorem rep_all (n : Nat) : (List.replicate n true).all id = true := by
  simp
theorem rep_succ (n : Nat) : ((List.replicate n true).map V.bl) ++ [V.bl true] = (List.replicate (n + 1) true).map V.bl := by
  rw [List.replicate_succ', List.map_append]
  rfl
theorem fit_at {o : Bx} (f : o.fit) {i : Nat} {x : V} (h : o.vs[i]? = some x) : ∃ n, x = .int n ∧ -1000000000 ≤ n ∧ n ≤ 1000000000 := by
  obtain ⟨f1, f2, f3, f4⟩ := f
  have := List.mem_of_getElem? h
  simp only [Bx.vs, List.mem_cons, List.not_mem_nil, or_false] at this
  rcases this with rfl | rfl | rfl | rfl <;> exact ⟨_, rfl, by omega, by omega⟩
theorem fit_at2 {o : Bx} (f : o.fit) {i : Nat} {x : V} (h : [V.int o.w, V.int o.h][i]? = some x) : ∃ n, x = .int n ∧ 1 ≤ n ∧ n ≤ 40 := by
  obtain ⟨f1, f2, f3, f4⟩ := f
  have := List.mem_of_getElem? h
  simp only [List.mem_cons, List.not_mem_nil, or_false] at this
  rcases this with rfl | rfl <;> exact ⟨_, rfl, by omega, by omega⟩
theorem ok_require_from (T : Tp w K mg) : FnOk P w K mg base CX0 3 T.a_require_from T.d_require_from ["value", "least", "most"] (sp_require_from K) := by
  refine T.F_require_from.ok sc_require_from ?len (fun cdv A outer s H vs Q E hr h => ?_)
  case len => intro vs H Q E h; obtain ⟨i, a, b, rfl, _⟩ := h; rfl
  obtain ⟨i, a, b, rfl, h1, h2, hq⟩ := h
  refine ⟨_, (pss_one (ps_if (pt_not (pt_val (pe_call (ok_is_from T) (hr.mono (by decide)) (by rfl) T.g_is_from T.F_is_from.kp T.b_is_from .nil pass0 (pa_cons (pv 0) (pa_cons (pv 1) (pa_cons (pv 2) pa_nil)))))) (pss_one ps_never) pss_nil)), ?_⟩
  walk_at "go"
  rw [fromB_int h1 h2]
  walk_at "go"
  exact hq
theorem ok_is_number (T : Tp w K mg) : FnOk P w K mg base CX0 3 T.a_is_number T.d_is_number ["value"] (sp_is_number K) := by
  refine T.F_is_number.ok sc_is_number ?len (fun cdv A outer s H vs Q E hr h => ?_)
  case len => intro vs H Q E h; obtain ⟨x, rfl, _⟩ := h; rfl
  obtain ⟨x, rfl, j, hq⟩ := h
  refine ⟨_, (pss_one (ps_ret (pe_call (ok_is_from T) (hr.mono (by decide)) (by rfl) T.g_is_from T.F_is_from.kp T.b_is_from .nil pass0 (pa_cons (pv 0) (pa_cons (pe_un un_neg (pe_glob (by rfl) T.c_MOST T.r_MOST)) (pa_cons (pe_glob (by rfl) T.c_MOST T.r_MOST) pa_nil)))))), ?_⟩
  walk_at "go"
  exact hq
theorem ok_is_box (T : Tp w K mg) : FnOk P w K mg base CX0 4 T.a_is_box T.d_is_box ["value"] (sp_is_box K) := by
  refine T.F_is_box.ok sc_is_box ?len (fun cdv A outer s H vs Q E hr h => ?_)
  case len => intro vs H Q E h; obtain ⟨a, o, rfl, _⟩ := h; rfl
  obtain ⟨a, o, rfl, ha, hf, hq⟩ := h
  have tt := ty_tup ha
  have kt := kit_tt
  refine ⟨_, (pss_cons (ps_if (PW.pt (pw_or (pt_not (pt_val (pe_callB call_isi (by rfl) T.m_isinstance (by decide +kernel) (pa_cons (pv 0) (pa_cons (pe_bltn (v := .ty "tuple") (by rfl) T.m_tuple (by decide +kernel) rfl) pa_nil))))) (pw_or (pt_cmpR op_ne (pe_callB call_len_seq (by rfl) T.m_len (by decide +kernel) (pa_cons (pv 0) pa_nil)) (pe_glob (by rfl) T.c_BOX_PARTS T.r_BOX_PARTS) (nomark _)) (pw_or1 (pt_not (pt_val (pe_callB (cr_all rfl) (by rfl) T.m_all (by decide +kernel) (pa_cons (pe_lc (own := [("one", 1)]) (g := gName 1) (tt := tYes) (by rfl) sc_is_box.nd (pi_tup (pv 0)) (blkOk_by (own := [("one", 1)]) (N := N_is_box) (sc := defScope s_is_box) (by decide +kernel)) (fun _ _ _ _ _ => pg_name (i := 1) sc_is_box.nd rfl (Or.inl rfl)) (fun _ _ _ _ _ => pts_nil) (fun _ _ _ _ _ => (pe_call (ok_is_number T) (hr.mono (by decide)) (by rfl) T.g_is_number T.F_is_number.kp T.b_is_number .nil pass0 (pa_cons (pv 1) pa_nil)))) pa_nil)))))))) (pss_one (ps_ret pe_bl)) pss_nil)
    (pss_one (ps_ret (pe_callB (cr_all rfl) (by rfl) T.m_all (by decide +kernel) (pa_cons (pe_lc (own := [("one", 1)]) (g := gName 1) (tt := tYes) (by rfl) sc_is_box.nd (pi_tup (pe_slice sl_tup (pv 0) (po_some pe_int) po_none)) (blkOk_by (own := [("one", 1)]) (N := N_is_box) (sc := defScope s_is_box) (by decide +kernel)) (fun _ _ _ _ _ => pg_name (i := 1) sc_is_box.nd rfl (Or.inl rfl)) (fun _ _ _ _ _ => pts_nil) (fun _ _ _ _ _ => (pe_call (ok_is_from T) (hr.mono (by decide)) (by rfl) T.g_is_from T.F_is_from.kp T.b_is_from .nil pass0 (pa_cons (pv 1) (pa_cons pe_int (pa_cons (pe_glob (by rfl) T.c_MOST_SIDE T.r_MOST_SIDE) pa_nil)))))) pa_nil))))), ?_⟩
  walk_at "go"
  walk_at "tt"
  walk_at "go"
  refine fun D n => lc_tup (K := K) (xs := o.vs) (fun i H' => Stp (H' D = some (.lst ((List.replicate i true).map V.bl)) ∧ Ext D H H')) (.of ⟨upd_same, Ext.new n⟩) (fun i H' hi hW => same_sqt (hW.get.2.same n) ha) (fun i x H' hx hW => ?_) (fun H' hW => ?_)
  · obtain ⟨hD, X⟩ := hW.get
    obtain ⟨m, rfl, m1, m2⟩ := fit_at hf hx
    have hlen : i < 4 := (List.getElem?_eq_some_iff.mp hx).1
    walk_at "go"
    rw [fromB_int m1 m2]
    refine ⟨_, hD, by rw [List.length_map, List.length_replicate]; exact small1000 (by omega), .of ⟨by rw [rep_succ]; exact upd_same, X.mut n⟩⟩
  · obtain ⟨hD, X⟩ := hW.get
    have hd : SqL K H' D ((List.replicate o.vs.length true).map V.bl) := .of hD
    have S := X.same n
    have ha1 := same_sqt S ha
    walk_at "go"
    walk_at "tt"
    walk_at "go"
    refine fun p2 np2 => ?_
    generalize hH : upd H' p2 _ = H2
    have S2 : Same H' H2 := by rw [← hH]; exact same_new np2
    have hp2 : SqT K H2 p2 [.int o.w, .int o.h] := by rw [← hH]; exact .of upd_same
    clear hH
    walk_at "go"
    refine fun D2 n2 => lc_tup (K := K) (xs := [.int o.w, .int o.h]) (fun i H' => Stp (H' D2 = some (.lst ((List.replicate i true).map V.bl)) ∧ Ext D2 H2 H')) (.of ⟨upd_same, Ext.new n2⟩) (fun i H' hi hW => same_sqt (hW.get.2.same n2) hp2) (fun i x H' hx hW => ?_) (fun H' hW => ?_)
    · obtain ⟨hD, X⟩ := hW.get
      obtain ⟨m, rfl, m1, m2⟩ := fit_at2 hf hx
      have hlen : i < 2 := (List.getElem?_eq_some_iff.mp hx).1
      walk_at "go"
      rw [fromB_int m1 m2]
      refine ⟨_, hD, by rw [List.length_map, List.length_replicate]; exact small1000 (by omega), .of ⟨by rw [rep_succ]; exact upd_same, X.mut n2⟩⟩
    · obtain ⟨hD, X⟩ := hW.get
      have hd : SqL K H' D2 ((List.replicate 2 true).map V.bl) := .of hD
      have S3 := X.same n2
      walk_at "go"
      exact hq _ (S.trans (S2.trans S3))
theorem ok_require_arena (T : Tp w K mg) : FnOk P w K mg base CX0 3 T.a_require_arena T.d_require_arena ["value"] (sp_require_arena K) := by
  refine T.F_require_arena.ok sc_require_arena ?len (fun cdv A outer s H vs Q E hr h => ?_)
  case len => intro vs H Q E h; obtain ⟨r, A0, A1, rfl, _⟩ := h; rfl
  obtain ⟨r, A0, A1, rfl, hr', h0, h1, hq⟩ := h
  have tt := ty_tup hr'
  have kt := kit_tt
  refine ⟨_, (pss_cons (ps_set (i := 1) sc_require_arena.nd rfl (Or.inl rfl) (pe_and (pe_callB call_isi (by rfl) T.m_isinstance (by decide +kernel) (pa_cons (pv 0) (pa_cons (pe_bltn (v := .ty "tuple") (by rfl) T.m_tuple (by decide +kernel) rfl) pa_nil))) (pe_one (pe_cmpR op_eq (pe_callB call_len_seq (by rfl) T.m_len (by decide +kernel) (pa_cons (pv 0) pa_nil)) (pe_glob (by rfl) T.c_ARENA_PARTS T.r_ARENA_PARTS) (nomark _)))))
    (pss_one (ps_if (PW.pt (pw_or (pt_not (pt_val (pv 1))) (pw_or1 (pt_not (pt_val (pe_callB (cr_all rfl) (by rfl) T.m_all (by decide +kernel) (pa_cons (pe_lc (own := [("one", 2)]) (g := gName 2) (tt := tYes) (by rfl) sc_require_arena.nd (pi_tup (pv 0)) (blkOk_by (own := [("one", 2)]) (N := N_require_arena) (sc := defScope s_require_arena) (by decide +kernel)) (fun _ _ _ _ _ => pg_name (i := 2) sc_require_arena.nd rfl (Or.inl rfl)) (fun _ _ _ _ _ => pts_nil) (fun _ _ _ _ _ => (pe_call (ok_is_from T) (hr.mono (by decide)) (by rfl) T.g_is_from T.F_is_from.kp T.b_is_from .nil pass0 (pa_cons (pv 2) (pa_cons pe_int (pa_cons (pe_glob (by rfl) T.c_MOST_ARENA T.r_MOST_ARENA) pa_nil)))))) pa_nil))))))) (pss_one ps_never) pss_nil))), ?_⟩
  walk_at "go"
  walk_at "tt"
  walk_at "go"
  refine fun D n => lc_tup (K := K) (xs := [.int A0, .int A1]) (fun i H' => Stp (H' D = some (.lst ((List.replicate i true).map V.bl)) ∧ Ext D H H')) (.of ⟨upd_same, Ext.new n⟩) (fun i H' hi hW => same_sqt (hW.get.2.same n) hr') (fun i x H' hx hW => ?_) (fun H' hW => ?_)
  · obtain ⟨hD, X⟩ := hW.get
    obtain ⟨m, rfl, m1, m2⟩ : ∃ n, x = .int n ∧ 1 ≤ n ∧ n ≤ 400 := by
      have := List.mem_of_getElem? hx
      simp only [List.mem_cons, List.not_mem_nil, or_false] at this
      rcases this with rfl | rfl <;> exact ⟨_, rfl, by omega, by omega⟩
    have hlen : i < 2 := (List.getElem?_eq_some_iff.mp hx).1
    walk_at "go"
    rw [fromB_int m1 m2]
    refine ⟨_, hD, by rw [List.length_map, List.length_replicate]; exact small1000 (by omega), .of ⟨by rw [rep_succ]; exact upd_same, X.mut n⟩⟩
  · obtain ⟨hD, X⟩ := hW.get
    have hd : SqL K H' D ((List.replicate 2 true).map V.bl) := .of hD
    have S := X.same n
    walk_at "go"
    walk_at "tt"
    walk_at "go"
    exact hq _ S
theorem ok_require_box (T : Tp w K mg) : FnOk P w K mg base CX0 5 T.a_require_box T.d_require_box ["value"] (sp_require_box K) := by
  refine T.F_require_box.ok sc_require_box ?len (fun cdv A outer s H vs Q E hr h => ?_)
  case len => intro vs H Q E h; obtain ⟨a, o, rfl, _⟩ := h; rfl
  obtain ⟨a, o, rfl, ha, hf, hq⟩ := h
  refine ⟨_, (pss_one (ps_if (pt_not (pt_val (pe_call (ok_is_box T) (hr.mono (by decide)) (by rfl) T.g_is_box T.F_is_box.kp T.b_is_box .nil pass0 (pa_cons (pv 0) pa_nil)))) (pss_one ps_never) pss_nil)), ?_⟩
  walk_at "go"
  refine fun H1 S1 => ?_
  walk_at "go"
  exact hq _ S1
theorem ok_require_others (T : Tp w K mg) : FnOk P w K mg base CX0 5 T.a_require_others T.d_require_others ["value"] (sp_require_others K) := by
  refine T.F_require_others.ok sc_require_others ?len (fun cdv A outer s H vs Q E hr h => ?_)
  case len => intro vs H Q E h; obtain ⟨b, os, rfl, _⟩ := h; rfl
  obtain ⟨b, os, rfl, hb, hn, hf, hq⟩ := h
  obtain ⟨rs, h1, h2, h3⟩ := hb
  have tt := ty_tup h1
  have kt := kit_tt
  refine ⟨_, (pss_one (ps_if (PW.pt (pw_or (pt_not (pt_val (pe_callB call_isi (by rfl) T.m_isinstance (by decide +kernel) (pa_cons (pv 0) (pa_cons (pe_bltn (v := .ty "tuple") (by rfl) T.m_tuple (by decide +kernel) rfl) pa_nil))))) (pw_or (pt_cmpR op_gt (pe_callB call_len_seq (by rfl) T.m_len (by decide +kernel) (pa_cons (pv 0) pa_nil)) (pe_glob (by rfl) T.c_MOST_OTHERS T.r_MOST_OTHERS) (nomark _)) (pw_or1 (pt_not (pt_val (pe_callB (cr_all rfl) (by rfl) T.m_all (by decide +kernel) (pa_cons (pe_lc (own := [("one", 1)]) (g := gName 1) (tt := tYes) (by rfl) sc_require_others.nd (pi_tup (pv 0)) (blkOk_by (own := [("one", 1)]) (N := N_require_others) (sc := defScope s_require_others) (by decide +kernel)) (fun _ _ _ _ _ => pg_name (i := 1) sc_require_others.nd rfl (Or.inl rfl)) (fun _ _ _ _ _ => pts_nil) (fun _ _ _ _ _ => (pe_call (ok_is_box T) (hr.mono (by decide)) (by rfl) T.g_is_box T.F_is_box.kp T.b_is_box .nil pass0 (pa_cons (pv 1) pa_nil)))) pa_nil)))))))) (pss_one ps_never) pss_nil)), ?_⟩
  walk_at "go"
  refine iteN (fun z => ?_) ?_
  · have := of_decide_eq_true z
    rw [List.length_map] at this
    omega
  walk_at "go"
  refine fun D n => lc_tup (K := K) (xs := rs.map V.ref) (fun i H' => Stp (H' D = some (.lst ((List.replicate i true).map V.bl)) ∧ Ext D H H')) (.of ⟨upd_same, Ext.new n⟩) (fun i H' hi hW => same_sqt (hW.get.2.same n) h1) (fun i x H' hx hW => ?_) (fun H' hW => ?_)
  · obtain ⟨hD, X⟩ := hW.get
    obtain ⟨y, rfl, hy⟩ := ref_at hx
    obtain ⟨q, hq', hy2⟩ := h3 i y hy
    have hy3 := same_sqt (X.same n) hy2
    have hlen : i < rs.length := (List.getElem?_eq_some_iff.mp hy).1
    have hqf := hf q (mem_of_at hq')
    walk_at "go"
    refine fun H4 S4 => ⟨_, S4 _ _ hD, by rw [List.length_map, List.length_replicate]; exact small1000 (by omega), .of ⟨by rw [rep_succ]; exact upd_same, (X.trans (.of S4)).mut n⟩⟩
  · obtain ⟨hD, X⟩ := hW.get
    have hd := SqL.of (K := K) hD
    have S := X.same n
    walk_at "go"
    rw [rep_all]
    walk_at "tt"
    walk_at "go"
    exact hq _ S
theorem ok_require_any_number (T : Tp w K mg) : FnOk P w K mg base CX0 4 T.a_require_any_number T.d_require_any_number ["value"] (sp_require_any_number K) := by
  refine T.F_require_any_number.ok sc_require_any_number ?len (fun cdv A outer s H vs Q E hr h => ?_)
  case len => intro vs H Q E h; obtain ⟨g, rfl, _⟩ := h; rfl
  obtain ⟨g, rfl, hg, hq⟩ := h
  refine ⟨_, (pss_one (ps_if (pt_not (pt_val (pe_call (ok_is_number T) (hr.mono (by decide)) (by rfl) T.g_is_number T.F_is_number.kp T.b_is_number .nil pass0 (pa_cons (pv 0) pa_nil)))) (pss_one ps_never) pss_nil)), ?_⟩
  walk_at "go"
  rw [fromB_int hg.1 hg.2]
  walk_at "go"
  exact hq
theorem ok_require_way (T : Tp w K mg) : FnOk P w K mg base CX0 6 T.a_require_way T.d_require_way ["arena", "box", "others", "side", "many"] (sp_require_way K) := by
  refine T.F_require_way.ok sc_require_way ?len (fun cdv A outer s H vs Q E hr h => ?_)
  case len => intro vs H Q E h; obtain ⟨r, a, b, z, m, A0, A1, k, s, o, os, rfl, _⟩ := h; rfl
  obtain ⟨r, a, b, z, m, A0, A1, k, s, o, os, rfl, W, hz, hm, hq⟩ := h
  have kt := kit_ss
  refine ⟨_, (pss_cons (ps_expr (pe_call (ok_require_arena T) (hr.mono (by decide)) (by rfl) T.g_require_arena T.F_require_arena.kp T.b_require_arena .nil pass0 (pa_cons (pv 0) pa_nil)))
    (pss_cons (ps_expr (pe_call (ok_require_box T) (hr.mono (by decide)) (by rfl) T.g_require_box T.F_require_box.kp T.b_require_box .nil pass0 (pa_cons (pv 1) pa_nil)))
    (pss_cons (ps_expr (pe_call (ok_require_others T) (hr.mono (by decide)) (by rfl) T.g_require_others T.F_require_others.kp T.b_require_others .nil pass0 (pa_cons (pv 2) pa_nil)))
    (pss_cons (ps_if (PW.pt (pw_or (pt_not (pt_val (pe_callB call_isi (by rfl) T.m_isinstance (by decide +kernel) (pa_cons (pv 3) (pa_cons (pe_bltn (v := .ty "str") (by rfl) T.m_str (by decide +kernel) rfl) pa_nil))))) (pw_or1 (pt_cmpR op_notIn_seq (pv 3) (pe_glob (by rfl) T.c_SIDES T.r_SIDES) (by rfl))))) (pss_one ps_never) pss_nil)
    (pss_one (ps_expr (pe_call (ok_require_from T) (hr.mono (by decide)) (by rfl) T.g_require_from T.F_require_from.kp T.b_require_from .nil pass0 (pa_cons (pv 4) (pa_cons pe_int (pa_cons (pe_glob (by rfl) T.c_MOST_WAY T.r_MOST_WAY) pa_nil)))))))))), ?_⟩
  have hr1 := W.r
  have hA := W.ar
  walk_at "go"
  refine fun H1 S1 => ?_
  have W1 := W.same S1
  have ha1 := W1.a
  have hf1 := W1.o
  walk_at "go"
  refine fun H2 S2 => ?_
  have W2 := W1.same S2
  have hb2 := W2.b
  have hn2 := W2.n
  have hf2 := W2.os
  walk_at "go"
  refine fun H3 S3 => ?_
  have tt : TyX K H3 (.str z) (.type "str") := .base (.str z)
  have hS := T.s_SIDES H3
  cases hz <;> (walk_at "go"; walk_at "tt"; walk_at "go"; exact hq _ (S1.trans (S2.trans S3)))
theorem ok_are_meeting (T : Tp w K mg) : FnOk P w K mg base CX0 6 T.a_are_meeting T.d_are_meeting ["one", "other", "grown"] (sp_are_meeting K) := by
  refine T.F_are_meeting.ok sc_are_meeting ?len (fun cdv A outer s H vs Q E hr h => ?_)
  case len => intro vs H Q E h; obtain ⟨a, b, k, o, q, rfl, _⟩ := h; rfl
  obtain ⟨a, b, g, o, q, rfl, ha, hb, hf, hg, hgg, hq⟩ := h
  refine ⟨_, (pss_cons (ps_expr (pe_call (ok_require_box T) (hr.mono (by decide)) (by rfl) T.g_require_box T.F_require_box.kp T.b_require_box .nil pass0 (pa_cons (pv 0) pa_nil)))
    (pss_cons (ps_expr (pe_call (ok_require_box T) (hr.mono (by decide)) (by rfl) T.g_require_box T.F_require_box.kp T.b_require_box .nil pass0 (pa_cons (pv 1) pa_nil)))
    (pss_cons (ps_expr (pe_call (ok_require_any_number T) (hr.mono (by decide)) (by rfl) T.g_require_any_number T.F_require_any_number.kp T.b_require_any_number .nil pass0 (pa_cons (pv 2) pa_nil)))
    (pss_one (ps_ret (pe_call (ok_are_meeting_in T) (hr.mono (by decide)) (by rfl) T.g_are_meeting_in T.F_are_meeting_in.kp T.b_are_meeting_in .nil pass0 (pa_cons (pv 0) (pa_cons (pv 1) (pa_cons (pv 2) pa_nil))))))))), ?_⟩
  walk_at "go"
  refine fun H1 S1 => ?_
  have ha1 := same_sqt S1 ha
  have hb1 := same_sqt S1 hb
  walk_at "go"
  refine fun H2 S2 => ?_
  have ha2 := same_sqt S2 ha1
  have hb2 := same_sqt S2 hb1
  walk_at "go"
  refine fun H3 S3 => ?_
  exact hq _ (S1.trans (S2.trans S3))
theorem way_at {z : Str} {k s : Int} (T : Tp w K mg) (h : Sd z k s) : ∃ p, KDct K w T.p_WAYS z (.ref p) ∧ ∀ H, SqT K H p [.int k, .int s] := by
  cases h
  · exact ⟨_, T.k0_WAYS, T.s0_WAYS⟩
  · exact ⟨_, T.k1_WAYS, T.s1_WAYS⟩
  · exact ⟨_, T.k2_WAYS, T.s2_WAYS⟩
  · exact ⟨_, T.k3_WAYS, T.s3_WAYS⟩
theorem ok_reach (T : Tp w K mg) : FnOk P w K mg base CX0 7 T.a_reach T.d_reach ["arena", "box", "others", "side", "many"] (sp_reach K) := by
  refine T.F_reach.ok sc_reach ?len (fun cdv A outer s H vs Q E hr h => ?_)
  case len => intro vs H Q E h; obtain ⟨r, a, b, z, m, A0, A1, k, s, o, os, rfl, _⟩ := h; rfl
  obtain ⟨r, a, b, z, m, A0, A1, k, s, o, os, rfl, W, hz, hm, hq⟩ := h
  obtain ⟨pw, hw1, hw2⟩ := way_at T hz
  have hk := hz.wy.1
  refine ⟨_, (pss_cons (ps_expr (pe_call (ok_require_way T) (hr.mono (by decide)) (by rfl) T.g_require_way T.F_require_way.kp T.b_require_way .nil pass0 (pa_cons (pv 0) (pa_cons (pv 1) (pa_cons (pv 2) (pa_cons (pv 3) (pa_cons (pv 4) pa_nil)))))))
    (pss_one (ps_ret (pe_call (ok_reach_in T) (hr.mono (by decide)) (by rfl) T.g_reach_in T.F_reach_in.kp T.b_reach_in .nil pass0 (pa_cons (pv 0) (pa_cons (pv 1) (pa_cons (pv 2) (pa_cons (pe_ix ix_kdict (pe_glob (by rfl) T.c_WAYS T.r_WAYS) (pv 3) (fun _ _ => rfl)) (pa_cons (pv 4) pa_nil))))))))), ?_⟩
  walk_at "go"
  refine fun H1 S1 => ?_
  have W1 := W.same S1
  have ha1 := W1.a
  have hb1 := W1.b
  have hr1 := W1.r
  have hn1 := W1.n
  have hp1 := hw2 H1
  have hm0 := hm.1
  walk_at "go"
  exact fun x H2 hF S2 => hq x H2 hF (S1.trans S2)
theorem ok_moved_box (T : Tp w K mg) : FnOk P w K mg base CX0 6 T.a_moved_box T.d_moved_box ["arena", "box", "others", "dx", "dy"] (sp_moved_box K) := by
  refine T.F_moved_box.ok sc_moved_box ?len (fun cdv A outer s H vs Q E hr h => ?_)
  case len => intro vs H Q E h; obtain ⟨r, a, b, dx, dy, A0, A1, o, os, rfl, _⟩ := h; rfl
  obtain ⟨r, a, b, dx, dy, A0, A1, o, os, rfl, W, hx, hy, hq⟩ := h
  refine ⟨_, (pss_cons (ps_expr (pe_call (ok_require_arena T) (hr.mono (by decide)) (by rfl) T.g_require_arena T.F_require_arena.kp T.b_require_arena .nil pass0 (pa_cons (pv 0) pa_nil)))
    (pss_cons (ps_expr (pe_call (ok_require_box T) (hr.mono (by decide)) (by rfl) T.g_require_box T.F_require_box.kp T.b_require_box .nil pass0 (pa_cons (pv 1) pa_nil)))
    (pss_cons (ps_expr (pe_call (ok_require_others T) (hr.mono (by decide)) (by rfl) T.g_require_others T.F_require_others.kp T.b_require_others .nil pass0 (pa_cons (pv 2) pa_nil)))
    (pss_cons (ps_expr (pe_call (ok_require_any_number T) (hr.mono (by decide)) (by rfl) T.g_require_any_number T.F_require_any_number.kp T.b_require_any_number .nil pass0 (pa_cons (pv 3) pa_nil)))
    (pss_cons (ps_expr (pe_call (ok_require_any_number T) (hr.mono (by decide)) (by rfl) T.g_require_any_number T.F_require_any_number.kp T.b_require_any_number .nil pass0 (pa_cons (pv 4) pa_nil)))
    (pss_one (ps_ret (pe_call (ok_moved_box_in T) (hr.mono (by decide)) (by rfl) T.g_moved_box_in T.F_moved_box_in.kp T.b_moved_box_in .nil pass0 (pa_cons (pv 0) (pa_cons (pv 1) (pa_cons (pv 2) (pa_cons (pv 3) (pa_cons (pv 4) pa_nil))))))))))))), ?_⟩
  have hr1 := W.r
  have hA := W.ar
  walk_at "go"
  refine fun H1 S1 => ?_
  have W1 := W.same S1
  have ha1 := W1.a
  have hf1 := W1.o
  walk_at "go"
  refine fun H2 S2 => ?_
  have W2 := W1.same S2
  have hb2 := W2.b
  have hn2 := W2.n
  have hf2 := W2.os
  walk_at "go"
  refine fun H3 S3 => ?_
  have W3 := W2.same S3
  walk_at "go"
  exact fun q p H4 hM S4 => hq q p H4 hM (S1.trans (S2.trans (S3.trans S4)))
theorem ok_barrier (T : Tp w K mg) : FnOk P w K mg base CX0 7 T.a_barrier T.d_barrier ["arena", "box", "others", "side", "many"] (sp_barrier K) := by
  refine T.F_barrier.ok sc_barrier ?len (fun cdv A outer s H vs Q E hr h => ?_)
  case len => intro vs H Q E h; obtain ⟨r, a, b, z, m, A0, A1, k, s, o, os, rfl, _⟩ := h; rfl
  obtain ⟨r, a, b, z, m, A0, A1, k, s, o, os, rfl, W, hz, hm, hq⟩ := h
  obtain ⟨pw, hw1, hw2⟩ := way_at T hz
  have hk := hz.wy.1
  have hs : -1 ≤ s ∧ s ≤ 1 := by have := hz.wy.2; omega
  refine ⟨_, (pss_cons (ps_expr (pe_call (ok_require_way T) (hr.mono (by decide)) (by rfl) T.g_require_way T.F_require_way.kp T.b_require_way .nil pass0 (pa_cons (pv 0) (pa_cons (pv 1) (pa_cons (pv 2) (pa_cons (pv 3) (pa_cons (pv 4) pa_nil)))))))
    (pss_cons (ps_set (i := 5) sc_barrier.nd rfl (Or.inl rfl) (pe_ix ix_kdict (pe_glob (by rfl) T.c_WAYS T.r_WAYS) (pv 3) (fun _ _ => rfl)))
    (pss_cons (ps_set (i := 6) sc_barrier.nd rfl (Or.inl rfl) (pe_call (ok_reach_in T) (hr.mono (by decide)) (by rfl) T.g_reach_in T.F_reach_in.kp T.b_reach_in .nil pass0 (pa_cons (pv 0) (pa_cons (pv 1) (pa_cons (pv 2) (pa_cons (pv 5) (pa_cons (pv 4) pa_nil)))))))
    (pss_one (ps_ret (pe_ifExp (pt_cmpR op_eq (pv 6) (pv 4) (nomark _)) pe_non (pe_call (ok_bar_in T) (hr.mono (by decide)) (by rfl) T.g_bar_in T.F_bar_in.kp T.b_bar_in .nil pass0 (pa_cons (pv 0) (pa_cons (pe_call (ok_shifted T) (hr.mono (by decide)) (by rfl) T.g_shifted T.F_shifted.kp T.b_shifted .nil pass0 (pa_cons (pv 1) (pa_cons (pe_ix ix_tup (pv 5) pe_int (fun _ _ => rfl)) (pa_cons (pe_op op_mul (pe_ix ix_tup (pv 5) pe_int (fun _ _ => rfl)) (pv 6)) pa_nil)))) (pa_cons (pv 2) (pa_cons (pv 5) pa_nil))))))))))), ?_⟩
  walk_at "go"
  refine fun H1 S1 => ?_
  have W1 := W.same S1
  have ha1 := W1.a
  have hb1 := W1.b
  have hr1 := W1.r
  have hn1 := W1.n
  have hp1 := hw2 H1
  have hm0 := hm.1
  walk_at "go"
  refine fun x H2 hF S2 => ?_
  have W2 := W1.same S2
  have ha2 := W2.a
  have hb2 := W2.b
  have hr2 := W2.r
  have hp2 := hw2 H2
  have hxb : 0 ≤ x ∧ x ≤ 1000000000 := ⟨hF.1, Int.le_trans hF.2.1 hm.2⟩
  walk_at "go"
  refine ite2 (fun e => ?_) (fun e => ?_)
  · have e := V.int.inj (of_decide_eq_true e)
    exact hq _ H2 ⟨x, hF, .inl ⟨e, rfl⟩⟩ (S1.trans S2)
  · have e : x ≠ m := fun z => e (decide_eq_true (congrArg V.int z))
    walk_at "go"
    refine fun p H3 S3 h3 => ?_
    have hb3 := hb2.same S3
    have hr3 := same_sqt S3 hr2
    have hp3 := same_sqt S3 hp2
    walk_at "go"
    exact fun v H4 hv S4 => hq v H4 ⟨x, hF, .inr ⟨e, hv⟩⟩ (S1.trans (S2.trans (S3.trans S4)))

theorem ok_reach_by_units (T : Tp w K mg) : FnOk P w K mg base CX0 7 T.a_reach_by_units T.d_reach_by_units ["arena", "box", "others", "side", "many"] (sp_reach_by_units K) := by
  refine T.F_reach_by_units.ok sc_reach_by_units ?len (fun cdv A outer s H vs Q E hr h => ?_)
  case len => intro vs H Q E h; obtain ⟨r, a, b, z, m, A0, A1, k, s, o, os, rfl, _⟩ := h; rfl
  obtain ⟨r, a, b, z, m, A0, A1, k, s, o, os, rfl, W, hz, hm, hq⟩ := h
  obtain ⟨pw, hw1, hw2⟩ := way_at T hz
  have hk := hz.wy.1
  have hwy := hz.wy
  have hs : -1 ≤ s ∧ s ≤ 1 := by have := hz.wy.2; omega
  have hm9 : 0 ≤ m ∧ m ≤ 1000000000 := by omega
  refine ⟨_, (pss_cons (ps_expr (pe_call (ok_require_way T) (hr.mono (by decide)) (by rfl) T.g_require_way T.F_require_way.kp T.b_require_way .nil pass0 (pa_cons (pv 0) (pa_cons (pv 1) (pa_cons (pv 2) (pa_cons (pv 3) (pa_cons (pv 4) pa_nil)))))))
    (pss_cons (ps_if (pt_cmpR op_gt (pv 4) (pe_glob (by rfl) T.c_MOST_UNITS T.r_MOST_UNITS) (nomark _)) (pss_one ps_never) pss_nil)
    (pss_cons (ps_par (i := 5) (j := 6) (by rfl) sc_reach_by_units.nd rfl rfl (by decide) rfl rfl (pa_cons (pe_ix ix_kdict (pe_glob (by rfl) T.c_WAYS T.r_WAYS) (pv 3) (fun _ _ => rfl)) (pa_cons (pv 1) pa_nil)) (by rfl))
    (pss_cons (ps_for PassesOwn.never rfl (pi_range1 rfl T.m_range (pa_cons (pv 4) pa_nil)) (pg_name (i := 7) sc_reach_by_units.nd rfl (Or.inl rfl)) (pss_cons (ps_if (pt_cmp (pc_notN (pe_call (ok_bar_in T) (hr.mono (by decide)) (by rfl) T.g_bar_in T.F_bar_in.kp T.b_bar_in .nil pass0 (pa_cons (pv 0) (pa_cons (pv 6) (pa_cons (pv 2) (pa_cons (pv 5) pa_nil)))))) rfl) (pss_one (ps_ret (pv 7))) pss_nil)
      (pss_one (ps_set (i := 6) sc_reach_by_units.nd rfl (Or.inl rfl) (pe_call (ok_shifted T) (hr.mono (by decide)) (by rfl) T.g_shifted T.F_shifted.kp T.b_shifted .nil pass0 (pa_cons (pv 6) (pa_cons (pe_ix ix_tup (pv 5) pe_int (fun _ _ => rfl)) (pa_cons (pe_ix ix_tup (pv 5) pe_int (fun _ _ => rfl)) pa_nil))))))))
    (pss_one (ps_ret (pv 4))))))), ?_⟩
  walk_at "go"
  refine fun H1 S1 => ?_
  have W1 := W.same S1
  have hm0 := hm.1
  walk_at "go"
  refine iteN (fun z => by have := of_decide_eq_true z; omega) ?_
  walk_at "go"
  refine for_range (lo := 0) (n := _) (fun i σ H' => Stp (∃ y7 ph, σ = [some (.ref r), some (.ref a), some (.ref b), some (.str z), some (.int m), some (.ref pw), some (.ref ph), y7] ∧ SqT K H' ph (shift o k (s * (i : Nat))).vs ∧ Fr A0 A1 o os k s (i : Nat) ∧ Same H1 H'))
    (.of ⟨none, a, rfl, ?_, Fr.zero _ _ _ _ _ _, Same.refl _⟩) (fun i σ H' hi hW => ?_) (fun σ H' hW => ?_)
  · have e : shift o k (s * ((0 : Nat) : Int)) = o := by
      cases o
      simp [shift]
    rw [e]
    exact W1.a
  · obtain ⟨y7, ph, rfl, hh, hF, S⟩ := hW.get
    have W2 := W1.same S
    have hb2 := W2.b
    have hr2 := W2.r
    have hn2 := W2.n
    have hp2 := hw2 H'
    have hi0 : (0 : Int) ≤ (i : Nat) := Int.natCast_nonneg _
    have him : ((i : Nat) : Int) < m := by omega
    have hst := step_iff W.o.pos W.pos hwy hi0 hF
    walk_at "go"
    refine fun v H2 hv S2 => ?_
    have hret : ¬ Fr A0 A1 o os k s ((i : Nat) + 1 : Int) → Q (.int (0 + (i : Nat))) H2 := fun hn => by
      rw [Int.zero_add]
      exact hq _ H2 ⟨hi0, Int.le_of_lt him, hF, .inr hn⟩ (S1.trans (S.trans S2))
    unfold IsBar at hv
    rw [shift_shift] at hv
    rcases hv with ⟨j, q, hv1, hv2, hv3, rfl⟩ | ⟨hv1, hv2, rfl⟩ | ⟨hv1, hv2, rfl⟩
    · walk_at "go"
      walk_at "tt"
      walk_at "go"
      exact hret (hst.mpr (.inl ⟨q, mem_of_at hv1, hv2⟩))
    · walk_at "go"
      walk_at "tt"
      walk_at "go"
      exact hret (hst.mpr (.inr hv2))
    · have hF2 : Fr A0 A1 o os k s ((i : Nat) + 1 : Int) := Classical.byContradiction fun z => by
        rcases hst.mp z with ⟨q, h1, h2⟩ | h1
        · rw [hv1 q h1] at h2; cases h2
        · rw [hv2] at h1; cases h1
      have hh2 := same_sqt S2 hh
      have hp3 := same_sqt S2 hp2
      walk_at "go"
      walk_at "tt"
      walk_at "go"
      refine fun p H3 S3 h3 => .of ⟨_, p, rfl, ?_, hF2, S.trans (S2.trans S3)⟩
      rw [shift_shift] at h3
      exact h3
  · obtain ⟨y7, ph, rfl, hh, hF, S⟩ := hW.get
    rw [Int.toNat_of_nonneg hm0] at hF
    walk_at "go"
    exact hq m H' ⟨hm0, Int.le_refl _, hF, .inl rfl⟩ (S1.trans S)
theorem ok_l_bo_meet (T : Tp w K mg) : FnOk P w K mg base CX0 1 T.a_l_bo_meet T.d_l_bo_meet ["_law_one", "_law_other"] (sp_l_bo_meet K) := by
  refine T.F_l_bo_meet.ok sc_l_bo_meet ?len (fun cdv A outer s H vs Q E hr h => ?_)
  case len => intro vs H Q E h; obtain ⟨a, b, o, q, rfl, _⟩ := h; rfl
  obtain ⟨a, b, o, q, rfl, ha, hb, hq⟩ := h
  refine ⟨_, (pss_cons (ps_if (pt_cmpR op_lt (pe_callB (call_min2 rfl) (by rfl) T.m_min (by decide +kernel) (pa_cons (pe_ix ix_tup (pv 0) pe_int (fun _ _ => rfl)) (pa_cons (pe_ix ix_tup (pv 0) pe_int (fun _ _ => rfl)) pa_nil))) pe_int (nomark _)) (pss_one (ps_ret pe_bl)) pss_nil)
    (pss_cons (ps_set (i := 2) sc_l_bo_meet.nd rfl (Or.inl rfl) (pe_and (pe_cmpR op_lt (pe_ix ix_tup (pv 0) pe_int (fun _ _ => rfl)) (pe_op op_add (pe_ix ix_tup (pv 1) pe_int (fun _ _ => rfl)) (pe_ix ix_tup (pv 1) pe_int (fun _ _ => rfl))) (nomark _)) (pe_one (pe_cmpR op_lt (pe_ix ix_tup (pv 1) pe_int (fun _ _ => rfl)) (pe_op op_add (pe_ix ix_tup (pv 0) pe_int (fun _ _ => rfl)) (pe_ix ix_tup (pv 0) pe_int (fun _ _ => rfl))) (nomark _)))))
    (pss_one (ps_ret (pe_and (pv 2) (pe_and (pe_cmpR op_lt (pe_ix ix_tup (pv 0) pe_int (fun _ _ => rfl)) (pe_op op_add (pe_ix ix_tup (pv 1) pe_int (fun _ _ => rfl)) (pe_ix ix_tup (pv 1) pe_int (fun _ _ => rfl))) (nomark _)) (pe_one (pe_cmpR op_lt (pe_ix ix_tup (pv 1) pe_int (fun _ _ => rfl)) (pe_op op_add (pe_ix ix_tup (pv 0) pe_int (fun _ _ => rfl)) (pe_ix ix_tup (pv 0) pe_int (fun _ _ => rfl))) (nomark _))))))))), ?_⟩
  walk_at "go"
  refine ite2 (fun e => ?_) (fun e => ?_)
  · walk_at "go"
    have hm : meB o q = false := by
      have e := of_decide_eq_true e
      unfold meB
      rw [decide_eq_false (by split at e <;> omega)]
      rfl
    rw [hm] at hq
    exact hq
  · have hm : meB o q = (shB o q 0 && shB o q 1) := by
      unfold meB
      rw [decide_eq_true (by have e : ¬ _ := fun z => e (decide_eq_true z); split at e <;> omega)]
      rfl
    rw [hm] at hq
    walk_at "go"
    refine ite2 (fun e => ?_) (fun e => ?_)
    · walk_at "go"
      refine ite2 (fun e2 => ?_) (fun e2 => ?_)
      · have h0 : shB o q 0 = true := by
          show (_ && _) = true
          rw [Bool.and_eq_true]
          exact ⟨e, e2⟩
        rw [h0] at hq
        have hq : Q (.bl (shB o q 1)) H := hq
        walk_at "go"
        refine ite2 (fun e3 => ?_) (fun e3 => ?_)
        · walk_at "go"
          exact and_t (F := fun c => Q (.bl c) H) hq e3
        · exact and_f (F := fun c => Q (.bl c) H) hq e3
      · have h0 : shB o q 0 = false := by
          show (_ && _) = false
          rw [Bool.and_eq_false_iff]
          exact .inr (eq_false_of_ne_true e2)
        rw [h0] at hq
        exact hq
    · have h0 : shB o q 0 = false := by
        show (_ && _) = false
        rw [Bool.and_eq_false_iff]
        exact .inl (eq_false_of_ne_true e)
      rw [h0] at hq
      walk_at "go"
      exact hq
theorem ok_l_bo_swept (T : Tp w K mg) : FnOk P w K mg base CX0 1 T.a_l_bo_swept T.d_l_bo_swept ["_law_box", "_law_side", "_law_many"] (sp_l_bo_swept K) := by
  refine T.F_l_bo_swept.ok sc_l_bo_swept ?len (fun cdv A outer s H vs Q E hr h => ?_)
  case len => intro vs H Q E h; obtain ⟨a, z, m, k, s, o, rfl, _⟩ := h; rfl
  obtain ⟨a, z, m, k, s, o, rfl, ha, hz, hq⟩ := h
  refine ⟨_, (pss_cons (ps_asg (pv 0) (pg_tup (by rfl) (pgs_cons (pg_name (i := 3) sc_l_bo_swept.nd rfl (Or.inl rfl)) (pgs_cons (pg_name (i := 4) sc_l_bo_swept.nd rfl (Or.inl rfl)) (pgs_cons (pg_name (i := 5) sc_l_bo_swept.nd rfl (Or.inl rfl)) (pgs_cons (pg_name (i := 6) sc_l_bo_swept.nd rfl (Or.inl rfl)) pgs_nil))))))
    (pss_cons (ps_if (pt_cmpR op_in_seq (pv 1) (pe_tup (pa_cons pe_str (pa_cons pe_str pa_nil))) (by rfl)) (pss_one (ps_ret (pe_tup (pa_cons (pe_ifExp (pt_cmpR op_eq (pv 1) pe_str (nomark _)) (pe_op op_sub (pv 3) (pv 2)) (pv 3)) (pa_cons (pv 4) (pa_cons (pe_op op_add (pv 5) (pv 2)) (pa_cons (pv 6) pa_nil))))))) pss_nil)
    (pss_one (ps_ret (pe_tup (pa_cons (pv 3) (pa_cons (pe_ifExp (pt_cmpR op_eq (pv 1) pe_str (nomark _)) (pe_op op_sub (pv 4) (pv 2)) (pv 4)) (pa_cons (pv 5) (pa_cons (pe_op op_add (pv 6) (pv 2)) pa_nil))))))))), ?_⟩
  walk_at "go"
  refine fun p np => ?_
  cases hz <;> (
    walk_at "go"
    walk_at "tt"
    walk_at "go"
    walk_at "tt"
    walk_at "go"
    exact fun p2 np2 => hq p2 _ ((same_new np).trans (same_new np2)) (.of upd_same))
theorem ok_l_bo_put (T : Tp w K mg) : FnOk P w K mg base CX0 1 T.a_l_bo_put T.d_l_bo_put ["_law_box", "_law_side", "_law_many"] (sp_l_bo_put K) := by
  refine T.F_l_bo_put.ok sc_l_bo_put ?len (fun cdv A outer s H vs Q E hr h => ?_)
  case len => intro vs H Q E h; obtain ⟨a, z, m, k, s, o, rfl, _⟩ := h; rfl
  obtain ⟨a, z, m, k, s, o, rfl, ha, hz, hq⟩ := h
  refine ⟨_, (pss_cons (ps_asg (pv 0) (pg_tup (by rfl) (pgs_cons (pg_name (i := 3) sc_l_bo_put.nd rfl (Or.inl rfl)) (pgs_cons (pg_name (i := 4) sc_l_bo_put.nd rfl (Or.inl rfl)) (pgs_cons (pg_name (i := 5) sc_l_bo_put.nd rfl (Or.inl rfl)) (pgs_cons (pg_name (i := 6) sc_l_bo_put.nd rfl (Or.inl rfl)) pgs_nil))))))
    (pss_cons (ps_if (pt_cmpR op_in_seq (pv 1) (pe_tup (pa_cons pe_str (pa_cons pe_str pa_nil))) (by rfl)) (pss_one (ps_ret (pe_tup (pa_cons (pe_ifExp (pt_cmpR op_eq (pv 1) pe_str (nomark _)) (pe_op op_sub (pv 3) (pv 2)) (pe_op op_add (pv 3) (pv 2))) (pa_cons (pv 4) (pa_cons (pv 5) (pa_cons (pv 6) pa_nil))))))) pss_nil)
    (pss_one (ps_ret (pe_tup (pa_cons (pv 3) (pa_cons (pe_ifExp (pt_cmpR op_eq (pv 1) pe_str (nomark _)) (pe_op op_sub (pv 4) (pv 2)) (pe_op op_add (pv 4) (pv 2))) (pa_cons (pv 5) (pa_cons (pv 6) pa_nil))))))))), ?_⟩
  walk_at "go"
  refine fun p np => ?_
  cases hz
  · walk_at "go"
    walk_at "tt"
    walk_at "go"
    walk_at "tt"
    walk_at "go"
    refine fun p2 np2 => hq p2 _ ((same_new np).trans (same_new np2)) ?_
    show SqT K _ p2 [.int (o.x + -1 * m), .int o.y, .int o.w, .int o.h]
    rw [show o.x + -1 * m = o.x - m by omega]
    exact .of upd_same
  · walk_at "go"
    walk_at "tt"
    walk_at "go"
    walk_at "tt"
    walk_at "go"
    refine fun p2 np2 => hq p2 _ ((same_new np).trans (same_new np2)) ?_
    show SqT K _ p2 [.int (o.x + 1 * m), .int o.y, .int o.w, .int o.h]
    rw [show o.x + 1 * m = o.x + m by omega]
    exact .of upd_same
  · walk_at "go"
    walk_at "tt"
    walk_at "go"
    walk_at "tt"
    walk_at "go"
    refine fun p2 np2 => hq p2 _ ((same_new np).trans (same_new np2)) ?_
    show SqT K _ p2 [.int o.x, .int (o.y + -1 * m), .int o.w, .int o.h]
    rw [show o.y + -1 * m = o.y - m by omega]
    exact .of upd_same
  · walk_at "go"
    walk_at "tt"
    walk_at "go"
    walk_at "tt"
    walk_at "go"
    refine fun p2 np2 => hq p2 _ ((same_new np).trans (same_new np2)) ?_
    show SqT K _ p2 [.int o.x, .int (o.y + 1 * m), .int o.w, .int o.h]
    rw [show o.y + 1 * m = o.y + m by omega]
    exact .of upd_same
theorem ok_l_bo_is_beyond (T : Tp w K mg) : FnOk P w K mg base CX0 1 T.a_l_bo_is_beyond T.d_l_bo_is_beyond ["_law_arena", "_law_box", "_law_side"] (sp_l_bo_is_beyond K) := by
  refine T.F_l_bo_is_beyond.ok sc_l_bo_is_beyond ?len (fun cdv A outer s H vs Q E hr h => ?_)
  case len => intro vs H Q E h; obtain ⟨r, a, z, A0, A1, k, s, o, rfl, _⟩ := h; rfl
  obtain ⟨r, a, z, A0, A1, k, s, o, rfl, hr', ha, hz, hq⟩ := h
  refine ⟨_, (pss_cons (ps_if (pt_cmpR op_eq (pv 2) pe_str (nomark _)) (pss_one (ps_ret (pe_cmpR op_lt (pe_ix ix_tup (pv 1) pe_int (fun _ _ => rfl)) pe_int (nomark _)))) pss_nil)
    (pss_cons (ps_if (pt_cmpR op_eq (pv 2) pe_str (nomark _)) (pss_one (ps_ret (pe_cmpR op_lt (pe_ix ix_tup (pv 1) pe_int (fun _ _ => rfl)) pe_int (nomark _)))) pss_nil)
    (pss_one (ps_ret (pe_ifExp (pt_cmpR op_eq (pv 2) pe_str (nomark _)) (pe_cmpR op_gt (pe_op op_add (pe_ix ix_tup (pv 1) pe_int (fun _ _ => rfl)) (pe_ix ix_tup (pv 1) pe_int (fun _ _ => rfl))) (pe_ix ix_tup (pv 0) pe_int (fun _ _ => rfl)) (nomark _)) (pe_cmpR op_gt (pe_op op_add (pe_ix ix_tup (pv 1) pe_int (fun _ _ => rfl)) (pe_ix ix_tup (pv 1) pe_int (fun _ _ => rfl))) (pe_ix ix_tup (pv 0) pe_int (fun _ _ => rfl)) (nomark _))))))), ?_⟩
  cases hz
  · walk_at "go"
    walk_at "tt"
    walk_at "go"
    exact hq
  · walk_at "go"
    walk_at "tt"
    walk_at "go"
    walk_at "tt"
    walk_at "go"
    walk_at "tt"
    walk_at "go"
    exact hq
  · walk_at "go"
    walk_at "tt"
    walk_at "go"
    walk_at "tt"
    walk_at "go"
    exact hq
  · walk_at "go"
    walk_at "tt"
    walk_at "go"
    walk_at "tt"
    walk_at "go"
    walk_at "tt"
    walk_at "go"
    exact hq
theorem ok_l_bo_grown (T : Tp w K mg) : FnOk P w K mg base CX0 1 T.a_l_bo_grown T.d_l_bo_grown ["_law_box", "_law_grown_here"] (sp_l_bo_grown K) := by
  refine T.F_l_bo_grown.ok sc_l_bo_grown ?len (fun cdv A outer s H vs Q E hr h => ?_)
  case len => intro vs H Q E h; obtain ⟨a, g, o, rfl, _⟩ := h; rfl
  obtain ⟨a, g, o, rfl, ha, hg, hq⟩ := h
  refine ⟨_, (pss_one (ps_ret (pe_tup (pa_cons (pe_op op_sub (pe_ix ix_tup (pv 0) pe_int (fun _ _ => rfl)) (pv 1)) (pa_cons (pe_op op_sub (pe_ix ix_tup (pv 0) pe_int (fun _ _ => rfl)) (pv 1)) (pa_cons (pe_op op_add (pe_ix ix_tup (pv 0) pe_int (fun _ _ => rfl)) (pe_op op_mul pe_int (pv 1))) (pa_cons (pe_op op_add (pe_ix ix_tup (pv 0) pe_int (fun _ _ => rfl)) (pe_op op_mul pe_int (pv 1))) pa_nil))))))), ?_⟩
  walk_at "go"
  exact fun p np => hq p _ (same_new np) (.of upd_same)

theorem dp_ones {K : PySem.W.Frag} {H : Hp} {α : Type} : ∀ l : List α, DpAll K H (l.map fun _ => V.int 1) (l.map fun _ => PyData.int 1)
  | [] => .nil
  | _ :: l => .cons (.int 1) (dp_ones l)
theorem depth_ones {α : Type} : ∀ l : List α, PyData.depthAll (l.map fun _ => PyData.int 1) ≤ 1
  | [] => by simp [PyData.depthAll]
  | _ :: l => by
    have := depth_ones l
    simp only [List.map_cons, PyData.depthAll, PyData.depth]
    omega
theorem lay_ones {α : Type} : ∀ l : List α, PyData.canLayAll0 (l.map fun _ => PyData.int 1) = true
  | [] => rfl
  | _ :: l => by
    have := lay_ones l
    simp only [List.map_cons, PyData.canLayAll0, PyData.canLay0, this, Bool.and_self]
theorem shaped_ones {α : Type} (l : List α) : SeqAt.shaped (.list (l.map fun _ => PyData.int 1)) = true := by
  have h := depth_ones l
  unfold SeqAt.shaped
  rw [show PyData.canLay0 (.list (l.map fun _ => PyData.int 1)) = true from lay_ones l, decide_eq_true]
  · rfl
  · simp only [PyData.depth]
    omega
theorem ok_l_bo_is_free (T : Tp w K mg) : FnOk P w K mg base CX0 2 T.a_l_bo_is_free T.d_l_bo_is_free ["_law_arena", "_law_box", "_law_others", "_law_side", "_law_many"] (sp_l_bo_is_free K) := by
  refine T.F_l_bo_is_free.ok sc_l_bo_is_free ?len (fun cdv A outer s H vs Q E hr h => ?_)
  case len => intro vs H Q E h; obtain ⟨r, a, b, z, m, A0, A1, k, s, o, os, rfl, _⟩ := h; rfl
  obtain ⟨r, a, b, z, m, A0, A1, k, s, o, os, rfl, W, hz, hm, hq⟩ := h
  have ha := W.a
  refine ⟨_, (pss_cons (ps_set (i := 5) sc_l_bo_is_free.nd rfl (Or.inr rfl) (pe_call (ok_l_bo_swept T) (hr.mono (by decide)) (by rfl) T.g_l_bo_swept T.F_l_bo_swept.kp T.b_l_bo_swept .nil pass0 (pa_cons (pv 1) (pa_cons (pv 3) (pa_cons (pv 4) pa_nil)))))
    (pss_cons (ps_if (pt_cmpR (op_neD hr.units) (pe_lc (own := [("_law_other", 6)]) (g := gName 6)  (by rfl) sc_l_bo_is_free.nd (pi_tup (pv 2)) (blkOk_by (own := [("_law_other", 6)]) (N := N_l_bo_is_free) (sc := defScope s_l_bo_is_free) (by decide +kernel)) (fun _ _ _ _ _ => pg_name (i := 6) sc_l_bo_is_free.nd rfl (Or.inl rfl)) (fun _ _ _ _ _ => (pts_one (PW.pt (pw_and (pt_val (pe_call (ok_l_bo_meet T) (hr.mono (by decide)) (by rfl) T.g_l_bo_meet T.F_l_bo_meet.kp T.b_l_bo_meet .nil pass0 (pa_cons (pv 5) (pa_cons (pv 6) pa_nil)))) (pw_and1 (pt_not (pt_val (pe_call (ok_l_bo_meet T) (hr.mono (by decide)) (by rfl) T.g_l_bo_meet T.F_l_bo_meet.kp T.b_l_bo_meet .nil pass0 (pa_cons (pv 1) (pa_cons (pv 6) pa_nil)))))))))) (fun _ _ _ _ _ => pe_int)) (pe_lst pa_nil) (nomark _)) (pss_one (ps_ret pe_bl)) pss_nil)
    (pss_one (ps_ret (pe_or (pe_cmpR op_eq (pv 4) pe_int (nomark _)) (pe_one (pe_not (pe_call (ok_l_bo_is_beyond T) (hr.mono (by decide)) (by rfl) T.g_l_bo_is_beyond T.F_l_bo_is_beyond.kp T.b_l_bo_is_beyond .nil pass0 (pa_cons (pv 0) (pa_cons (pe_call (ok_l_bo_put T) (hr.mono (by decide)) (by rfl) T.g_l_bo_put T.F_l_bo_put.kp T.b_l_bo_put .nil pass0 (pa_cons (pv 1) (pa_cons (pv 3) (pa_cons (pv 4) pa_nil)))) (pa_cons (pv 3) pa_nil))))))))))), ?_⟩
  walk_at "go"
  refine fun pt H1 S1 ht => ?_
  have W1 := W.same S1
  obtain ⟨rs, h1, h2, h3⟩ := W1.b
  have ha1 := W1.a
  have hn1 := W1.n
  walk_at "go"
  refine fun D1 n1 => lc_tup (K := K) (xs := rs.map V.ref) (fun i H' => Stp (∃ l : List Bx, H' D1 = some (.lst (l.map fun _ => V.int 1)) ∧ l = (os.take i).filter (fun q => newB (sweep o k s m) o q) ∧ l.length ≤ i ∧ Ext D1 H1 H'))
    (.of ⟨[], upd_same, rfl, Nat.le_refl _, Ext.new n1⟩) (fun i H' hi hW => ?_) (fun i x H' hx hW => ?_) (fun H' hW => ?_)
  · obtain ⟨l, _, _, _, X⟩ := hW.get
    exact same_sqt (X.same n1) h1
  · obtain ⟨l, hl, he, hll, X⟩ := hW.get
    obtain ⟨y, rfl, hy⟩ := ref_at hx
    obtain ⟨q, hq', hy2⟩ := h3 i y hy
    have S := X.same n1
    have hy3 := same_sqt S hy2
    have ha3 := same_sqt S ha1
    have ht3 := same_sqt S ht
    have hlen : i < rs.length := (List.getElem?_eq_some_iff.mp hy).1
    have hfalse : ∀ H5, H5 = H' → newB (sweep o k s m) o q = false → Stp (∃ l : List Bx, H5 D1 = some (.lst (l.map fun _ => V.int 1)) ∧ l = (os.take (i + 1)).filter (fun q => newB (sweep o k s m) o q) ∧ l.length ≤ i + 1 ∧ Ext D1 H1 H5) := fun H5 e5 hf => by
      subst e5
      refine .of ⟨l, hl, ?_, Nat.le_succ_of_le hll, X⟩
      rw [he, take_at hq', List.filter_append, List.filter_cons, hf]
      simp
    walk_at "go"
    refine ite2 (fun e => ?_) (fun e => ?_)
    · walk_at "go"
      refine ite2 (fun e2 => ?_) (fun e2 => ?_)
      · walk_at "go"
        refine ⟨_, hl, by rw [List.length_map]; exact small1000 (by omega), .of ⟨l ++ [q], by rw [upd_same, List.map_append]; rfl, ?_, by rw [List.length_append]; exact Nat.succ_le_succ hll, X.mut n1⟩⟩
        rw [he, take_at hq', List.filter_append, List.filter_cons, if_pos (by unfold newB; rw [e, e2]; rfl)]
        rfl
      · exact hfalse _ rfl (by unfold newB; rw [eq_false_of_ne_true e2, Bool.and_false])
    · exact hfalse _ rfl (by unfold newB; rw [eq_false_of_ne_true e, Bool.false_and])
  · obtain ⟨l, hl, he, hll, X⟩ := hW.get
    rw [List.length_map, List.take_of_length_le (by omega)] at he
    have S := X.same n1
    have W2 := W1.same S
    have hr2 := W2.r
    have ha2 := W2.a
    walk_at "go"
    refine fun p np => ⟨.list (l.map fun _ => .int 1), .list [], .lst (.of ((same_new np) _ _ hl)) (dp_ones l), .lst (.of upd_same) .nil, shaped_ones l, rfl, ?_⟩
    have S3 : Same H' (upd H' p (.lst [])) := same_new np
    generalize upd H' p (.lst []) = H3 at *
    have hfi := free_iff (A0 := A0) (A1 := A1) W.o W.os hz.wy hm
    have hr3 := same_sqt S3 hr2
    have ha3 := same_sqt S3 ha2
    walk_at "go"
    cases l with
    | cons q l =>
      walk_at "tt"
      walk_at "go"
      refine hq false H3 ⟨(fun z => Bool.noConfusion z), fun z => ?_⟩ (S1.trans (S.trans S3))
      have hm1 : q ∈ os.filter (fun q => newB (sweep o k s m) o q) := by rw [← he]; exact .head _
      obtain ⟨h4, h5⟩ := List.mem_filter.mp hm1
      rw [(hfi.mp z).1 q h4] at h5
      cases h5
    | nil =>
      have hno : ∀ q ∈ os, newB (sweep o k s m) o q = false := fun q hm => by
        refine eq_false_of_ne_true fun z => ?_
        have := List.mem_filter.mpr ⟨hm, z⟩
        rw [← he] at this
        cases this
      walk_at "tt"
      walk_at "go"
      refine ite2 (fun e => ?_) (fun e => ?_)
      · have e := V.int.inj (of_decide_eq_true e)
        exact hq true H3 ⟨fun _ => hfi.mpr ⟨hno, .inl e⟩, fun _ => rfl⟩ (S1.trans (S.trans S3))
      · have e : m ≠ 0 := fun z => e (decide_eq_true (congrArg V.int z))
        walk_at "go"
        refine fun p2 H4 S4 h4 => ?_
        have hr4 := same_sqt S4 hr3
        walk_at "go"
        refine hq _ H4 ?_ (S1.trans (S.trans (S3.trans S4)))
        rw [hfi, Bool.not_eq_true']
        exact ⟨fun z => ⟨hno, .inr z⟩, fun z => z.2.resolve_left e⟩
theorem ok_l_bo_reach (T : Tp w K mg) : FnOk P w K mg base CX0 3 T.a_l_bo_reach T.d_l_bo_reach ["_law_arena", "_law_box", "_law_others", "_law_side", "_law_many"] (sp_l_bo_reach K) := by
  refine T.F_l_bo_reach.ok sc_l_bo_reach ?len (fun cdv A outer s H vs Q E hr h => ?_)
  case len => intro vs H Q E h; obtain ⟨r, a, b, z, m, A0, A1, k, s, o, os, rfl, _⟩ := h; rfl
  obtain ⟨r, a, b, z, m, A0, A1, k, s, o, os, rfl, W, hz, hm, hq⟩ := h
  refine ⟨_, (pss_cons (ps_par (i := 5) (j := 6) (by rfl) sc_l_bo_reach.nd rfl rfl (by decide) rfl rfl (pa_cons pe_int (pa_cons (pe_op op_add (pv 4) pe_int) pa_nil)) (by rfl))
    (pss_cons (ps_while PassesOwn.never (pt_cmpR op_gt (pe_op op_sub (pv 6) (pv 5)) pe_int (nomark _)) (pss_cons (ps_set (i := 7) sc_l_bo_reach.nd rfl (Or.inl rfl) (pe_op op_fdivW (pe_op op_add (pv 5) (pv 6)) pe_int))
      (pss_one (ps_if (pt_val (pe_call (ok_l_bo_is_free T) (hr.mono (by decide)) (by rfl) T.g_l_bo_is_free T.F_l_bo_is_free.kp T.b_l_bo_is_free .nil pass0 (pa_cons (pv 0) (pa_cons (pv 1) (pa_cons (pv 2) (pa_cons (pv 3) (pa_cons (pv 7) pa_nil))))))) (pss_one (ps_set (i := 5) sc_l_bo_reach.nd rfl (Or.inl rfl) (pv 7))) (pss_one (ps_set (i := 6) sc_l_bo_reach.nd rfl (Or.inl rfl) (pv 7)))))))
    (pss_one (ps_ret (pv 5))))), ?_⟩
  walk_at "go"
  refine ⟨fun n σ H' => Stp (∃ l u y7, σ = [some (.ref r), some (.ref a), some (.ref b), some (.str z), some (.int m), some (.int l), some (.int u), y7] ∧ 0 ≤ l ∧ l < u ∧ u ≤ m + 1 ∧ Fr A0 A1 o os k s l ∧ (u = m + 1 ∨ ¬ Fr A0 A1 o os k s u) ∧ n = (u - l).toNat ∧ Same H H'), ⟨_, .of ⟨0, m + 1, none, rfl, by omega, by omega, by omega, Fr.zero _ _ _ _ _ _, .inl rfl, rfl, Same.refl _⟩⟩, fun n σ H' hW => ?_⟩
  obtain ⟨l, u, y7, rfl, hl0, hlu, hum, hF, hG, hn, S⟩ := hW.get
  have W1 := W.same S
  walk_at "go"
  refine ite2 (fun e => ?_) (fun e => ?_)
  · have e := of_decide_eq_true e
    refine ⟨fun σ' H' => ∃ m', m' < n ∧ Stp (∃ l u y7, σ' = [some (.ref r), some (.ref a), some (.ref b), some (.str z), some (.int m), some (.int l), some (.int u), y7] ∧ 0 ≤ l ∧ l < u ∧ u ≤ m + 1 ∧ Fr A0 A1 o os k s l ∧ (u = m + 1 ∨ ¬ Fr A0 A1 o os k s u) ∧ m' = (u - l).toNat ∧ Same H H'), fun σ' H' h => h, ?_⟩
    have hdv : CDivW (l + u) 2 := wide_div (b := 250) (by omega) (by omega) (by decide) (by decide)
    have hh0 : 0 ≤ (l + u) / 2 := by omega
    walk_at "go"
    refine fun c H2 hc S2 => ?_
    walk_at "go"
    refine ite2 (fun e2 => ?_) (fun e2 => ?_)
    · walk_at "go"
      exact ⟨(u - (l + u) / 2).toNat, by omega, .of ⟨(l + u) / 2, u, _, rfl, by omega, by omega, hum, hc.mp e2, hG, rfl, S.trans S2⟩⟩
    · walk_at "go"
      exact ⟨((l + u) / 2 - l).toNat, by omega, .of ⟨l, (l + u) / 2, _, rfl, hl0, by omega, by omega, hF, .inr fun z => e2 (hc.mpr z), rfl, S.trans S2⟩⟩
  · have e : ¬ (1 < u - l) := fun z => e (decide_eq_true z)
    walk_at "go"
    refine hq l H' ⟨hl0, by omega, hF, ?_⟩ S
    rcases hG with h | h
    · exact .inl (by omega)
    · exact .inr (by rw [show l + 1 = u by omega]; exact h)

/-- the first of those newly met, among the first i -/
def Fst (t o : Bx) (os : List Bx) (i : Nat) (ns : List Int) : Prop :=
  (ns = [] ∧ ∀ (j : Nat) (q : Bx), j < i → os[j]? = some q → newB t o q = false) ∨
  ∃ (j : Nat) (q : Bx) (r : List Int), ns = (j : Int) :: r ∧ os[j]? = some q ∧ newB t o q = true ∧ ∀ (n : Nat) (p : Bx), n < j → os[n]? = some p → newB t o p = false
theorem Fst.add {t o : Bx} {os : List Bx} {i : Nat} {ns : List Int} {q : Bx} (f : Fst t o os i ns) (hq : os[i]? = some q) (hn : newB t o q = true) : Fst t o os (i + 1) (ns ++ [(i : Int)]) := by
  rcases f with ⟨rfl, h⟩ | ⟨j, p, r, rfl, h1, h2, h3⟩
  · exact .inr ⟨i, q, [], rfl, hq, hn, h⟩
  · exact .inr ⟨j, p, r ++ [(i : Int)], rfl, h1, h2, h3⟩
theorem Fst.skip {t o : Bx} {os : List Bx} {i : Nat} {ns : List Int} {q : Bx} (f : Fst t o os i ns) (hq : os[i]? = some q) (hn : newB t o q = false) : Fst t o os (i + 1) ns := by
  rcases f with ⟨rfl, h⟩ | h
  · refine .inl ⟨rfl, fun j p hj hp => ?_⟩
    rcases Nat.lt_or_ge j i with z | z
    · exact h j p z hp
    · obtain rfl : j = i := by omega
      rw [hq] at hp
      cases hp
      exact hn
  · exact .inr h
theorem ok_l_bo_barrier (T : Tp w K mg) : FnOk P w K mg base CX0 4 T.a_l_bo_barrier T.d_l_bo_barrier ["_law_arena", "_law_box", "_law_others", "_law_side", "_law_many"] (sp_l_bo_barrier K) := by
  refine T.F_l_bo_barrier.ok sc_l_bo_barrier ?len (fun cdv A outer s H vs Q E hr h => ?_)
  case len => intro vs H Q E h; obtain ⟨r, a, b, z, m, A0, A1, k, s, o, os, rfl, _⟩ := h; rfl
  obtain ⟨r, a, b, z, m, A0, A1, k, s, o, os, rfl, W, hz, hm, hq⟩ := h
  refine ⟨_, (pss_cons (ps_set (i := 5) sc_l_bo_barrier.nd rfl (Or.inl rfl) (pe_call (ok_l_bo_reach T) (hr.mono (by decide)) (by rfl) T.g_l_bo_reach T.F_l_bo_reach.kp T.b_l_bo_reach .nil pass0 (pa_cons (pv 0) (pa_cons (pv 1) (pa_cons (pv 2) (pa_cons (pv 3) (pa_cons (pv 4) pa_nil)))))))
    (pss_cons (ps_if (pt_cmpR op_eq (pv 5) (pv 4) (nomark _)) (pss_one (ps_ret pe_non)) pss_nil)
    (pss_cons (ps_asg (pe_tup (pa_cons (pe_call (ok_l_bo_put T) (hr.mono (by decide)) (by rfl) T.g_l_bo_put T.F_l_bo_put.kp T.b_l_bo_put .nil pass0 (pa_cons (pv 1) (pa_cons (pv 3) (pa_cons (pv 5) pa_nil)))) (pa_cons (pe_call (ok_l_bo_put T) (hr.mono (by decide)) (by rfl) T.g_l_bo_put T.F_l_bo_put.kp T.b_l_bo_put .nil pass0 (pa_cons (pv 1) (pa_cons (pv 3) (pa_cons (pe_op op_add (pv 5) pe_int) pa_nil)))) pa_nil))) (pg_tup (by rfl) (pgs_cons (pg_name (i := 6) sc_l_bo_barrier.nd rfl (Or.inr rfl)) (pgs_cons (pg_name (i := 7) sc_l_bo_barrier.nd rfl (Or.inr rfl)) pgs_nil))))
    (pss_one (ps_ret (pe_ix ix_list (pe_op op_cat (pe_lc (own := [("_law_at", 8), ("_law_other", 9)]) (g := gTup K 2 (gCons (gName 8) (gCons (gName 9) gNil)))  (by rfl) sc_l_bo_barrier.nd (pi_enumT (by rfl) T.m_enumerate (pa_cons (pv 2) pa_nil)) (blkOk_by (own := [("_law_at", 8), ("_law_other", 9)]) (N := N_l_bo_barrier) (sc := defScope s_l_bo_barrier) (by decide +kernel)) (fun _ _ _ _ _ => pg_tup (by rfl) (pgs_cons (pg_name (i := 8) sc_l_bo_barrier.nd rfl (Or.inl rfl)) (pgs_cons (pg_name (i := 9) sc_l_bo_barrier.nd rfl (Or.inl rfl)) pgs_nil))) (fun _ _ _ _ _ => (pts_one (PW.pt (pw_and (pt_val (pe_call (ok_l_bo_meet T) (hr.mono (by decide)) (by rfl) T.g_l_bo_meet T.F_l_bo_meet.kp T.b_l_bo_meet .nil pass0 (pa_cons (pv 7) (pa_cons (pv 9) pa_nil)))) (pw_and1 (pt_not (pt_val (pe_call (ok_l_bo_meet T) (hr.mono (by decide)) (by rfl) T.g_l_bo_meet T.F_l_bo_meet.kp T.b_l_bo_meet .nil pass0 (pa_cons (pv 6) (pa_cons (pv 9) pa_nil)))))))))) (fun _ _ _ _ _ => (pv 8))) (pe_lst (pa_cons (pe_un un_neg pe_int) pa_nil))) pe_int (fun _ _ => rfl))))))), ?_⟩
  walk_at "go"
  refine fun x H1 hF S1 => ?_
  have W1 := W.same S1
  have ha1 := W1.a
  have hx0 := hF.1
  walk_at "go"
  refine ite2 (fun e => ?_) (fun e => ?_)
  · have e := V.int.inj (of_decide_eq_true e)
    walk_at "go"
    exact hq _ H1 ⟨x, hF, .inl ⟨e, rfl⟩⟩ S1
  · have e : x ≠ m := fun z => e (decide_eq_true (congrArg V.int z))
    have hst := (step_iff W.o W.os hz.wy hx0 hF.2.2.1).mp (hF.2.2.2.resolve_left e)
    walk_at "go"
    refine fun ph H2 S2 hh => ?_
    have ha2 := same_sqt S2 ha1
    walk_at "go"
    refine fun pl H3' S3' hl' => ?_
    walk_at "go"
    refine fun pt nt => ?_
    generalize hH : upd H3' pt _ = H3
    have S3t : Same H3' H3 := by rw [← hH]; exact same_new nt
    have hT : SqT K H3 pt [.ref ph, .ref pl] := by rw [← hH]; exact .of upd_same
    clear hH
    have S3 := S3'.trans S3t
    have hl := same_sqt S3t hl'
    have hh3 := same_sqt S3 hh
    have W3 := W1.same (S2.trans S3)
    obtain ⟨rs, h1, h2, h3⟩ := W3.b
    have hn3 := W3.n
    walk_at "go"
    refine fun D1 n1 => lc_it (walk_enumT (K := K) (xs := rs.map V.ref)) (fun i H' => Stp (∃ ns : List Int, H' D1 = some (.lst (ns.map V.int)) ∧ Fst (shift o k (s * (x + 1))) (shift o k (s * x)) os i ns ∧ ns.length ≤ i ∧ Ext D1 H3 H'))
      (.of ⟨[], upd_same, .inl ⟨rfl, fun j q hj => absurd hj (Nat.not_lt_zero _)⟩, Nat.le_refl _, Ext.new n1⟩) (fun i H' hi hW => ?_) (fun i y H' H'' hi hW hy => ?_) (fun H' hW => ?_)
    · obtain ⟨_, _, _, _, X⟩ := hW.get
      exact same_sqt (X.same n1) h1
    · obtain ⟨ns, hD, hf, hnl, X⟩ := hW.get
      obtain ⟨t, x1, x2, rfl, nt, rfl, e1, e2⟩ := hy
      cases e1
      obtain ⟨y, rfl, hy⟩ := ref_at e2
      obtain ⟨q, hq', hy2⟩ := h3 i y hy
      have hlen : i < rs.length := (List.getElem?_eq_some_iff.mp hy).1
      have St : Same H' (upd H' t (.tup [.int (i : Nat), .ref y])) := same_new nt
      have hT : SqT K (upd H' t (.tup [.int (i : Nat), .ref y])) t [.int (i : Nat), .ref y] := .of upd_same
      generalize upd H' t (.tup [.int (i : Nat), .ref y]) = H4 at *
      have X4 : Ext D1 H3 H4 := X.trans (.of St)
      have S4 := X4.same n1
      have hD4 := St _ _ hD
      have hy3 := same_sqt S4 hy2
      have hh4 := same_sqt S4 hh3
      have hl4 := same_sqt S4 hl
      walk_at "go"
      refine ite2 (fun e => ?_) (fun e => ?_)
      · walk_at "go"
        refine ite2 (fun e2 => ?_) (fun e2 => ?_)
        · walk_at "go"
          exact ⟨_, hD4, by rw [List.length_map]; exact small1000 (by omega), .of ⟨ns ++ [(i : Int)], by rw [upd_same, List.map_append]; rfl, hf.add hq' (by unfold newB; rw [e, e2]; rfl), by rw [List.length_append]; exact Nat.succ_le_succ hnl, X4.mut n1⟩⟩
        · exact .of ⟨ns, hD4, hf.skip hq' (by unfold newB; rw [eq_false_of_ne_true e2, Bool.and_false]), Nat.le_succ_of_le hnl, X4⟩
      · exact .of ⟨ns, hD4, hf.skip hq' (by unfold newB; rw [eq_false_of_ne_true e, Bool.false_and]), Nat.le_succ_of_le hnl, X4⟩
    · obtain ⟨ns, hD, hf, hnl, X⟩ := hW.get
      rw [List.length_map] at hf hnl
      have S := X.same n1
      walk_at "go"
      refine fun p np => ?_
      have hD2 := (same_new (o := .lst [V.int (-1)]) np) _ _ hD
      have hp2 : upd H' p (.lst [V.int (-1)]) p = some (.lst [V.int (-1)]) := upd_same
      have S5 : Same H' (upd H' p (.lst [V.int (-1)])) := same_new np
      walk_at "go"
      refine ⟨Nat.le_of_lt (small1000 (by simp only [List.length_cons, List.length_map, List.length_nil]; omega)), fun p2 np2 => ?_⟩
      have S6 := S1.trans (S2.trans (S3.trans (S.trans (S5.trans (same_new (o := .lst (List.map V.int ns ++ [V.int (-1)])) np2)))))
      have hbr : ∀ v, IsBar A0 A1 (shift o k (s * x)) os k s v → Q v (upd (upd H' p (.lst [V.int (-1)])) p2 (.lst (List.map V.int ns ++ [V.int (-1)]))) := fun v hv => hq v _ ⟨x, hF, .inr ⟨e, hv⟩⟩ S6
      rcases hf with ⟨rfl, hf⟩ | ⟨j, q, t, rfl, h4, h5, h6⟩
      · refine ⟨_, _, _, V.int (-1), rfl, rfl, .of upd_same, rfl, hbr _ (.inr (.inl ⟨?_, ?_, rfl⟩))⟩
        · intro q hq
          obtain ⟨j, hj2, e⟩ := List.getElem_of_mem hq
          rw [shift_shift]
          exact hf j q (by omega) (by rw [List.getElem?_eq_getElem hj2, e])
        · rw [shift_shift]
          rcases hst with ⟨q, h4, h5⟩ | h4
          · obtain ⟨j, hj2, e⟩ := List.getElem_of_mem h4
            rw [hf j q (by omega) (by rw [List.getElem?_eq_getElem hj2, e])] at h5
            cases h5
          · exact h4
      · refine ⟨_, _, _, V.int (j : Int), rfl, rfl, .of upd_same, atI_nat (j := 0) rfl, hbr _ (.inl ⟨j, q, h4, ?_, ?_, rfl⟩)⟩
        · rw [shift_shift]; exact h5
        · intro n p hn hp
          rw [shift_shift]; exact h6 n p hn hp
theorem sd0 (u : Int) : Sd (if u < 0 then "left" else "right") 0 (sg u) := by
  unfold sg
  split
  · exact .left
  · exact .right
theorem sd1 (u : Int) : Sd (if u < 0 then "low" else "high") 1 (sg u) := by
  unfold sg
  split
  · exact .low
  · exact .high
theorem ok_l_bo_moved (T : Tp w K mg) : FnOk P w K mg base CX0 4 T.a_l_bo_moved T.d_l_bo_moved ["_law_arena", "_law_box", "_law_others", "_law_dx", "_law_dy"] (sp_l_bo_moved K) := by
  refine T.F_l_bo_moved.ok sc_l_bo_moved ?len (fun cdv A outer s H vs Q E hr h => ?_)
  case len => intro vs H Q E h; obtain ⟨r, a, b, dx, dy, A0, A1, o, os, rfl, _⟩ := h; rfl
  obtain ⟨r, a, b, dx, dy, A0, A1, o, os, rfl, W, hx, hy, hq⟩ := h
  have hab : 0 ≤ ab dx ∧ ab dx ≤ 1000000000 := by unfold ab; split <;> omega
  have hab2 : 0 ≤ ab dy ∧ ab dy ≤ 1000000000 := by unfold ab; split <;> omega
  refine ⟨_, (pss_cons (ps_set (i := 5) sc_l_bo_moved.nd rfl (Or.inl rfl) (pe_ifExp (pt_cmpR op_lt (pv 3) pe_int (nomark _)) pe_str pe_str))
    (pss_cons (ps_set (i := 1) sc_l_bo_moved.nd rfl (Or.inl rfl) (pe_call (ok_l_bo_put T) (hr.mono (by decide)) (by rfl) T.g_l_bo_put T.F_l_bo_put.kp T.b_l_bo_put .nil pass0 (pa_cons (pv 1) (pa_cons (pv 5) (pa_cons (pe_call (ok_l_bo_reach T) (hr.mono (by decide)) (by rfl) T.g_l_bo_reach T.F_l_bo_reach.kp T.b_l_bo_reach .nil pass0 (pa_cons (pv 0) (pa_cons (pv 1) (pa_cons (pv 2) (pa_cons (pv 5) (pa_cons (pe_callB call_abs (by rfl) T.m_abs (by decide +kernel) (pa_cons (pv 3) pa_nil)) pa_nil)))))) pa_nil)))))
    (pss_cons (ps_set (i := 5) sc_l_bo_moved.nd rfl (Or.inl rfl) (pe_ifExp (pt_cmpR op_lt (pv 4) pe_int (nomark _)) pe_str pe_str))
    (pss_one (ps_ret (pe_call (ok_l_bo_put T) (hr.mono (by decide)) (by rfl) T.g_l_bo_put T.F_l_bo_put.kp T.b_l_bo_put .nil pass0 (pa_cons (pv 1) (pa_cons (pv 5) (pa_cons (pe_call (ok_l_bo_reach T) (hr.mono (by decide)) (by rfl) T.g_l_bo_reach T.F_l_bo_reach.kp T.b_l_bo_reach .nil pass0 (pa_cons (pv 0) (pa_cons (pv 1) (pa_cons (pv 2) (pa_cons (pv 5) (pa_cons (pe_callB call_abs (by rfl) T.m_abs (by decide +kernel) (pa_cons (pv 4) pa_nil)) pa_nil)))))) pa_nil))))))))), ?_⟩
  have hsd := sd0 dx
  have hsd2 := sd1 dy
  walk_at "go"
  refine ite2 (fun e => ?_) (fun e => ?_)
  all_goals first | rw [if_pos (of_decide_eq_true e)] at hsd | rw [if_neg (fun z => e (decide_eq_true z))] at hsd
  all_goals (
    walk_at "go"
    refine fun x H1 hF S1 => ?_
    have ha1 := same_sqt S1 W.a
    walk_at "go"
    refine fun p H2 S2 h2 => ?_
    have W2 : Wlp K H2 r p b A0 A1 (shift o 0 (sg dx * x)) os := ⟨same_sqt (S1.trans S2) W.r, h2, W.b.same (S1.trans S2), W.n, shift_pos W.o, W.os⟩
    walk_at "go"
    refine ite2 (fun e2 => ?_) (fun e2 => ?_)
    all_goals first | rw [if_pos (of_decide_eq_true e2)] at hsd2 | rw [if_neg (fun z => e2 (decide_eq_true z))] at hsd2
    all_goals (
      walk_at "go"
      refine fun y H3 hF2 S3 => ?_
      have ha3 := same_sqt S3 h2
      walk_at "go"
      refine fun p2 H4 S4 h4 => ?_
      exact hq _ p2 H4 ⟨x, y, hF, hF2, rfl⟩ (S1.trans (S2.trans (S3.trans S4))) h4))

local macro_rules | `(tactic| walk_at "pk") => `(tactic| refine ⟨Dice.ne (by assumption) (by assumption), Nat.zero_lt_succ _, Nat.le_of_ble_eq_true rfl, Dice.new (by assumption) (by assumption), ?_⟩)
theorem ok_l_bo_number (T : Tp w K mg) : FnOk P w K mg base CX0 3 T.a_l_bo_number T.d_l_bo_number ["_law_dice_here", "_law_most"] (sp_l_bo_number K) := by
  refine T.F_l_bo_number.ok sc_l_bo_number ?len (fun cdv A outer s H vs Q E hr h => ?_)
  case len => intro vs H Q E h; obtain ⟨d, m, rfl, _⟩ := h; rfl
  obtain ⟨d, m, rfl, hm, D0, hq⟩ := h
  refine ⟨_, (pss_cons (ps_set (i := 2) sc_l_bo_number.nd rfl (Or.inl rfl) (pe_call (ok_l_roll T) (hr.mono (by decide)) (by rfl) T.g_l_roll T.F_l_roll.kp T.b_l_roll .nil pass0 (pa_cons (pv 0) (pa_cons pe_int pa_nil))))
    (pss_cons (ps_if (pt_cmpR op_eq (pv 2) pe_int (nomark _)) (pss_one (ps_ret (pe_call (ok_l_pick T) (hr.mono (by decide)) (by rfl) T.g_l_pick T.F_l_pick.kp T.b_l_pick .nil pass0 (pa_cons (pv 0) (pa_cons (pe_lst (pa_cons (pe_op op_pow pe_int pe_int) (pa_cons (pe_un un_neg (pe_op op_pow pe_int pe_int)) (pa_cons (pe_op op_sub (pe_op op_pow pe_int pe_int) pe_int) (pa_cons pe_int (pa_cons (pe_un un_neg pe_int) pa_nil)))))) pa_nil))))) pss_nil)
    (pss_one (ps_ret (pe_op op_sub (pe_call (ok_l_roll T) (hr.mono (by decide)) (by rfl) T.g_l_roll T.F_l_roll.kp T.b_l_roll .nil pass0 (pa_cons (pv 0) (pa_cons (pe_op op_add (pv 1) pe_int) pa_nil))) pe_int))))), ?_⟩
  walk_at "go"
  refine fun r H1 r0 r1 D1 X1 => ?_
  walk_at "go"
  refine ite2 (fun e => ?_) (fun e => ?_)
  · walk_at "go"
    refine fun p np => ?_
    walk_at "go"
    walk_at "pk"
    refine fun v H2 hv D2 X2 => ?_
    obtain ⟨i, rfl, i0, i1⟩ := inB_mem (lo := -1000000000) (hi := 1000000001) hv (by decide +kernel)
    exact hq _ H2 (by omega) (by omega) D2 (X1.trans ((Ext.new np).trans X2))
  · walk_at "go"
    refine fun r H2 r0 r1 D2 X2 => ?_
    walk_at "go"
    exact hq _ H2 (by omega) (by omega) D2 (X1.trans X2)
theorem ok_l_bo_pace (T : Tp w K mg) : FnOk P w K mg base CX0 3 T.a_l_bo_pace T.d_l_bo_pace ["_law_dice_here"] (sp_l_bo_pace K) := by
  refine T.F_l_bo_pace.ok sc_l_bo_pace ?len (fun cdv A outer s H vs Q E hr h => ?_)
  case len => intro vs H Q E h; obtain ⟨d, rfl, _⟩ := h; rfl
  obtain ⟨d, rfl, D0, hq⟩ := h
  refine ⟨_, (pss_cons (ps_set (i := 1) sc_l_bo_pace.nd rfl (Or.inl rfl) (pe_call (ok_l_roll T) (hr.mono (by decide)) (by rfl) T.g_l_roll T.F_l_roll.kp T.b_l_roll .nil pass0 (pa_cons (pv 0) (pa_cons pe_int pa_nil))))
    (pss_cons (ps_if (pt_cmpR op_eq (pv 1) pe_int (nomark _)) (pss_one (ps_ret (pe_call (ok_l_pick T) (hr.mono (by decide)) (by rfl) T.g_l_pick T.F_l_pick.kp T.b_l_pick .nil pass0 (pa_cons (pv 0) (pa_cons (pe_lst (pa_cons (pe_op op_pow pe_int pe_int) (pa_cons (pe_un un_neg (pe_op op_pow pe_int pe_int)) (pa_cons pe_int pa_nil)))) pa_nil))))) pss_nil)
    (pss_one (ps_ret (pe_op op_sub (pe_call (ok_l_roll T) (hr.mono (by decide)) (by rfl) T.g_l_roll T.F_l_roll.kp T.b_l_roll .nil pass0 (pa_cons (pv 0) (pa_cons pe_int pa_nil))) pe_int))))), ?_⟩
  walk_at "go"
  refine fun r H1 r0 r1 D1 X1 => ?_
  walk_at "go"
  refine ite2 (fun e => ?_) (fun e => ?_)
  · walk_at "go"
    refine fun p np => ?_
    walk_at "go"
    walk_at "pk"
    refine fun v H2 hv D2 X2 => ?_
    obtain ⟨i, rfl, i0, i1⟩ := inB_mem (lo := -1000000000) (hi := 1000000001) hv (by decide +kernel)
    exact hq _ H2 (by omega) (by omega) D2 (X1.trans ((Ext.new np).trans X2))
  · walk_at "go"
    refine fun r H2 r0 r1 D2 X2 => ?_
    walk_at "go"
    exact hq _ H2 (by omega) (by omega) D2 (X1.trans X2)
theorem ok_l_bo_arena (T : Tp w K mg) : FnOk P w K mg base CX0 3 T.a_l_bo_arena T.d_l_bo_arena ["_law_dice_here"] (sp_l_bo_arena K) := by
  refine T.F_l_bo_arena.ok sc_l_bo_arena ?len (fun cdv A outer s H vs Q E hr h => ?_)
  case len => intro vs H Q E h; obtain ⟨d, rfl, _⟩ := h; rfl
  obtain ⟨d, rfl, D0, hq⟩ := h
  refine ⟨_, (pss_one (ps_ret (pe_tup (pa_cons (pe_call (ok_l_pick T) (hr.mono (by decide)) (by rfl) T.g_l_pick T.F_l_pick.kp T.b_l_pick .nil pass0 (pa_cons (pv 0) (pa_cons (pe_lst (pa_cons pe_int (pa_cons pe_int (pa_cons pe_int (pa_cons pe_int (pa_cons pe_int pa_nil)))))) pa_nil))) (pa_cons (pe_call (ok_l_pick T) (hr.mono (by decide)) (by rfl) T.g_l_pick T.F_l_pick.kp T.b_l_pick .nil pass0 (pa_cons (pv 0) (pa_cons (pe_lst (pa_cons pe_int (pa_cons pe_int (pa_cons pe_int (pa_cons pe_int (pa_cons pe_int pa_nil)))))) pa_nil))) pa_nil))))), ?_⟩
  walk_at "go"
  refine fun p np => ?_
  walk_at "go"
  walk_at "pk"
  refine fun v H1 hv D1 X1 => ?_
  obtain ⟨i, rfl, i0, i1⟩ := inB_mem (lo := 1) (hi := 401) hv (by decide +kernel)
  walk_at "go"
  refine fun p2 np2 => ?_
  walk_at "go"
  walk_at "pk"
  refine fun v2 H2 hv2 D2 X2 => ?_
  obtain ⟨j, rfl, j0, j1⟩ := inB_mem (lo := 1) (hi := 401) hv2 (by decide +kernel)
  walk_at "go"
  refine fun p3 np3 => ?_
  exact hq p3 i j _ ⟨i0, by omega⟩ ⟨j0, by omega⟩ (.of upd_same) (D2.new np3) ((((Ext.new np).trans X1).trans ((Ext.new np2).trans X2)).trans (Ext.new np3))
theorem ok_l_bo_drawn (T : Tp w K mg) : FnOk P w K mg base CX0 4 T.a_l_bo_drawn T.d_l_bo_drawn ["_law_dice_here", "_law_arena"] (sp_l_bo_drawn K) := by
  refine T.F_l_bo_drawn.ok sc_l_bo_drawn ?len (fun cdv A outer s H vs Q E hr h => ?_)
  case len => intro vs H Q E h; obtain ⟨d, r, A0, A1, rfl, _⟩ := h; rfl
  obtain ⟨d, r, A0, A1, rfl, hr', h0, h1, D0, hq⟩ := h
  refine ⟨_, (pss_cons (ps_setLc (i := 2) (own := [("_law_turn", 3)]) (g := gName 3) (tt := tYes) (by rfl) sc_l_bo_drawn.nd rfl rfl (sw_true rfl rfl rfl (by decide +kernel)) (pi_range1 rfl T.m_range (pa_cons pe_int pa_nil)) (blkOk_by (own := [("_law_turn", 3)]) (N := N_l_bo_drawn) (sc := defScope s_l_bo_drawn) (by decide +kernel)) (fun _ _ _ _ _ => pg_name (i := 3) sc_l_bo_drawn.nd rfl (Or.inl rfl)) (fun _ _ _ _ _ => pts_nil) (fun _ _ _ _ _ => (pe_call (ok_l_pick T) (hr.mono (by decide)) (by rfl) T.g_l_pick T.F_l_pick.kp T.b_l_pick .nil pass0 (pa_cons (pv 0) (pa_cons (pe_lst (pa_cons pe_int (pa_cons pe_int (pa_cons pe_int (pa_cons pe_int (pa_cons pe_int (pa_cons pe_int (pa_cons pe_int pa_nil)))))))) pa_nil)))))
    (pss_one (ps_ret (pe_tup (pa_cons (pe_call (ok_l_bo_number T) (hr.mono (by decide)) (by rfl) T.g_l_bo_number T.F_l_bo_number.kp T.b_l_bo_number .nil pass0 (pa_cons (pv 0) (pa_cons (pe_ix ix_tup (pv 1) pe_int (fun _ _ => rfl)) pa_nil))) (pa_cons (pe_call (ok_l_bo_number T) (hr.mono (by decide)) (by rfl) T.g_l_bo_number T.F_l_bo_number.kp T.b_l_bo_number .nil pass0 (pa_cons (pv 0) (pa_cons (pe_ix ix_tup (pv 1) pe_int (fun _ _ => rfl)) pa_nil))) (pa_cons (pe_ix ix_list (pv 2) pe_int (fun _ _ => rfl)) (pa_cons (pe_ix ix_list (pv 2) pe_int (fun _ _ => rfl)) pa_nil)))))))), ?_⟩
  walk_at "go"
  refine fun D nD => lc_range (lo := 0) (n := 2) (fun i H' => Stp (∃ ns : List Int, H' D = some (.lst (ns.map V.int)) ∧ ns.length = i ∧ (∀ x ∈ ns, 1 ≤ x ∧ x ≤ 40) ∧ Dice d H' ∧ Ext d H H' ∧ D ≠ d)) (.of ⟨[], upd_same, rfl, (fun x hx => nomatch hx), D0.new nD, Ext.new nD, D0.ne nD⟩) (fun i H' hi hW => ?_) (fun H' hW => ?_)
  · obtain ⟨ns, hD, hn, hb, D', X', ne⟩ := hW.get
    walk_at "go"
    refine fun p np => ?_
    walk_at "go"
    walk_at "pk"
    refine fun v H4 hv D4 X4 => ?_
    obtain ⟨r, rfl, r0, r1⟩ := inB_mem (lo := 1) (hi := 41) hv (by decide +kernel)
    refine ⟨_, ((Ext.new np).trans X4) D _ ne hD, ?_, .of ⟨ns ++ [r], ?_, ?_, ?_, D4.put ne, ((X'.trans (Ext.new np)).trans X4).mut nD, ne⟩⟩
    · rw [List.length_map, hn]
      exact small1000 (by omega)
    · rw [upd_same, List.map_append]; rfl
    · rw [List.length_append, hn]; rfl
    · intro x hx
      rcases List.mem_append.mp hx with z | z
      · exact hb x z
      · rw [List.mem_singleton.mp z]; exact ⟨r0, by omega⟩
  · obtain ⟨ns, hD, hn, hb, D', X', ne⟩ := hW.get
    obtain ⟨bw, bh, rfl⟩ : ∃ e t, ns = [e, t] := by
      match ns, hn with
      | [e, t], _ => exact ⟨e, t, rfl⟩
    have hw := hb bw (by simp)
    have hh := hb bh (by simp)
    have hr1 := X'.sqtD D0 hr'
    walk_at "go"
    refine fun x H1 x0 x1 D1 X1 => ?_
    have hr2 := X1.sqtD D' hr1
    walk_at "go"
    refine fun y H2 y0 y1 D2 X2 => ?_
    have hD2 : SqL K H2 D [.int bw, .int bh] := .of (X2 _ _ ne (X1 _ _ ne hD))
    walk_at "go"
    refine fun p np => ?_
    exact hq p ⟨x, y, bw, bh⟩ _ ⟨⟨x0, x1⟩, ⟨y0, y1⟩, hw, hh⟩ (.of upd_same) (D2.new np) (((X'.trans X1).trans X2).trans (Ext.new np))

theorem br_rp {A0 A1 : Int} {o : Bx} {os : List Bx} {k s m : Int} {v : V} (hn : os.length ≤ 24) (h : IsBr A0 A1 o os k s m v) : ∃ z, Rp v z := by
  obtain ⟨r, _, ⟨_, rfl⟩ | ⟨_, ⟨i, q, h1, _, _, rfl⟩ | ⟨_, _, rfl⟩ | ⟨_, _, rfl⟩⟩⟩ := h
  · exact ⟨_, .non⟩
  · refine ⟨_, .int _ ?_⟩
    have hi : i < os.length := (List.getElem?_eq_some_iff.mp h1).1
    have h2 : ((i : Nat) : Int).natAbs < 2 ^ 5 := by omega
    rcases Nat.eq_zero_or_pos ((i : Nat) : Int).natAbs with h3 | h3
    · rw [h3]; decide
    · exact Nat.lt_trans ((Nat.log2_lt (by omega)).mpr h2) (by decide)
  · exact ⟨_, .int _ (by decide)⟩
  · exact ⟨_, .non⟩
theorem ne_self {α : Type} [DecidableEq α] (x : α) : ¬ (!decide (x = x)) = true := by simp
theorem ok_l_ways_right (T : Tp w K mg) : FnOk P w K mg base CX0 8 T.a_l_ways_right T.d_l_ways_right ["_law_dice_here", "_law_arena", "_law_box", "_law_others"] (sp_l_ways_right K) := by
  refine T.F_l_ways_right.ok sc_l_ways_right ?len (fun cdv A outer s H vs Q E hr h => ?_)
  case len => intro vs H Q E h; obtain ⟨d, r, a, b, A0, A1, o, os, rfl, _⟩ := h; rfl
  obtain ⟨d, r, a, b, A0, A1, o, os, rfl, W, D0, hq⟩ := h
  refine ⟨_, (pss_cons (ps_for PassesOwn.never rfl (pi_tup (pe_tup (pa_cons pe_str (pa_cons pe_str (pa_cons pe_str (pa_cons pe_str pa_nil)))))) (pg_name (i := 4) sc_l_ways_right.nd rfl (Or.inl rfl)) (pss_one (ps_for PassesOwn.never rfl (pi_tup (pe_tup (pa_cons (pe_call (ok_l_roll T) (hr.mono (by decide)) (by rfl) T.g_l_roll T.F_l_roll.kp T.b_l_roll .nil pass0 (pa_cons (pv 0) (pa_cons pe_int pa_nil))) (pa_cons (pe_call (ok_l_pick T) (hr.mono (by decide)) (by rfl) T.g_l_pick T.F_l_pick.kp T.b_l_pick .nil pass0 (pa_cons (pv 0) (pa_cons (pe_lst (pa_cons pe_int (pa_cons pe_int (pa_cons pe_int (pa_cons pe_int pa_nil))))) pa_nil))) (pa_cons (pe_op op_pow pe_int pe_int) pa_nil))))) (pg_name (i := 5) sc_l_ways_right.nd rfl (Or.inl rfl)) (pss_cons (ps_set (i := 6) sc_l_ways_right.nd rfl (Or.inl rfl) (pe_call (ok_l_bo_reach T) (hr.mono (by decide)) (by rfl) T.g_l_bo_reach T.F_l_bo_reach.kp T.b_l_bo_reach .nil pass0 (pa_cons (pv 1) (pa_cons (pv 2) (pa_cons (pv 3) (pa_cons (pv 4) (pa_cons (pv 5) pa_nil)))))))
        (pss_cons (ps_if (pt_cmpR op_ne (pe_call (ok_reach T) (hr.mono (by decide)) (by rfl) T.g_reach T.F_reach.kp T.b_reach .nil pass0 (pa_cons (pv 1) (pa_cons (pv 2) (pa_cons (pv 3) (pa_cons (pv 4) (pa_cons (pv 5) pa_nil)))))) (pv 6) (nomark _)) (pss_one (ps_ret pe_bl)) pss_nil)
        (pss_cons (ps_if (pt_cmpR op_ne (pe_callB call_reprS (by rfl) T.m_repr (by decide +kernel) (pa_cons (pe_call (ok_barrier T) (hr.mono (by decide)) (by rfl) T.g_barrier T.F_barrier.kp T.b_barrier .nil pass0 (pa_cons (pv 1) (pa_cons (pv 2) (pa_cons (pv 3) (pa_cons (pv 4) (pa_cons (pv 5) pa_nil)))))) pa_nil)) (pe_callB call_reprS (by rfl) T.m_repr (by decide +kernel) (pa_cons (pe_call (ok_l_bo_barrier T) (hr.mono (by decide)) (by rfl) T.g_l_bo_barrier T.F_l_bo_barrier.kp T.b_l_bo_barrier .nil pass0 (pa_cons (pv 1) (pa_cons (pv 2) (pa_cons (pv 3) (pa_cons (pv 4) (pa_cons (pv 5) pa_nil)))))) pa_nil)) (nomark _)) (pss_one (ps_ret pe_bl)) pss_nil)
        (pss_one (ps_if (PW.pt (pw_and (pt_cmpR op_lt (pv 5) pe_int (nomark _)) (pw_and1 (pt_cmpR op_ne (pe_call (ok_reach_by_units T) (hr.mono (by decide)) (by rfl) T.g_reach_by_units T.F_reach_by_units.kp T.b_reach_by_units .nil pass0 (pa_cons (pv 1) (pa_cons (pv 2) (pa_cons (pv 3) (pa_cons (pv 4) (pa_cons (pv 5) pa_nil)))))) (pv 6) (nomark _))))) (pss_one (ps_ret pe_bl)) pss_nil))))))))
    (pss_one (ps_ret pe_bl))), ?_⟩
  walk_at "go"
  refine fun p np => ?_
  walk_at "go"
  refine for_tup (K := K) (xs := [.str "left", .str "right", .str "low", .str "high"]) (fun i σ H' => Stp (∃ y4 y5 y6, σ = [some (.ref d), some (.ref r), some (.ref a), some (.ref b), y4, y5, y6] ∧ Dice d H' ∧ Ext d H H' ∧ SqT K H' p [.str "left", .str "right", .str "low", .str "high"]))
    (.of ⟨none, none, none, rfl, D0.new np, Ext.new np, .of upd_same⟩) (fun i σ H' hi hW => ?_) (fun i x σ H' hx hW => ?_) (fun σ H' hW => ?_)
  · obtain ⟨_, _, _, _, _, _, h⟩ := hW.get
    exact h
  · obtain ⟨y4, y5, y6, rfl, D1, X1, hp⟩ := hW.get
    obtain ⟨z, k, s, rfl, hz⟩ : ∃ z k s, x = .str z ∧ Sd z k s := by
      have := List.mem_of_getElem? hx
      simp only [List.mem_cons, List.not_mem_nil, or_false] at this
      rcases this with rfl | rfl | rfl | rfl
      · exact ⟨_, _, _, rfl, .left⟩
      · exact ⟨_, _, _, rfl, .right⟩
      · exact ⟨_, _, _, rfl, .low⟩
      · exact ⟨_, _, _, rfl, .high⟩
    clear hx hW
    walk_at "go"
    refine fun m1 H2 m10 m11 D2 X2 => ?_
    walk_at "go"
    refine fun p2 np2 => ?_
    walk_at "go"
    walk_at "pk"
    refine fun v H3 hv D3 X3 => ?_
    obtain ⟨m2, rfl, m20, m21⟩ := inB_mem (lo := 0) (hi := 1001) hv (by decide +kernel)
    walk_at "go"
    refine fun p3 np3 => ?_
    have X3' : Ext d H' H3 := X2.trans ((Ext.new np2).trans X3)
    have D3' := D3.new (o := .tup [V.int m1, V.int m2, V.int (10 ^ Int.toNat 9)]) np3
    have X3'' : Ext d H' (upd H3 p3 (.tup [V.int m1, V.int m2, V.int (10 ^ Int.toNat 9)])) := X3'.trans (Ext.new np3)
    have hp3 : SqT K (upd H3 p3 (.tup [V.int m1, V.int m2, V.int (10 ^ Int.toNat 9)])) p3 [V.int m1, V.int m2, V.int (10 ^ Int.toNat 9)] := .of upd_same
    walk_at "go"
    refine for_tup (K := K) (xs := [V.int m1, V.int m2, V.int (10 ^ Int.toNat 9)]) (fun i σ H4 => Stp (∃ y5 y6, σ = [some (.ref d), some (.ref r), some (.ref a), some (.ref b), some (.str z), y5, y6] ∧ Dice d H4 ∧ Ext d H' H4 ∧ SqT K H4 p3 [V.int m1, V.int m2, V.int (10 ^ Int.toNat 9)]))
      (.of ⟨_, _, rfl, D3', X3'', hp3⟩) (fun i σ H4 hi hW => ?_) (fun i x σ H4 hx hW => ?_) (fun σ H4 hW => ?_)
    · obtain ⟨_, _, _, _, _, h⟩ := hW.get
      exact h
    · obtain ⟨y5, y6, rfl, D4, X4, hp4⟩ := hW.get
      obtain ⟨m, rfl, hm⟩ : ∃ m, x = .int m ∧ 0 ≤ m ∧ m ≤ 1000000000 := by
        have := List.mem_of_getElem? hx
        simp only [List.mem_cons, List.not_mem_nil, or_false] at this
        rcases this with rfl | rfl | rfl
        · exact ⟨_, rfl, by omega⟩
        · exact ⟨_, rfl, by omega⟩
        · exact ⟨_, rfl, by decide⟩
      clear hx hW
      have W4 := W.ext (X1.trans X4) D0
      have Wl4 := W4.wlp
      have hn4 := W4.n
      walk_at "go"
      refine fun x H5 hF S5 => ?_
      have W5 := W4.same S5
      walk_at "go"
      refine fun x' H6 hF' S6 => ?_
      obtain rfl := hF.uniq hF'
      have W6 := W5.same S6
      walk_at "go"
      refine iteN (ne_self _) ?_
      walk_at "go"
      refine fun v H7 hv S7 => ?_
      obtain ⟨t, hrp⟩ := br_rp hn4 hv
      have W7 := W6.same S7
      have Wl7 := W7.wlp
      refine ⟨_, _, rfl, hrp, ?_⟩
      walk_at "go"
      refine fun v' H8 hv' S8 => ?_
      obtain rfl := hv.uniq hv'
      have W8 := W7.same S8
      refine ⟨_, _, rfl, hrp, ?_⟩
      walk_at "go"
      refine iteN (ne_self _) ?_
      walk_at "go"
      have S48 := S5.trans (S6.trans (S7.trans S8))
      refine ite2 (fun e => ?_) (fun e => ?_)
      · have hm2 : 0 ≤ m ∧ m ≤ 1000 := ⟨hm.1, by have := of_decide_eq_true e; omega⟩
        walk_at "go"
        refine fun x'' H9 hF'' S9 => ?_
        obtain rfl := hF.uniq hF''
        walk_at "go"
        refine iteN (ne_self _) ?_
        walk_at "go"
        exact .of ⟨_, _, rfl, D4.same (S48.trans S9), X4.trans (.of (S48.trans S9)), same_sqt (S48.trans S9) hp4⟩
      · walk_at "go"
        exact .of ⟨_, _, rfl, D4.same S48, X4.trans (.of S48), same_sqt S48 hp4⟩
    · obtain ⟨y5, y6, rfl, D4, X4, hp4⟩ := hW.get
      exact .of ⟨_, _, _, rfl, D4, X1.trans X4, X4.sqtD D1 hp⟩
  · obtain ⟨y4, y5, y6, rfl, D1, X1, hp⟩ := hW.get
    walk_at "go"
    exact hq _ D1 X1
theorem me_symm {o q : Bx} (ho : o.pos) (hq : q.pos) : meB o q = meB q o := by
  obtain ⟨h1, h2⟩ := ho
  obtain ⟨h3, h4⟩ := hq
  unfold meB
  rw [decide_eq_true (show min o.w o.h > 0 by omega), decide_eq_true (show min q.w q.h > 0 by omega)]
  simp only [shB, Bool.true_and]
  rw [Bool.and_comm (decide (o.p 0 < _)), Bool.and_comm (decide (o.p 1 < _))]
theorem am_def (T : Tp w K mg) : ∃ ds, Vals [.int 0] ds ∧ Binds K T.d_are_meeting ["one", "other", "grown"] ds :=
  T.F_are_meeting.binds0 2 (by decide) rfl (fun D doc pm an cdv ct us ks l1 l2 => match us, ks, l1, l2 with
    | [a, b], [g], _, _ => ⟨_, _, _, _, _, _, rfl, rfl, rfl⟩)
theorem am_kw (T : Tp w K mg) : ∃ mv : List Value, KBn K T.d_are_meeting ["one", "other", "grown"] 2 ["grown"] (fun us ws => us ++ ws) (fun vs zs => vs ++ zs) :=
  T.F_are_meeting.kbinds0 2 ["grown"] [] (fun us mv ws => us ++ ws) (by decide) (fun q hq => nomatch hq) (fun r1 r2 r3 => r1.append r3) (fun D doc pm an cdv ct us mv ws l1 l2 l3 => match us, mv, ws, l1, l2, l3 with
    | [a, b], [], [g], _, _, _ => rfl)

theorem ok_l_meetings_right (T : Tp w K mg) : FnOk P w K mg base CX0 7 T.a_l_meetings_right T.d_l_meetings_right ["_law_dice_here", "_law_box", "_law_others"] (sp_l_meetings_right K) := by
  refine T.F_l_meetings_right.ok sc_l_meetings_right ?len (fun cdv A outer s H vs Q E hr h => ?_)
  case len => intro vs H Q E h; obtain ⟨d, r, a, b, A0, A1, o, os, rfl, _⟩ := h; rfl
  obtain ⟨d, r, a, b, A0, A1, o, os, rfl, W, D0, hq⟩ := h
  obtain ⟨rs, h1, h2, h3⟩ := W.b
  obtain ⟨ds, hds, hbd⟩ := am_def T
  obtain ⟨mv, hkb⟩ := am_kw T
  refine ⟨_, (pss_cons (ps_for PassesOwn.never rfl (pi_tup (pv 2)) (pg_name (i := 3) sc_l_meetings_right.nd rfl (Or.inl rfl)) (pss_cons (ps_set (i := 4) sc_l_meetings_right.nd rfl (Or.inl rfl) (pe_call (ok_l_pick T) (hr.mono (by decide)) (by rfl) T.g_l_pick T.F_l_pick.kp T.b_l_pick .nil pass0 (pa_cons (pv 0) (pa_cons (pe_lst (pa_cons pe_int (pa_cons pe_int (pa_cons pe_int (pa_cons pe_int (pa_cons (pe_un un_neg pe_int) (pa_cons (pe_un un_neg pe_int) (pa_cons pe_int (pa_cons (pe_op op_pow pe_int pe_int) (pa_cons (pe_un un_neg (pe_op op_pow pe_int pe_int)) pa_nil)))))))))) pa_nil))))
      (pss_cons (ps_if (pt_cmpR op_ne (pe_callB call_reprS (by rfl) T.m_repr (by decide +kernel) (pa_cons (pe_callN (ok_are_meeting T) (hr.mono (by decide)) (by rfl) T.g_are_meeting T.F_are_meeting.kp hkb pass0 (pa_cons (pv 1) (pa_cons (pv 3) pa_nil)) (pk_cons (pv 4) pk_nil)) pa_nil)) (pe_callB call_reprS (by rfl) T.m_repr (by decide +kernel) (pa_cons (pe_call (ok_l_bo_meet T) (hr.mono (by decide)) (by rfl) T.g_l_bo_meet T.F_l_bo_meet.kp T.b_l_bo_meet .nil pass0 (pa_cons (pe_call (ok_l_bo_grown T) (hr.mono (by decide)) (by rfl) T.g_l_bo_grown T.F_l_bo_grown.kp T.b_l_bo_grown .nil pass0 (pa_cons (pv 1) (pa_cons (pv 4) pa_nil))) (pa_cons (pv 3) pa_nil))) pa_nil)) (nomark _)) (pss_one (ps_ret pe_bl)) pss_nil)
      (pss_one (ps_if (PW.pt (pw_or (pt_cmpR op_ne (pe_call (ok_are_meeting T) (hr.mono (by decide)) (by rfl) T.g_are_meeting T.F_are_meeting.kp hbd hds pass0 (pa_cons (pv 1) (pa_cons (pv 3) pa_nil))) (pe_call (ok_are_meeting T) (hr.mono (by decide)) (by rfl) T.g_are_meeting T.F_are_meeting.kp hbd hds pass0 (pa_cons (pv 3) (pa_cons (pv 1) pa_nil))) (nomark _)) (pw_or1 (pt_cmpR op_ne (pe_call (ok_are_meeting T) (hr.mono (by decide)) (by rfl) T.g_are_meeting T.F_are_meeting.kp hbd hds pass0 (pa_cons (pv 1) (pa_cons (pv 3) pa_nil))) (pe_call (ok_l_bo_meet T) (hr.mono (by decide)) (by rfl) T.g_l_bo_meet T.F_l_bo_meet.kp T.b_l_bo_meet .nil pass0 (pa_cons (pv 1) (pa_cons (pv 3) pa_nil))) (nomark _))))) (pss_one (ps_ret pe_bl)) pss_nil)))))
    (pss_one (ps_ret pe_bl))), ?_⟩
  walk_at "go"
  refine for_tup (K := K) (xs := rs.map V.ref) (fun i σ H' => Stp (∃ y3 y4, σ = [some (.ref d), some (.ref a), some (.ref b), y3, y4] ∧ Dice d H' ∧ Ext d H H'))
    (.of ⟨none, none, rfl, D0, fun _ _ _ h => h⟩) (fun i σ H' hi hW => ?_) (fun i x σ H' hx hW => ?_) (fun σ H' hW => ?_)
  · obtain ⟨_, _, _, _, X⟩ := hW.get
    exact X.sqtD D0 h1
  · obtain ⟨y3, y4, rfl, D1, X1⟩ := hW.get
    obtain ⟨y, rfl, hy⟩ := ref_at hx
    obtain ⟨q, hq', hy2⟩ := h3 i y hy
    have hqf := W.os q (mem_of_at hq')
    have hof := W.o
    clear hx hW
    walk_at "go"
    refine fun p np => ?_
    walk_at "go"
    walk_at "pk"
    refine fun v H2 hv D2 X2 => ?_
    obtain ⟨g, rfl, g0, g1⟩ := inB_mem (lo := -1000000000) (hi := 1000000001) hv (by decide +kernel)
    have hg : -1000000000 ≤ g ∧ g ≤ 1000000000 := ⟨g0, by omega⟩
    have X2' : Ext d H H2 := X1.trans ((Ext.new np).trans X2)
    have ha2 := X2'.sqtD D0 W.a
    have hy3 := X2'.sqtD D0 hy2
    clear X2 hv
    walk_at "go"
    refine fun H3 S3 => ?_
    have ha3 := same_sqt S3 ha2
    have hy4 := same_sqt S3 hy3
    refine ⟨_, _, rfl, .bl _, ?_⟩
    walk_at "go"
    refine fun pg H4 S4 hg4 => ?_
    have ha4 := same_sqt S4 ha3
    have hy5 := same_sqt S4 hy4
    walk_at "go"
    refine ⟨.bl _, ?_⟩
    walk_at "go"
    refine iteN (ne_self _) ?_
    walk_at "go"
    refine fun H5 S5 => ?_
    have ha5 := same_sqt S5 ha4
    have hy6 := same_sqt S5 hy5
    walk_at "go"
    refine fun H6 S6 => ?_
    have ha6 := same_sqt S6 ha5
    have hy7 := same_sqt S6 hy6
    rw [grow_zero, grow_zero, me_symm hqf.pos hof.pos]
    walk_at "go"
    refine iteN (ne_self _) ?_
    walk_at "go"
    refine fun H7 S7 => ?_
    have ha7 := same_sqt S7 ha6
    have hy8 := same_sqt S7 hy7
    rw [grow_zero]
    walk_at "go"
    refine iteN (ne_self _) ?_
    walk_at "go"
    have S27 := S3.trans (S4.trans (S5.trans (S6.trans S7)))
    exact .of ⟨_, _, rfl, D2.same S27, X2'.trans (.of S27)⟩
  · obtain ⟨y3, y4, rfl, D1, X1⟩ := hW.get
    walk_at "go"
    exact hq _ D1 X1
theorem sqt_put {K : PySem.W.Frag} {H : Hp} {D a : Addr} {xs ys : List V} {o : HO} (hD : H D = some (.lst xs)) (h : SqT K H a ys) : SqT K (upd H D o) a ys := by
  rcases h with (h | ⟨u, h⟩) | h
  · exact .inl (.inl (by rw [upd_ne (ne_of h hD (by intro z; cases z))]; exact h))
  · exact .inl (.inr ⟨u, by rw [upd_ne (ne_of h hD (by intro z; cases z))]; exact h⟩)
  · exact .inr h
def bxD (q : Bx) : PyData := .tuple [.int q.x, .int q.y, .int q.w, .int q.h]
theorem dp_bx {K : PySem.W.Frag} {H : Hp} {p : Addr} {q : Bx} (h : SqT K H p q.vs) : Dp K H (.ref p) (bxD q) := .tup h (.cons (.int _) (.cons (.int _) (.cons (.int _) (.cons (.int _) .nil))))
theorem bx_eqv (q : Bx) : PyData.eqv (bxD q) (bxD q) = true := by
  simp [bxD, PyData.eqv, PyData.eqvAll]
theorem ok_l_right (T : Tp w K mg) : FnOk P w K mg base CX0 9 T.a_l_right T.d_l_right ["_law_dice_here"] (sp_l_right K) := by
  refine T.F_l_right.ok sc_l_right ?len (fun cdv A outer s H vs Q E hr h => ?_)
  case len => intro vs H Q E h; obtain ⟨d, rfl, _⟩ := h; rfl
  obtain ⟨d, rfl, D0, hq⟩ := h
  refine ⟨_, (pss_cons (ps_set (i := 1) sc_l_right.nd rfl (Or.inr rfl) (pe_call (ok_l_bo_arena T) (hr.mono (by decide)) (by rfl) T.g_l_bo_arena T.F_l_bo_arena.kp T.b_l_bo_arena .nil pass0 (pa_cons (pv 0) pa_nil)))
    (pss_cons (ps_set (i := 2) sc_l_right.nd rfl (Or.inl rfl) (pe_call (ok_l_bo_drawn T) (hr.mono (by decide)) (by rfl) T.g_l_bo_drawn T.F_l_bo_drawn.kp T.b_l_bo_drawn .nil pass0 (pa_cons (pv 0) (pa_cons (pv 1) pa_nil))))
    (pss_cons (ps_set (i := 3) sc_l_right.nd rfl (Or.inl rfl) (pe_callTy call_tuple_of (by rfl) T.m_tuple (by decide +kernel) (pa_cons (pe_lc (own := [("_law_turn", 4)]) (g := gName 4) (tt := tYes) (by rfl) sc_l_right.nd (pi_range1 rfl T.m_range (pa_cons (pe_call (ok_l_roll T) (hr.mono (by decide)) (by rfl) T.g_l_roll T.F_l_roll.kp T.b_l_roll .nil pass0 (pa_cons (pv 0) (pa_cons pe_int pa_nil))) pa_nil)) (blkOk_by (own := [("_law_turn", 4)]) (N := N_l_right) (sc := defScope s_l_right) (by decide +kernel)) (fun _ _ _ _ _ => pg_name (i := 4) sc_l_right.nd rfl (Or.inl rfl)) (fun _ _ _ _ _ => pts_nil) (fun _ _ _ _ _ => (pe_call (ok_l_bo_drawn T) (hr.mono (by decide)) (by rfl) T.g_l_bo_drawn T.F_l_bo_drawn.kp T.b_l_bo_drawn .nil pass0 (pa_cons (pv 0) (pa_cons (pv 1) pa_nil))))) pa_nil)))
    (pss_cons (ps_if (PW.pt (pw_or (pt_not (pt_val (pe_call (ok_l_ways_right T) (hr.mono (by decide)) (by rfl) T.g_l_ways_right T.F_l_ways_right.kp T.b_l_ways_right .nil pass0 (pa_cons (pv 0) (pa_cons (pv 1) (pa_cons (pv 2) (pa_cons (pv 3) pa_nil))))))) (pw_or1 (pt_not (pt_val (pe_call (ok_l_meetings_right T) (hr.mono (by decide)) (by rfl) T.g_l_meetings_right T.F_l_meetings_right.kp T.b_l_meetings_right .nil pass0 (pa_cons (pv 0) (pa_cons (pv 2) (pa_cons (pv 3) pa_nil))))))))) (pss_one (ps_ret pe_bl)) pss_nil)
    (pss_cons (ps_for PassesOwn.never rfl (pi_range1 rfl T.m_range (pa_cons pe_int pa_nil)) (pg_name (i := 4) sc_l_right.nd rfl (Or.inl rfl)) (pss_cons (ps_par (i := 5) (j := 6) (by rfl) sc_l_right.nd rfl rfl (by decide) rfl rfl (pa_cons (pe_call (ok_l_bo_pace T) (hr.mono (by decide)) (by rfl) T.g_l_bo_pace T.F_l_bo_pace.kp T.b_l_bo_pace .nil pass0 (pa_cons (pv 0) pa_nil)) (pa_cons (pe_call (ok_l_bo_pace T) (hr.mono (by decide)) (by rfl) T.g_l_bo_pace T.F_l_bo_pace.kp T.b_l_bo_pace .nil pass0 (pa_cons (pv 0) pa_nil)) pa_nil)) (by rfl))
      (pss_one (ps_if (pt_cmpR (op_neD hr.units) (pe_call (ok_moved_box T) (hr.mono (by decide)) (by rfl) T.g_moved_box T.F_moved_box.kp T.b_moved_box .nil pass0 (pa_cons (pv 1) (pa_cons (pv 2) (pa_cons (pv 3) (pa_cons (pv 5) (pa_cons (pv 6) pa_nil)))))) (pe_call (ok_l_bo_moved T) (hr.mono (by decide)) (by rfl) T.g_l_bo_moved T.F_l_bo_moved.kp T.b_l_bo_moved .nil pass0 (pa_cons (pv 1) (pa_cons (pv 2) (pa_cons (pv 3) (pa_cons (pv 5) (pa_cons (pv 6) pa_nil)))))) (nomark _)) (pss_one (ps_ret pe_bl)) pss_nil))))
    (pss_one (ps_ret (pe_cmpR (op_eqD hr.units) (pe_call (ok_moved_box T) (hr.mono (by decide)) (by rfl) T.g_moved_box T.F_moved_box.kp T.b_moved_box .nil pass0 (pa_cons (pv 1) (pa_cons (pv 2) (pa_cons (pv 3) (pa_cons pe_int (pa_cons pe_int pa_nil)))))) (pv 2) (nomark _))))))))), ?_⟩
  walk_at "go"
  refine fun r A0 A1 H1 hA0 hA1 hr1 D1 X1 => ?_
  walk_at "go"
  refine fun a o H2 hof ha2 D2 X2 => ?_
  have hr2 := X2.sqtD D1 hr1
  walk_at "go"
  refine fun n H3 n0 n1 D3 X3 => ?_
  have hr3 := X3.sqtD D2 hr2
  have ha3 := X3.sqtD D2 ha2
  walk_at "go"
  refine fun D nD => lc_range (lo := 0) (n := n.toNat) (fun i H' => Stp (∃ l : List (Addr × Bx), H' D = some (.lst (l.map fun e => .ref e.1)) ∧ l.length = i ∧ (∀ e ∈ l, SqT K H' e.1 e.2.vs ∧ e.2.fit) ∧ Dice d H' ∧ Ext d H3 H' ∧ D ≠ d)) (.of ⟨[], upd_same, rfl, (fun x hx => nomatch hx), D3.new nD, Ext.new nD, D3.ne nD⟩) (fun i H' hi hW => ?_) (fun H' hW => ?_)
  · obtain ⟨l, hD, hn, hb, D', X', ne⟩ := hW.get
    have hr4 := X'.sqtD D3 hr3
    have hi7 : i < 7 := by omega
    walk_at "go"
    refine fun p q H4 hqf hp4 D4 X4 => ?_
    have hD4 := X4 D _ ne hD
    refine ⟨_, hD4, ?_, .of ⟨l ++ [(p, q)], ?_, ?_, ?_, D4.put ne, (X'.trans X4).mut nD, ne⟩⟩
    · rw [List.length_map, hn]
      exact small1000 (by omega)
    · rw [upd_same, List.map_append]; rfl
    · rw [List.length_append, hn]; rfl
    · intro e he
      rcases List.mem_append.mp he with z | z
      · exact ⟨sqt_put hD4 (X4.sqtD D' (hb e z).1), (hb e z).2⟩
      · rw [List.mem_singleton.mp z]; exact ⟨sqt_put hD4 hp4, hqf⟩
  · obtain ⟨l, hD, hn, hb, D', X', ne⟩ := hW.get
    have hr4 := X'.sqtD D3 hr3
    have ha4 := X'.sqtD D3 ha3
    walk_at "go"
    refine .inl ⟨SqL.of hD, fun tp ntp => ?_⟩
    have St : Same H' (upd H' tp (.tup (l.map fun e => V.ref e.1))) := same_new ntp
    have hT : SqT K (upd H' tp (.tup (l.map fun e => V.ref e.1))) tp (l.map fun e => V.ref e.1) := .of upd_same
    generalize upd H' tp (.tup (l.map fun e => V.ref e.1)) = H5 at *
    have D5 := D'.same St
    have X5 : Ext d H H5 := ((X1.trans X2).trans X3).trans (X'.trans (.of St))
    have W5 : Wld K H5 r a tp A0 A1 o (l.map (·.2)) := by
      refine ⟨same_sqt St hr4, same_sqt St ha4, ⟨l.map (·.1), by rw [List.map_map]; exact hT, by rw [List.length_map, List.length_map], fun i y hy => ?_⟩, by rw [List.length_map, hn]; omega, ⟨hA0, hA1⟩, hof, fun q hq => ?_⟩
      · rw [List.getElem?_map] at hy
        cases ex : l[i]? with
        | none => rw [ex] at hy; cases hy
        | some e =>
          rw [ex] at hy
          cases hy
          exact ⟨e.2, by rw [List.getElem?_map, ex]; rfl, same_sqt St (hb e (List.mem_of_getElem? ex)).1⟩
      · obtain ⟨e, he, rfl⟩ := List.mem_map.mp hq
        exact (hb e he).2
    clear hT St hb hD hr4 ha4 hW
    walk_at "go"
    refine fun H6 D6 X6 => ?_
    have W6 := W5.ext X6 D5
    walk_at "go"
    refine fun H7 D7 X7 => ?_
    have W7 := W6.ext X7 D6
    have X57 : Ext d H H7 := X5.trans (X6.trans X7)
    walk_at "go"
    refine for_range (lo := 0) (n := _) (fun i σ H' => Stp (∃ y4 y5 y6, σ = [some (.ref d), some (.ref r), some (.ref a), some (.ref tp), y4, y5, y6] ∧ Dice d H' ∧ Ext d H H' ∧ Wld K H' r a tp A0 A1 o (l.map (·.2)))) (.of ⟨_, _, _, rfl, D7, X57, W7⟩) (fun i σ H8 hi hW => ?_) (fun σ H8 hW => ?_)
    · obtain ⟨y4, y5, y6, rfl, D8, X8, W8⟩ := hW.get
      clear hW
      walk_at "go"
      refine fun dx H9 dx0 dx1 D9 X9 => ?_
      have W9 := W8.ext X9 D8
      walk_at "go"
      refine fun dy Ha dy0 dy1 Da Xa => ?_
      have Wa := W9.ext Xa D9
      have hdx : -1000000000 ≤ dx ∧ dx ≤ 1000000000 := ⟨dx0, dx1⟩
      have hdy : -1000000000 ≤ dy ∧ dy ≤ 1000000000 := ⟨dy0, dy1⟩
      walk_at "go"
      refine fun q p1 Hb hM Sb hp1 => ?_
      have Wb := Wa.same Sb
      have Wlb := Wb.wlp
      walk_at "go"
      refine fun q' p2 Hc hM' Sc hp2 => ?_
      obtain rfl := hM.uniq hM'
      have hp1c := same_sqt Sc hp1
      have Wc := Wb.same Sc
      refine ⟨bxD q, bxD q, dp_bx hp1c, dp_bx hp2, rfl, rfl, ?_⟩
      rw [bx_eqv]
      walk_at "go"
      have S2 := Sb.trans Sc
      exact .of ⟨_, _, _, rfl, Da.same S2, X8.trans (X9.trans (Xa.trans (.of S2))), Wc⟩
    · obtain ⟨y4, y5, y6, rfl, D8, X8, W8⟩ := hW.get
      clear hW
      have hz : (-1000000000 : Int) ≤ 0 ∧ (0 : Int) ≤ 1000000000 := by decide
      walk_at "go"
      refine fun q p1 Hb hM Sb hp1 => ?_
      have hq0 : q = o := by
        obtain ⟨x, y, hx, hy, rfl⟩ := hM
        have e1 : x = 0 := Int.le_antisymm (show x ≤ 0 from hx.2.1) hx.1
        have e2 : y = 0 := Int.le_antisymm (show y ≤ 0 from hy.2.1) hy.1
        subst e1 e2
        cases o
        simp [shift]
      subst hq0
      have ha8 := same_sqt Sb W8.a
      walk_at "go"
      refine ⟨bxD q, bxD q, dp_bx hp1, dp_bx ha8, rfl, rfl, ?_⟩
      rw [bx_eqv]
      exact hq Hb (D8.same Sb) (X8.trans (.of Sb))

theorem bxs1 {K : PySem.W.Frag} {H : Hp} {p s : Addr} {o : Bx} (h : SqT K H p [.ref s]) (hs : SqT K H s o.vs) : Bxs K H p [o] := by
  refine ⟨[s], h, rfl, fun i r hr => ?_⟩
  match i, hr with
  | 0, hr => cases hr; exact ⟨o, rfl, hs⟩
theorem bxs0 {K : PySem.W.Frag} {H : Hp} {p : Addr} (h : SqT K H p []) : Bxs K H p [] := ⟨[], h, rfl, fun i r hr => by cases hr⟩
def shut : Bx := ⟨5, 0, 1, 4⟩
def ball : Bx := ⟨1, 1, 2, 2⟩
def ball2 : Bx := ⟨5, 1, 2, 2⟩
def ball3 : Bx := ⟨-3, 1, 2, 2⟩
instance (A0 A1 : Int) (o : Bx) (os : List Bx) (k s m : Int) : Decidable (Fr A0 A1 o os k s m) := by unfold Fr; infer_instance
instance (A0 A1 : Int) (o : Bx) (os : List Bx) (k s m r : Int) : Decidable (IsF A0 A1 o os k s m r) := by unfold IsF; infer_instance
instance (o : Bx) : Decidable o.fit := by unfold Bx.fit; infer_instance
theorem f1 : IsF 12 6 ball [shut] 0 1 9 2 := by decide
theorem f2 : IsBr 12 6 ball [shut] 0 1 9 (.int 0) := ⟨2, f1, .inr ⟨by decide, .inl ⟨0, shut, rfl, by decide, fun j r hj => absurd hj (Nat.not_lt_zero _), rfl⟩⟩⟩
theorem f3 : IsBr 12 6 ball [shut] 0 (-1) 9 (.int (-1)) := ⟨1, by decide, .inr ⟨by decide, .inr (.inl ⟨by decide, by decide, rfl⟩)⟩⟩
theorem f4 : IsBr 12 6 ball [shut] 0 1 2 .non := ⟨2, by decide, .inl ⟨rfl, rfl⟩⟩
theorem f5 : IsF 12 6 ball2 [shut] 0 1 9 5 := by decide
theorem f6 : IsMv 12 6 ball [shut] 9 9 ⟨3, 4, 2, 2⟩ := ⟨2, 3, by decide, by decide, rfl⟩
theorem f7 : IsMv 12 6 ball2 [shut] 9 0 ⟨10, 1, 2, 2⟩ := ⟨5, 0, by decide, by decide, rfl⟩
theorem f8 : IsMv 12 6 ball3 [] (-4) 0 ⟨-3, 1, 2, 2⟩ := ⟨0, 0, by decide, by decide, rfl⟩
theorem wld1 {K : PySem.W.Frag} {H : Hp} {r a b s : Addr} {o : Bx} (hr : SqT K H r [.int 12, .int 6]) (ha : SqT K H a o.vs) (hb : SqT K H b [.ref s]) (hs : SqT K H s shut.vs) (ho : o.fit) : Wld K H r a b 12 6 o [shut] :=
  ⟨hr, ha, bxs1 hb hs, by decide, by decide, ho, by decide⟩
theorem ok_law (T : Tp w K mg) : FnOk P w K mg base CX0 10 T.a_law T.d_law ["_law_script"] (sp_law K) := by
  refine T.F_law.ok sc_law ?len (fun cdv A outer s H vs Q E hr h => ?_)
  case len => intro vs H Q E h; obtain ⟨x, y, rfl, _⟩ := h; rfl
  obtain ⟨a, ns, rfl, hS, hl, q⟩ := h
  obtain ⟨mv, hkb⟩ := am_kw T
  refine ⟨_, (pss_cons (ps_for PassesOwn.never rfl (pi_range1 rfl T.m_range (pa_cons (pe_callB (call_max2 rfl) (by rfl) T.m_max (by decide +kernel) (pa_cons pe_int (pa_cons (pe_callB (call_min2 rfl) (by rfl) T.m_min (by decide +kernel) (pa_cons pe_int (pa_cons (pe_callB call_len_seq (by rfl) T.m_len (by decide +kernel) (pa_cons (pv 0) pa_nil)) pa_nil))) pa_nil))) pa_nil)) (pg_name (i := 1) sc_law.nd rfl (Or.inl rfl)) (pss_one (ps_if (pt_not (pt_val (pe_call (ok_l_right T) (hr.mono (by decide)) (by rfl) T.g_l_right T.F_l_right.kp T.b_l_right .nil pass0 (pa_cons (pe_call (ok_l_dice T) (hr.mono (by decide)) (by rfl) T.g_l_dice T.F_l_dice.kp T.b_l_dice .nil pass0 (pa_cons (pv 0) (pa_cons (pv 1) pa_nil))) pa_nil)))) (pss_one (ps_ret pe_bl)) pss_nil)))
    (pss_cons (ps_asg (pe_tup (pa_cons (pe_tup (pa_cons pe_int (pa_cons pe_int (pa_cons pe_int (pa_cons pe_int pa_nil))))) (pa_cons (pe_tup (pa_cons pe_int (pa_cons pe_int (pa_cons pe_int (pa_cons pe_int pa_nil))))) (pa_cons (pe_tup (pa_cons pe_int (pa_cons pe_int pa_nil))) pa_nil)))) (pg_tup (by rfl) (pgs_cons (pg_name (i := 2) sc_law.nd rfl (Or.inr rfl)) (pgs_cons (pg_name (i := 3) sc_law.nd rfl (Or.inl rfl)) (pgs_cons (pg_name (i := 4) sc_law.nd rfl (Or.inl rfl)) pgs_nil)))))
    (pss_cons (ps_set (i := 5) sc_law.nd rfl (Or.inl rfl) (pe_lst (pa_cons (pe_call (ok_reach T) (hr.mono (by decide)) (by rfl) T.g_reach T.F_reach.kp T.b_reach .nil pass0 (pa_cons (pv 4) (pa_cons (pv 3) (pa_cons (pe_tup (pa_cons (pv 2) pa_nil)) (pa_cons pe_str (pa_cons pe_int pa_nil)))))) (pa_cons (pe_call (ok_barrier T) (hr.mono (by decide)) (by rfl) T.g_barrier T.F_barrier.kp T.b_barrier .nil pass0 (pa_cons (pv 4) (pa_cons (pv 3) (pa_cons (pe_tup (pa_cons (pv 2) pa_nil)) (pa_cons pe_str (pa_cons pe_int pa_nil)))))) (pa_cons (pe_call (ok_barrier T) (hr.mono (by decide)) (by rfl) T.g_barrier T.F_barrier.kp T.b_barrier .nil pass0 (pa_cons (pv 4) (pa_cons (pv 3) (pa_cons (pe_tup (pa_cons (pv 2) pa_nil)) (pa_cons pe_str (pa_cons pe_int pa_nil)))))) pa_nil)))))
    (pss_cons (ps_if (PW.pt (pw_or (pt_cmpR (op_neD hr.units) (pv 5) (pe_lst (pa_cons pe_int (pa_cons pe_int (pa_cons (pe_un un_neg pe_int) pa_nil)))) (nomark _)) (pw_or (pt_cmp (pc_notN (pe_call (ok_barrier T) (hr.mono (by decide)) (by rfl) T.g_barrier T.F_barrier.kp T.b_barrier .nil pass0 (pa_cons (pv 4) (pa_cons (pv 3) (pa_cons (pe_tup (pa_cons (pv 2) pa_nil)) (pa_cons pe_str (pa_cons pe_int pa_nil))))))) rfl) (pw_or1 (pt_cmpR op_ne (pe_call (ok_reach T) (hr.mono (by decide)) (by rfl) T.g_reach T.F_reach.kp T.b_reach .nil pass0 (pa_cons (pv 4) (pa_cons (pe_tup (pa_cons pe_int (pa_cons pe_int (pa_cons pe_int (pa_cons pe_int pa_nil))))) (pa_cons (pe_tup (pa_cons (pv 2) pa_nil)) (pa_cons pe_str (pa_cons pe_int pa_nil)))))) pe_int (nomark _)))))) (pss_one (ps_ret pe_bl)) pss_nil)
    (pss_cons (ps_set (i := 5) sc_law.nd rfl (Or.inl rfl) (pe_lst (pa_cons (pe_call (ok_moved_box T) (hr.mono (by decide)) (by rfl) T.g_moved_box T.F_moved_box.kp T.b_moved_box .nil pass0 (pa_cons (pv 4) (pa_cons (pv 3) (pa_cons (pe_tup (pa_cons (pv 2) pa_nil)) (pa_cons pe_int (pa_cons pe_int pa_nil)))))) (pa_cons (pe_call (ok_moved_box T) (hr.mono (by decide)) (by rfl) T.g_moved_box T.F_moved_box.kp T.b_moved_box .nil pass0 (pa_cons (pv 4) (pa_cons (pe_tup (pa_cons pe_int (pa_cons pe_int (pa_cons pe_int (pa_cons pe_int pa_nil))))) (pa_cons (pe_tup (pa_cons (pv 2) pa_nil)) (pa_cons pe_int (pa_cons pe_int pa_nil)))))) (pa_cons (pe_call (ok_moved_box T) (hr.mono (by decide)) (by rfl) T.g_moved_box T.F_moved_box.kp T.b_moved_box .nil pass0 (pa_cons (pv 4) (pa_cons (pe_tup (pa_cons (pe_un un_neg pe_int) (pa_cons pe_int (pa_cons pe_int (pa_cons pe_int pa_nil))))) (pa_cons (pe_tup pa_nil) (pa_cons (pe_un un_neg pe_int) (pa_cons pe_int pa_nil)))))) pa_nil)))))
    (pss_cons (ps_if (pt_cmpR (op_neD hr.units) (pv 5) (pe_lst (pa_cons (pe_tup (pa_cons pe_int (pa_cons pe_int (pa_cons pe_int (pa_cons pe_int pa_nil))))) (pa_cons (pe_tup (pa_cons pe_int (pa_cons pe_int (pa_cons pe_int (pa_cons pe_int pa_nil))))) (pa_cons (pe_tup (pa_cons (pe_un un_neg pe_int) (pa_cons pe_int (pa_cons pe_int (pa_cons pe_int pa_nil))))) pa_nil)))) (nomark _)) (pss_one (ps_ret pe_bl)) pss_nil)
    (pss_one (ps_ret (pe_cmpR (op_eqD hr.units) (pe_lc (own := [("_law_grown_here", 6)]) (g := gName 6) (tt := tYes) (by rfl) sc_law.nd (pi_tup (pe_tup (pa_cons pe_int (pa_cons pe_int (pa_cons (pe_un un_neg pe_int) pa_nil))))) (blkOk_by (own := [("_law_grown_here", 6)]) (N := N_law) (sc := defScope s_law) (by decide +kernel)) (fun _ _ _ _ _ => pg_name (i := 6) sc_law.nd rfl (Or.inl rfl)) (fun _ _ _ _ _ => pts_nil) (fun _ _ _ _ _ => (pe_callN (ok_are_meeting T) (hr.mono (by decide)) (by rfl) T.g_are_meeting T.F_are_meeting.kp hkb pass0 (pa_cons (pe_tup (pa_cons pe_int (pa_cons pe_int (pa_cons pe_int (pa_cons pe_int pa_nil))))) (pa_cons (pv 2) pa_nil)) (pk_cons (pv 6) pk_nil)))) (pe_lst (pa_cons pe_bl (pa_cons pe_bl (pa_cons pe_bl pa_nil)))) (nomark _)))))))))), ?_⟩
  walk_at "go"
  refine for_range (lo := 0) (n := _) (fun i σ H' => Stp (∃ y1 y2 y3 y4 y5 y6, σ = [some (.ref a), y1, y2, y3, y4, y5, y6] ∧ SqL K H' a (ns.map V.int))) (.of ⟨none, none, none, none, none, none, rfl, hS⟩) (fun i σ H' hi hW => ?_) (fun σ H' hW => ?_)
  · obtain ⟨y1, y2, y3, y4, y5, y6, rfl, hS'⟩ := hW.get
    have hi3 : (i : Int) < 1000 := by
      revert hi
      rw [List.length_map]
      split <;> (try split) <;> intro hi <;> omega
    walk_at "go"
    refine fun d H1 nd D1 S1 => ?_
    walk_at "go"
    refine fun H2 D2 X2 => ?_
    walk_at "go"
    exact .of ⟨_, _, _, _, _, _, rfl, (((Ext.of S1).trans X2).same nd).seq hS'⟩
  · obtain ⟨y1, y2, y3, y4, y5, y6, rfl, hS'⟩ := hW.get
    clear hW hS'
    have hsr : Sd "right" 0 1 := .right
    have hsl : Sd "left" 0 (-1) := .left
    walk_at "go"
    refine fun ps nps => ?_
    generalize hH : upd H' ps _ = G1
    have S1 : Same H' G1 := by rw [← hH]; exact same_new nps
    have tps : SqT K G1 ps shut.vs := by rw [← hH]; exact .of upd_same
    clear hH
    walk_at "go"
    refine fun pb npb => ?_
    generalize hH : upd G1 pb _ = G2
    have S2 : Same G1 G2 := by rw [← hH]; exact same_new npb
    have tpb : SqT K G2 pb ball.vs := by rw [← hH]; exact .of upd_same
    clear hH
    replace tps := same_sqt S2 tps
    walk_at "go"
    refine fun pr npr => ?_
    generalize hH : upd G2 pr _ = G3
    have S3 : Same G2 G3 := by rw [← hH]; exact same_new npr
    have tpr : SqT K G3 pr [.int 12, .int 6] := by rw [← hH]; exact .of upd_same
    clear hH
    replace tps := same_sqt S3 tps
    replace tpb := same_sqt S3 tpb
    walk_at "go"
    refine fun pc npc => ?_
    generalize hH : upd G3 pc _ = G4
    have S4 : Same G3 G4 := by rw [← hH]; exact same_new npc
    have tpc : SqT K G4 pc [.ref ps, .ref pb, .ref pr] := by rw [← hH]; exact .of upd_same
    clear hH
    replace tps := same_sqt S4 tps
    replace tpb := same_sqt S4 tpb
    replace tpr := same_sqt S4 tpr
    walk_at "go"
    refine fun a1 na1 => ?_
    generalize hH : upd G4 a1 _ = G5
    have S5 : Same G4 G5 := by rw [← hH]; exact same_new na1
    have ta1 : SqT K G5 a1 [.ref ps] := by rw [← hH]; exact .of upd_same
    clear hH
    replace tps := same_sqt S5 tps
    replace tpb := same_sqt S5 tpb
    replace tpr := same_sqt S5 tpr
    replace tpc := same_sqt S5 tpc
    have W := wld1 tpr tpb ta1 tps (by decide : Bx.fit ball)
    walk_at "go"
    refine fun x1 G6 hv6 S6 => ?_
    replace tps := same_sqt S6 tps
    replace tpb := same_sqt S6 tpb
    replace tpr := same_sqt S6 tpr
    replace tpc := same_sqt S6 tpc
    replace ta1 := same_sqt S6 ta1
    obtain rfl := hv6.uniq f1
    walk_at "go"
    refine fun a2 na2 => ?_
    generalize hH : upd G6 a2 _ = G7
    have S7 : Same G6 G7 := by rw [← hH]; exact same_new na2
    have ta2 : SqT K G7 a2 [.ref ps] := by rw [← hH]; exact .of upd_same
    clear hH
    replace tps := same_sqt S7 tps
    replace tpb := same_sqt S7 tpb
    replace tpr := same_sqt S7 tpr
    replace tpc := same_sqt S7 tpc
    replace ta1 := same_sqt S7 ta1
    have W := wld1 tpr tpb ta2 tps (by decide : Bx.fit ball)
    walk_at "go"
    refine fun x2 G8 hv8 S8 => ?_
    replace tps := same_sqt S8 tps
    replace tpb := same_sqt S8 tpb
    replace tpr := same_sqt S8 tpr
    replace tpc := same_sqt S8 tpc
    replace ta1 := same_sqt S8 ta1
    replace ta2 := same_sqt S8 ta2
    obtain rfl := hv8.uniq f2
    walk_at "go"
    refine fun a3 na3 => ?_
    generalize hH : upd G8 a3 _ = G9
    have S9 : Same G8 G9 := by rw [← hH]; exact same_new na3
    have ta3 : SqT K G9 a3 [.ref ps] := by rw [← hH]; exact .of upd_same
    clear hH
    replace tps := same_sqt S9 tps
    replace tpb := same_sqt S9 tpb
    replace tpr := same_sqt S9 tpr
    replace tpc := same_sqt S9 tpc
    replace ta1 := same_sqt S9 ta1
    replace ta2 := same_sqt S9 ta2
    have W := wld1 tpr tpb ta3 tps (by decide : Bx.fit ball)
    walk_at "go"
    refine fun x3 G10 hv10 S10 => ?_
    replace tps := same_sqt S10 tps
    replace tpb := same_sqt S10 tpb
    replace tpr := same_sqt S10 tpr
    replace tpc := same_sqt S10 tpc
    replace ta1 := same_sqt S10 ta1
    replace ta2 := same_sqt S10 ta2
    replace ta3 := same_sqt S10 ta3
    obtain rfl := hv10.uniq f3
    walk_at "go"
    refine fun l1 nl1 => ?_
    generalize hH : upd G10 l1 _ = G11
    have S11 : Same G10 G11 := by rw [← hH]; exact same_new nl1
    have tl1 : SqL K G11 l1 [.int 2, .int 0, .int (-1)] := by rw [← hH]; exact .of upd_same
    clear hH
    replace tps := same_sqt S11 tps
    replace tpb := same_sqt S11 tpb
    replace tpr := same_sqt S11 tpr
    replace tpc := same_sqt S11 tpc
    replace ta1 := same_sqt S11 ta1
    replace ta2 := same_sqt S11 ta2
    replace ta3 := same_sqt S11 ta3
    walk_at "go"
    refine fun l2 nl2 => ?_
    generalize hH : upd G11 l2 _ = G12
    have S12 : Same G11 G12 := by rw [← hH]; exact same_new nl2
    have tl2 : SqL K G12 l2 [.int 2, .int 0, .int (-1)] := by rw [← hH]; exact .of upd_same
    clear hH
    replace tps := same_sqt S12 tps
    replace tpb := same_sqt S12 tpb
    replace tpr := same_sqt S12 tpr
    replace tpc := same_sqt S12 tpc
    replace ta1 := same_sqt S12 ta1
    replace ta2 := same_sqt S12 ta2
    replace ta3 := same_sqt S12 ta3
    replace tl1 := S12.seq tl1
    refine ⟨.list [.int 2, .int 0, .int (-1)], .list [.int 2, .int 0, .int (-1)], .lst tl1 (.cons (.int _) (.cons (.int _) (.cons (.int _) .nil))), .lst tl2 (.cons (.int _) (.cons (.int _) (.cons (.int _) .nil))), rfl, rfl, ?_⟩
    walk_at "go"
    walk_at "tt"
    clear tl1 tl2 ta1 ta2 ta3
    walk_at "go"
    refine fun a4 na4 => ?_
    generalize hH : upd G12 a4 _ = G13
    have S13 : Same G12 G13 := by rw [← hH]; exact same_new na4
    have ta4 : SqT K G13 a4 [.ref ps] := by rw [← hH]; exact .of upd_same
    clear hH
    replace tps := same_sqt S13 tps
    replace tpb := same_sqt S13 tpb
    replace tpr := same_sqt S13 tpr
    replace tpc := same_sqt S13 tpc
    have W := wld1 tpr tpb ta4 tps (by decide : Bx.fit ball)
    walk_at "go"
    refine fun x4 G14 hv14 S14 => ?_
    replace tps := same_sqt S14 tps
    replace tpb := same_sqt S14 tpb
    replace tpr := same_sqt S14 tpr
    replace tpc := same_sqt S14 tpc
    replace ta4 := same_sqt S14 ta4
    obtain rfl := hv14.uniq f4
    walk_at "go"
    walk_at "tt"
    clear ta4
    walk_at "go"
    refine fun b2 nb2 => ?_
    generalize hH : upd G14 b2 _ = G15
    have S15 : Same G14 G15 := by rw [← hH]; exact same_new nb2
    have tb2 : SqT K G15 b2 ball2.vs := by rw [← hH]; exact .of upd_same
    clear hH
    replace tps := same_sqt S15 tps
    replace tpb := same_sqt S15 tpb
    replace tpr := same_sqt S15 tpr
    replace tpc := same_sqt S15 tpc
    walk_at "go"
    refine fun a5 na5 => ?_
    generalize hH : upd G15 a5 _ = G16
    have S16 : Same G15 G16 := by rw [← hH]; exact same_new na5
    have ta5 : SqT K G16 a5 [.ref ps] := by rw [← hH]; exact .of upd_same
    clear hH
    replace tps := same_sqt S16 tps
    replace tpb := same_sqt S16 tpb
    replace tpr := same_sqt S16 tpr
    replace tpc := same_sqt S16 tpc
    replace tb2 := same_sqt S16 tb2
    have W := wld1 tpr tb2 ta5 tps (by decide : Bx.fit ball2)
    walk_at "go"
    refine fun x5 G17 hv17 S17 => ?_
    replace tps := same_sqt S17 tps
    replace tpb := same_sqt S17 tpb
    replace tpr := same_sqt S17 tpr
    replace tpc := same_sqt S17 tpc
    replace tb2 := same_sqt S17 tb2
    replace ta5 := same_sqt S17 ta5
    obtain rfl := hv17.uniq f5
    walk_at "go"
    walk_at "tt"
    clear ta5 tb2
    walk_at "go"
    refine fun a6 na6 => ?_
    generalize hH : upd G17 a6 _ = G18
    have S18 : Same G17 G18 := by rw [← hH]; exact same_new na6
    have ta6 : SqT K G18 a6 [.ref ps] := by rw [← hH]; exact .of upd_same
    clear hH
    replace tps := same_sqt S18 tps
    replace tpb := same_sqt S18 tpb
    replace tpr := same_sqt S18 tpr
    replace tpc := same_sqt S18 tpc
    have W := wld1 tpr tpb ta6 tps (by decide : Bx.fit ball)
    walk_at "go"
    refine fun q1 m1 G19 hv19 S19 tm1 => ?_
    replace tps := same_sqt S19 tps
    replace tpb := same_sqt S19 tpb
    replace tpr := same_sqt S19 tpr
    replace tpc := same_sqt S19 tpc
    replace ta6 := same_sqt S19 ta6
    obtain rfl := hv19.uniq f6
    walk_at "go"
    refine fun b3 nb3 => ?_
    generalize hH : upd G19 b3 _ = G20
    have S20 : Same G19 G20 := by rw [← hH]; exact same_new nb3
    have tb3 : SqT K G20 b3 ball2.vs := by rw [← hH]; exact .of upd_same
    clear hH
    replace tps := same_sqt S20 tps
    replace tpb := same_sqt S20 tpb
    replace tpr := same_sqt S20 tpr
    replace tpc := same_sqt S20 tpc
    replace ta6 := same_sqt S20 ta6
    replace tm1 := same_sqt S20 tm1
    walk_at "go"
    refine fun a7 na7 => ?_
    generalize hH : upd G20 a7 _ = G21
    have S21 : Same G20 G21 := by rw [← hH]; exact same_new na7
    have ta7 : SqT K G21 a7 [.ref ps] := by rw [← hH]; exact .of upd_same
    clear hH
    replace tps := same_sqt S21 tps
    replace tpb := same_sqt S21 tpb
    replace tpr := same_sqt S21 tpr
    replace tpc := same_sqt S21 tpc
    replace ta6 := same_sqt S21 ta6
    replace tm1 := same_sqt S21 tm1
    replace tb3 := same_sqt S21 tb3
    have W := wld1 tpr tb3 ta7 tps (by decide : Bx.fit ball2)
    walk_at "go"
    refine fun q2 m2 G22 hv22 S22 tm2 => ?_
    replace tps := same_sqt S22 tps
    replace tpb := same_sqt S22 tpb
    replace tpr := same_sqt S22 tpr
    replace tpc := same_sqt S22 tpc
    replace ta6 := same_sqt S22 ta6
    replace tm1 := same_sqt S22 tm1
    replace tb3 := same_sqt S22 tb3
    replace ta7 := same_sqt S22 ta7
    obtain rfl := hv22.uniq f7
    walk_at "go"
    refine fun b4 nb4 => ?_
    generalize hH : upd G22 b4 _ = G23
    have S23 : Same G22 G23 := by rw [← hH]; exact same_new nb4
    have tb4 : SqT K G23 b4 ball3.vs := by rw [← hH]; exact .of upd_same
    clear hH
    replace tps := same_sqt S23 tps
    replace tpb := same_sqt S23 tpb
    replace tpr := same_sqt S23 tpr
    replace tpc := same_sqt S23 tpc
    replace ta6 := same_sqt S23 ta6
    replace tm1 := same_sqt S23 tm1
    replace tb3 := same_sqt S23 tb3
    replace ta7 := same_sqt S23 ta7
    replace tm2 := same_sqt S23 tm2
    walk_at "go"
    refine fun a8 na8 => ?_
    generalize hH : upd G23 a8 _ = G24
    have S24 : Same G23 G24 := by rw [← hH]; exact same_new na8
    have ta8 : SqT K G24 a8 [] := by rw [← hH]; exact .of upd_same
    clear hH
    replace tps := same_sqt S24 tps
    replace tpb := same_sqt S24 tpb
    replace tpr := same_sqt S24 tpr
    replace tpc := same_sqt S24 tpc
    replace ta6 := same_sqt S24 ta6
    replace tm1 := same_sqt S24 tm1
    replace tb3 := same_sqt S24 tb3
    replace ta7 := same_sqt S24 ta7
    replace tm2 := same_sqt S24 tm2
    replace tb4 := same_sqt S24 tb4
    have W : Wld K G24 pr b4 a8 12 6 ball3 [] := ⟨tpr, tb4, bxs0 ta8, by decide, by decide, by decide, by decide⟩
    walk_at "go"
    refine fun q3 m3 G25 hv25 S25 tm3 => ?_
    replace tps := same_sqt S25 tps
    replace tpb := same_sqt S25 tpb
    replace tpr := same_sqt S25 tpr
    replace tpc := same_sqt S25 tpc
    replace ta6 := same_sqt S25 ta6
    replace tm1 := same_sqt S25 tm1
    replace tb3 := same_sqt S25 tb3
    replace ta7 := same_sqt S25 ta7
    replace tm2 := same_sqt S25 tm2
    replace tb4 := same_sqt S25 tb4
    replace ta8 := same_sqt S25 ta8
    obtain rfl := hv25.uniq f8
    walk_at "go"
    clear ta6 tb3 ta7 tb4 ta8
    refine fun l3 nl3 => ?_
    generalize hH : upd G25 l3 _ = G26
    have S26 : Same G25 G26 := by rw [← hH]; exact same_new nl3
    have tl3 : SqL K G26 l3 [.ref m1, .ref m2, .ref m3] := by rw [← hH]; exact .of upd_same
    clear hH
    replace tps := same_sqt S26 tps
    replace tpb := same_sqt S26 tpb
    replace tpr := same_sqt S26 tpr
    replace tpc := same_sqt S26 tpc
    replace tm1 := same_sqt S26 tm1
    replace tm2 := same_sqt S26 tm2
    replace tm3 := same_sqt S26 tm3
    walk_at "go"
    refine fun c1 nc1 => ?_
    generalize hH : upd G26 c1 _ = G27
    have S27 : Same G26 G27 := by rw [← hH]; exact same_new nc1
    have tc1 : SqT K G27 c1 (⟨3, 4, 2, 2⟩ : Bx).vs := by rw [← hH]; exact .of upd_same
    clear hH
    replace tps := same_sqt S27 tps
    replace tpb := same_sqt S27 tpb
    replace tpr := same_sqt S27 tpr
    replace tpc := same_sqt S27 tpc
    replace tm1 := same_sqt S27 tm1
    replace tm2 := same_sqt S27 tm2
    replace tm3 := same_sqt S27 tm3
    replace tl3 := S27.seq tl3
    walk_at "go"
    refine fun c2 nc2 => ?_
    generalize hH : upd G27 c2 _ = G28
    have S28 : Same G27 G28 := by rw [← hH]; exact same_new nc2
    have tc2 : SqT K G28 c2 (⟨10, 1, 2, 2⟩ : Bx).vs := by rw [← hH]; exact .of upd_same
    clear hH
    replace tps := same_sqt S28 tps
    replace tpb := same_sqt S28 tpb
    replace tpr := same_sqt S28 tpr
    replace tpc := same_sqt S28 tpc
    replace tm1 := same_sqt S28 tm1
    replace tm2 := same_sqt S28 tm2
    replace tm3 := same_sqt S28 tm3
    replace tl3 := S28.seq tl3
    replace tc1 := same_sqt S28 tc1
    walk_at "go"
    refine fun c3 nc3 => ?_
    generalize hH : upd G28 c3 _ = G29
    have S29 : Same G28 G29 := by rw [← hH]; exact same_new nc3
    have tc3 : SqT K G29 c3 (⟨-3, 1, 2, 2⟩ : Bx).vs := by rw [← hH]; exact .of upd_same
    clear hH
    replace tps := same_sqt S29 tps
    replace tpb := same_sqt S29 tpb
    replace tpr := same_sqt S29 tpr
    replace tpc := same_sqt S29 tpc
    replace tm1 := same_sqt S29 tm1
    replace tm2 := same_sqt S29 tm2
    replace tm3 := same_sqt S29 tm3
    replace tl3 := S29.seq tl3
    replace tc1 := same_sqt S29 tc1
    replace tc2 := same_sqt S29 tc2
    walk_at "go"
    refine fun l4 nl4 => ?_
    generalize hH : upd G29 l4 _ = G30
    have S30 : Same G29 G30 := by rw [← hH]; exact same_new nl4
    have tl4 : SqL K G30 l4 [.ref c1, .ref c2, .ref c3] := by rw [← hH]; exact .of upd_same
    clear hH
    replace tps := same_sqt S30 tps
    replace tpb := same_sqt S30 tpb
    replace tpr := same_sqt S30 tpr
    replace tpc := same_sqt S30 tpc
    replace tm1 := same_sqt S30 tm1
    replace tm2 := same_sqt S30 tm2
    replace tm3 := same_sqt S30 tm3
    replace tl3 := S30.seq tl3
    replace tc1 := same_sqt S30 tc1
    replace tc2 := same_sqt S30 tc2
    replace tc3 := same_sqt S30 tc3
    refine ⟨.list [bxD ⟨3, 4, 2, 2⟩, bxD ⟨10, 1, 2, 2⟩, bxD ⟨-3, 1, 2, 2⟩], .list [bxD ⟨3, 4, 2, 2⟩, bxD ⟨10, 1, 2, 2⟩, bxD ⟨-3, 1, 2, 2⟩], .lst tl3 (.cons (dp_bx tm1) (.cons (dp_bx tm2) (.cons (dp_bx tm3) .nil))), .lst tl4 (.cons (dp_bx tc1) (.cons (dp_bx tc2) (.cons (dp_bx tc3) .nil))), rfl, rfl, ?_⟩
    walk_at "go"
    walk_at "tt"
    clear tm1 tm2 tm3 tl3 tl4 tc1 tc2 tc3 tpb tpr tpc
    walk_at "go"
    refine fun gt ngt => ?_
    generalize hH : upd G30 gt _ = G31
    have S31 : Same G30 G31 := by rw [← hH]; exact same_new ngt
    have tgt : SqT K G31 gt [.int 0, .int 1, .int (-1)] := by rw [← hH]; exact .of upd_same
    clear hH
    replace tps := same_sqt S31 tps
    walk_at "go"
    refine fun D nD => lc_tup (K := K) (xs := [.int 0, .int 1, .int (-1)]) (fun i H5 => Stp (H5 D = some (.lst ([V.bl false, V.bl true, V.bl false].take i)) ∧ Ext D G31 H5)) (.of ⟨upd_same, Ext.new nD⟩) (fun i H5 hi hW => same_sqt (hW.get.2.same nD) tgt) (fun i x H5 hx hW => ?_) (fun H5 hW => ?_)
    · obtain ⟨hD, X⟩ := hW.get
      have tps5 := same_sqt (X.same nD) tps
      clear hW
      obtain ⟨g, rfl, hg, hm, hi⟩ : ∃ g, x = .int g ∧ (-1000000000 ≤ g ∧ g ≤ 1000000000) ∧ [V.bl false, V.bl true, V.bl false].take (i + 1) = [V.bl false, V.bl true, V.bl false].take i ++ [V.bl (meB (grow ⟨3, 1, 2, 2⟩ g) shut)] ∧ i < 3 := by
        match i, hx with
        | 0, hx => cases hx; exact ⟨_, rfl, by decide, by decide, by decide⟩
        | 1, hx => cases hx; exact ⟨_, rfl, by decide, by decide, by decide⟩
        | 2, hx => cases hx; exact ⟨_, rfl, by decide, by decide, by decide⟩
      have hf3 : Bx.fit ⟨3, 1, 2, 2⟩ := by decide
      have hfs : Bx.fit shut := by decide
      walk_at "go"
      refine fun pt npt => ?_
      generalize hH : upd H5 pt _ = H6
      have St : Same H5 H6 := by rw [← hH]; exact same_new npt
      have tpt : SqT K H6 pt (⟨3, 1, 2, 2⟩ : Bx).vs := by rw [← hH]; exact .of upd_same
      clear hH
      replace tps5 := same_sqt St tps5
      walk_at "go"
      refine fun H7 S7 => ⟨_, (St.trans S7) _ _ hD, ?_, .of ⟨?_, (X.trans (.of (St.trans S7))).mut nD⟩⟩
      · rw [List.length_take]; exact small1000 (by omega)
      · rw [upd_same, hm]
    · obtain ⟨hD, X⟩ := hW.get
      have tD : SqL K H5 D [.bl false, .bl true, .bl false] := .of hD
      walk_at "go"
      refine fun pt npt => ?_
      generalize hH : upd H5 pt _ = H6
      have St : Same H5 H6 := by rw [← hH]; exact same_new npt
      have tpt : SqL K H6 pt [.bl false, .bl true, .bl false] := by rw [← hH]; exact .of upd_same
      clear hH
      replace tD := St.seq tD
      refine ⟨.list [.bool false, .bool true, .bool false], .list [.bool false, .bool true, .bool false], .lst tD (.cons (.bl _) (.cons (.bl _) (.cons (.bl _) .nil))), .lst tpt (.cons (.bl _) (.cons (.bl _) (.cons (.bl _) .nil))), rfl, rfl, ?_⟩
      exact q _

end
theorem all_mk {l : PySem.W.OpenLaw} {w : World} {K : PySem.W.Frag} {h : Heap} {mg : Str → Option Value} {fa : Addr} (X : K.In h) (G : h.Ns mainGlobals mg) (hfa : mg "law" = some (.ref fa))
  {f0 : Addr} {od0 an0 : Option Addr} {sl0 : Array (Option Value)} {oc0 kV0 dc0 pm0 cd0 ct0 : Value}
  {f1 : Addr} {od1 an1 : Option Addr} {sl1 : Array (Option Value)} {oc1 kV1 dc1 pm1 cd1 ct1 : Value}
  {f2 : Addr} {od2 an2 : Option Addr} {sl2 : Array (Option Value)} {oc2 kV2 dc2 pm2 cd2 ct2 : Value}
  {f3 : Addr} {od3 an3 : Option Addr} {sl3 : Array (Option Value)} {oc3 kV3 dc3 pm3 cd3 ct3 : Value}
  {f4 : Addr} {od4 an4 : Option Addr} {sl4 : Array (Option Value)} {oc4 kV4 dc4 pm4 cd4 ct4 : Value}
  {f5 : Addr} {od5 an5 : Option Addr} {sl5 : Array (Option Value)} {oc5 kV5 dc5 pm5 cd5 ct5 : Value}
  {f6 : Addr} {od6 an6 : Option Addr} {sl6 : Array (Option Value)} {oc6 kV6 dc6 pm6 cd6 ct6 : Value}
  {f7 : Addr} {od7 an7 : Option Addr} {sl7 : Array (Option Value)} {oc7 kV7 dc7 pm7 cd7 ct7 : Value}
  {f8 : Addr} {od8 an8 : Option Addr} {sl8 : Array (Option Value)} {oc8 kV8 dc8 pm8 cd8 ct8 : Value}
  {f9 : Addr} {od9 an9 : Option Addr} {sl9 : Array (Option Value)} {oc9 kV9 dc9 pm9 cd9 ct9 : Value}
  {f10 : Addr} {od10 an10 : Option Addr} {sl10 : Array (Option Value)} {oc10 kV10 dc10 pm10 cd10 ct10 : Value}
  {f11 : Addr} {od11 an11 : Option Addr} {sl11 : Array (Option Value)} {oc11 kV11 dc11 pm11 cd11 ct11 : Value}
  {f12 : Addr} {od12 an12 : Option Addr} {sl12 : Array (Option Value)} {oc12 kV12 dc12 pm12 cd12 ct12 : Value}
  {f13 : Addr} {od13 an13 : Option Addr} {sl13 : Array (Option Value)} {oc13 kV13 dc13 pm13 cd13 ct13 : Value}
  {f14 : Addr} {od14 an14 : Option Addr} {sl14 : Array (Option Value)} {oc14 kV14 dc14 pm14 cd14 ct14 : Value}
  {f15 : Addr} {od15 an15 : Option Addr} {sl15 : Array (Option Value)} {oc15 kV15 dc15 pm15 cd15 ct15 : Value}
  {f16 : Addr} {od16 an16 : Option Addr} {sl16 : Array (Option Value)} {oc16 kV16 dc16 pm16 cd16 ct16 : Value}
  {f17 : Addr} {od17 an17 : Option Addr} {sl17 : Array (Option Value)} {oc17 kV17 dc17 pm17 cd17 ct17 : Value}
  {f18 : Addr} {od18 an18 : Option Addr} {sl18 : Array (Option Value)} {oc18 kV18 dc18 pm18 cd18 ct18 : Value}
  {f19 : Addr} {od19 an19 : Option Addr} {sl19 : Array (Option Value)} {oc19 kV19 dc19 pm19 cd19 ct19 : Value}
  {f20 : Addr} {od20 an20 : Option Addr} {sl20 : Array (Option Value)} {oc20 kV20 dc20 pm20 cd20 ct20 : Value}
  {f21 kd21 : Addr} {od21 an21 : Option Addr} {sl21 : Array (Option Value)} {oc21 dc21 pm21 cd21 ct21 : Value}
  {u21_0 : Value}
  {f22 : Addr} {od22 an22 : Option Addr} {sl22 : Array (Option Value)} {oc22 kV22 dc22 pm22 cd22 ct22 : Value}
  {f23 : Addr} {od23 an23 : Option Addr} {sl23 : Array (Option Value)} {oc23 kV23 dc23 pm23 cd23 ct23 : Value}
  {f24 : Addr} {od24 an24 : Option Addr} {sl24 : Array (Option Value)} {oc24 kV24 dc24 pm24 cd24 ct24 : Value}
  {f25 : Addr} {od25 an25 : Option Addr} {sl25 : Array (Option Value)} {oc25 kV25 dc25 pm25 cd25 ct25 : Value}
  {f26 : Addr} {od26 an26 : Option Addr} {sl26 : Array (Option Value)} {oc26 kV26 dc26 pm26 cd26 ct26 : Value}
  {f27 : Addr} {od27 an27 : Option Addr} {sl27 : Array (Option Value)} {oc27 kV27 dc27 pm27 cd27 ct27 : Value}
  {f28 : Addr} {od28 an28 : Option Addr} {sl28 : Array (Option Value)} {oc28 kV28 dc28 pm28 cd28 ct28 : Value}
  {f29 : Addr} {od29 an29 : Option Addr} {sl29 : Array (Option Value)} {oc29 kV29 dc29 pm29 cd29 ct29 : Value}
  {f30 : Addr} {od30 an30 : Option Addr} {sl30 : Array (Option Value)} {oc30 kV30 dc30 pm30 cd30 ct30 : Value}
  {f31 : Addr} {od31 an31 : Option Addr} {sl31 : Array (Option Value)} {oc31 kV31 dc31 pm31 cd31 ct31 : Value}
  {f32 : Addr} {od32 an32 : Option Addr} {sl32 : Array (Option Value)} {oc32 kV32 dc32 pm32 cd32 ct32 : Value}
  {f33 : Addr} {od33 an33 : Option Addr} {sl33 : Array (Option Value)} {oc33 kV33 dc33 pm33 cd33 ct33 : Value}
  {f34 : Addr} {od34 an34 : Option Addr} {sl34 : Array (Option Value)} {oc34 kV34 dc34 pm34 cd34 ct34 : Value}
  {f35 : Addr} {od35 an35 : Option Addr} {sl35 : Array (Option Value)} {oc35 kV35 dc35 pm35 cd35 ct35 : Value}
  {f36 : Addr} {od36 an36 : Option Addr} {sl36 : Array (Option Value)} {oc36 kV36 dc36 pm36 cd36 ct36 : Value}
  {f37 : Addr} {od37 an37 : Option Addr} {sl37 : Array (Option Value)} {oc37 kV37 dc37 pm37 cd37 ct37 : Value}
  {f38 : Addr} {od38 an38 : Option Addr} {sl38 : Array (Option Value)} {oc38 kV38 dc38 pm38 cd38 ct38 : Value}
  {f39 : Addr} {od39 an39 : Option Addr} {sl39 : Array (Option Value)} {oc39 kV39 dc39 pm39 cd39 ct39 : Value}
  {f40 : Addr} {od40 an40 : Option Addr} {sl40 : Array (Option Value)} {oc40 kV40 dc40 pm40 cd40 ct40 : Value}
  {f41 : Addr} {od41 an41 : Option Addr} {sl41 : Array (Option Value)} {oc41 kV41 dc41 pm41 cd41 ct41 : Value}
  {f42 : Addr} {od42 an42 : Option Addr} {sl42 : Array (Option Value)} {oc42 kV42 dc42 pm42 cd42 ct42 : Value}
  {f43 : Addr} {od43 an43 : Option Addr} {sl43 : Array (Option Value)} {oc43 kV43 dc43 pm43 cd43 ct43 : Value}
  {f44 : Addr} {od44 an44 : Option Addr} {sl44 : Array (Option Value)} {oc44 kV44 dc44 pm44 cd44 ct44 : Value}
  {f45 : Addr} {od45 an45 : Option Addr} {sl45 : Array (Option Value)} {oc45 kV45 dc45 pm45 cd45 ct45 : Value}
  {t_MOST : Tok}
  {p_SIDES : Addr} {o_SIDES : Obj} {i_SIDES : Array Value} {n_SIDES : Nat}
  {t_MOST_UNITS : Tok}
  {t_MOST_WAY : Tok}
  {t_MOST_OTHERS : Tok}
  {t_MOST_SIDE : Tok}
  {t_MOST_ARENA : Tok}
  {t_BOX_PARTS : Tok}
  {t_ARENA_PARTS : Tok}
  {t_BORDER : Tok}
  {p_WAYS : Addr} {es_WAYS : Array DictEntry} {n_WAYS : Nat} {p0_WAYS : Addr} {o0_WAYS : Obj} {i0_WAYS : Array Value} {n0_WAYS : Nat} {p1_WAYS : Addr} {o1_WAYS : Obj} {i1_WAYS : Array Value} {n1_WAYS : Nat} {p2_WAYS : Addr} {o2_WAYS : Obj} {i2_WAYS : Array Value} {n2_WAYS : Nat} {p3_WAYS : Addr} {o3_WAYS : Obj} {i3_WAYS : Array Value} {n3_WAYS : Nat}
  (a0 : PySem.W.nsIn K mainGlobals "is_whole" = some (some (.ref f0))) (l0 : K.lookup f0 = some ⟨oc0, od0, .func (PySem.W.fnOf "is_whole" "is_whole" (defArgs s_is_whole) (defBody s_is_whole) (defScope s_is_whole) .none kV0 dc0 pm0 an0 cd0 ct0), sl0⟩) (c0 : PySem.W.codeIn K cd0 "is_whole" = true) (k0 : PySem.W.keepIn K (.ref f0) = true)
  (a1 : PySem.W.nsIn K mainGlobals "is_from" = some (some (.ref f1))) (l1 : K.lookup f1 = some ⟨oc1, od1, .func (PySem.W.fnOf "is_from" "is_from" (defArgs s_is_from) (defBody s_is_from) (defScope s_is_from) .none kV1 dc1 pm1 an1 cd1 ct1), sl1⟩) (c1 : PySem.W.codeIn K cd1 "is_from" = true) (k1 : PySem.W.keepIn K (.ref f1) = true)
  (a2 : PySem.W.nsIn K mainGlobals "require_from" = some (some (.ref f2))) (l2 : K.lookup f2 = some ⟨oc2, od2, .func (PySem.W.fnOf "require_from" "require_from" (defArgs s_require_from) (defBody s_require_from) (defScope s_require_from) .none kV2 dc2 pm2 an2 cd2 ct2), sl2⟩) (c2 : PySem.W.codeIn K cd2 "require_from" = true) (k2 : PySem.W.keepIn K (.ref f2) = true)
  (a3 : PySem.W.nsIn K mainGlobals "is_number" = some (some (.ref f3))) (l3 : K.lookup f3 = some ⟨oc3, od3, .func (PySem.W.fnOf "is_number" "is_number" (defArgs s_is_number) (defBody s_is_number) (defScope s_is_number) .none kV3 dc3 pm3 an3 cd3 ct3), sl3⟩) (c3 : PySem.W.codeIn K cd3 "is_number" = true) (k3 : PySem.W.keepIn K (.ref f3) = true)
  (a4 : PySem.W.nsIn K mainGlobals "do_share" = some (some (.ref f4))) (l4 : K.lookup f4 = some ⟨oc4, od4, .func (PySem.W.fnOf "do_share" "do_share" (defArgs s_do_share) (defBody s_do_share) (defScope s_do_share) .none kV4 dc4 pm4 an4 cd4 ct4), sl4⟩) (c4 : PySem.W.codeIn K cd4 "do_share" = true) (k4 : PySem.W.keepIn K (.ref f4) = true)
  (a5 : PySem.W.nsIn K mainGlobals "are_meeting_in" = some (some (.ref f5))) (l5 : K.lookup f5 = some ⟨oc5, od5, .func (PySem.W.fnOf "are_meeting_in" "are_meeting_in" (defArgs s_are_meeting_in) (defBody s_are_meeting_in) (defScope s_are_meeting_in) .none kV5 dc5 pm5 an5 cd5 ct5), sl5⟩) (c5 : PySem.W.codeIn K cd5 "are_meeting_in" = true) (k5 : PySem.W.keepIn K (.ref f5) = true)
  (a6 : PySem.W.nsIn K mainGlobals "shifted" = some (some (.ref f6))) (l6 : K.lookup f6 = some ⟨oc6, od6, .func (PySem.W.fnOf "shifted" "shifted" (defArgs s_shifted) (defBody s_shifted) (defScope s_shifted) .none kV6 dc6 pm6 an6 cd6 ct6), sl6⟩) (c6 : PySem.W.codeIn K cd6 "shifted" = true) (k6 : PySem.W.keepIn K (.ref f6) = true)
  (a7 : PySem.W.nsIn K mainGlobals "gap_between" = some (some (.ref f7))) (l7 : K.lookup f7 = some ⟨oc7, od7, .func (PySem.W.fnOf "gap_between" "gap_between" (defArgs s_gap_between) (defBody s_gap_between) (defScope s_gap_between) .none kV7 dc7 pm7 an7 cd7 ct7), sl7⟩) (c7 : PySem.W.codeIn K cd7 "gap_between" = true) (k7 : PySem.W.keepIn K (.ref f7) = true)
  (a8 : PySem.W.nsIn K mainGlobals "border_gap" = some (some (.ref f8))) (l8 : K.lookup f8 = some ⟨oc8, od8, .func (PySem.W.fnOf "border_gap" "border_gap" (defArgs s_border_gap) (defBody s_border_gap) (defScope s_border_gap) .none kV8 dc8 pm8 an8 cd8 ct8), sl8⟩) (c8 : PySem.W.codeIn K cd8 "border_gap" = true) (k8 : PySem.W.keepIn K (.ref f8) = true)
  (a9 : PySem.W.nsIn K mainGlobals "reach_in" = some (some (.ref f9))) (l9 : K.lookup f9 = some ⟨oc9, od9, .func (PySem.W.fnOf "reach_in" "reach_in" (defArgs s_reach_in) (defBody s_reach_in) (defScope s_reach_in) .none kV9 dc9 pm9 an9 cd9 ct9), sl9⟩) (c9 : PySem.W.codeIn K cd9 "reach_in" = true) (k9 : PySem.W.keepIn K (.ref f9) = true)
  (a10 : PySem.W.nsIn K mainGlobals "is_beyond" = some (some (.ref f10))) (l10 : K.lookup f10 = some ⟨oc10, od10, .func (PySem.W.fnOf "is_beyond" "is_beyond" (defArgs s_is_beyond) (defBody s_is_beyond) (defScope s_is_beyond) .none kV10 dc10 pm10 an10 cd10 ct10), sl10⟩) (c10 : PySem.W.codeIn K cd10 "is_beyond" = true) (k10 : PySem.W.keepIn K (.ref f10) = true)
  (a11 : PySem.W.nsIn K mainGlobals "bar_in" = some (some (.ref f11))) (l11 : K.lookup f11 = some ⟨oc11, od11, .func (PySem.W.fnOf "bar_in" "bar_in" (defArgs s_bar_in) (defBody s_bar_in) (defScope s_bar_in) .none kV11 dc11 pm11 an11 cd11 ct11), sl11⟩) (c11 : PySem.W.codeIn K cd11 "bar_in" = true) (k11 : PySem.W.keepIn K (.ref f11) = true)
  (a12 : PySem.W.nsIn K mainGlobals "way_of" = some (some (.ref f12))) (l12 : K.lookup f12 = some ⟨oc12, od12, .func (PySem.W.fnOf "way_of" "way_of" (defArgs s_way_of) (defBody s_way_of) (defScope s_way_of) .none kV12 dc12 pm12 an12 cd12 ct12), sl12⟩) (c12 : PySem.W.codeIn K cd12 "way_of" = true) (k12 : PySem.W.keepIn K (.ref f12) = true)
  (a13 : PySem.W.nsIn K mainGlobals "moved_along" = some (some (.ref f13))) (l13 : K.lookup f13 = some ⟨oc13, od13, .func (PySem.W.fnOf "moved_along" "moved_along" (defArgs s_moved_along) (defBody s_moved_along) (defScope s_moved_along) .none kV13 dc13 pm13 an13 cd13 ct13), sl13⟩) (c13 : PySem.W.codeIn K cd13 "moved_along" = true) (k13 : PySem.W.keepIn K (.ref f13) = true)
  (a14 : PySem.W.nsIn K mainGlobals "moved_box_in" = some (some (.ref f14))) (l14 : K.lookup f14 = some ⟨oc14, od14, .func (PySem.W.fnOf "moved_box_in" "moved_box_in" (defArgs s_moved_box_in) (defBody s_moved_box_in) (defScope s_moved_box_in) .none kV14 dc14 pm14 an14 cd14 ct14), sl14⟩) (c14 : PySem.W.codeIn K cd14 "moved_box_in" = true) (k14 : PySem.W.keepIn K (.ref f14) = true)
  (a15 : PySem.W.nsIn K mainGlobals "is_box" = some (some (.ref f15))) (l15 : K.lookup f15 = some ⟨oc15, od15, .func (PySem.W.fnOf "is_box" "is_box" (defArgs s_is_box) (defBody s_is_box) (defScope s_is_box) .none kV15 dc15 pm15 an15 cd15 ct15), sl15⟩) (c15 : PySem.W.codeIn K cd15 "is_box" = true) (k15 : PySem.W.keepIn K (.ref f15) = true)
  (a16 : PySem.W.nsIn K mainGlobals "require_arena" = some (some (.ref f16))) (l16 : K.lookup f16 = some ⟨oc16, od16, .func (PySem.W.fnOf "require_arena" "require_arena" (defArgs s_require_arena) (defBody s_require_arena) (defScope s_require_arena) .none kV16 dc16 pm16 an16 cd16 ct16), sl16⟩) (c16 : PySem.W.codeIn K cd16 "require_arena" = true) (k16 : PySem.W.keepIn K (.ref f16) = true)
  (a17 : PySem.W.nsIn K mainGlobals "require_box" = some (some (.ref f17))) (l17 : K.lookup f17 = some ⟨oc17, od17, .func (PySem.W.fnOf "require_box" "require_box" (defArgs s_require_box) (defBody s_require_box) (defScope s_require_box) .none kV17 dc17 pm17 an17 cd17 ct17), sl17⟩) (c17 : PySem.W.codeIn K cd17 "require_box" = true) (k17 : PySem.W.keepIn K (.ref f17) = true)
  (a18 : PySem.W.nsIn K mainGlobals "require_others" = some (some (.ref f18))) (l18 : K.lookup f18 = some ⟨oc18, od18, .func (PySem.W.fnOf "require_others" "require_others" (defArgs s_require_others) (defBody s_require_others) (defScope s_require_others) .none kV18 dc18 pm18 an18 cd18 ct18), sl18⟩) (c18 : PySem.W.codeIn K cd18 "require_others" = true) (k18 : PySem.W.keepIn K (.ref f18) = true)
  (a19 : PySem.W.nsIn K mainGlobals "require_any_number" = some (some (.ref f19))) (l19 : K.lookup f19 = some ⟨oc19, od19, .func (PySem.W.fnOf "require_any_number" "require_any_number" (defArgs s_require_any_number) (defBody s_require_any_number) (defScope s_require_any_number) .none kV19 dc19 pm19 an19 cd19 ct19), sl19⟩) (c19 : PySem.W.codeIn K cd19 "require_any_number" = true) (k19 : PySem.W.keepIn K (.ref f19) = true)
  (a20 : PySem.W.nsIn K mainGlobals "require_way" = some (some (.ref f20))) (l20 : K.lookup f20 = some ⟨oc20, od20, .func (PySem.W.fnOf "require_way" "require_way" (defArgs s_require_way) (defBody s_require_way) (defScope s_require_way) .none kV20 dc20 pm20 an20 cd20 ct20), sl20⟩) (c20 : PySem.W.codeIn K cd20 "require_way" = true) (k20 : PySem.W.keepIn K (.ref f20) = true)
  (a21 : PySem.W.nsIn K mainGlobals "are_meeting" = some (some (.ref f21))) (l21 : K.lookup f21 = some ⟨oc21, od21, .func (PySem.W.fnOf "are_meeting" "are_meeting" (defArgs s_are_meeting) (defBody s_are_meeting) (defScope s_are_meeting) .none (.ref kd21) dc21 pm21 an21 cd21 ct21), sl21⟩) (c21 : PySem.W.codeIn K cd21 "are_meeting" = true) (k21 : PySem.W.keepIn K (.ref f21) = true)
  (w21_0 : PySem.W.nsIn K kd21 "grown" = some (some u21_0)) (v21_0 : RelV (.int 0) u21_0)
  (a22 : PySem.W.nsIn K mainGlobals "reach" = some (some (.ref f22))) (l22 : K.lookup f22 = some ⟨oc22, od22, .func (PySem.W.fnOf "reach" "reach" (defArgs s_reach) (defBody s_reach) (defScope s_reach) .none kV22 dc22 pm22 an22 cd22 ct22), sl22⟩) (c22 : PySem.W.codeIn K cd22 "reach" = true) (k22 : PySem.W.keepIn K (.ref f22) = true)
  (a23 : PySem.W.nsIn K mainGlobals "reach_by_units" = some (some (.ref f23))) (l23 : K.lookup f23 = some ⟨oc23, od23, .func (PySem.W.fnOf "reach_by_units" "reach_by_units" (defArgs s_reach_by_units) (defBody s_reach_by_units) (defScope s_reach_by_units) .none kV23 dc23 pm23 an23 cd23 ct23), sl23⟩) (c23 : PySem.W.codeIn K cd23 "reach_by_units" = true) (k23 : PySem.W.keepIn K (.ref f23) = true)
  (a24 : PySem.W.nsIn K mainGlobals "barrier" = some (some (.ref f24))) (l24 : K.lookup f24 = some ⟨oc24, od24, .func (PySem.W.fnOf "barrier" "barrier" (defArgs s_barrier) (defBody s_barrier) (defScope s_barrier) .none kV24 dc24 pm24 an24 cd24 ct24), sl24⟩) (c24 : PySem.W.codeIn K cd24 "barrier" = true) (k24 : PySem.W.keepIn K (.ref f24) = true)
  (a25 : PySem.W.nsIn K mainGlobals "moved_box" = some (some (.ref f25))) (l25 : K.lookup f25 = some ⟨oc25, od25, .func (PySem.W.fnOf "moved_box" "moved_box" (defArgs s_moved_box) (defBody s_moved_box) (defScope s_moved_box) .none kV25 dc25 pm25 an25 cd25 ct25), sl25⟩) (c25 : PySem.W.codeIn K cd25 "moved_box" = true) (k25 : PySem.W.keepIn K (.ref f25) = true)
  (a26 : PySem.W.nsIn K mainGlobals "_law_dice" = some (some (.ref f26))) (l26 : K.lookup f26 = some ⟨oc26, od26, .func (PySem.W.fnOf "_law_dice" "_law_dice" (defArgs s_l_dice) (defBody s_l_dice) (defScope s_l_dice) .none kV26 dc26 pm26 an26 cd26 ct26), sl26⟩) (c26 : PySem.W.codeIn K cd26 "_law_dice" = true) (k26 : PySem.W.keepIn K (.ref f26) = true)
  (a27 : PySem.W.nsIn K mainGlobals "_law_roll" = some (some (.ref f27))) (l27 : K.lookup f27 = some ⟨oc27, od27, .func (PySem.W.fnOf "_law_roll" "_law_roll" (defArgs s_l_roll) (defBody s_l_roll) (defScope s_l_roll) .none kV27 dc27 pm27 an27 cd27 ct27), sl27⟩) (c27 : PySem.W.codeIn K cd27 "_law_roll" = true) (k27 : PySem.W.keepIn K (.ref f27) = true)
  (a28 : PySem.W.nsIn K mainGlobals "_law_pick" = some (some (.ref f28))) (l28 : K.lookup f28 = some ⟨oc28, od28, .func (PySem.W.fnOf "_law_pick" "_law_pick" (defArgs s_l_pick) (defBody s_l_pick) (defScope s_l_pick) .none kV28 dc28 pm28 an28 cd28 ct28), sl28⟩) (c28 : PySem.W.codeIn K cd28 "_law_pick" = true) (k28 : PySem.W.keepIn K (.ref f28) = true)
  (a29 : PySem.W.nsIn K mainGlobals "_law_bo_meet" = some (some (.ref f29))) (l29 : K.lookup f29 = some ⟨oc29, od29, .func (PySem.W.fnOf "_law_bo_meet" "_law_bo_meet" (defArgs s_l_bo_meet) (defBody s_l_bo_meet) (defScope s_l_bo_meet) .none kV29 dc29 pm29 an29 cd29 ct29), sl29⟩) (c29 : PySem.W.codeIn K cd29 "_law_bo_meet" = true) (k29 : PySem.W.keepIn K (.ref f29) = true)
  (a30 : PySem.W.nsIn K mainGlobals "_law_bo_swept" = some (some (.ref f30))) (l30 : K.lookup f30 = some ⟨oc30, od30, .func (PySem.W.fnOf "_law_bo_swept" "_law_bo_swept" (defArgs s_l_bo_swept) (defBody s_l_bo_swept) (defScope s_l_bo_swept) .none kV30 dc30 pm30 an30 cd30 ct30), sl30⟩) (c30 : PySem.W.codeIn K cd30 "_law_bo_swept" = true) (k30 : PySem.W.keepIn K (.ref f30) = true)
  (a31 : PySem.W.nsIn K mainGlobals "_law_bo_put" = some (some (.ref f31))) (l31 : K.lookup f31 = some ⟨oc31, od31, .func (PySem.W.fnOf "_law_bo_put" "_law_bo_put" (defArgs s_l_bo_put) (defBody s_l_bo_put) (defScope s_l_bo_put) .none kV31 dc31 pm31 an31 cd31 ct31), sl31⟩) (c31 : PySem.W.codeIn K cd31 "_law_bo_put" = true) (k31 : PySem.W.keepIn K (.ref f31) = true)
  (a32 : PySem.W.nsIn K mainGlobals "_law_bo_is_beyond" = some (some (.ref f32))) (l32 : K.lookup f32 = some ⟨oc32, od32, .func (PySem.W.fnOf "_law_bo_is_beyond" "_law_bo_is_beyond" (defArgs s_l_bo_is_beyond) (defBody s_l_bo_is_beyond) (defScope s_l_bo_is_beyond) .none kV32 dc32 pm32 an32 cd32 ct32), sl32⟩) (c32 : PySem.W.codeIn K cd32 "_law_bo_is_beyond" = true) (k32 : PySem.W.keepIn K (.ref f32) = true)
  (a33 : PySem.W.nsIn K mainGlobals "_law_bo_is_free" = some (some (.ref f33))) (l33 : K.lookup f33 = some ⟨oc33, od33, .func (PySem.W.fnOf "_law_bo_is_free" "_law_bo_is_free" (defArgs s_l_bo_is_free) (defBody s_l_bo_is_free) (defScope s_l_bo_is_free) .none kV33 dc33 pm33 an33 cd33 ct33), sl33⟩) (c33 : PySem.W.codeIn K cd33 "_law_bo_is_free" = true) (k33 : PySem.W.keepIn K (.ref f33) = true)
  (a34 : PySem.W.nsIn K mainGlobals "_law_bo_reach" = some (some (.ref f34))) (l34 : K.lookup f34 = some ⟨oc34, od34, .func (PySem.W.fnOf "_law_bo_reach" "_law_bo_reach" (defArgs s_l_bo_reach) (defBody s_l_bo_reach) (defScope s_l_bo_reach) .none kV34 dc34 pm34 an34 cd34 ct34), sl34⟩) (c34 : PySem.W.codeIn K cd34 "_law_bo_reach" = true) (k34 : PySem.W.keepIn K (.ref f34) = true)
  (a35 : PySem.W.nsIn K mainGlobals "_law_bo_barrier" = some (some (.ref f35))) (l35 : K.lookup f35 = some ⟨oc35, od35, .func (PySem.W.fnOf "_law_bo_barrier" "_law_bo_barrier" (defArgs s_l_bo_barrier) (defBody s_l_bo_barrier) (defScope s_l_bo_barrier) .none kV35 dc35 pm35 an35 cd35 ct35), sl35⟩) (c35 : PySem.W.codeIn K cd35 "_law_bo_barrier" = true) (k35 : PySem.W.keepIn K (.ref f35) = true)
  (a36 : PySem.W.nsIn K mainGlobals "_law_bo_moved" = some (some (.ref f36))) (l36 : K.lookup f36 = some ⟨oc36, od36, .func (PySem.W.fnOf "_law_bo_moved" "_law_bo_moved" (defArgs s_l_bo_moved) (defBody s_l_bo_moved) (defScope s_l_bo_moved) .none kV36 dc36 pm36 an36 cd36 ct36), sl36⟩) (c36 : PySem.W.codeIn K cd36 "_law_bo_moved" = true) (k36 : PySem.W.keepIn K (.ref f36) = true)
  (a37 : PySem.W.nsIn K mainGlobals "_law_bo_grown" = some (some (.ref f37))) (l37 : K.lookup f37 = some ⟨oc37, od37, .func (PySem.W.fnOf "_law_bo_grown" "_law_bo_grown" (defArgs s_l_bo_grown) (defBody s_l_bo_grown) (defScope s_l_bo_grown) .none kV37 dc37 pm37 an37 cd37 ct37), sl37⟩) (c37 : PySem.W.codeIn K cd37 "_law_bo_grown" = true) (k37 : PySem.W.keepIn K (.ref f37) = true)
  (a38 : PySem.W.nsIn K mainGlobals "_law_bo_number" = some (some (.ref f38))) (l38 : K.lookup f38 = some ⟨oc38, od38, .func (PySem.W.fnOf "_law_bo_number" "_law_bo_number" (defArgs s_l_bo_number) (defBody s_l_bo_number) (defScope s_l_bo_number) .none kV38 dc38 pm38 an38 cd38 ct38), sl38⟩) (c38 : PySem.W.codeIn K cd38 "_law_bo_number" = true) (k38 : PySem.W.keepIn K (.ref f38) = true)
  (a39 : PySem.W.nsIn K mainGlobals "_law_bo_drawn" = some (some (.ref f39))) (l39 : K.lookup f39 = some ⟨oc39, od39, .func (PySem.W.fnOf "_law_bo_drawn" "_law_bo_drawn" (defArgs s_l_bo_drawn) (defBody s_l_bo_drawn) (defScope s_l_bo_drawn) .none kV39 dc39 pm39 an39 cd39 ct39), sl39⟩) (c39 : PySem.W.codeIn K cd39 "_law_bo_drawn" = true) (k39 : PySem.W.keepIn K (.ref f39) = true)
  (a40 : PySem.W.nsIn K mainGlobals "_law_bo_arena" = some (some (.ref f40))) (l40 : K.lookup f40 = some ⟨oc40, od40, .func (PySem.W.fnOf "_law_bo_arena" "_law_bo_arena" (defArgs s_l_bo_arena) (defBody s_l_bo_arena) (defScope s_l_bo_arena) .none kV40 dc40 pm40 an40 cd40 ct40), sl40⟩) (c40 : PySem.W.codeIn K cd40 "_law_bo_arena" = true) (k40 : PySem.W.keepIn K (.ref f40) = true)
  (a41 : PySem.W.nsIn K mainGlobals "_law_bo_pace" = some (some (.ref f41))) (l41 : K.lookup f41 = some ⟨oc41, od41, .func (PySem.W.fnOf "_law_bo_pace" "_law_bo_pace" (defArgs s_l_bo_pace) (defBody s_l_bo_pace) (defScope s_l_bo_pace) .none kV41 dc41 pm41 an41 cd41 ct41), sl41⟩) (c41 : PySem.W.codeIn K cd41 "_law_bo_pace" = true) (k41 : PySem.W.keepIn K (.ref f41) = true)
  (a42 : PySem.W.nsIn K mainGlobals "_law_ways_right" = some (some (.ref f42))) (l42 : K.lookup f42 = some ⟨oc42, od42, .func (PySem.W.fnOf "_law_ways_right" "_law_ways_right" (defArgs s_l_ways_right) (defBody s_l_ways_right) (defScope s_l_ways_right) .none kV42 dc42 pm42 an42 cd42 ct42), sl42⟩) (c42 : PySem.W.codeIn K cd42 "_law_ways_right" = true) (k42 : PySem.W.keepIn K (.ref f42) = true)
  (a43 : PySem.W.nsIn K mainGlobals "_law_meetings_right" = some (some (.ref f43))) (l43 : K.lookup f43 = some ⟨oc43, od43, .func (PySem.W.fnOf "_law_meetings_right" "_law_meetings_right" (defArgs s_l_meetings_right) (defBody s_l_meetings_right) (defScope s_l_meetings_right) .none kV43 dc43 pm43 an43 cd43 ct43), sl43⟩) (c43 : PySem.W.codeIn K cd43 "_law_meetings_right" = true) (k43 : PySem.W.keepIn K (.ref f43) = true)
  (a44 : PySem.W.nsIn K mainGlobals "_law_right" = some (some (.ref f44))) (l44 : K.lookup f44 = some ⟨oc44, od44, .func (PySem.W.fnOf "_law_right" "_law_right" (defArgs s_l_right) (defBody s_l_right) (defScope s_l_right) .none kV44 dc44 pm44 an44 cd44 ct44), sl44⟩) (c44 : PySem.W.codeIn K cd44 "_law_right" = true) (k44 : PySem.W.keepIn K (.ref f44) = true)
  (a45 : PySem.W.nsIn K mainGlobals "law" = some (some (.ref f45))) (l45 : K.lookup f45 = some ⟨oc45, od45, .func (PySem.W.fnOf "law" "law" (defArgs s_law) (defBody s_law) (defScope s_law) .none kV45 dc45 pm45 an45 cd45 ct45), sl45⟩) (c45 : PySem.W.codeIn K cd45 "law" = true) (k45 : PySem.W.keepIn K (.ref f45) = true)
  (z_abs : PySem.W.nsIn K mainGlobals "abs" = some none)
  (z_all : PySem.W.nsIn K mainGlobals "all" = some none)
  (z_bool : PySem.W.nsIn K mainGlobals "bool" = some none)
  (z_enumerate : PySem.W.nsIn K mainGlobals "enumerate" = some none)
  (z_int : PySem.W.nsIn K mainGlobals "int" = some none)
  (z_isinstance : PySem.W.nsIn K mainGlobals "isinstance" = some none)
  (z_len : PySem.W.nsIn K mainGlobals "len" = some none)
  (z_max : PySem.W.nsIn K mainGlobals "max" = some none)
  (z_min : PySem.W.nsIn K mainGlobals "min" = some none)
  (z_range : PySem.W.nsIn K mainGlobals "range" = some none)
  (z_repr : PySem.W.nsIn K mainGlobals "repr" = some none)
  (z_str : PySem.W.nsIn K mainGlobals "str" = some none)
  (z_tuple : PySem.W.nsIn K mainGlobals "tuple" = some none)
  (z_MOST : PySem.W.nsIn K mainGlobals "MOST" = some (some (.int 1000000000 t_MOST)))
  (z_SIDES : PySem.W.nsIn K mainGlobals "SIDES" = some (some (.ref p_SIDES))) (y_SIDES : K.lookup p_SIDES = some o_SIDES) (x_SIDES : o_SIDES.cls = .type "tuple" ∧ o_SIDES.data = .seq i_SIDES n_SIDES ∧ i_SIDES.size ≤ sizeLine ∧ Vals [.str "left", .str "right", .str "low", .str "high"] i_SIDES.toList)
  (z_MOST_UNITS : PySem.W.nsIn K mainGlobals "MOST_UNITS" = some (some (.int 1000 t_MOST_UNITS)))
  (z_MOST_WAY : PySem.W.nsIn K mainGlobals "MOST_WAY" = some (some (.int 1000000000 t_MOST_WAY)))
  (z_MOST_OTHERS : PySem.W.nsIn K mainGlobals "MOST_OTHERS" = some (some (.int 24 t_MOST_OTHERS)))
  (z_MOST_SIDE : PySem.W.nsIn K mainGlobals "MOST_SIDE" = some (some (.int 40 t_MOST_SIDE)))
  (z_MOST_ARENA : PySem.W.nsIn K mainGlobals "MOST_ARENA" = some (some (.int 400 t_MOST_ARENA)))
  (z_BOX_PARTS : PySem.W.nsIn K mainGlobals "BOX_PARTS" = some (some (.int 4 t_BOX_PARTS)))
  (z_ARENA_PARTS : PySem.W.nsIn K mainGlobals "ARENA_PARTS" = some (some (.int 2 t_ARENA_PARTS)))
  (z_BORDER : PySem.W.nsIn K mainGlobals "BORDER" = some (some (.int (-1) t_BORDER)))
  (z_WAYS : PySem.W.nsIn K mainGlobals "WAYS" = some (some (.ref p_WAYS))) (y_WAYS : K.lookup p_WAYS = some ⟨.type "dict", none, .dict es_WAYS n_WAYS, #[]⟩) (x_WAYS : PySem.W.KeysLit w.params es_WAYS.toList)
  (e0_WAYS : PySem.W.nsIn K p_WAYS "left" = some (some (.ref p0_WAYS))) (y0_WAYS : K.lookup p0_WAYS = some o0_WAYS) (x0_WAYS : o0_WAYS.cls = .type "tuple" ∧ o0_WAYS.data = .seq i0_WAYS n0_WAYS ∧ i0_WAYS.size ≤ sizeLine ∧ Vals [.int 0, .int (-1)] i0_WAYS.toList)
  (e1_WAYS : PySem.W.nsIn K p_WAYS "right" = some (some (.ref p1_WAYS))) (y1_WAYS : K.lookup p1_WAYS = some o1_WAYS) (x1_WAYS : o1_WAYS.cls = .type "tuple" ∧ o1_WAYS.data = .seq i1_WAYS n1_WAYS ∧ i1_WAYS.size ≤ sizeLine ∧ Vals [.int 0, .int 1] i1_WAYS.toList)
  (e2_WAYS : PySem.W.nsIn K p_WAYS "low" = some (some (.ref p2_WAYS))) (y2_WAYS : K.lookup p2_WAYS = some o2_WAYS) (x2_WAYS : o2_WAYS.cls = .type "tuple" ∧ o2_WAYS.data = .seq i2_WAYS n2_WAYS ∧ i2_WAYS.size ≤ sizeLine ∧ Vals [.int 1, .int (-1)] i2_WAYS.toList)
  (e3_WAYS : PySem.W.nsIn K p_WAYS "high" = some (some (.ref p3_WAYS))) (y3_WAYS : K.lookup p3_WAYS = some o3_WAYS) (x3_WAYS : o3_WAYS.cls = .type "tuple" ∧ o3_WAYS.data = .seq i3_WAYS n3_WAYS ∧ i3_WAYS.size ≤ sizeLine ∧ Vals [.int 1, .int 1] i3_WAYS.toList) :
  ∃ fd : FuncData, (∀ (s : Shared) (v : Value), BindsTo s fd ⟨[v], []⟩ [("_law_script", v)]) ∧ ∀ base : Heap, K.In base → base.Ns mainGlobals mg → FnOk l.prog w K mg base CX0 10 fa fd ["_law_script"] (sp_law K) := by
  have e := hfa.symm.trans (PySem.W.mg_of X G a45)
  have e2 : f45 = fa := by cases e; rfl
  subst e2
  let T : Tp w K mg := {
    a_is_whole := f0, d_is_whole := _, F_is_whole := fun_mk (st := s_is_whole) l0 c0 k0, g_is_whole := PySem.W.mg_of X G a0, b_is_whole := (fun_mk (st := s_is_whole) l0 c0 k0).binds fun _ _ _ _ _ _ us hl => match us, hl with | [_], _ => rfl,
    a_is_from := f1, d_is_from := _, F_is_from := fun_mk (st := s_is_from) l1 c1 k1, g_is_from := PySem.W.mg_of X G a1, b_is_from := (fun_mk (st := s_is_from) l1 c1 k1).binds fun _ _ _ _ _ _ us hl => match us, hl with | [_, _, _], _ => rfl,
    a_require_from := f2, d_require_from := _, F_require_from := fun_mk (st := s_require_from) l2 c2 k2, g_require_from := PySem.W.mg_of X G a2, b_require_from := (fun_mk (st := s_require_from) l2 c2 k2).binds fun _ _ _ _ _ _ us hl => match us, hl with | [_, _, _], _ => rfl,
    a_is_number := f3, d_is_number := _, F_is_number := fun_mk (st := s_is_number) l3 c3 k3, g_is_number := PySem.W.mg_of X G a3, b_is_number := (fun_mk (st := s_is_number) l3 c3 k3).binds fun _ _ _ _ _ _ us hl => match us, hl with | [_], _ => rfl,
    a_do_share := f4, d_do_share := _, F_do_share := fun_mk (st := s_do_share) l4 c4 k4, g_do_share := PySem.W.mg_of X G a4, b_do_share := (fun_mk (st := s_do_share) l4 c4 k4).binds fun _ _ _ _ _ _ us hl => match us, hl with | [_, _, _], _ => rfl,
    a_are_meeting_in := f5, d_are_meeting_in := _, F_are_meeting_in := fun_mk (st := s_are_meeting_in) l5 c5 k5, g_are_meeting_in := PySem.W.mg_of X G a5, b_are_meeting_in := (fun_mk (st := s_are_meeting_in) l5 c5 k5).binds fun _ _ _ _ _ _ us hl => match us, hl with | [_, _, _], _ => rfl,
    a_shifted := f6, d_shifted := _, F_shifted := fun_mk (st := s_shifted) l6 c6 k6, g_shifted := PySem.W.mg_of X G a6, b_shifted := (fun_mk (st := s_shifted) l6 c6 k6).binds fun _ _ _ _ _ _ us hl => match us, hl with | [_, _, _], _ => rfl,
    a_gap_between := f7, d_gap_between := _, F_gap_between := fun_mk (st := s_gap_between) l7 c7 k7, g_gap_between := PySem.W.mg_of X G a7, b_gap_between := (fun_mk (st := s_gap_between) l7 c7 k7).binds fun _ _ _ _ _ _ us hl => match us, hl with | [_, _, _], _ => rfl,
    a_border_gap := f8, d_border_gap := _, F_border_gap := fun_mk (st := s_border_gap) l8 c8 k8, g_border_gap := PySem.W.mg_of X G a8, b_border_gap := (fun_mk (st := s_border_gap) l8 c8 k8).binds fun _ _ _ _ _ _ us hl => match us, hl with | [_, _, _], _ => rfl,
    a_reach_in := f9, d_reach_in := _, F_reach_in := fun_mk (st := s_reach_in) l9 c9 k9, g_reach_in := PySem.W.mg_of X G a9, b_reach_in := (fun_mk (st := s_reach_in) l9 c9 k9).binds fun _ _ _ _ _ _ us hl => match us, hl with | [_, _, _, _, _], _ => rfl,
    a_is_beyond := f10, d_is_beyond := _, F_is_beyond := fun_mk (st := s_is_beyond) l10 c10 k10, g_is_beyond := PySem.W.mg_of X G a10, b_is_beyond := (fun_mk (st := s_is_beyond) l10 c10 k10).binds fun _ _ _ _ _ _ us hl => match us, hl with | [_, _, _], _ => rfl,
    a_bar_in := f11, d_bar_in := _, F_bar_in := fun_mk (st := s_bar_in) l11 c11 k11, g_bar_in := PySem.W.mg_of X G a11, b_bar_in := (fun_mk (st := s_bar_in) l11 c11 k11).binds fun _ _ _ _ _ _ us hl => match us, hl with | [_, _, _, _], _ => rfl,
    a_way_of := f12, d_way_of := _, F_way_of := fun_mk (st := s_way_of) l12 c12 k12, g_way_of := PySem.W.mg_of X G a12, b_way_of := (fun_mk (st := s_way_of) l12 c12 k12).binds fun _ _ _ _ _ _ us hl => match us, hl with | [_, _], _ => rfl,
    a_moved_along := f13, d_moved_along := _, F_moved_along := fun_mk (st := s_moved_along) l13 c13 k13, g_moved_along := PySem.W.mg_of X G a13, b_moved_along := (fun_mk (st := s_moved_along) l13 c13 k13).binds fun _ _ _ _ _ _ us hl => match us, hl with | [_, _, _, _, _], _ => rfl,
    a_moved_box_in := f14, d_moved_box_in := _, F_moved_box_in := fun_mk (st := s_moved_box_in) l14 c14 k14, g_moved_box_in := PySem.W.mg_of X G a14, b_moved_box_in := (fun_mk (st := s_moved_box_in) l14 c14 k14).binds fun _ _ _ _ _ _ us hl => match us, hl with | [_, _, _, _, _], _ => rfl,
    a_is_box := f15, d_is_box := _, F_is_box := fun_mk (st := s_is_box) l15 c15 k15, g_is_box := PySem.W.mg_of X G a15, b_is_box := (fun_mk (st := s_is_box) l15 c15 k15).binds fun _ _ _ _ _ _ us hl => match us, hl with | [_], _ => rfl,
    a_require_arena := f16, d_require_arena := _, F_require_arena := fun_mk (st := s_require_arena) l16 c16 k16, g_require_arena := PySem.W.mg_of X G a16, b_require_arena := (fun_mk (st := s_require_arena) l16 c16 k16).binds fun _ _ _ _ _ _ us hl => match us, hl with | [_], _ => rfl,
    a_require_box := f17, d_require_box := _, F_require_box := fun_mk (st := s_require_box) l17 c17 k17, g_require_box := PySem.W.mg_of X G a17, b_require_box := (fun_mk (st := s_require_box) l17 c17 k17).binds fun _ _ _ _ _ _ us hl => match us, hl with | [_], _ => rfl,
    a_require_others := f18, d_require_others := _, F_require_others := fun_mk (st := s_require_others) l18 c18 k18, g_require_others := PySem.W.mg_of X G a18, b_require_others := (fun_mk (st := s_require_others) l18 c18 k18).binds fun _ _ _ _ _ _ us hl => match us, hl with | [_], _ => rfl,
    a_require_any_number := f19, d_require_any_number := _, F_require_any_number := fun_mk (st := s_require_any_number) l19 c19 k19, g_require_any_number := PySem.W.mg_of X G a19, b_require_any_number := (fun_mk (st := s_require_any_number) l19 c19 k19).binds fun _ _ _ _ _ _ us hl => match us, hl with | [_], _ => rfl,
    a_require_way := f20, d_require_way := _, F_require_way := fun_mk (st := s_require_way) l20 c20 k20, g_require_way := PySem.W.mg_of X G a20, b_require_way := (fun_mk (st := s_require_way) l20 c20 k20).binds fun _ _ _ _ _ _ us hl => match us, hl with | [_, _, _, _, _], _ => rfl,
    a_are_meeting := f21, d_are_meeting := _, F_are_meeting := ⟨⟨_, _, _, _, _, _, _, _, _, _, rfl, l21, c21, .inl ⟨rfl, rfl⟩, .inr ⟨_, rfl, fun q hq => by obtain rfl := List.mem_singleton.mp hq; exact ⟨_, w21_0, v21_0⟩⟩⟩, k21⟩, g_are_meeting := PySem.W.mg_of X G a21,
    a_reach := f22, d_reach := _, F_reach := fun_mk (st := s_reach) l22 c22 k22, g_reach := PySem.W.mg_of X G a22, b_reach := (fun_mk (st := s_reach) l22 c22 k22).binds fun _ _ _ _ _ _ us hl => match us, hl with | [_, _, _, _, _], _ => rfl,
    a_reach_by_units := f23, d_reach_by_units := _, F_reach_by_units := fun_mk (st := s_reach_by_units) l23 c23 k23, g_reach_by_units := PySem.W.mg_of X G a23, b_reach_by_units := (fun_mk (st := s_reach_by_units) l23 c23 k23).binds fun _ _ _ _ _ _ us hl => match us, hl with | [_, _, _, _, _], _ => rfl,
    a_barrier := f24, d_barrier := _, F_barrier := fun_mk (st := s_barrier) l24 c24 k24, g_barrier := PySem.W.mg_of X G a24, b_barrier := (fun_mk (st := s_barrier) l24 c24 k24).binds fun _ _ _ _ _ _ us hl => match us, hl with | [_, _, _, _, _], _ => rfl,
    a_moved_box := f25, d_moved_box := _, F_moved_box := fun_mk (st := s_moved_box) l25 c25 k25, g_moved_box := PySem.W.mg_of X G a25, b_moved_box := (fun_mk (st := s_moved_box) l25 c25 k25).binds fun _ _ _ _ _ _ us hl => match us, hl with | [_, _, _, _, _], _ => rfl,
    a_l_dice := f26, d_l_dice := _, F_l_dice := fun_mk (st := s_l_dice) l26 c26 k26, g_l_dice := PySem.W.mg_of X G a26, b_l_dice := (fun_mk (st := s_l_dice) l26 c26 k26).binds fun _ _ _ _ _ _ us hl => match us, hl with | [_, _], _ => rfl,
    a_l_roll := f27, d_l_roll := _, F_l_roll := fun_mk (st := s_l_roll) l27 c27 k27, g_l_roll := PySem.W.mg_of X G a27, b_l_roll := (fun_mk (st := s_l_roll) l27 c27 k27).binds fun _ _ _ _ _ _ us hl => match us, hl with | [_, _], _ => rfl,
    a_l_pick := f28, d_l_pick := _, F_l_pick := fun_mk (st := s_l_pick) l28 c28 k28, g_l_pick := PySem.W.mg_of X G a28, b_l_pick := (fun_mk (st := s_l_pick) l28 c28 k28).binds fun _ _ _ _ _ _ us hl => match us, hl with | [_, _], _ => rfl,
    a_l_bo_meet := f29, d_l_bo_meet := _, F_l_bo_meet := fun_mk (st := s_l_bo_meet) l29 c29 k29, g_l_bo_meet := PySem.W.mg_of X G a29, b_l_bo_meet := (fun_mk (st := s_l_bo_meet) l29 c29 k29).binds fun _ _ _ _ _ _ us hl => match us, hl with | [_, _], _ => rfl,
    a_l_bo_swept := f30, d_l_bo_swept := _, F_l_bo_swept := fun_mk (st := s_l_bo_swept) l30 c30 k30, g_l_bo_swept := PySem.W.mg_of X G a30, b_l_bo_swept := (fun_mk (st := s_l_bo_swept) l30 c30 k30).binds fun _ _ _ _ _ _ us hl => match us, hl with | [_, _, _], _ => rfl,
    a_l_bo_put := f31, d_l_bo_put := _, F_l_bo_put := fun_mk (st := s_l_bo_put) l31 c31 k31, g_l_bo_put := PySem.W.mg_of X G a31, b_l_bo_put := (fun_mk (st := s_l_bo_put) l31 c31 k31).binds fun _ _ _ _ _ _ us hl => match us, hl with | [_, _, _], _ => rfl,
    a_l_bo_is_beyond := f32, d_l_bo_is_beyond := _, F_l_bo_is_beyond := fun_mk (st := s_l_bo_is_beyond) l32 c32 k32, g_l_bo_is_beyond := PySem.W.mg_of X G a32, b_l_bo_is_beyond := (fun_mk (st := s_l_bo_is_beyond) l32 c32 k32).binds fun _ _ _ _ _ _ us hl => match us, hl with | [_, _, _], _ => rfl,
    a_l_bo_is_free := f33, d_l_bo_is_free := _, F_l_bo_is_free := fun_mk (st := s_l_bo_is_free) l33 c33 k33, g_l_bo_is_free := PySem.W.mg_of X G a33, b_l_bo_is_free := (fun_mk (st := s_l_bo_is_free) l33 c33 k33).binds fun _ _ _ _ _ _ us hl => match us, hl with | [_, _, _, _, _], _ => rfl,
    a_l_bo_reach := f34, d_l_bo_reach := _, F_l_bo_reach := fun_mk (st := s_l_bo_reach) l34 c34 k34, g_l_bo_reach := PySem.W.mg_of X G a34, b_l_bo_reach := (fun_mk (st := s_l_bo_reach) l34 c34 k34).binds fun _ _ _ _ _ _ us hl => match us, hl with | [_, _, _, _, _], _ => rfl,
    a_l_bo_barrier := f35, d_l_bo_barrier := _, F_l_bo_barrier := fun_mk (st := s_l_bo_barrier) l35 c35 k35, g_l_bo_barrier := PySem.W.mg_of X G a35, b_l_bo_barrier := (fun_mk (st := s_l_bo_barrier) l35 c35 k35).binds fun _ _ _ _ _ _ us hl => match us, hl with | [_, _, _, _, _], _ => rfl,
    a_l_bo_moved := f36, d_l_bo_moved := _, F_l_bo_moved := fun_mk (st := s_l_bo_moved) l36 c36 k36, g_l_bo_moved := PySem.W.mg_of X G a36, b_l_bo_moved := (fun_mk (st := s_l_bo_moved) l36 c36 k36).binds fun _ _ _ _ _ _ us hl => match us, hl with | [_, _, _, _, _], _ => rfl,
    a_l_bo_grown := f37, d_l_bo_grown := _, F_l_bo_grown := fun_mk (st := s_l_bo_grown) l37 c37 k37, g_l_bo_grown := PySem.W.mg_of X G a37, b_l_bo_grown := (fun_mk (st := s_l_bo_grown) l37 c37 k37).binds fun _ _ _ _ _ _ us hl => match us, hl with | [_, _], _ => rfl,
    a_l_bo_number := f38, d_l_bo_number := _, F_l_bo_number := fun_mk (st := s_l_bo_number) l38 c38 k38, g_l_bo_number := PySem.W.mg_of X G a38, b_l_bo_number := (fun_mk (st := s_l_bo_number) l38 c38 k38).binds fun _ _ _ _ _ _ us hl => match us, hl with | [_, _], _ => rfl,
    a_l_bo_drawn := f39, d_l_bo_drawn := _, F_l_bo_drawn := fun_mk (st := s_l_bo_drawn) l39 c39 k39, g_l_bo_drawn := PySem.W.mg_of X G a39, b_l_bo_drawn := (fun_mk (st := s_l_bo_drawn) l39 c39 k39).binds fun _ _ _ _ _ _ us hl => match us, hl with | [_, _], _ => rfl,
    a_l_bo_arena := f40, d_l_bo_arena := _, F_l_bo_arena := fun_mk (st := s_l_bo_arena) l40 c40 k40, g_l_bo_arena := PySem.W.mg_of X G a40, b_l_bo_arena := (fun_mk (st := s_l_bo_arena) l40 c40 k40).binds fun _ _ _ _ _ _ us hl => match us, hl with | [_], _ => rfl,
    a_l_bo_pace := f41, d_l_bo_pace := _, F_l_bo_pace := fun_mk (st := s_l_bo_pace) l41 c41 k41, g_l_bo_pace := PySem.W.mg_of X G a41, b_l_bo_pace := (fun_mk (st := s_l_bo_pace) l41 c41 k41).binds fun _ _ _ _ _ _ us hl => match us, hl with | [_], _ => rfl,
    a_l_ways_right := f42, d_l_ways_right := _, F_l_ways_right := fun_mk (st := s_l_ways_right) l42 c42 k42, g_l_ways_right := PySem.W.mg_of X G a42, b_l_ways_right := (fun_mk (st := s_l_ways_right) l42 c42 k42).binds fun _ _ _ _ _ _ us hl => match us, hl with | [_, _, _, _], _ => rfl,
    a_l_meetings_right := f43, d_l_meetings_right := _, F_l_meetings_right := fun_mk (st := s_l_meetings_right) l43 c43 k43, g_l_meetings_right := PySem.W.mg_of X G a43, b_l_meetings_right := (fun_mk (st := s_l_meetings_right) l43 c43 k43).binds fun _ _ _ _ _ _ us hl => match us, hl with | [_, _, _], _ => rfl,
    a_l_right := f44, d_l_right := _, F_l_right := fun_mk (st := s_l_right) l44 c44 k44, g_l_right := PySem.W.mg_of X G a44, b_l_right := (fun_mk (st := s_l_right) l44 c44 k44).binds fun _ _ _ _ _ _ us hl => match us, hl with | [_], _ => rfl,
    a_law := f45, d_law := _, F_law := fun_mk (st := s_law) l45 c45 k45, g_law := PySem.W.mg_of X G a45, b_law := (fun_mk (st := s_law) l45 c45 k45).binds fun _ _ _ _ _ _ us hl => match us, hl with | [_], _ => rfl,
    m_abs := PySem.W.mg_none_of X G z_abs,
    m_all := PySem.W.mg_none_of X G z_all,
    m_bool := PySem.W.mg_none_of X G z_bool,
    m_enumerate := PySem.W.mg_none_of X G z_enumerate,
    m_int := PySem.W.mg_none_of X G z_int,
    m_isinstance := PySem.W.mg_none_of X G z_isinstance,
    m_len := PySem.W.mg_none_of X G z_len,
    m_max := PySem.W.mg_none_of X G z_max,
    m_min := PySem.W.mg_none_of X G z_min,
    m_range := PySem.W.mg_none_of X G z_range,
    m_repr := PySem.W.mg_none_of X G z_repr,
    m_str := PySem.W.mg_none_of X G z_str,
    m_tuple := PySem.W.mg_none_of X G z_tuple,
    t_MOST := t_MOST, c_MOST := PySem.W.mg_of X G z_MOST,
    p_SIDES := p_SIDES, c_SIDES := PySem.W.mg_of X G z_SIDES, s_SIDES := fun _ => .inr ⟨o_SIDES, i_SIDES, n_SIDES, y_SIDES, x_SIDES.1, x_SIDES.2.1, x_SIDES.2.2.1, x_SIDES.2.2.2⟩,
    t_MOST_UNITS := t_MOST_UNITS, c_MOST_UNITS := PySem.W.mg_of X G z_MOST_UNITS,
    t_MOST_WAY := t_MOST_WAY, c_MOST_WAY := PySem.W.mg_of X G z_MOST_WAY,
    t_MOST_OTHERS := t_MOST_OTHERS, c_MOST_OTHERS := PySem.W.mg_of X G z_MOST_OTHERS,
    t_MOST_SIDE := t_MOST_SIDE, c_MOST_SIDE := PySem.W.mg_of X G z_MOST_SIDE,
    t_MOST_ARENA := t_MOST_ARENA, c_MOST_ARENA := PySem.W.mg_of X G z_MOST_ARENA,
    t_BOX_PARTS := t_BOX_PARTS, c_BOX_PARTS := PySem.W.mg_of X G z_BOX_PARTS,
    t_ARENA_PARTS := t_ARENA_PARTS, c_ARENA_PARTS := PySem.W.mg_of X G z_ARENA_PARTS,
    t_BORDER := t_BORDER, c_BORDER := PySem.W.mg_of X G z_BORDER,
    p_WAYS := p_WAYS, c_WAYS := PySem.W.mg_of X G z_WAYS, p0_WAYS := p0_WAYS, s0_WAYS := fun _ => .inr ⟨o0_WAYS, i0_WAYS, n0_WAYS, y0_WAYS, x0_WAYS.1, x0_WAYS.2.1, x0_WAYS.2.2.1, x0_WAYS.2.2.2⟩, k0_WAYS := ⟨_, _, _, y_WAYS, x_WAYS, e0_WAYS, rfl⟩, p1_WAYS := p1_WAYS, s1_WAYS := fun _ => .inr ⟨o1_WAYS, i1_WAYS, n1_WAYS, y1_WAYS, x1_WAYS.1, x1_WAYS.2.1, x1_WAYS.2.2.1, x1_WAYS.2.2.2⟩, k1_WAYS := ⟨_, _, _, y_WAYS, x_WAYS, e1_WAYS, rfl⟩, p2_WAYS := p2_WAYS, s2_WAYS := fun _ => .inr ⟨o2_WAYS, i2_WAYS, n2_WAYS, y2_WAYS, x2_WAYS.1, x2_WAYS.2.1, x2_WAYS.2.2.1, x2_WAYS.2.2.2⟩, k2_WAYS := ⟨_, _, _, y_WAYS, x_WAYS, e2_WAYS, rfl⟩, p3_WAYS := p3_WAYS, s3_WAYS := fun _ => .inr ⟨o3_WAYS, i3_WAYS, n3_WAYS, y3_WAYS, x3_WAYS.1, x3_WAYS.2.1, x3_WAYS.2.2.1, x3_WAYS.2.2.2⟩, k3_WAYS := ⟨_, _, _, y_WAYS, x_WAYS, e3_WAYS, rfl⟩ }
  exact ⟨_, fun s v => .of_eq rfl, fun base _ _ => ok_law T⟩
end K18
open PySem PySem.W PyProof.Rows
set_option maxHeartbeats 0 in
theorem PySem.Challenge.cw_settledplay_k18_whole_boxes_that_go_holds : PySem.Challenge.rw_settledplay_k18_whole_boxes_that_go.Holds := by
  w_on; o_law; k_head; (case hw => w_witness2)
  k_fill
  refine L2.walk_of (l := PySem.Challenge.rw_settledplay_k18_whole_boxes_that_go) (n := 63) (k := 10) (x := "_law_script") (CX := fun _ => L2.CX0) (sp := fun w => K18.sp_law _) rfl (by decide) rfl ⟨rfl, by decide, by decide⟩ (fun w h Y => PySem.W.kIn_of Y) ?F (fun _ _ a ns hl _ hS => ⟨a, ns, rfl, hS, hl, fun _ => rfl⟩) (fun _ _ _ _ _ h => h)
  case F =>
    intro w mg fa h KX G hmg
    refine' K18.all_mk KX G hmg ?a0 ?l0 ?c0 ?k0 ?a1 ?l1 ?c1 ?k1 ?a2 ?l2 ?c2 ?k2 ?a3 ?l3 ?c3 ?k3 ?a4 ?l4 ?c4 ?k4 ?a5 ?l5 ?c5 ?k5 ?a6 ?l6 ?c6 ?k6 ?a7 ?l7 ?c7 ?k7 ?a8 ?l8 ?c8 ?k8 ?a9 ?l9 ?c9 ?k9 ?a10 ?l10 ?c10 ?k10 ?a11 ?l11 ?c11 ?k11 ?a12 ?l12 ?c12 ?k12 ?a13 ?l13 ?c13 ?k13 ?a14 ?l14 ?c14 ?k14 ?a15 ?l15 ?c15 ?k15 ?a16 ?l16 ?c16 ?k16 ?a17 ?l17 ?c17 ?k17 ?a18 ?l18 ?c18 ?k18 ?a19 ?l19 ?c19 ?k19 ?a20 ?l20 ?c20 ?k20 ?a21 ?l21 ?c21 ?k21 ?w21_0 ?v21_0 ?a22 ?l22 ?c22 ?k22 ?a23 ?l23 ?c23 ?k23 ?a24 ?l24 ?c24 ?k24 ?a25 ?l25 ?c25 ?k25 ?a26 ?l26 ?c26 ?k26 ?a27 ?l27 ?c27 ?k27 ?a28 ?l28 ?c28 ?k28 ?a29 ?l29 ?c29 ?k29 ?a30 ?l30 ?c30 ?k30 ?a31 ?l31 ?c31 ?k31 ?a32 ?l32 ?c32 ?k32 ?a33 ?l33 ?c33 ?k33 ?a34 ?l34 ?c34 ?k34 ?a35 ?l35 ?c35 ?k35 ?a36 ?l36 ?c36 ?k36 ?a37 ?l37 ?c37 ?k37 ?a38 ?l38 ?c38 ?k38 ?a39 ?l39 ?c39 ?k39 ?a40 ?l40 ?c40 ?k40 ?a41 ?l41 ?c41 ?k41 ?a42 ?l42 ?c42 ?k42 ?a43 ?l43 ?c43 ?k43 ?a44 ?l44 ?c44 ?k44 ?a45 ?l45 ?c45 ?k45 ?z_abs ?z_all ?z_bool ?z_enumerate ?z_int ?z_isinstance ?z_len ?z_max ?z_min ?z_range ?z_repr ?z_str ?z_tuple ?z_MOST ?z_SIDES ?y_SIDES ?x_SIDES ?z_MOST_UNITS ?z_MOST_WAY ?z_MOST_OTHERS ?z_MOST_SIDE ?z_MOST_ARENA ?z_BOX_PARTS ?z_ARENA_PARTS ?z_BORDER ?z_WAYS ?y_WAYS ?x_WAYS ?e0_WAYS ?y0_WAYS ?x0_WAYS ?e1_WAYS ?y1_WAYS ?x1_WAYS ?e2_WAYS ?y2_WAYS ?x2_WAYS ?e3_WAYS ?y3_WAYS ?x3_WAYS
    (case a0 => k_is)
    (case l0 => k_is)
    (case c0 => k_is)
    (case k0 => k_is)
    (case a1 => k_is)
    (case l1 => k_is)
    (case c1 => k_is)
    (case k1 => k_is)
    (case a2 => k_is)
    (case l2 => k_is)
    (case c2 => k_is)
    (case k2 => k_is)
    (case a3 => k_is)
    (case l3 => k_is)
    (case c3 => k_is)
    (case k3 => k_is)
    (case a4 => k_is)
    (case l4 => k_is)
    (case c4 => k_is)
    (case k4 => k_is)
    (case a5 => k_is)
    (case l5 => k_is)
    (case c5 => k_is)
    (case k5 => k_is)
    (case a6 => k_is)
    (case l6 => k_is)
    (case c6 => k_is)
    (case k6 => k_is)
    (case a7 => k_is)
    (case l7 => k_is)
    (case c7 => k_is)
    (case k7 => k_is)
    (case a8 => k_is)
    (case l8 => k_is)
    (case c8 => k_is)
    (case k8 => k_is)
    (case a9 => k_is)
    (case l9 => k_is)
    (case c9 => k_is)
    (case k9 => k_is)
    (case a10 => k_is)
    (case l10 => k_is)
    (case c10 => k_is)
    (case k10 => k_is)
    (case a11 => k_is)
    (case l11 => k_is)
    (case c11 => k_is)
    (case k11 => k_is)
    (case a12 => k_is)
    (case l12 => k_is)
    (case c12 => k_is)
    (case k12 => k_is)
    (case a13 => k_is)
    (case l13 => k_is)
    (case c13 => k_is)
    (case k13 => k_is)
    (case a14 => k_is)
    (case l14 => k_is)
    (case c14 => k_is)
    (case k14 => k_is)
    (case a15 => k_is)
    (case l15 => k_is)
    (case c15 => k_is)
    (case k15 => k_is)
    (case a16 => k_is)
    (case l16 => k_is)
    (case c16 => k_is)
    (case k16 => k_is)
    (case a17 => k_is)
    (case l17 => k_is)
    (case c17 => k_is)
    (case k17 => k_is)
    (case a18 => k_is)
    (case l18 => k_is)
    (case c18 => k_is)
    (case k18 => k_is)
    (case a19 => k_is)
    (case l19 => k_is)
    (case c19 => k_is)
    (case k19 => k_is)
    (case a20 => k_is)
    (case l20 => k_is)
    (case c20 => k_is)
    (case k20 => k_is)
    (case a21 => k_is)
    (case l21 => k_is)
    (case c21 => k_is)
    (case k21 => k_is)
    (case w21_0 => k_is)
    (case v21_0 => exact ⟨_, rfl⟩)
    (case a22 => k_is)
    (case l22 => k_is)
    (case c22 => k_is)
    (case k22 => k_is)
    (case a23 => k_is)
    (case l23 => k_is)
    (case c23 => k_is)
    (case k23 => k_is)
    (case a24 => k_is)
    (case l24 => k_is)
    (case c24 => k_is)
    (case k24 => k_is)
    (case a25 => k_is)
    (case l25 => k_is)
    (case c25 => k_is)
    (case k25 => k_is)
    (case a26 => k_is)
    (case l26 => k_is)
    (case c26 => k_is)
    (case k26 => k_is)
    (case a27 => k_is)
    (case l27 => k_is)
    (case c27 => k_is)
    (case k27 => k_is)
    (case a28 => k_is)
    (case l28 => k_is)
    (case c28 => k_is)
    (case k28 => k_is)
    (case a29 => k_is)
    (case l29 => k_is)
    (case c29 => k_is)
    (case k29 => k_is)
    (case a30 => k_is)
    (case l30 => k_is)
    (case c30 => k_is)
    (case k30 => k_is)
    (case a31 => k_is)
    (case l31 => k_is)
    (case c31 => k_is)
    (case k31 => k_is)
    (case a32 => k_is)
    (case l32 => k_is)
    (case c32 => k_is)
    (case k32 => k_is)
    (case a33 => k_is)
    (case l33 => k_is)
    (case c33 => k_is)
    (case k33 => k_is)
    (case a34 => k_is)
    (case l34 => k_is)
    (case c34 => k_is)
    (case k34 => k_is)
    (case a35 => k_is)
    (case l35 => k_is)
    (case c35 => k_is)
    (case k35 => k_is)
    (case a36 => k_is)
    (case l36 => k_is)
    (case c36 => k_is)
    (case k36 => k_is)
    (case a37 => k_is)
    (case l37 => k_is)
    (case c37 => k_is)
    (case k37 => k_is)
    (case a38 => k_is)
    (case l38 => k_is)
    (case c38 => k_is)
    (case k38 => k_is)
    (case a39 => k_is)
    (case l39 => k_is)
    (case c39 => k_is)
    (case k39 => k_is)
    (case a40 => k_is)
    (case l40 => k_is)
    (case c40 => k_is)
    (case k40 => k_is)
    (case a41 => k_is)
    (case l41 => k_is)
    (case c41 => k_is)
    (case k41 => k_is)
    (case a42 => k_is)
    (case l42 => k_is)
    (case c42 => k_is)
    (case k42 => k_is)
    (case a43 => k_is)
    (case l43 => k_is)
    (case c43 => k_is)
    (case k43 => k_is)
    (case a44 => k_is)
    (case l44 => k_is)
    (case c44 => k_is)
    (case k44 => k_is)
    (case a45 => k_is)
    (case l45 => k_is)
    (case c45 => k_is)
    (case k45 => k_is)
    (case z_abs => k_is)
    (case z_all => k_is)
    (case z_bool => k_is)
    (case z_enumerate => k_is)
    (case z_int => k_is)
    (case z_isinstance => k_is)
    (case z_len => k_is)
    (case z_max => k_is)
    (case z_min => k_is)
    (case z_range => k_is)
    (case z_repr => k_is)
    (case z_str => k_is)
    (case z_tuple => k_is)
    (case z_MOST => k_is)
    (case z_SIDES => k_is)
    (case y_SIDES => k_is)
    (case x_SIDES => exact ⟨rfl, rfl, by decide, by repeat (first | exact .nil | refine .cons (by first | exact rfl | exact ⟨_, rfl⟩) ?_)⟩)
    (case z_MOST_UNITS => k_is)
    (case z_MOST_WAY => k_is)
    (case z_MOST_OTHERS => k_is)
    (case z_MOST_SIDE => k_is)
    (case z_MOST_ARENA => k_is)
    (case z_BOX_PARTS => k_is)
    (case z_ARENA_PARTS => k_is)
    (case z_BORDER => k_is)
    (case z_WAYS => k_is)
    (case y_WAYS => k_is)
    (case x_WAYS => exact ⟨⟨_, _, rfl, rfl⟩, ⟨_, _, rfl, rfl⟩, ⟨_, _, rfl, rfl⟩, ⟨_, _, rfl, rfl⟩, True.intro⟩)
    (case e0_WAYS => k_is)
    (case y0_WAYS => k_is)
    (case x0_WAYS => exact ⟨rfl, rfl, by decide, by repeat (first | exact .nil | refine .cons (by first | exact rfl | exact ⟨_, rfl⟩) ?_)⟩)
    (case e1_WAYS => k_is)
    (case y1_WAYS => k_is)
    (case x1_WAYS => exact ⟨rfl, rfl, by decide, by repeat (first | exact .nil | refine .cons (by first | exact rfl | exact ⟨_, rfl⟩) ?_)⟩)
    (case e2_WAYS => k_is)
    (case y2_WAYS => k_is)
    (case x2_WAYS => exact ⟨rfl, rfl, by decide, by repeat (first | exact .nil | refine .cons (by first | exact rfl | exact ⟨_, rfl⟩) ?_)⟩)
    (case e3_WAYS => k_is)
    (case y3_WAYS => k_is)
    (case x3_WAYS => exact ⟨rfl, rfl, by decide, by repeat (first | exact .nil | refine .cons (by first | exact rfl | exact ⟨_, rfl⟩) ?_)⟩)
